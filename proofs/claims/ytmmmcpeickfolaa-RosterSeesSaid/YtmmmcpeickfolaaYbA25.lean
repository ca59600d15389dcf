/- RosterSees: for every input the call returns true, and its arguments read as they did. -/
import Derived.Test.YtmmmcpeickfolaaYbA16
import Derived.Test.YtmmmcpeickfolaaYbA18
import Derived.Test.YtmmmcpeickfolaaYbA19
import Derived.Test.YtmmmcpeickfolaaYbA22
import Derived.Test.YtmmmcpeickfolaaYbA23
import Derived.Test.YtmmmcpeickfolaaYbA24
import Derived.Test.YtmmmcpeickfolaaYbA10
import Derived.KernelRfl
import Derived.Test.YtmmmcpeickfolaaYbA12
import Derived.Test.YtmmmcpeickfolaaRows
set_option linter.all false
namespace Go.Proofs.Ytmmmcpeickfolaa
open Go.RowKit
set_option maxRecDepth 1000000
set_option maxHeartbeats 4000000
def gc5:BCode:=(.seq (R_ 0 [O_ 2 (.mv (b_ false)) 0]) (.seq (.seq (R_ 0 [O_ 17 (.mv (t_ 0)) 0,O_ 18 (.lens (t_ 17)) 0,O_ 19 (.bin .gtr (t_ 18) (i_ 60)) 0]) (.cond (t_ 19) (.seq (R_ 0 [O_ 20 (.cl 16 []) 0,O_ 2 (.mv (t_ 20)) 0]) .ret) .skip)) (.seq (R_ 1 [O_ 3 (.al (.agg [(.lit (.int .i64 0)),(.lit (.int .i64 0)),(.sl [] true),(.sl [] true)])) 0]) (.seq (R_ 1 [O_ 4 (.al (.agg [(.lit (.int .i64 0)),(.lit (.int .i64 0)),(.lit (.int .i64 0)),(.lit (.int .i64 0)),(.lit (.int .i64 0)),(.lit (.int .i64 0)),(.lit (.int .i64 0)),(.lit (.int .i64 0)),(.lit (.int .i64 0)),(.lit (.int .i64 0)),(.lit (.int .i64 0)),(.lit (.int .i64 0)),(.lit (.int .i64 0)),(.lit (.int .i64 0))])) 0]) (.seq (.seq (R_ 0 [O_ 5 (.mv (i_ 0)) 0]) (.block 0 (.loop (.seq (.seq (R_ 0 [O_ 21 (.mv (t_ 5)) 0,O_ 22 (.mv (t_ 0)) 0,O_ 23 (.lens (t_ 22)) 0,O_ 24 (.bin .lss (t_ 21) (t_ 23)) 0]) (.cond (t_ 24) .skip (.exit 0))) (.seq (.block 1 (.seq (R_ 0 [O_ 27 (.mv (t_ 0)) 0,O_ 28 (.mv (t_ 5)) 0,O_ 29 (.ixs 3 (t_ 27) (t_ 28)) 0,O_ 30 (.fa 1 (t_ 29)) 0,O_ 31 (.ld 1 false (t_ 30)) 0,O_ 32 (.cl 17 [(t_ 31)]) 0,O_ 6 (.mv (t_ 32)) 0]) (.seq (R_ 0 [O_ 33 (.mv (t_ 0)) 0,O_ 34 (.mv (t_ 5)) 0,O_ 35 (.ixs 3 (t_ 33) (t_ 34)) 0,O_ 36 (.fa 1 (t_ 35)) 0,O_ 37 (.ld 1 false (t_ 36)) 0,O_ 38 (.bin .rem (t_ 37) (.const (.int .u8 14))) 0,O_ 39 (.cvi .i64 (t_ 38)) 0,O_ 7 (.mv (t_ 39)) 0]) (.join (.seq (R_ 0 [O_ 40 (.mv (t_ 0)) 0,O_ 41 (.mv (t_ 5)) 0,O_ 42 (.ixs 3 (t_ 40) (t_ 41)) 0,O_ 43 (.fa 0 (t_ 42)) 0,O_ 44 (.ld 1 false (t_ 43)) 0,O_ 45 (.bin .rem (t_ 44) (.const (.int .u8 4))) 0]) (.block 2 (.seq (R_ 0 [O_ 53 (.bin .eql (t_ 45) (.const (.int .u8 2))) 0,O_ 52 (.mv (t_ 53)) 0]) (.cond (t_ 52) (.seq (.reg 1 [O_ 55 (.ld 4 true (t_ 3)) 0,O_ 56 (.mv (t_ 6)) 0,O_ 57 (.mv (t_ 0)) 0,O_ 58 (.mv (t_ 5)) 0,O_ 59 (.ixs 3 (t_ 57) (t_ 58)) 0,O_ 60 (.fa 2 (t_ 59)) 0,O_ 61 (.ld 1 false (t_ 60)) 0,O_ 62 (.bin .rem (t_ 61) (.const (.int .u8 16))) 0,O_ 63 (.cvi .i64 (t_ 62)) 0,O_ 64 (.cl 18 [(t_ 55),(t_ 56),(t_ 63)]) 0,O_ 54 (.mv (t_ 64)) 0,O_ 65 (.ex (t_ 54) 0) 0,O_ 66 (.ex (t_ 54) 1) 0,O_ 8 (.al (.agg [(.lit (.int .i64 0)),(.lit (.int .i64 0)),(.sl [] true),(.sl [] true)])) 0,U_ (.st 4 (t_ 8) (t_ 65)) 1,O_ 9 (.mv (t_ 66)) 1] (some [[],[],[],[],[3,2],[2,3,4],[4,3,2,5],[5,2,3,4,6],[6,4,3,2,5,7],[7,5,2,3,4,6,8,1,0],[0,1,8,6,4,3,2,5,7,9],[9,7,5,2,3,4,6,8,1,0,10],[9,7,5,2,3,4,6,8,1,0,10],[],[10,0,1,8,6,4,3,2,5,7,9,11,13],[13,11,14,10,0,1,8,6,4,3,2,5,7,9,12]]) 0 []) (.join (.seq (R_ 0 [O_ 67 (.mv (t_ 9)) 0,O_ 68 (.bin .eql (t_ 67) (i_ 0)) 0,O_ 69 (.mv (t_ 0)) 0,O_ 70 (.mv (t_ 5)) 0,O_ 71 (.ixs 3 (t_ 69) (t_ 70)) 0,O_ 72 (.fa 2 (t_ 71)) 0,O_ 73 (.ld 1 false (t_ 72)) 0,O_ 74 (.bin .rem (t_ 73) (.const (.int .u8 16))) 0,O_ 75 (.cvi .i64 (t_ 74)) 0,O_ 76 (.cl 19 [(t_ 75)]) 0,O_ 77 (.bin .eql (t_ 76) (i_ 0)) 0,O_ 78 (.binb true (t_ 68) (t_ 77)) 0,O_ 79 (.mv (t_ 78)) 0,⟨(some 80),.mv (t_ 9),(some (79,true)),0⟩,⟨(some 81),.bin .neq (t_ 80) (i_ 7),(some (79,true)),0⟩,O_ 82 (.pick (t_ 79) (t_ 81) (b_ false)) 0]) (.cond (t_ 82) (.seq (R_ 0 [O_ 2 (.mv (b_ false)) 0]) .ret) .skip)) (.seq (.seq (R_ 0 [O_ 83 (.mv (t_ 9)) 0,O_ 84 (.bin .eql (t_ 83) (i_ 0)) 0]) (.cond (t_ 84) (R_ 0 [O_ 85 (.mv (t_ 7)) 0,O_ 86 (.mv (t_ 0)) 0,O_ 87 (.mv (t_ 5)) 0,O_ 88 (.ixs 3 (t_ 86) (t_ 87)) 0,O_ 89 (.fa 2 (t_ 88)) 0,O_ 90 (.ld 1 false (t_ 89)) 0,O_ 91 (.bin .rem (t_ 90) (.const (.int .u8 16))) 0,O_ 92 (.cvi .i64 (t_ 91)) 0,O_ 93 (.ixa 14 1 (t_ 4) (t_ 85)) 0,U_ (.st 1 (t_ 93) (t_ 92)) 0]) .skip)) (R_ 0 [O_ 94 (.ld 4 true (t_ 8)) 0,U_ (.st 4 (t_ 3) (t_ 94)) 0])))) (.seq (R_ 0 [O_ 96 (.bin .eql (t_ 45) (.const (.int .u8 3))) 0,O_ 95 (.mv (t_ 96)) 0]) (.cond (t_ 95) (.seq (R_ 1 [O_ 98 (.ld 4 true (t_ 3)) 0,O_ 99 (.mv (t_ 6)) 0,O_ 100 (.cl 20 [(t_ 98),(t_ 99)]) 0,O_ 97 (.mv (t_ 100)) 0,O_ 101 (.ex (t_ 97) 0) 0,O_ 102 (.ex (t_ 97) 1) 0,O_ 10 (.al (.agg [(.lit (.int .i64 0)),(.lit (.int .i64 0)),(.sl [] true),(.sl [] true)])) 0,U_ (.st 4 (t_ 10) (t_ 101)) 1,O_ 11 (.mv (t_ 102)) 1]) (.seq (.seq (R_ 0 [O_ 103 (.mv (t_ 11)) 0,O_ 104 (.bin .eql (t_ 103) (i_ 0)) 0]) (.cond (t_ 104) (R_ 0 [O_ 105 (.mv (t_ 7)) 0,O_ 106 (.ixa 14 1 (t_ 4) (t_ 105)) 0,U_ (.st 1 (t_ 106) (i_ 0)) 0]) .skip)) (R_ 0 [O_ 107 (.ld 4 true (t_ 10)) 0,U_ (.st 4 (t_ 3) (t_ 107)) 0]))) (.reg 0 [O_ 46 (.ld 4 true (t_ 3)) 0,O_ 47 (.mv (t_ 0)) 0,O_ 48 (.mv (t_ 5)) 0,O_ 49 (.ixs 3 (t_ 47) (t_ 48)) 0,O_ 50 (.ld 3 true (t_ 49)) 0,O_ 51 (.cl 21 [(t_ 46),(t_ 50)]) 0,U_ (.st 4 (t_ 3) (t_ 51)) 0] (some [[],[],[],[2,1],[1,2,3],[3,2,1,4,0],[0,4,1,2,3,5]]) 0 []))))))) (.seq (R_ 0 [O_ 12 (.mv (i_ 0)) 0,O_ 13 (.mv (i_ 0)) 0]) (.seq (.seq (R_ 0 [O_ 14 (.mv (i_ 0)) 0]) (.block 3 (.loop (.seq (.seq (R_ 0 [O_ 108 (.mv (t_ 14)) 0,O_ 109 (.bin .lss (t_ 108) (i_ 14)) 0]) (.cond (t_ 109) .skip (.exit 3))) (.seq (.block 4 (.join (.seq (R_ 0 [O_ 112 (.mv (t_ 14)) 0,O_ 113 (.ixa 14 1 (t_ 4) (t_ 112)) 0,O_ 114 (.ld 1 false (t_ 113)) 0,O_ 115 (.bin .and (t_ 114) (i_ 1)) 0,O_ 116 (.bin .gtr (t_ 115) (i_ 0)) 0]) (.cond (t_ 116) (R_ 0 [O_ 117 (.mv (t_ 12)) 0,O_ 118 (.bin .add (t_ 117) (i_ 1)) 0,O_ 12 (.mv (t_ 118)) 0]) .skip)) (.join (.seq (R_ 0 [O_ 119 (.mv (t_ 14)) 0,O_ 120 (.ixa 14 1 (t_ 4) (t_ 119)) 0,O_ 121 (.ld 1 false (t_ 120)) 0,O_ 122 (.bin .and (t_ 121) (i_ 2)) 0,O_ 123 (.bin .gtr (t_ 122) (i_ 0)) 0]) (.cond (t_ 123) (R_ 0 [O_ 124 (.mv (t_ 13)) 0,O_ 125 (.bin .add (t_ 124) (i_ 1)) 0,O_ 13 (.mv (t_ 125)) 0]) .skip)) (.seq (.reg 1 [O_ 127 (.ld 4 true (t_ 3)) 0,O_ 128 (.mv (t_ 14)) 0,O_ 129 (.cvi .u8 (t_ 128)) 0,O_ 130 (.cl 17 [(t_ 129)]) 0,O_ 131 (.cl 22 [(t_ 127),(t_ 130)]) 0,O_ 126 (.mv (t_ 131)) 0,O_ 132 (.ex (t_ 126) 0) 0,O_ 133 (.ex (t_ 126) 1) 0,O_ 15 (.al (.agg [(.lit (.string ⟨#[]⟩)),(.lit (.string ⟨#[]⟩)),(.lit (.int .i64 0)),(.lit (.int .i64 0)),(.lit (.bool false))])) 0,U_ (.st 5 (t_ 15) (t_ 132)) 1,O_ 16 (.mv (t_ 133)) 1] (some [[],[],[1],[1,2],[2,1,3,0],[0,3,1,2,4],[4,2,1,3,0,5],[4,2,1,3,0,5],[],[5,0,3,1,2,4,6,8],[8,6,9,5,0,3,1,2,4,7]]) 0 []) (.seq (.reg 0 [O_ 134 (.mv (t_ 16)) 0,O_ 135 (.mv (t_ 134)) 0,⟨(some 136),.fa 2 (t_ 15),(some (135,true)),0⟩,⟨(some 137),.ld 1 false (t_ 136),(some (135,true)),0⟩,⟨(some 138),.mv (t_ 14),(some (135,true)),0⟩,⟨(some 139),.ixa 14 1 (t_ 4) (t_ 138),(some (135,true)),0⟩,⟨(some 140),.ld 1 false (t_ 139),(some (135,true)),0⟩,⟨(some 141),.bin .neq (t_ 137) (t_ 140),(some (135,true)),0⟩,O_ 142 (.pick (t_ 135) (t_ 141) (b_ false)) 0,O_ 143 (.mv (t_ 142)) 0,⟨(some 144),.mv (t_ 16),(some (143,false)),0⟩,⟨(some 145),.un .not (t_ 144),(some (143,false)),0⟩,⟨(some 146),.mv (t_ 145),(some (143,false)),0⟩,⟨(some 147),.mv (t_ 14),(some (146,true)),0⟩,⟨(some 148),.ixa 14 1 (t_ 4) (t_ 147),(some (146,true)),0⟩,⟨(some 149),.ld 1 false (t_ 148),(some (146,true)),0⟩,⟨(some 150),.bin .neq (t_ 149) (i_ 0),(some (146,true)),0⟩,⟨(some 151),.pick (t_ 146) (t_ 150) (b_ false),(some (143,false)),0⟩,O_ 152 (.pick (t_ 143) (b_ true) (t_ 151)) 0] (some [[],[0],[0,1],[1,0,2],[0,1],[1,0,4],[4,0,1,5],[5,4,6,2,0,1,3],[3,2,6,4,5,7,0,1],[1,0,7,5,4,6,2,3,8],[8,3,2,6,4,5,7,0,1,9],[9,1,0,7,5,4,6,2,3,8,10],[10,8,3,2,6,4,5,7,0,1,9,11],[11,9,1,0,7,5,4,6,2,3,8,10,12],[12,10,8,3,2,6,4,5,7,0,1,9,11,13],[13,11,9,1,0,7,5,4,6,2,3,8,10,12,14],[14,12,10,8,3,2,6,4,5,7,0,1,9,11,13,15],[15,13,14,16,11,9,1,0,7,5,4,6,2,3,8,10,12],[12,10,11,16,14,13,15,17,8,3,2,6,4,5,7,0,1,9]]) 0 []) (.cond (t_ 152) (.seq (R_ 0 [O_ 2 (.mv (b_ false)) 0]) .ret) .skip)))))) (R_ 0 [O_ 110 (.mv (t_ 14)) 0,O_ 111 (.bin .add (t_ 110) (i_ 1)) 0,O_ 14 (.mv (t_ 111)) 0])))))) (.seq (R_ 0 [O_ 153 (.ld 4 true (t_ 3)) 0,O_ 154 (.cl 23 [(t_ 153)]) 0,O_ 155 (.lens (t_ 154)) 0,O_ 156 (.mv (t_ 12)) 0,O_ 157 (.bin .neq (t_ 155) (t_ 156)) 0,O_ 158 (.mv (t_ 157)) 0,⟨(some 159),.ld 4 true (t_ 3),(some (158,false)),0⟩,⟨(some 160),.cl 24 [(t_ 159)],(some (158,false)),0⟩,⟨(some 161),.lens (t_ 160),(some (158,false)),0⟩,⟨(some 162),.mv (t_ 13),(some (158,false)),0⟩,⟨(some 163),.bin .neq (t_ 161) (t_ 162),(some (158,false)),0⟩,O_ 164 (.pick (t_ 158) (b_ true) (t_ 163)) 0]) (.cond (t_ 164) (.seq (R_ 0 [O_ 2 (.mv (b_ false)) 0]) .ret) .skip)))))))) (R_ 0 [O_ 25 (.mv (t_ 5)) 0,O_ 26 (.bin .add (t_ 25) (i_ 1)) 0,O_ 5 (.mv (t_ 26)) 0])))))) (.seq (R_ 0 [O_ 165 (.cl 16 []) 0,O_ 2 (.mv (t_ 165)) 0]) .ret))))))
theorem gc5_ok:compF Try.prog Try.f5=some (gc5.er,166,[.tmp 2]):=by unfold gc5;kernel_rfl
theorem p_law21_RosterSees_v {u1:Bool} (a0:List Law21Deed):CallsO Try.prog 5 [.sl (List.map Law21Deed.v a0) u1] V.b (tru? (p_law21_RosterSees a0)):=by
 refine callsO_comp mix Try.func5 gc5_ok fun r H=>?_
 have H1:=tru_of H
 clear H
 obtain ⟨rfl,H⟩:=H1
 rw [p_law21_RosterSees] at H
 conv=>whnf
 refine LenQ.M ?_;conv=>whnf
 refine tst_c H (fun b1 H=>?_) (fun b1 H=>?_)
 ·conv=>whnf
  refine ask_c (p_law21_awake_v) H rfl rfl (fun v2 H=>?_);conv=>whnf
  exact fb_ H
 conv=>whnf
 obtain ⟨o4,HL5,HQ6⟩:=bind_c H
 refine loop_c [2,5] [6,7,8,9,10,11,12,13,14,15,16,21,22,23,24,25,26,27,28,29,30,31,32,33,34,35,36,37,38,39,40,41,42,43,44,45,46,47,48,49,50,51,52,53,54,55,56,57,58,59,60,61,62,63,64,65,66,67,68,69,70,71,72,73,74,75,76,77,78,79,80,81,82,83,84,85,86,87,88,89,90,91,92,93,94,95,96,97,98,99,100,101,102,103,104,105,106,107,108,109,110,111,112,113,114,115,116,117,118,119,120,121,122,123,124,125,126,127,128,129,130,131,132,133,134,135,136,137,138,139,140,141,142,143,144,145,146,147,148,149,150,151,152,153,154,155,156,157,158,159,160,161,162,163,164] [6,7,8,9,10,11,12,13,14,15,16,21,22,23,24,25,26,27,28,29,30,31,32,33,34,35,36,37,38,39,40,41,42,43,44,45,46,47,48,49,50,51,52,53,54,55,56,57,58,59,60,61,62,63,64,65,66,67,68,69,70,71,72,73,74,75,76,77,78,79,80,81,82,83,84,85,86,87,88,89,90,91,92,93,94,95,96,97,98,99,100,101,102,103,104,105,106,107,108,109,110,111,112,113,114,115,116,117,118,119,120,121,122,123,124,125,126,127,128,129,130,131,132,133,134,135,136,137,138,139,140,141,142,143,144,145,146,147,148,149,150,151,152,153,154,155,156,157,158,159,160,161,162,163,164] (fun n vals st=>(∃ y8 y9 y10 u11 u12,p_law21_RosterSees_l1  a0 n y8 y9 y10=some o4∧vals=[.b false,.i y8]∧st=[.live [.i y9.Ver,.i y9.Floor,.sl (List.map ItemItem.v y9.Items) u11,.sl (List.map RosterGone.v y9.Gone) u12] 0,.live (cellsM V.i y10) 0])) fuel 2 [] (⟨_,_,_,_,_,HL5,rfl,rfl⟩) (Nat.zero_le _) rfl (by kernel_rfl) (by kernel_rfl) rfl ⟨⟨rfl,rfl,rfl⟩,wkB_live0 rfl (cellsM_idlt (f:=V.i) (fun _=>rfl) _) rfl trivial⟩ ?_
 rintro (_ | n7) _ _ (⟨y8,y9,y10,u11,u12,H,rfl,rfl⟩)
 ·rw [p_law21_RosterSees_l1] at H;cases H
 rw [p_law21_RosterSees_l1] at H
 conv=>whnf
 refine LenQ.M ?_;conv=>whnf
 refine tst_d H (fun b13 H=>?_) (fun b13 H=>?_)
 ·conv=>whnf
  obtain rfl:=Option.some.inj H
  have H:=HQ6
  try dsimp only at H
  refine ask_c (p_law21_awake_v) H rfl rfl (fun v103 H=>?_);conv=>whnf
  exact fb_ H
 conv=>whnf
 refine ixs_c (f:=Law21Deed.v) H (fun _=>rfl) (fun x14 H=>?_);conv=>whnf
 refine lq_ ?_;conv=>whnf
 refine ask_c (p_law21_who_v _) H rfl rfl (fun v15 H=>?_);conv=>whnf
 refine ixs_c (f:=Law21Deed.v) H (fun _=>rfl) (fun x16 H=>?_);conv=>whnf
 refine lq_ ?_;conv=>whnf
 refine ⟨by decide,?_⟩;conv=>whnf
 refine Ari.w ?_;conv=>whnf
 obtain ⟨K17,hK18,o19,HL20,HQ21⟩:=join0_c H
 refine join_c [2,3,4] [8,9,10,11,40,41,42,43,44,45,46,47,48,49,50,51,52,53,54,55,56,57,58,59,60,61,62,63,64,65,66,67,68,69,70,71,72,73,74,75,76,77,78,79,80,81,82,83,84,85,86,87,88,89,90,91,92,93,94,95,96,97,98,99,100,101,102,103,104,105,106,107] (fun vals st=>(∃ y41 y42,K17 (.inr (y41,y42))=some o4∧vals=[.b false,.ptr 0 0,.ptr 1 0]∧st=[.live [.i y41.Ver,.i y41.Floor,.sl (List.map ItemItem.v y41.Items) false,.sl (List.map RosterGone.v y41.Gone) false] 0,.live (cellsM V.i y42) 0])) ?_ ?_
 ·have H:=HL20
  conv=>whnf
  refine ixs_c (f:=Law21Deed.v) H (fun _=>rfl) (fun x23 H=>?_);conv=>whnf
  refine lq_ ?_;conv=>whnf
  refine ⟨by decide,?_⟩;conv=>whnf
  refine tst_d H (fun b24 H=>?_) (fun b24 H=>?_)
  ·conv=>whnf
   refine tst_d H (fun b43 H=>?_) (fun b43 H=>?_)
   ·conv=>whnf
    refine ixs_c (f:=Law21Deed.v) H (fun _=>rfl) (fun x48 H=>?_);conv=>whnf
    refine ask_c (p_law21_done_v _ _) H rfl rfl (fun v49 H=>?_);conv=>whnf
    refine lq_ ?_;conv=>whnf
    refine FootQ.mk ⟨rfl,?_⟩;conv=>whnf
    obtain rfl:=Option.some.inj H
    exact arrive_c [8,9,10,11,40,41,42,43,44,45,46,47,48,49,50,51,52,53,54,55,56,57,58,59,60,61,62,63,64,65,66,67,68,69,70,71,72,73,74,75,76,77,78,79,80,81,82,83,84,85,86,87,88,89,90,91,92,93,94,95,96,97,98,99,100,101,102,103,104,105,106,107] 2 [] (⟨_,_,HQ21,rfl,rfl⟩) (Nat.zero_le _) rfl (by kernel_rfl) (by kernel_rfl) rfl ⟨⟨rfl,rfl,rfl⟩,wkB_live0 rfl (cellsM_idlt (f:=V.i) (fun _=>rfl) _) rfl trivial⟩
   conv=>whnf
   refine ask_c (p_roster_Drop_v _ _) H rfl rfl (fun v44 H=>?_);conv=>whnf
   refine lq_ ?_;conv=>whnf
   refine tst_d H (fun b45 H=>?_) (fun b45 H=>?_)
   ·conv=>whnf
    refine lq_ ?_;conv=>whnf
    obtain rfl:=Option.some.inj H
    exact arrive_c [8,9,10,11,40,41,42,43,44,45,46,47,48,49,50,51,52,53,54,55,56,57,58,59,60,61,62,63,64,65,66,67,68,69,70,71,72,73,74,75,76,77,78,79,80,81,82,83,84,85,86,87,88,89,90,91,92,93,94,95,96,97,98,99,100,101,102,103,104,105,106,107] 2 [] (⟨_,_,HQ21,rfl,rfl⟩) (Nat.zero_le _) rfl (by kernel_rfl) (by kernel_rfl) rfl ⟨⟨rfl,rfl,rfl⟩,wkB_live0 rfl (cellsM_idlt (f:=V.i) (fun _=>rfl) _) rfl trivial⟩
   conv=>whnf
   refine ixa_c H (fun x46 h47 H=>?_);conv=>whnf
   refine ⟨Nat.zero_le _,sto_c (f:=V.i) (es:=1) h47 (x':=(0:Int)) (fun _=>rfl) 0 (by omega) (Nat.le_of_ble_eq_true rfl) (by rfl) ?_⟩;conv=>whnf
   refine lq_ ?_;conv=>whnf
   obtain rfl:=Option.some.inj H
   exact arrive_c [8,9,10,11,40,41,42,43,44,45,46,47,48,49,50,51,52,53,54,55,56,57,58,59,60,61,62,63,64,65,66,67,68,69,70,71,72,73,74,75,76,77,78,79,80,81,82,83,84,85,86,87,88,89,90,91,92,93,94,95,96,97,98,99,100,101,102,103,104,105,106,107] 2 [] (⟨_,_,HQ21,rfl,rfl⟩) (Nat.zero_le _) rfl (by kernel_rfl) (by kernel_rfl) rfl ⟨⟨rfl,rfl,rfl⟩,wkB_live0 rfl (cellsM_idlt (f:=V.i) (fun _=>rfl) _) rfl trivial⟩
  conv=>whnf
  refine ixs_c (f:=Law21Deed.v) H (fun _=>rfl) (fun x25 H=>?_);conv=>whnf
  refine lq_ ?_;conv=>whnf
  refine ⟨by decide,?_⟩;conv=>whnf
  refine Ari.w ?_;conv=>whnf
  refine ask_c (p_roster_Sub_v _ _ _) H rfl rfl (fun v26 H=>?_);conv=>whnf
  refine lq_ ?_;conv=>whnf
  refine FootQ.mk ⟨rfl,?_⟩;conv=>whnf
  obtain ⟨K27,hK28,o29,HL30,HQ31⟩:=join0_c H
  refine join_c [2,3,4,8] [67,68,69,70,71,72,73,74,75,76,77,78,79,80,81,82] (fun vals st=>(K27 (.inr ())=some o19∧vals=[.b false,.ptr 0 0,.ptr 1 0,.ptr 2 0]∧st=[.live [.i y9.Ver,.i y9.Floor,.sl (List.map ItemItem.v y9.Items) u11,.sl (List.map RosterGone.v y9.Gone) u12] 0,.live (cellsM V.i y10) 0,.live [.i v26.1.Ver,.i v26.1.Floor,.sl (List.map ItemItem.v v26.1.Items) false,.sl (List.map RosterGone.v v26.1.Gone) false] 0])) ?_ ?_
  ·have H:=HL30
   conv=>whnf
   refine ixs_c (f:=Law21Deed.v) H (fun _=>rfl) (fun x33 H=>?_);conv=>whnf
   refine lq_ ?_;conv=>whnf
   refine ⟨by decide,?_⟩;conv=>whnf
   refine Ari.w ?_;conv=>whnf
   refine ask_c (p_subs_Check_v _) H rfl rfl (fun v34 H=>?_);conv=>whnf
   refine tst_d H (fun b35 H=>?_) (fun b35 H=>?_)
   ·conv=>whnf
    iterate 3 (refine Tst.F ?_;conv=>whnf)
    obtain rfl:=Option.some.inj H
    exact arrive_c [67,68,69,70,71,72,73,74,75,76,77,78,79,80,81,82] 3 [] (⟨HQ31,rfl,rfl⟩) (Nat.zero_le _) rfl (by kernel_rfl) (by kernel_rfl) rfl ⟨⟨rfl,rfl,rfl⟩,wkB_live0 rfl (cellsM_idlt (f:=V.i) (fun _=>rfl) _) rfl ⟨⟨rfl,rfl,rfl⟩,trivial⟩⟩
   conv=>whnf
   iterate 2 (refine Tst.T ?_;conv=>whnf)
   refine tst_d H (fun b36 H=>?_) (fun b36 H=>?_)
   ·conv=>whnf
    obtain rfl:=Option.some.inj H
    exact arrive_c [67,68,69,70,71,72,73,74,75,76,77,78,79,80,81,82] 3 [] (⟨HQ31,rfl,rfl⟩) (Nat.zero_le _) rfl (by kernel_rfl) (by kernel_rfl) rfl ⟨⟨rfl,rfl,rfl⟩,wkB_live0 rfl (cellsM_idlt (f:=V.i) (fun _=>rfl) _) rfl ⟨⟨rfl,rfl,rfl⟩,trivial⟩⟩
   conv=>whnf
   obtain rfl:=Option.some.inj H
   have H:=HQ31
   rw [hK28] at H
   try dsimp only at H
   obtain rfl:=Option.some.inj H
   have H:=HQ21
   rw [hK18] at H
   try dsimp only at H
   obtain rfl:=Option.some.inj H
   have H:=HQ6
   try dsimp only at H
   exact fb_ H
  rintro _ _ (⟨H,rfl,rfl⟩)
  rw [hK28] at H
  try dsimp only at H
  conv=>whnf
  refine tst_d H (fun b37 H=>?_) (fun b37 H=>?_)
  ·conv=>whnf
   refine lq_ ?_;conv=>whnf
   obtain rfl:=Option.some.inj H
   exact arrive_c [8,9,10,11,40,41,42,43,44,45,46,47,48,49,50,51,52,53,54,55,56,57,58,59,60,61,62,63,64,65,66,67,68,69,70,71,72,73,74,75,76,77,78,79,80,81,82,83,84,85,86,87,88,89,90,91,92,93,94,95,96,97,98,99,100,101,102,103,104,105,106,107] 2 [] (⟨_,_,HQ21,rfl,rfl⟩) (Nat.zero_le _) rfl (by kernel_rfl) (by kernel_rfl) rfl ⟨⟨rfl,rfl,rfl⟩,wkB_live0 rfl (cellsM_idlt (f:=V.i) (fun _=>rfl) _) rfl trivial⟩
  conv=>whnf
  refine ixs_c (f:=Law21Deed.v) H (fun _=>rfl) (fun x38 H=>?_);conv=>whnf
  refine lq_ ?_;conv=>whnf
  refine ⟨by decide,?_⟩;conv=>whnf
  refine Ari.w ?_;conv=>whnf
  refine ixa_c H (fun x39 h40 H=>?_);conv=>whnf
  refine ⟨Nat.zero_le _,sto_c (f:=V.i) (es:=1) h40 (x':=w64 (Int.tmod x38.Name (16:Int))) (fun _=>rfl) 0 (by omega) (Nat.le_of_ble_eq_true rfl) (by rfl) ?_⟩;conv=>whnf
  refine lq_ ?_;conv=>whnf
  obtain rfl:=Option.some.inj H
  exact arrive_c [8,9,10,11,40,41,42,43,44,45,46,47,48,49,50,51,52,53,54,55,56,57,58,59,60,61,62,63,64,65,66,67,68,69,70,71,72,73,74,75,76,77,78,79,80,81,82,83,84,85,86,87,88,89,90,91,92,93,94,95,96,97,98,99,100,101,102,103,104,105,106,107] 2 [] (⟨_,_,HQ21,rfl,rfl⟩) (Nat.zero_le _) rfl (by kernel_rfl) (by kernel_rfl) rfl ⟨⟨rfl,rfl,rfl⟩,wkB_live0 rfl (cellsM_idlt (f:=V.i) (fun _=>rfl) _) rfl trivial⟩
 rintro _ _ (⟨y41,y42,H,rfl,rfl⟩)
 rw [hK18] at H
 try dsimp only at H
 conv=>whnf
 obtain ⟨o51,HL52,HQ53⟩:=bind_c H
 refine loop_c [2,12,13,14] [15,16,108,109,110,111,112,113,114,115,116,117,118,119,120,121,122,123,124,125,126,127,128,129,130,131,132,133,134,135,136,137,138,139,140,141,142,143,144,145,146,147,148,149,150,151,152] [15,16,108,109,110,111,112,113,114,115,116,117,118,119,120,121,122,123,124,125,126,127,128,129,130,131,132,133,134,135,136,137,138,139,140,141,142,143,144,145,146,147,148,149,150,151,152] (fun n vals st=>(∃ y55 y56 y57 u58 u59,p_law21_RosterSees_l2  y41 y42 n y55 y56 y57=some o51∧vals=[.b false,.i y55,.i y56,.i y57]∧st=[.live [.i y41.Ver,.i y41.Floor,.sl (List.map ItemItem.v y41.Items) u58,.sl (List.map RosterGone.v y41.Gone) u59] 0,.live (cellsM V.i y42) 0])) fuel 2 [] (⟨_,_,_,_,_,HL52,rfl,rfl⟩) (Nat.zero_le _) rfl (by kernel_rfl) (by kernel_rfl) rfl ⟨⟨rfl,rfl,rfl⟩,wkB_live0 rfl (cellsM_idlt (f:=V.i) (fun _=>rfl) _) rfl trivial⟩ ?_
 rintro (_ | n54) _ _ (⟨y55,y56,y57,u58,u59,H,rfl,rfl⟩)
 ·rw [p_law21_RosterSees_l2] at H;cases H
 rw [p_law21_RosterSees_l2] at H
 conv=>whnf
 refine tst_d H (fun b60 H=>?_) (fun b60 H=>?_)
 ·conv=>whnf
  obtain rfl:=Option.some.inj H
  have H:=HQ53
  try dsimp only at H
  refine ask_c (p_roster_Sees_v _) H rfl rfl (fun v96 H=>?_);conv=>whnf
  refine LenQ.M ?_;conv=>whnf
  refine tst_c H (fun b97 H=>?_) (fun b97 H=>?_)
  ·conv=>whnf
   iterate 6 (refine Tst.T ?_;conv=>whnf)
   obtain rfl:=Option.some.inj H
   have H:=HQ6
   try dsimp only at H
   exact fb_ H
  conv=>whnf
  refine Tst.F ?_;conv=>whnf
  refine ask_c (p_roster_Seen_v _) H rfl rfl (fun v98 H=>?_);conv=>whnf
  refine Tst.F ?_;conv=>whnf
  refine LenQ.M ?_;conv=>whnf
  iterate 3 (refine Tst.F ?_;conv=>whnf)
  refine tst_c H (fun b99 H=>?_) (fun b99 H=>?_)
  ·conv=>whnf
   obtain rfl:=Option.some.inj H
   have H:=HQ6
   try dsimp only at H
   exact fb_ H
  conv=>whnf
  refine Ari.w ?_;conv=>whnf
  exact again_c [6,7,8,9,10,11,12,13,14,15,16,21,22,23,24,25,26,27,28,29,30,31,32,33,34,35,36,37,38,39,40,41,42,43,44,45,46,47,48,49,50,51,52,53,54,55,56,57,58,59,60,61,62,63,64,65,66,67,68,69,70,71,72,73,74,75,76,77,78,79,80,81,82,83,84,85,86,87,88,89,90,91,92,93,94,95,96,97,98,99,100,101,102,103,104,105,106,107,108,109,110,111,112,113,114,115,116,117,118,119,120,121,122,123,124,125,126,127,128,129,130,131,132,133,134,135,136,137,138,139,140,141,142,143,144,145,146,147,148,149,150,151,152,153,154,155,156,157,158,159,160,161,162,163,164] n7 2 [] (⟨_,_,_,_,_,H,rfl,rfl⟩) (Nat.lt_succ_self _) (Nat.zero_le _) rfl (by kernel_rfl) (by kernel_rfl) rfl ⟨⟨rfl,rfl,rfl⟩,wkB_live0 rfl (cellsM_idlt (f:=V.i) (fun _=>rfl) _) rfl trivial⟩
 conv=>whnf
 obtain ⟨K61,hK62,o63,HL64,HQ65⟩:=join0_c H
 refine join_c [12,3,4] [112,113,114,115,116,117,118] (fun vals st=>(∃ y70,K61 y70=some o51∧vals=[.i y70,.ptr 0 0,.ptr 1 0]∧st=[.live [.i y41.Ver,.i y41.Floor,.sl (List.map ItemItem.v y41.Items) u58,.sl (List.map RosterGone.v y41.Gone) u59] 0,.live (cellsM V.i y42) 0])) ?_ ?_
 ·have H:=HL64
  conv=>whnf
  refine ixa_c H (fun x67 h68 H=>?_);conv=>whnf
  refine ldo_c (f:=V.i) (es:=1) h68 (fun _=>rfl) 0 (by omega) (by decide) ?_;conv=>whnf
  refine tst_d H (fun b69 H=>?_) (fun b69 H=>?_)
  ·conv=>whnf
   obtain rfl:=Option.some.inj H
   exact arrive_c [112,113,114,115,116,117,118] 2 [] (⟨_,HQ65,rfl,rfl⟩) (Nat.zero_le _) rfl (by kernel_rfl) (by kernel_rfl) rfl ⟨⟨rfl,rfl,rfl⟩,wkB_live0 rfl (cellsM_idlt (f:=V.i) (fun _=>rfl) _) rfl trivial⟩
  conv=>whnf
  refine Ari.w ?_;conv=>whnf
  obtain rfl:=Option.some.inj H
  exact arrive_c [112,113,114,115,116,117,118] 2 [] (⟨_,HQ65,rfl,rfl⟩) (Nat.zero_le _) rfl (by kernel_rfl) (by kernel_rfl) rfl ⟨⟨rfl,rfl,rfl⟩,wkB_live0 rfl (cellsM_idlt (f:=V.i) (fun _=>rfl) _) rfl trivial⟩
 rintro _ _ (⟨y70,H,rfl,rfl⟩)
 rw [hK62] at H
 try dsimp only at H
 conv=>whnf
 obtain ⟨K71,hK72,o73,HL74,HQ75⟩:=join0_c H
 refine join_c [13,3,4] [119,120,121,122,123,124,125] (fun vals st=>(∃ y80,K71 y80=some o51∧vals=[.i y80,.ptr 0 0,.ptr 1 0]∧st=[.live [.i y41.Ver,.i y41.Floor,.sl (List.map ItemItem.v y41.Items) u58,.sl (List.map RosterGone.v y41.Gone) u59] 0,.live (cellsM V.i y42) 0])) ?_ ?_
 ·have H:=HL74
  conv=>whnf
  refine ixa_c H (fun x77 h78 H=>?_);conv=>whnf
  refine ldo_c (f:=V.i) (es:=1) h78 (fun _=>rfl) 0 (by omega) (by decide) ?_;conv=>whnf
  refine tst_d H (fun b79 H=>?_) (fun b79 H=>?_)
  ·conv=>whnf
   obtain rfl:=Option.some.inj H
   exact arrive_c [119,120,121,122,123,124,125] 2 [] (⟨_,HQ75,rfl,rfl⟩) (Nat.zero_le _) rfl (by kernel_rfl) (by kernel_rfl) rfl ⟨⟨rfl,rfl,rfl⟩,wkB_live0 rfl (cellsM_idlt (f:=V.i) (fun _=>rfl) _) rfl trivial⟩
  conv=>whnf
  refine Ari.w ?_;conv=>whnf
  obtain rfl:=Option.some.inj H
  exact arrive_c [119,120,121,122,123,124,125] 2 [] (⟨_,HQ75,rfl,rfl⟩) (Nat.zero_le _) rfl (by kernel_rfl) (by kernel_rfl) rfl ⟨⟨rfl,rfl,rfl⟩,wkB_live0 rfl (cellsM_idlt (f:=V.i) (fun _=>rfl) _) rfl trivial⟩
 rintro _ _ (⟨y80,H,rfl,rfl⟩)
 rw [hK72] at H
 try dsimp only at H
 conv=>whnf
 refine Ari.w ?_;conv=>whnf
 refine ask_c (p_law21_who_v _) H rfl rfl (fun v81 H=>?_);conv=>whnf
 refine ask_c (p_roster_Find_v _ _) H rfl rfl (fun v82 H=>?_);conv=>whnf
 refine lq_ ?_;conv=>whnf
 refine FootQ.mk ⟨rfl,?_⟩;conv=>whnf
 refine tst_d H (fun b83 H=>?_) (fun b83 H=>?_)
 ·conv=>whnf
  iterate 9 (refine Tst.F ?_;conv=>whnf)
  refine Tst.not ?_
  refine Tst.isF b83 ?_;conv=>whnf
  refine Tst.T ?_;conv=>whnf
  refine ixa_c H (fun x90 h91 H=>?_);conv=>whnf
  refine Tst.T ?_;conv=>whnf
  refine ldo_c (f:=V.i) (es:=1) h91 (fun _=>rfl) 0 (by omega) (by decide) ?_;conv=>whnf
  refine Tst.T ?_;conv=>whnf
  refine Tst.F ?_;conv=>whnf
  refine Tst.T ?_;conv=>whnf
  refine Tst.F ?_;conv=>whnf
  refine FootQ.mk ⟨rfl,?_⟩;conv=>whnf
  refine tst_c H (fun b92 H=>?_) (fun b92 H=>?_)
  ·conv=>whnf
   obtain rfl:=Option.some.inj H
   have H:=HQ53
   try dsimp only at H
   obtain rfl:=Option.some.inj H
   have H:=HQ6
   try dsimp only at H
   exact fb_ H
  conv=>whnf
  refine Ari.w ?_;conv=>whnf
  exact again_c [15,16,108,109,110,111,112,113,114,115,116,117,118,119,120,121,122,123,124,125,126,127,128,129,130,131,132,133,134,135,136,137,138,139,140,141,142,143,144,145,146,147,148,149,150,151,152] n54 2 [] (⟨_,_,_,_,_,H,rfl,rfl⟩) (Nat.lt_succ_self _) (Nat.zero_le _) rfl (by kernel_rfl) (by kernel_rfl) rfl ⟨⟨rfl,rfl,rfl⟩,wkB_live0 rfl (cellsM_idlt (f:=V.i) (fun _=>rfl) _) rfl trivial⟩
 conv=>whnf
 iterate 3 (refine Tst.T ?_;conv=>whnf)
 refine ixa_c H (fun x84 h85 H=>?_);conv=>whnf
 refine Tst.T ?_;conv=>whnf
 refine ldo_c (f:=V.i) (es:=1) h85 (fun _=>rfl) 0 (by omega) (by decide) ?_;conv=>whnf
 iterate 2 (refine Tst.T ?_;conv=>whnf)
 refine tst_c H (fun b86 H=>?_) (fun b86 H=>?_)
 ·conv=>whnf
  iterate 4 (refine Tst.T ?_;conv=>whnf)
  refine FootQ.mk ⟨rfl,?_⟩;conv=>whnf
  refine Tst.T ?_;conv=>whnf
  obtain rfl:=Option.some.inj H
  have H:=HQ53
  try dsimp only at H
  obtain rfl:=Option.some.inj H
  have H:=HQ6
  try dsimp only at H
  exact fb_ H
 conv=>whnf
 iterate 2 (refine Tst.F ?_;conv=>whnf)
 refine Tst.not ?_
 refine Tst.isT b83 ?_;conv=>whnf
 iterate 6 (refine Tst.F ?_;conv=>whnf)
 refine FootQ.mk ⟨rfl,?_⟩;conv=>whnf
 refine Tst.F ?_;conv=>whnf
 refine Ari.w ?_;conv=>whnf
 exact again_c [15,16,108,109,110,111,112,113,114,115,116,117,118,119,120,121,122,123,124,125,126,127,128,129,130,131,132,133,134,135,136,137,138,139,140,141,142,143,144,145,146,147,148,149,150,151,152] n54 2 [] (⟨_,_,_,_,_,H,rfl,rfl⟩) (Nat.lt_succ_self _) (Nat.zero_le _) rfl (by kernel_rfl) (by kernel_rfl) rfl ⟨⟨rfl,rfl,rfl⟩,wkB_live0 rfl (cellsM_idlt (f:=V.i) (fun _=>rfl) _) rfl trivial⟩
end Go.Proofs.Ytmmmcpeickfolaa

namespace Go.Proofs.Ytmmmcpeickfolaa
open Go.ChangeShapes Go.WideShapes Go.ChangeAt Go.RowKit Go.Joins Go.Deep
theorem rosterSees_named:Try.pinned.checked.prog.funcNamed Rows.rosterSeesRow.func=some 5:=by kernel_rfl
theorem rosterSees_closed:joinedFacts Try.pinned.checked.prog 5 Try.f5 Rows.rosterSeesSpec Rows.rosterSeesRow=true:=by kernel_rfl
end Go.Proofs.Ytmmmcpeickfolaa

namespace Go.Proofs.Ytmmmcpeickfolaa
open Go.ChangeShapes Go.WideShapes Go.ChangeAt Go.RowKit Go.Joins Go.Deep
set_option maxRecDepth 100000 in
theorem rosterSees_lifted (os:Os) (started:os.Started) (H:Type) (enc:TypeId × Value→H) :
  ReturnsInHanded {} Try.checked os 5 .any (Rows.rosterSeesSpec.pre6 enc Try.prog Try.f5 Rows.rosterSeesRow.domain false) (Rows.rosterSeesSpec.post enc Try.prog Try.f5 false true false false):=by
 refine returnsInHanded_of_change_shaped (C:=Try.checked) own0 started (by kernel_rfl) Try.func5
  (ChangeSpec.witness6 (enc:=enc) (C:=Try.checked) false ⟨#[],#[.slice none 0 0],[]⟩ 8 (by kernel_rfl) (by kernel_rfl) (by kernel_rfl) (by kernel_rfl)) ?_
 intro W base args ds gs before hval0 hW hcnd _ hsh _
 have hval:∀ (j:Nat) t v,Try.f5.params[j]?=some t→args[j]?=some v→Value.okWide Try.prog W .any base t v:=hval0
 have hW':=hW
 obtain ⟨p,q,hA0,hV,rfl,hfz,hnd⟩:=hW
 have hA:DataW.TrodAll enc Try.prog W 0 (fun _=>true) true Try.f5.params.toList args.toList ds p:=hA0
 rw [Try.params5] at hA hval
 have hA2:=hA
 obtain ⟨v0,d0,rfl,rfl,h0⟩:=trodAll_one hA
 obtain ⟨rfl,rfl⟩:=trodVars_none hV
 obtain ⟨fu0,hf0⟩:=h0
 obtain ⟨q0,l0,k0,rfl⟩:=okWide_slice Try.underlying47 (hval 0 _ v0 rfl rfl)
 obtain ⟨a0,w0,r0⟩:=rd_T47 hf0
 have hx0:Rep (MW W) noBk _ _:=r0.2 0 (by simp [Value.cells]) (by simp)
 refine (rep_one (callsO_true (p_law21_RosterSees_v a0) (tru_ok (rosterSees_all a0 w0))) (maxLen_cell W hsh) (repAr1 hx0)).mono ?_
 rintro e W' ⟨rfl,bel⟩
 refine ⟨_,rfl,_,_,_,[],p,[],hW',?_,?_,?_,?_,?_⟩
 ·exact trodAll_mk1 (shut_bool Try.underlying4 true)
 ·exact trodAll_below laid0 bel (by
   intro t ht
   simp at ht
   rcases ht with rfl <;> exact ⟨by kernel_rfl,of_decide_eq_true (by kernel_rfl)⟩) hA2
 ·rfl
 ·exact bel.frame _
 ·exact fun h=>by cases h
theorem rosterSees_holds:Rows.RosterSeesSaid :=
 OpenClaim.holds_of_wide 5 Try.f5 rfl rfl rfl rfl rfl rfl rfl ⟨rfl,rfl,rfl,rfl,rfl⟩ rfl rfl rfl rfl rfl rosterSees_named Try.func5 rosterSees_closed
  (of_decide_eq_true (by kernel_rfl)) (by unfold Func.isWrapper;first | (rw [if_pos (by decide +kernel)];kernel_rfl) | (rw [if_neg (by decide +kernel)];exact ⟨rfl,rfl⟩))
  (fun os started H enc _=>rosterSees_lifted os started H enc)
#print axioms rosterSees_holds
end Go.Proofs.Ytmmmcpeickfolaa

