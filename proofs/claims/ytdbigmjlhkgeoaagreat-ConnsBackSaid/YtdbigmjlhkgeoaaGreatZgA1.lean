/- ConnsBack: for every input the call returns true, and its arguments read as they did. -/
import Derived.Test.YtdbigmjlhkgeoaaGreatZeA19
import Derived.Test.YtdbigmjlhkgeoaaGreatZeA22
import Derived.Test.YtdbigmjlhkgeoaaGreatZeA21
import Derived.Test.YtdbigmjlhkgeoaaGreatZeA11
import Derived.KernelRfl
import Derived.Test.YtdbigmjlhkgeoaaGreatZeA12
import Derived.Test.YtdbigmjlhkgeoaaGreatRows
set_option linter.all false
namespace Go.Proofs.YtdbigmjlhkgeoaaGreat
open Go.RowKit
set_option maxRecDepth 1000000
set_option maxHeartbeats 4000000
def gc6:BCode:=(.seq (R_ 0 [O_ 6 (.mv (b_ false)) 0]) (.join (.seq (R_ 0 [O_ 26 (.mv (t_ 0)) 0,O_ 27 (.lens (t_ 26)) 0,O_ 28 (.bin .gtr (t_ 27) (i_ 40)) 0,O_ 29 (.mv (t_ 28)) 0,⟨(some 30),.mv (t_ 1),(some (29,false)),0⟩,⟨(some 31),.lent (t_ 30),(some (29,false)),0⟩,⟨(some 32),.bin .gtr (t_ 31) (i_ 100),(some (29,false)),0⟩,O_ 33 (.pick (t_ 29) (b_ true) (t_ 32)) 0]) (.cond (t_ 33) (.seq (R_ 0 [O_ 34 (.cl 8 []) 0,O_ 6 (.mv (t_ 34)) 0]) .ret) .skip)) (.seq (R_ 0 [O_ 7 (.mv (.const (.slice none 0 0))) 0]) (.seq (.seq (R_ 0 [O_ 8 (.mv (i_ 0)) 0]) (.block 0 (.loop (.seq (.seq (R_ 0 [O_ 35 (.mv (t_ 8)) 0,O_ 36 (.mv (t_ 0)) 0,O_ 37 (.lens (t_ 36)) 0,O_ 38 (.bin .lss (t_ 35) (t_ 37)) 0]) (.cond (t_ 38) .skip (.exit 0))) (.seq (.block 1 (.reg 0 [O_ 42 (.mv (t_ 7)) 0,O_ 43 (.mv (t_ 0)) 0,O_ 44 (.mv (t_ 8)) 0,O_ 45 (.ixs 4 (t_ 43) (t_ 44)) 0,O_ 46 (.fa 1 (t_ 45)) 0,O_ 47 (.ld 1 false (t_ 46)) 0,O_ 48 (.bin .rem (t_ 47) (.const (.int .u8 20))) 0,O_ 49 (.cvi .i64 (t_ 48)) 0,O_ 50 (.mv (t_ 0)) 0,O_ 51 (.mv (t_ 8)) 0,O_ 52 (.ixs 4 (t_ 50) (t_ 51)) 0,O_ 53 (.fa 3 (t_ 52)) 0,O_ 54 (.ld 1 false (t_ 53)) 0,O_ 55 (.cvi .i64 (t_ 54)) 0,O_ 56 (.cl 10 [(t_ 42),(t_ 49),(t_ 55)]) 0,O_ 41 (.mv (t_ 56)) 0,O_ 57 (.ex (t_ 41) 0) 0,O_ 58 (.ex (t_ 41) 1) 0,O_ 7 (.mv (t_ 57)) 0] (some [[],[],[],[2,1],[1,2,3],[3,2,1,4],[4,1,2,3,5],[5,3,2,1,4,6],[],[],[9,8],[8,9,10],[10,9,8,11],[11,8,9,10,12],[12,10,9,8,11,13,6,4,1,2,3,5,7,0],[0,7,5,3,2,1,4,6,13,11,8,9,10,12,14],[14,12,10,9,8,11,13,6,4,1,2,3,5,7,0,15],[14,12,10,9,8,11,13,6,4,1,2,3,5,7,0,15],[15,0,7,5,3,2,1,4,6,13,11,8,9,10,12,14,16]]) 0 [])) (R_ 0 [O_ 39 (.mv (t_ 8)) 0,O_ 40 (.bin .add (t_ 39) (i_ 1)) 0,O_ 8 (.mv (t_ 40)) 0])))))) (.seq (R_ 0 [O_ 60 (.mv (t_ 7)) 0,O_ 61 (.cl 10 [(t_ 60),(i_ 77),(i_ 5)]) 0,O_ 59 (.mv (t_ 61)) 0,O_ 62 (.ex (t_ 59) 0) 0,O_ 63 (.ex (t_ 59) 1) 0,O_ 9 (.mv (t_ 62)) 0,O_ 10 (.mv (t_ 63)) 0]) (.join (.seq (R_ 0 [O_ 64 (.mv (t_ 10)) 0,O_ 65 (.bin .neq (t_ 64) (i_ 0)) 0]) (.cond (t_ 65) (.seq (R_ 0 [O_ 66 (.mv (t_ 10)) 0,O_ 67 (.bin .eql (t_ 66) (i_ 7)) 0,O_ 68 (.mv (t_ 67)) 0,⟨(some 69),.mv (t_ 7),(some (68,true)),0⟩,⟨(some 70),.lens (t_ 69),(some (68,true)),0⟩,⟨(some 71),.bin .eql (t_ 70) (i_ 16),(some (68,true)),0⟩,O_ 72 (.pick (t_ 68) (t_ 71) (b_ false)) 0,O_ 73 (.mv (t_ 72)) 0,⟨(some 74),.cl 8 [],(some (73,true)),0⟩,O_ 75 (.pick (t_ 73) (t_ 74) (b_ false)) 0,O_ 6 (.mv (t_ 75)) 0]) .ret) .skip)) (.seq (R_ 1 [O_ 77 (.mv (t_ 9)) 0,O_ 78 (.cl 12 [(t_ 77),(i_ 77)]) 0,O_ 76 (.mv (t_ 78)) 0,O_ 79 (.ex (t_ 76) 0) 0,O_ 80 (.ex (t_ 76) 1) 0,O_ 81 (.ex (t_ 76) 2) 0,O_ 12 (.al (.agg [(.lit (.int .i64 0)),(.lit (.int .i64 0)),(.lit (.string ⟨#[]⟩)),(.lit (.string ⟨#[]⟩)),(.lit (.int .i64 0)),(.lit (.string ⟨#[]⟩)),(.lit (.int .i64 0)),(.lit (.int .i64 0))])) 0,O_ 11 (.mv (t_ 79)) 1,U_ (.st 8 (t_ 12) (t_ 80)) 1,O_ 13 (.mv (t_ 81)) 1]) (.seq (R_ 0 [O_ 82 (.mv (t_ 2)) 0,O_ 83 (.cvi .i64 (t_ 82)) 0,O_ 84 (.mv (t_ 1)) 0,O_ 85 (.lent (t_ 84)) 0,O_ 86 (.bin .add (t_ 85) (i_ 1)) 0,O_ 87 (.bin .rem (t_ 83) (t_ 86)) 0,O_ 14 (.mv (t_ 87)) 0]) (.seq (R_ 0 [O_ 89 (.mv (t_ 9)) 0,O_ 90 (.mv (t_ 1)) 0,O_ 91 (.cl 22 [(t_ 89),(i_ 77),(t_ 90)]) 0,O_ 88 (.mv (t_ 91)) 0,O_ 92 (.ex (t_ 88) 0) 0,O_ 93 (.ex (t_ 88) 1) 0,O_ 94 (.ex (t_ 88) 2) 0,O_ 15 (.mv (t_ 92)) 0,O_ 16 (.mv (t_ 93)) 0,O_ 17 (.mv (t_ 94)) 0]) (.seq (R_ 0 [O_ 96 (.mv (t_ 9)) 0,O_ 97 (.mv (t_ 1)) 0,O_ 98 (.mv (t_ 14)) 0,O_ 99 (.slt (t_ 97) none (some (t_ 98))) 0,O_ 100 (.cl 22 [(t_ 96),(i_ 77),(t_ 99)]) 0,O_ 95 (.mv (t_ 100)) 0,O_ 101 (.ex (t_ 95) 0) 0,O_ 102 (.ex (t_ 95) 1) 0,O_ 103 (.ex (t_ 95) 2) 0,O_ 18 (.mv (t_ 101)) 0,O_ 19 (.mv (t_ 102)) 0,O_ 20 (.mv (t_ 103)) 0]) (.seq (R_ 0 [O_ 105 (.mv (t_ 18)) 0,O_ 106 (.mv (t_ 1)) 0,O_ 107 (.mv (t_ 14)) 0,O_ 108 (.slt (t_ 106) (some (t_ 107)) none) 0,O_ 109 (.cl 22 [(t_ 105),(i_ 77),(t_ 108)]) 0,O_ 104 (.mv (t_ 109)) 0,O_ 110 (.ex (t_ 104) 0) 0,O_ 111 (.ex (t_ 104) 1) 0,O_ 112 (.ex (t_ 104) 2) 0,O_ 18 (.mv (t_ 110)) 0,O_ 21 (.mv (t_ 111)) 0,O_ 22 (.mv (t_ 112)) 0]) (.seq (R_ 1 [O_ 114 (.mv (t_ 15)) 0,O_ 115 (.cl 12 [(t_ 114),(i_ 77)]) 0,O_ 113 (.mv (t_ 115)) 0,O_ 116 (.ex (t_ 113) 0) 0,O_ 117 (.ex (t_ 113) 1) 0,O_ 118 (.ex (t_ 113) 2) 0,O_ 24 (.al (.agg [(.lit (.int .i64 0)),(.lit (.int .i64 0)),(.lit (.string ⟨#[]⟩)),(.lit (.string ⟨#[]⟩)),(.lit (.int .i64 0)),(.lit (.string ⟨#[]⟩)),(.lit (.int .i64 0)),(.lit (.int .i64 0))])) 0,O_ 23 (.mv (t_ 116)) 1,U_ (.st 8 (t_ 24) (t_ 117)) 1,O_ 25 (.mv (t_ 118)) 1]) (.seq (R_ 0 [O_ 119 (.mv (t_ 13)) 0,O_ 120 (.mv (t_ 119)) 0,⟨(some 121),.fa 0 (t_ 12),(some (120,true)),0⟩,⟨(some 122),.ld 1 false (t_ 121),(some (120,true)),0⟩,⟨(some 123),.bin .eql (t_ 122) (i_ 77),(some (120,true)),0⟩,O_ 124 (.pick (t_ 120) (t_ 123) (b_ false)) 0,O_ 125 (.mv (t_ 124)) 0,⟨(some 126),.fa 1 (t_ 12),(some (125,true)),0⟩,⟨(some 127),.ld 1 false (t_ 126),(some (125,true)),0⟩,⟨(some 128),.bin .eql (t_ 127) (i_ 5),(some (125,true)),0⟩,O_ 129 (.pick (t_ 125) (t_ 128) (b_ false)) 0,O_ 130 (.mv (t_ 129)) 0,⟨(some 131),.mv (t_ 11),(some (130,true)),0⟩,⟨(some 132),.mv (t_ 7),(some (130,true)),0⟩,⟨(some 133),.cl 37 [(t_ 131),(t_ 132)],(some (130,true)),0⟩,O_ 134 (.pick (t_ 130) (t_ 133) (b_ false)) 0,O_ 135 (.mv (t_ 134)) 0,⟨(some 136),.mv (t_ 15),(some (135,true)),0⟩,⟨(some 137),.mv (t_ 18),(some (135,true)),0⟩,⟨(some 138),.cl 37 [(t_ 136),(t_ 137)],(some (135,true)),0⟩,O_ 139 (.pick (t_ 135) (t_ 138) (b_ false)) 0,O_ 140 (.mv (t_ 139)) 0,⟨(some 141),.mv (t_ 16),(some (140,true)),0⟩,⟨(some 142),.lens (t_ 141),(some (140,true)),0⟩,⟨(some 143),.mv (t_ 19),(some (140,true)),0⟩,⟨(some 144),.lens (t_ 143),(some (140,true)),0⟩,⟨(some 145),.mv (t_ 21),(some (140,true)),0⟩,⟨(some 146),.lens (t_ 145),(some (140,true)),0⟩,⟨(some 147),.bin .add (t_ 144) (t_ 146),(some (140,true)),0⟩,⟨(some 148),.bin .eql (t_ 142) (t_ 147),(some (140,true)),0⟩,O_ 149 (.pick (t_ 140) (t_ 148) (b_ false)) 0,O_ 150 (.mv (t_ 149)) 0,⟨(some 151),.mv (t_ 17),(some (150,true)),0⟩,⟨(some 152),.mv (t_ 22),(some (150,true)),0⟩,⟨(some 153),.bin .eql (t_ 151) (t_ 152),(some (150,true)),0⟩,O_ 154 (.pick (t_ 150) (t_ 153) (b_ false)) 0,O_ 155 (.mv (t_ 154)) 0,⟨(some 156),.mv (t_ 23),(some (155,true)),0⟩,⟨(some 157),.mv (t_ 7),(some (155,true)),0⟩,⟨(some 158),.cl 37 [(t_ 156),(t_ 157)],(some (155,true)),0⟩,O_ 159 (.pick (t_ 155) (t_ 158) (b_ false)) 0,O_ 160 (.mv (t_ 159)) 0,⟨(some 161),.cl 8 [],(some (160,true)),0⟩,O_ 162 (.pick (t_ 160) (t_ 161) (b_ false)) 0,O_ 6 (.mv (t_ 162)) 0]) .ret)))))))))))))
theorem gc6_ok:compF Tryz.prog Tryz.f6=some (gc6.er,163,[.tmp 6]):=by unfold gc6;kernel_rfl
theorem p_law31_ConnsBack_v {u1:Bool} (a0:List Law31Deed) (a1:ByteArray) (a2:Int):CallsO Tryz.prog 6 [.sl (List.map Law31Deed.v a0) u1,.s a1,.y8 a2] V.b (tru? (p_law31_ConnsBack a0 a1 a2)):=by
 refine callsO_comp mix Tryz.func6 gc6_ok fun r H=>?_
 have H1:=tru_of H
 clear H
 obtain ⟨rfl,H⟩:=H1
 rw [p_law31_ConnsBack] at H
 conv=>whnf
 obtain ⟨K1,hK2,o3,HL4,HQ5⟩:=join0_c H
 refine join_c [6] [26,27,28,29,30,31,32,33,34] (fun vals st=>(K1 (.inr ())=some true∧vals=[.b false]∧st=[])) ?_ ?_
 ·have H:=HL4
  conv=>whnf
  refine LenQ.M ?_;conv=>whnf
  refine tst_c H (fun b7 H=>?_) (fun b7 H=>?_)
  ·conv=>whnf
   iterate 4 (refine Tst.T ?_;conv=>whnf)
   refine ask_c (p_law31_awake_v) H rfl rfl (fun v8 H=>?_);conv=>whnf
   obtain rfl:=Option.some.inj H
   have H:=HQ5
   rw [hK2] at H
   try dsimp only at H
   exact fb_ H
  conv=>whnf
  iterate 3 (refine Tst.F ?_;conv=>whnf)
  refine tst_d H (fun b9 H=>?_) (fun b9 H=>?_)
  ·conv=>whnf
   obtain rfl:=Option.some.inj H
   exact arrive_c [26,27,28,29,30,31,32,33,34] 0 [] (⟨HQ5,rfl,rfl⟩) (Nat.zero_le _) rfl (by kernel_rfl) (by kernel_rfl) rfl trivial
  conv=>whnf
  refine ask_c (p_law31_awake_v) H rfl rfl (fun v10 H=>?_);conv=>whnf
  obtain rfl:=Option.some.inj H
  have H:=HQ5
  rw [hK2] at H
  try dsimp only at H
  exact fb_ H
 rintro _ _ (⟨H,rfl,rfl⟩)
 rw [hK2] at H
 try dsimp only at H
 conv=>whnf
 obtain ⟨o12,HL13,HQ14⟩:=bind_c H
 refine loop_c [7,8] [35,36,37,38,39,40,41,42,43,44,45,46,47,48,49,50,51,52,53,54,55,56,57,58] [35,36,37,38,39,40,41,42,43,44,45,46,47,48,49,50,51,52,53,54,55,56,57,58] (fun n vals st=>(∃ y16,p_law31_ConnsBack_l1  a0 n [] y16=some o12∧vals=[.sl (List.map ConnsConn.v []) true,.i y16]∧st=[])∨(∃ y21 y22,p_law31_ConnsBack_l1  a0 n y21 y22=some o12∧vals=[.sl (List.map ConnsConn.v y21) false,.i y22]∧st=[])) fuel 0 [] (.inl (⟨_,HL13,rfl,rfl⟩)) (Nat.zero_le _) rfl (by kernel_rfl) (by kernel_rfl) rfl trivial ?_
 rintro (_ | n15) _ _ (⟨y16,H,rfl,rfl⟩ | ⟨y21,y22,H,rfl,rfl⟩)
 ·rw [p_law31_ConnsBack_l1] at H;cases H
 ·rw [p_law31_ConnsBack_l1] at H;cases H
 ·rw [p_law31_ConnsBack_l1] at H
  conv=>whnf
  refine LenQ.M ?_;conv=>whnf
  refine tst_c H (fun b17 H=>?_) (fun b17 H=>?_)
  ·conv=>whnf
   refine ixs_c (f:=Law31Deed.v) H (fun _=>rfl) (fun x18 H=>?_);conv=>whnf
   refine lq_ ?_;conv=>whnf
   refine ⟨by decide,?_⟩;conv=>whnf
   refine Ari.w ?_;conv=>whnf
   refine ixs_c (f:=Law31Deed.v) H (fun _=>rfl) (fun x19 H=>?_);conv=>whnf
   refine lq_ ?_;conv=>whnf
   refine Ari.w ?_;conv=>whnf
   refine ask_c (p_conns_Open_v _ _ _) H rfl rfl (fun v20 H=>?_);conv=>whnf
   refine FootQ.mk ⟨rfl,?_⟩;conv=>whnf
   refine Ari.w ?_;conv=>whnf
   exact again_c [35,36,37,38,39,40,41,42,43,44,45,46,47,48,49,50,51,52,53,54,55,56,57,58] n15 0 [] (.inr (⟨_,_,H,rfl,rfl⟩)) (Nat.lt_succ_self _) (Nat.zero_le _) rfl (by kernel_rfl) (by kernel_rfl) rfl trivial
  conv=>whnf
  obtain rfl:=Option.some.inj H
  have H:=HQ14
  try dsimp only at H
  refine ask_c (p_conns_Open_v _ _ _) H rfl rfl (fun v23 H=>?_);conv=>whnf
  obtain ⟨K24,hK25,o26,HL27,HQ28⟩:=join0_c H
  refine join_c [6] [64,65,66,67,68,69,70,71,72,73,74,75] (fun vals st=>(K24 (.inr ())=some true∧vals=[.b false]∧st=[])) ?_ ?_
  ·have H:=HL27
   conv=>whnf
   refine tst_d H (fun b30 H=>?_) (fun b30 H=>?_)
   ·conv=>whnf
    obtain rfl:=Option.some.inj H
    exact arrive_c [64,65,66,67,68,69,70,71,72,73,74,75] 0 [] (⟨HQ28,rfl,rfl⟩) (Nat.zero_le _) rfl (by kernel_rfl) (by kernel_rfl) rfl trivial
   conv=>whnf
   refine tst_d H (fun b31 H=>?_) (fun b31 H=>?_)
   ·conv=>whnf
    iterate 5 (refine Tst.F ?_;conv=>whnf)
    obtain rfl:=Option.some.inj H
    have H:=HQ28
    rw [hK25] at H
    try dsimp only at H
    exact fb_ H
   conv=>whnf
   refine Tst.T ?_;conv=>whnf
   refine LenQ.ok ?_;conv=>whnf
   iterate 2 (refine Tst.T ?_;conv=>whnf)
   refine tst_d H (fun b32 H=>?_) (fun b32 H=>?_)
   ·conv=>whnf
    refine Tst.F ?_;conv=>whnf
    obtain rfl:=Option.some.inj H
    have H:=HQ28
    rw [hK25] at H
    try dsimp only at H
    exact fb_ H
   conv=>whnf
   refine ask_c (p_law31_awake_v) H rfl rfl (fun v33 H=>?_);conv=>whnf
   refine Tst.T ?_;conv=>whnf
   obtain rfl:=Option.some.inj H
   have H:=HQ28
   rw [hK25] at H
   try dsimp only at H
   exact fb_ H
  rintro _ _ (⟨H,rfl,rfl⟩)
  rw [hK25] at H
  try dsimp only at H
  conv=>whnf
  refine ask_c (p_conns_Close_v _ _) H rfl rfl (fun v34 H=>?_);conv=>whnf
  refine lq_ ?_;conv=>whnf
  iterate 2 (refine Ari.w ?_;conv=>whnf)
  refine ne0_c H (fun H=>?_);conv=>whnf
  refine ask_c (p_conns_Feed_v _ _ _) H rfl rfl (fun v36 H=>?_);conv=>whnf
  refine slt_c H (fun s37 H=>?_);conv=>whnf
  refine ask_c (p_conns_Feed_v _ _ _) H rfl rfl (fun v38 H=>?_);conv=>whnf
  refine slt_c H (fun s39 H=>?_);conv=>whnf
  refine ask_c (p_conns_Feed_v _ _ _) H rfl rfl (fun v40 H=>?_);conv=>whnf
  refine ask_c (p_conns_Close_v _ _) H rfl rfl (fun v41 H=>?_);conv=>whnf
  refine lq_ ?_;conv=>whnf
  refine tstT_c H (fun b42 H=>?_);conv=>whnf
  iterate 3 (refine Tst.T ?_;conv=>whnf)
  refine tstT_c H (fun b43 H=>?_);conv=>whnf
  iterate 3 (refine Tst.T ?_;conv=>whnf)
  refine tstT_c H (fun b44 H=>?_);conv=>whnf
  iterate 2 (refine Tst.T ?_;conv=>whnf)
  refine ask_c (p_conns_Same_v _ _) H rfl rfl (fun v45 H=>?_);conv=>whnf
  refine Tst.T ?_;conv=>whnf
  refine tstT_c H (fun b46 H=>?_);conv=>whnf
  iterate 2 (refine Tst.T ?_;conv=>whnf)
  refine ask_c (p_conns_Same_v _ _) H rfl rfl (fun v47 H=>?_);conv=>whnf
  refine Tst.T ?_;conv=>whnf
  refine tstT_c H (fun b48 H=>?_);conv=>whnf
  refine Tst.T ?_;conv=>whnf
  refine LenQ.M ?_;conv=>whnf
  iterate 2 (refine Tst.T ?_;conv=>whnf)
  refine LenQ.M ?_;conv=>whnf
  iterate 2 (refine Tst.T ?_;conv=>whnf)
  refine LenQ.M ?_;conv=>whnf
  refine Tst.T ?_;conv=>whnf
  refine Ari.w ?_;conv=>whnf
  iterate 2 (refine Tst.T ?_;conv=>whnf)
  refine tstT_c H (fun b49 H=>?_);conv=>whnf
  iterate 3 (refine Tst.T ?_;conv=>whnf)
  refine tstT_c H (fun b50 H=>?_);conv=>whnf
  iterate 2 (refine Tst.T ?_;conv=>whnf)
  refine ask_c (p_conns_Same_v _ _) H rfl rfl (fun v51 H=>?_);conv=>whnf
  refine Tst.T ?_;conv=>whnf
  refine tstT_c H (fun b52 H=>?_);conv=>whnf
  refine ask_c (p_law31_awake_v) H rfl rfl (fun v53 H=>?_);conv=>whnf
  refine Tst.T ?_;conv=>whnf
  exact fb_ H
 rw [p_law31_ConnsBack_l1] at H
 conv=>whnf
 refine LenQ.M ?_;conv=>whnf
 refine tst_c H (fun b54 H=>?_) (fun b54 H=>?_)
 ·conv=>whnf
  refine ixs_c (f:=Law31Deed.v) H (fun _=>rfl) (fun x55 H=>?_);conv=>whnf
  refine lq_ ?_;conv=>whnf
  refine ⟨by decide,?_⟩;conv=>whnf
  refine Ari.w ?_;conv=>whnf
  refine ixs_c (f:=Law31Deed.v) H (fun _=>rfl) (fun x56 H=>?_);conv=>whnf
  refine lq_ ?_;conv=>whnf
  refine Ari.w ?_;conv=>whnf
  refine ask_c (p_conns_Open_v _ _ _) H rfl rfl (fun v57 H=>?_);conv=>whnf
  refine FootQ.mk ⟨rfl,?_⟩;conv=>whnf
  refine Ari.w ?_;conv=>whnf
  exact again_c [35,36,37,38,39,40,41,42,43,44,45,46,47,48,49,50,51,52,53,54,55,56,57,58] n15 0 [] (.inr (⟨_,_,H,rfl,rfl⟩)) (Nat.lt_succ_self _) (Nat.zero_le _) rfl (by kernel_rfl) (by kernel_rfl) rfl trivial
 conv=>whnf
 obtain rfl:=Option.some.inj H
 have H:=HQ14
 try dsimp only at H
 refine ask_c (p_conns_Open_v _ _ _) H rfl rfl (fun v60 H=>?_);conv=>whnf
 obtain ⟨K61,hK62,o63,HL64,HQ65⟩:=join0_c H
 refine join_c [6] [64,65,66,67,68,69,70,71,72,73,74,75] (fun vals st=>(K61 (.inr ())=some true∧vals=[.b false]∧st=[])) ?_ ?_
 ·have H:=HL64
  conv=>whnf
  refine tst_d H (fun b67 H=>?_) (fun b67 H=>?_)
  ·conv=>whnf
   obtain rfl:=Option.some.inj H
   exact arrive_c [64,65,66,67,68,69,70,71,72,73,74,75] 0 [] (⟨HQ65,rfl,rfl⟩) (Nat.zero_le _) rfl (by kernel_rfl) (by kernel_rfl) rfl trivial
  conv=>whnf
  refine tst_d H (fun b68 H=>?_) (fun b68 H=>?_)
  ·conv=>whnf
   iterate 5 (refine Tst.F ?_;conv=>whnf)
   obtain rfl:=Option.some.inj H
   have H:=HQ65
   rw [hK62] at H
   try dsimp only at H
   exact fb_ H
  conv=>whnf
  refine Tst.T ?_;conv=>whnf
  refine LenQ.M ?_;conv=>whnf
  iterate 2 (refine Tst.T ?_;conv=>whnf)
  refine tst_d H (fun b69 H=>?_) (fun b69 H=>?_)
  ·conv=>whnf
   refine Tst.F ?_;conv=>whnf
   obtain rfl:=Option.some.inj H
   have H:=HQ65
   rw [hK62] at H
   try dsimp only at H
   exact fb_ H
  conv=>whnf
  refine ask_c (p_law31_awake_v) H rfl rfl (fun v70 H=>?_);conv=>whnf
  refine Tst.T ?_;conv=>whnf
  obtain rfl:=Option.some.inj H
  have H:=HQ65
  rw [hK62] at H
  try dsimp only at H
  exact fb_ H
 rintro _ _ (⟨H,rfl,rfl⟩)
 rw [hK62] at H
 try dsimp only at H
 conv=>whnf
 refine ask_c (p_conns_Close_v _ _) H rfl rfl (fun v71 H=>?_);conv=>whnf
 refine lq_ ?_;conv=>whnf
 iterate 2 (refine Ari.w ?_;conv=>whnf)
 refine ne0_c H (fun H=>?_);conv=>whnf
 refine ask_c (p_conns_Feed_v _ _ _) H rfl rfl (fun v73 H=>?_);conv=>whnf
 refine slt_c H (fun s74 H=>?_);conv=>whnf
 refine ask_c (p_conns_Feed_v _ _ _) H rfl rfl (fun v75 H=>?_);conv=>whnf
 refine slt_c H (fun s76 H=>?_);conv=>whnf
 refine ask_c (p_conns_Feed_v _ _ _) H rfl rfl (fun v77 H=>?_);conv=>whnf
 refine ask_c (p_conns_Close_v _ _) H rfl rfl (fun v78 H=>?_);conv=>whnf
 refine lq_ ?_;conv=>whnf
 refine tstT_c H (fun b79 H=>?_);conv=>whnf
 iterate 3 (refine Tst.T ?_;conv=>whnf)
 refine tstT_c H (fun b80 H=>?_);conv=>whnf
 iterate 3 (refine Tst.T ?_;conv=>whnf)
 refine tstT_c H (fun b81 H=>?_);conv=>whnf
 iterate 2 (refine Tst.T ?_;conv=>whnf)
 refine ask_c (p_conns_Same_v _ _) H rfl rfl (fun v82 H=>?_);conv=>whnf
 refine Tst.T ?_;conv=>whnf
 refine tstT_c H (fun b83 H=>?_);conv=>whnf
 iterate 2 (refine Tst.T ?_;conv=>whnf)
 refine ask_c (p_conns_Same_v _ _) H rfl rfl (fun v84 H=>?_);conv=>whnf
 refine Tst.T ?_;conv=>whnf
 refine tstT_c H (fun b85 H=>?_);conv=>whnf
 refine Tst.T ?_;conv=>whnf
 refine LenQ.M ?_;conv=>whnf
 iterate 2 (refine Tst.T ?_;conv=>whnf)
 refine LenQ.M ?_;conv=>whnf
 iterate 2 (refine Tst.T ?_;conv=>whnf)
 refine LenQ.M ?_;conv=>whnf
 refine Tst.T ?_;conv=>whnf
 refine Ari.w ?_;conv=>whnf
 iterate 2 (refine Tst.T ?_;conv=>whnf)
 refine tstT_c H (fun b86 H=>?_);conv=>whnf
 iterate 3 (refine Tst.T ?_;conv=>whnf)
 refine tstT_c H (fun b87 H=>?_);conv=>whnf
 iterate 2 (refine Tst.T ?_;conv=>whnf)
 refine ask_c (p_conns_Same_v _ _) H rfl rfl (fun v88 H=>?_);conv=>whnf
 refine Tst.T ?_;conv=>whnf
 refine tstT_c H (fun b89 H=>?_);conv=>whnf
 refine ask_c (p_law31_awake_v) H rfl rfl (fun v90 H=>?_);conv=>whnf
 refine Tst.T ?_;conv=>whnf
 exact fb_ H
end Go.Proofs.YtdbigmjlhkgeoaaGreat

namespace Go.Proofs.YtdbigmjlhkgeoaaGreat
open Go.ChangeShapes Go.WideShapes Go.ChangeAt Go.RowKit Go.Joins Go.Deep
theorem connsBack_named:Tryz.pinned.checked.prog.funcNamed Rows.connsBackRow.func=some 6:=by kernel_rfl
theorem connsBack_closed:joinedFacts Tryz.pinned.checked.prog 6 Tryz.f6 Rows.connsBackSpec Rows.connsBackRow=true:=by kernel_rfl
end Go.Proofs.YtdbigmjlhkgeoaaGreat

namespace Go.Proofs.YtdbigmjlhkgeoaaGreat
open Go.ChangeShapes Go.WideShapes Go.ChangeAt Go.RowKit Go.Joins Go.Deep
set_option maxRecDepth 100000 in
theorem connsBack_lifted (os:Os) (started:os.Started) (H:Type) (enc:TypeId × Value→H) :
  ReturnsInHanded {} Tryz.checked os 6 .any (Rows.connsBackSpec.pre6 enc Tryz.prog Tryz.f6 Rows.connsBackRow.domain false) (Rows.connsBackSpec.post enc Tryz.prog Tryz.f6 false true false false):=by
 refine returnsInHanded_of_change_shaped (C:=Tryz.checked) own0 started (by kernel_rfl) Tryz.func6
  (ChangeSpec.witness6 (enc:=enc) (C:=Tryz.checked) false ⟨#[],#[.slice none 0 0,.string ⟨#[]⟩,.int .u8 0],[]⟩ 8 (by kernel_rfl) (by kernel_rfl) (by kernel_rfl) (by kernel_rfl)) ?_
 intro W base args ds gs before hval0 hW hcnd _ hsh _
 have hval:∀ (j:Nat) t v,Tryz.f6.params[j]?=some t→args[j]?=some v→Value.okWide Tryz.prog W .any base t v:=hval0
 have hW':=hW
 obtain ⟨p,q,hA0,hV,rfl,hfz,hnd⟩:=hW
 have hA:DataW.TrodAll enc Tryz.prog W 0 (fun _=>true) true Tryz.f6.params.toList args.toList ds p:=hA0
 rw [Tryz.params6] at hA hval
 have hA2:=hA
 obtain ⟨v0,v1,v2,d0,d1,d2,p0,p1,p2,rfl,rfl,hp,h0,h1,h2⟩:=trodAll_three hA
 obtain ⟨rfl,rfl⟩:=trodVars_none hV
 obtain ⟨fu0,hf0⟩:=h0
 obtain ⟨q0,l0,k0,rfl⟩:=okWide_slice Tryz.underlying81 (hval 0 _ v0 rfl rfl)
 obtain ⟨a0,w0,r0⟩:=rd_T81 hf0
 have hx0:Rep (MW W) noBk _ _:=r0.2 0 (by simp [Value.cells]) (by simp)
 obtain ⟨fu1,hf1⟩:=h1
 obtain ⟨q1,rfl⟩:=okWide_string Tryz.underlying9 (hval 1 _ v1 rfl rfl)
 obtain ⟨a1,r1⟩:=rd_string Tryz.underlying9 hf1
 have hx1:Rep (MW W) noBk _ _:=r1.2 0 (by simp [Value.cells]) (by simp)
 obtain ⟨fu2,hf2⟩:=h2
 obtain ⟨q2,rfl⟩:=okWide_int Tryz.underlying5 (hval 2 _ v2 rfl rfl)
 obtain ⟨a2,w2,r2⟩:=rd_int Tryz.underlying5 hf2
 have hx2:Rep (MW W) noBk _ _:=r2.2 0 (by simp [Value.cells]) (by simp)
 refine (rep_one (callsO_true (p_law31_ConnsBack_v a0 a1 a2) (tru_ok (connsBack_all a0 a1 a2 w0 w2))) (maxLen_cell W hsh) (repAr3 hx0 hx1 hx2)).mono ?_
 rintro e W' ⟨rfl,bel⟩
 refine ⟨_,rfl,_,_,_,[],p,[],hW',?_,?_,?_,?_,?_⟩
 ·exact trodAll_mk1 (shut_bool Tryz.underlying4 true)
 ·exact trodAll_below laid0 bel (by
   intro t ht
   simp at ht
   rcases ht with rfl | rfl | rfl <;> exact ⟨by kernel_rfl,of_decide_eq_true (by kernel_rfl)⟩) hA2
 ·rfl
 ·exact bel.frame _
 ·exact fun h=>by cases h
theorem connsBack_holds:Rows.ConnsBackSaid :=
 OpenClaim.holds_of_wide 6 Tryz.f6 rfl rfl rfl rfl rfl rfl rfl ⟨rfl,rfl,rfl,rfl,rfl⟩ rfl rfl rfl rfl rfl connsBack_named Tryz.func6 connsBack_closed
  (of_decide_eq_true (by kernel_rfl)) (by unfold Func.isWrapper;first | (rw [if_pos (by decide +kernel)];kernel_rfl) | (rw [if_neg (by decide +kernel)];exact ⟨rfl,rfl⟩))
  (fun os started H enc _=>connsBack_lifted os started H enc)
#print axioms connsBack_holds
end Go.Proofs.YtdbigmjlhkgeoaaGreat

