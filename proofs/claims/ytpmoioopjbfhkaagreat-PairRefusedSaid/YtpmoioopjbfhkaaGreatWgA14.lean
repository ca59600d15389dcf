/- PairRefused: for every input the call returns true, and its arguments read as they did. -/
import Derived.Test.YtpmoioopjbfhkaaGreatWgA7
import Derived.Test.YtpmoioopjbfhkaaGreatWgA11
import Derived.Test.YtpmoioopjbfhkaaGreatWgA12
import Derived.Test.YtpmoioopjbfhkaaGreatWgA13
import Derived.Test.YtpmoioopjbfhkaaGreatWeA5
import Derived.KernelRfl
import Derived.Test.YtpmoioopjbfhkaaGreatWgA1
import Derived.Test.YtpmoioopjbfhkaaGreatRows
import Derived.Test.YtpmoioopjbfhkaaGreatWgA5
set_option linter.all false
namespace Go.Proofs.YtpmoioopjbfhkaaGreat
open Go.RowKit
set_option maxRecDepth 1000000
set_option maxHeartbeats 4000000
def gc9:BCode:=(.seq (R_ 1 [O_ 2 (.bx (t_ 0)) 0,O_ 4 (.mv (b_ false)) 1]) (.seq (.seq (R_ 0 [O_ 18 (.mv (t_ 1)) 0,O_ 19 (.lens (t_ 18)) 0,O_ 20 (.bin .gtr (t_ 19) (i_ 30)) 0]) (.cond (t_ 20) (.seq (R_ 0 [O_ 21 (.cl 54 []) 0,O_ 4 (.mv (t_ 21)) 0]) .ret) .skip)) (.seq (R_ 1 [O_ 22 (.bd [(.lit (.string ⟨#[]⟩)),(.lit (.string ⟨#[]⟩))] [(0,1,(.const (.string ⟨#[97,110,110,64,120]⟩))),(1,1,(.const (.string ⟨#[98,111,98,64,121]⟩)))]) 0,O_ 5 (.al (.agg [(.lit (.string ⟨#[]⟩)),(.lit (.string ⟨#[]⟩))])) 0,U_ (.st 2 (t_ 5) (t_ 22)) 1]) (.seq (R_ 1 [O_ 6 (.al (.agg [(.lit (.int .i64 0)),(.lit (.int .i64 0)),(.sl [] true),(.sl [] true),(.lit (.int .i64 0)),(.lit (.int .i64 0)),(.sl [] true),(.sl [] true)])) 0]) (.seq (.seq (R_ 0 [O_ 7 (.mv (i_ 0)) 0]) (.block 0 (.loop (.seq (.seq (R_ 0 [O_ 23 (.mv (t_ 7)) 0,O_ 24 (.bin .lss (t_ 23) (i_ 12)) 0]) (.cond (t_ 24) .skip (.exit 0))) (.seq (.block 1 (.seq (R_ 1 [O_ 27 (.mv (t_ 7)) 0,O_ 28 (.cvi .u8 (t_ 27)) 0,O_ 29 (.bin .add (.const (.int .u8 107)) (t_ 28)) 0,O_ 30 (.bs 1 1 [(.lit (.int .u8 0))] [(0,(t_ 29))]) 0,O_ 31 (.b2s (t_ 30)) 1,O_ 32 (.bin .add (t_ 31) (.const (.string ⟨#[64,122]⟩))) 1,O_ 8 (.mv (t_ 32)) 1]) (.join (.seq (R_ 0 [O_ 33 (.ixa 2 1 (t_ 2) (i_ 0)) 0,O_ 34 (.ld 1 false (t_ 33)) 0,O_ 35 (.mv (t_ 34)) 0,⟨(some 36),.mv (t_ 7),(some (35,false)),0⟩,⟨(some 37),.bin .lss (t_ 36) (i_ 10),(some (35,false)),0⟩,O_ 38 (.pick (t_ 35) (b_ true) (t_ 37)) 0]) (.cond (t_ 38) (R_ 0 [O_ 40 (.fa 0 (t_ 6)) 0,O_ 41 (.ld 4 true (t_ 40)) 0,O_ 42 (.mv (t_ 8)) 0,O_ 43 (.cl 39 [(t_ 41),(t_ 42),(.const (.string ⟨#[]⟩))]) 0,O_ 39 (.mv (t_ 43)) 0,O_ 44 (.ex (t_ 39) 0) 0,O_ 45 (.ex (t_ 39) 1) 0,O_ 46 (.fa 0 (t_ 6)) 0,U_ (.st 4 (t_ 46) (t_ 44)) 0]) .skip)) (.seq (R_ 0 [O_ 47 (.ixa 2 1 (t_ 2) (i_ 1)) 0,O_ 48 (.ld 1 false (t_ 47)) 0,O_ 49 (.mv (t_ 48)) 0,⟨(some 50),.mv (t_ 7),(some (49,false)),0⟩,⟨(some 51),.bin .lss (t_ 50) (i_ 10),(some (49,false)),0⟩,O_ 52 (.pick (t_ 49) (b_ true) (t_ 51)) 0]) (.cond (t_ 52) (R_ 0 [O_ 54 (.fa 4 (t_ 6)) 0,O_ 55 (.ld 4 true (t_ 54)) 0,O_ 56 (.mv (t_ 8)) 0,O_ 57 (.cl 39 [(t_ 55),(t_ 56),(.const (.string ⟨#[]⟩))]) 0,O_ 53 (.mv (t_ 57)) 0,O_ 58 (.ex (t_ 53) 0) 0,O_ 59 (.ex (t_ 53) 1) 0,O_ 60 (.fa 4 (t_ 6)) 0,U_ (.st 4 (t_ 60) (t_ 58)) 0]) .skip))))) (R_ 0 [O_ 25 (.mv (t_ 7)) 0,O_ 26 (.bin .add (t_ 25) (i_ 1)) 0,O_ 7 (.mv (t_ 26)) 0])))))) (.seq (.seq (R_ 0 [O_ 9 (.mv (i_ 0)) 0]) (.block 2 (.loop (.seq (.seq (R_ 0 [O_ 61 (.mv (t_ 9)) 0,O_ 62 (.mv (t_ 1)) 0,O_ 63 (.lens (t_ 62)) 0,O_ 64 (.bin .lss (t_ 61) (t_ 63)) 0]) (.cond (t_ 64) .skip (.exit 2))) (.seq (.block 3 (.seq (.reg 2 [O_ 67 (.ld 2 true (t_ 5)) 0,O_ 68 (.ld 8 true (t_ 6)) 0,O_ 10 (.al (.agg [(.lit (.string ⟨#[]⟩)),(.lit (.string ⟨#[]⟩))])) 0,O_ 11 (.al (.agg [(.lit (.int .i64 0)),(.lit (.int .i64 0)),(.sl [] true),(.sl [] true),(.lit (.int .i64 0)),(.lit (.int .i64 0)),(.sl [] true),(.sl [] true)])) 1,U_ (.st 2 (t_ 10) (t_ 67)) 2,U_ (.st 8 (t_ 11) (t_ 68)) 2] (some [[],[],[],[],[3,0,2],[2,0,4,1,3]]) 0 []) (.seq (.reg 0 [O_ 69 (.ixa 2 1 (t_ 2) (i_ 0)) 0,O_ 70 (.ld 1 false (t_ 69)) 0,O_ 71 (.ixa 2 1 (t_ 2) (i_ 1)) 0,O_ 72 (.ld 1 false (t_ 71)) 0,O_ 12 (.mv (t_ 70)) 0,O_ 13 (.mv (t_ 72)) 0] (some [[],[0],[],[2],[0,1],[1,0,4,2,3]]) 0 []) (.join (.seq (R_ 0 [O_ 73 (.mv (t_ 1)) 0,O_ 74 (.mv (t_ 9)) 0,O_ 75 (.ixs 2 (t_ 73) (t_ 74)) 0,O_ 76 (.fa 1 (t_ 75)) 0,O_ 77 (.ld 1 false (t_ 76)) 0]) (.cond (t_ 77) (.seq (R_ 0 [O_ 79 (.ld 2 true (t_ 5)) 0,O_ 80 (.ld 8 true (t_ 6)) 0,O_ 81 (.cl 60 [(t_ 79),(t_ 80)]) 0,O_ 78 (.mv (t_ 81)) 0,O_ 82 (.ex (t_ 78) 0) 0,O_ 83 (.ex (t_ 78) 1) 0,U_ (.st 2 (t_ 10) (t_ 82)) 0,U_ (.st 8 (t_ 11) (t_ 83)) 0]) (R_ 0 [O_ 84 (.mv (t_ 13)) 0,O_ 85 (.mv (t_ 12)) 0,O_ 12 (.mv (t_ 84)) 0,O_ 13 (.mv (t_ 85)) 0])) .skip)) (.seq (R_ 0 [O_ 86 (.mv (t_ 1)) 0,O_ 87 (.mv (t_ 9)) 0,O_ 88 (.ixs 2 (t_ 86) (t_ 87)) 0,O_ 89 (.fa 0 (t_ 88)) 0,O_ 90 (.ld 1 false (t_ 89)) 0,O_ 91 (.bin .rem (t_ 90) (.const (.int .u8 4))) 0,O_ 92 (.bin .add (.const (.int .u8 7)) (t_ 91)) 0,O_ 14 (.mv (t_ 92)) 0]) (.seq (R_ 2 [O_ 94 (.ld 2 true (t_ 10)) 0,O_ 95 (.ld 8 true (t_ 11)) 0,O_ 96 (.mv (t_ 14)) 0,O_ 97 (.cl 56 [(t_ 94),(t_ 95),(t_ 96)]) 0,O_ 93 (.mv (t_ 97)) 0,O_ 98 (.ex (t_ 93) 0) 0,O_ 99 (.ex (t_ 93) 1) 0,O_ 100 (.ex (t_ 93) 2) 0,O_ 15 (.al (.agg [(.lit (.int .i64 0)),(.lit (.int .i64 0)),(.sl [] true),(.sl [] true),(.lit (.int .i64 0)),(.lit (.int .i64 0)),(.sl [] true),(.sl [] true)])) 0,O_ 16 (.al (.agg [(.lit (.bool false)),(.lit (.bool false)),(.lit (.bool false)),(.lit (.bool false))])) 1,U_ (.st 8 (t_ 15) (t_ 98)) 2,U_ (.st 4 (t_ 16) (t_ 99)) 2,O_ 17 (.mv (t_ 100)) 2]) (.join (.seq (R_ 0 [O_ 101 (.mv (t_ 17)) 0,O_ 102 (.bin .neq (t_ 101) (i_ 0)) 0,O_ 103 (.mv (t_ 102)) 0,⟨(some 104),.mv (t_ 17),(some (103,true)),0⟩,⟨(some 105),.bin .neq (t_ 104) (i_ 7),(some (103,true)),0⟩,⟨(some 106),.mv (t_ 105),(some (103,true)),0⟩,⟨(some 107),.fa 0 (t_ 15),(some (106,false)),0⟩,⟨(some 108),.ld 4 true (t_ 107),(some (106,false)),0⟩,⟨(some 109),.fa 0 (t_ 11),(some (106,false)),0⟩,⟨(some 110),.ld 4 true (t_ 109),(some (106,false)),0⟩,⟨(some 111),.cl 74 [(t_ 108),(t_ 110)],(some (106,false)),0⟩,⟨(some 112),.un .not (t_ 111),(some (106,false)),0⟩,⟨(some 113),.pick (t_ 106) (b_ true) (t_ 112),(some (103,true)),0⟩,⟨(some 114),.mv (t_ 113),(some (103,true)),0⟩,⟨(some 115),.fa 4 (t_ 15),(some (114,false)),0⟩,⟨(some 116),.ld 4 true (t_ 115),(some (114,false)),0⟩,⟨(some 117),.fa 4 (t_ 11),(some (114,false)),0⟩,⟨(some 118),.ld 4 true (t_ 117),(some (114,false)),0⟩,⟨(some 119),.cl 74 [(t_ 116),(t_ 118)],(some (114,false)),0⟩,⟨(some 120),.un .not (t_ 119),(some (114,false)),0⟩,⟨(some 121),.pick (t_ 114) (b_ true) (t_ 120),(some (103,true)),0⟩,⟨(some 122),.mv (t_ 121),(some (103,true)),0⟩,⟨(some 123),.mv (t_ 12),(some (122,false)),0⟩,⟨(some 124),.un .not (t_ 123),(some (122,false)),0⟩,⟨(some 125),.mv (t_ 124),(some (122,false)),0⟩,⟨(some 126),.mv (t_ 13),(some (125,true)),0⟩,⟨(some 127),.un .not (t_ 126),(some (125,true)),0⟩,⟨(some 128),.pick (t_ 125) (t_ 127) (b_ false),(some (122,false)),0⟩,⟨(some 129),.pick (t_ 122) (b_ true) (t_ 128),(some (103,true)),0⟩,⟨(some 130),.mv (t_ 129),(some (103,true)),0⟩,⟨(some 131),.mv (t_ 14),(some (130,false)),0⟩,⟨(some 132),.bin .neq (t_ 131) (.const (.int .u8 7)),(some (130,false)),0⟩,⟨(some 133),.pick (t_ 130) (b_ true) (t_ 132),(some (103,true)),0⟩,O_ 134 (.pick (t_ 103) (t_ 133) (b_ false)) 0,O_ 135 (.mv (t_ 134)) 0,⟨(some 136),.mv (t_ 17),(some (135,false)),0⟩,⟨(some 137),.bin .eql (t_ 136) (i_ 0),(some (135,false)),0⟩,⟨(some 138),.mv (t_ 137),(some (135,false)),0⟩,⟨(some 139),.mv (t_ 14),(some (138,true)),0⟩,⟨(some 140),.bin .eql (t_ 139) (.const (.int .u8 7)),(some (138,true)),0⟩,⟨(some 141),.pick (t_ 138) (t_ 140) (b_ false),(some (135,false)),0⟩,⟨(some 142),.mv (t_ 141),(some (135,false)),0⟩,⟨(some 143),.mv (t_ 12),(some (142,true)),0⟩,⟨(some 144),.mv (t_ 143),(some (142,true)),0⟩,⟨(some 145),.mv (t_ 13),(some (144,false)),0⟩,⟨(some 146),.pick (t_ 144) (b_ true) (t_ 145),(some (142,true)),0⟩,⟨(some 147),.pick (t_ 142) (t_ 146) (b_ false),(some (135,false)),0⟩,⟨(some 148),.mv (t_ 147),(some (135,false)),0⟩,⟨(some 149),.fa 0 (t_ 16),(some (148,true)),0⟩,⟨(some 150),.ld 1 false (t_ 149),(some (148,true)),0⟩,⟨(some 151),.pick (t_ 148) (t_ 150) (b_ false),(some (135,false)),0⟩,O_ 152 (.pick (t_ 135) (b_ true) (t_ 151)) 0]) (.cond (t_ 152) (.seq (R_ 0 [O_ 4 (.mv (b_ false)) 0]) .ret) .skip)) (.seq (R_ 0 [O_ 153 (.ld 8 true (t_ 15)) 0,U_ (.st 8 (t_ 6) (t_ 153)) 0]) (.seq (.seq (R_ 0 [O_ 154 (.mv (t_ 1)) 0,O_ 155 (.mv (t_ 9)) 0,O_ 156 (.ixs 2 (t_ 154) (t_ 155)) 0,O_ 157 (.fa 1 (t_ 156)) 0,O_ 158 (.ld 1 false (t_ 157)) 0]) (.cond (t_ 158) (R_ 0 [O_ 160 (.ld 2 true (t_ 10)) 0,O_ 161 (.ld 8 true (t_ 15)) 0,O_ 162 (.cl 60 [(t_ 160),(t_ 161)]) 0,O_ 159 (.mv (t_ 162)) 0,O_ 163 (.ex (t_ 159) 0) 0,O_ 164 (.ex (t_ 159) 1) 0,U_ (.st 8 (t_ 6) (t_ 164)) 0]) .skip)) (.seq (R_ 0 [O_ 165 (.ld 2 true (t_ 5)) 0,O_ 166 (.ld 8 true (t_ 6)) 0,O_ 167 (.cl 66 [(t_ 165),(t_ 166)]) 0,O_ 168 (.un .not (t_ 167)) 0]) (.cond (t_ 168) (.seq (R_ 0 [O_ 4 (.mv (b_ false)) 0]) .ret) .skip))))))))))) (R_ 0 [O_ 65 (.mv (t_ 9)) 0,O_ 66 (.bin .add (t_ 65) (i_ 1)) 0,O_ 9 (.mv (t_ 66)) 0])))))) (.seq (R_ 0 [O_ 169 (.cl 54 []) 0,O_ 4 (.mv (t_ 169)) 0]) .ret)))))))
theorem gc9_ok:compF Tryz.prog Tryz.f9=some (gc9.er,170,[.tmp 4]):=by unfold gc9;kernel_rfl
theorem p_law22_PairRefused_v {u1:Bool} (a0:Ar2_Bool) (a1:List PairAct):CallsO Tryz.prog 9 [.agg [.b a0.a0,.b a0.a1],.sl (List.map PairAct.v a1) u1] V.b (tru? (p_law22_PairRefused a0 a1)):=by
 refine callsO_comp mix Tryz.func9 gc9_ok fun r H=>?_
 have H1:=tru_of H
 clear H
 obtain ⟨rfl,H⟩:=H1
 rw [p_law22_PairRefused] at H
 conv=>whnf
 refine LenQ.M ?_;conv=>whnf
 refine tst_c H (fun b1 H=>?_) (fun b1 H=>?_)
 ·conv=>whnf
  refine ask_c (p_law22_awake_v) H rfl rfl (fun v2 H=>?_);conv=>whnf
  exact fb_ H
 conv=>whnf
 refine lq_ ?_;conv=>whnf
 obtain ⟨o4,HL5,HQ6⟩:=bind_c H
 refine loop_c [7] [8,23,24,25,26,27,28,29,30,31,32,33,34,35,36,37,38,39,40,41,42,43,44,45,46,47,48,49,50,51,52,53,54,55,56,57,58,59,60] [8,23,24,25,26,27,28,29,30,31,32,33,34,35,36,37,38,39,40,41,42,43,44,45,46,47,48,49,50,51,52,53,54,55,56,57,58,59,60] (fun n vals st=>(∃ y8 y9 u10 u11 u12 u13,p_law22_PairRefused_l1  a0 n y8 y9=some o4∧vals=[.i y8]∧st=[.live [.b a0.a0,.b a0.a1] 0,.live [.s (⟨#[97,110,110,64,120]⟩ : ByteArray),.s (⟨#[98,111,98,64,121]⟩ : ByteArray)] 0,.live [.i y9.A.Ver,.i y9.A.Floor,.sl (List.map ItemItem.v y9.A.Items) u10,.sl (List.map RosterGone.v y9.A.Gone) u11,.i y9.B.Ver,.i y9.B.Floor,.sl (List.map ItemItem.v y9.B.Items) u12,.sl (List.map RosterGone.v y9.B.Gone) u13] 0])) fuel 3 [] (⟨_,_,_,_,_,_,HL5,rfl,rfl⟩) (Nat.zero_le _) rfl (by kernel_rfl) (by kernel_rfl) rfl ⟨⟨rfl,rfl,rfl⟩,⟨⟨rfl,rfl,rfl⟩,⟨⟨rfl,rfl,rfl⟩,trivial⟩⟩⟩ ?_
 rintro (_ | n7) _ _ (⟨y8,y9,u10,u11,u12,u13,H,rfl,rfl⟩)
 ·rw [p_law22_PairRefused_l1] at H;cases H
 rw [p_law22_PairRefused_l1] at H
 conv=>whnf
 refine tst_c H (fun b14 H=>?_) (fun b14 H=>?_)
 ·conv=>whnf
  iterate 2 (refine Ari.w ?_;conv=>whnf)
  refine b2sO_c H rfl rfl rfl (fun s15 H=>?_);conv=>whnf
  refine cat_c H (fun s16 H=>?_);conv=>whnf
  obtain ⟨K17,hK18,o19,HL20,HQ21⟩:=join0_c H
  refine join_c [2,5,6] [33,34,35,36,37,38,39,40,41,42,43,44,45,46,30] (fun vals st=>(∃ y25,K17 y25=some o4∧vals=[.ptr 0 0,.ptr 1 0,.ptr 2 0]∧st=[.live [.b a0.a0,.b a0.a1] 0,.live [.s (⟨#[97,110,110,64,120]⟩ : ByteArray),.s (⟨#[98,111,98,64,121]⟩ : ByteArray)] 0,.live [.i y25.A.Ver,.i y25.A.Floor,.sl (List.map ItemItem.v y25.A.Items) false,.sl (List.map RosterGone.v y25.A.Gone) false,.i y25.B.Ver,.i y25.B.Floor,.sl (List.map ItemItem.v y25.B.Items) u12,.sl (List.map RosterGone.v y25.B.Gone) u13] 0])∨(∃ y28,K17 y28=some o4∧vals=[.ptr 0 0,.ptr 1 0,.ptr 2 0]∧st=[.live [.b a0.a0,.b a0.a1] 0,.live [.s (⟨#[97,110,110,64,120]⟩ : ByteArray),.s (⟨#[98,111,98,64,121]⟩ : ByteArray)] 0,.live [.i y28.A.Ver,.i y28.A.Floor,.sl (List.map ItemItem.v y28.A.Items) u10,.sl (List.map RosterGone.v y28.A.Gone) u11,.i y28.B.Ver,.i y28.B.Floor,.sl (List.map ItemItem.v y28.B.Items) u12,.sl (List.map RosterGone.v y28.B.Gone) u13] 0])) ?_ ?_
  ·have H:=HL20
   conv=>whnf
   refine IxO.ok (by decide) (by decide) ?_;conv=>whnf
   refine tst_c H (fun b23 H=>?_) (fun b23 H=>?_)
   ·conv=>whnf
    iterate 3 (refine Tst.T ?_;conv=>whnf)
    refine ask_c (p_roster_Set_v _ _ _) H rfl rfl (fun v24 H=>?_);conv=>whnf
    refine lq_ ?_;conv=>whnf
    obtain rfl:=Option.some.inj H
    exact arrive_c [33,34,35,36,37,38,39,40,41,42,43,44,45,46,30] 3 [] (.inl (⟨_,HQ21,rfl,rfl⟩)) (Nat.zero_le _) rfl (by kernel_rfl) (by kernel_rfl) rfl ⟨⟨rfl,rfl,rfl⟩,⟨⟨rfl,rfl,rfl⟩,⟨⟨rfl,rfl,rfl⟩,trivial⟩⟩⟩
   conv=>whnf
   iterate 2 (refine Tst.F ?_;conv=>whnf)
   refine tst_d H (fun b26 H=>?_) (fun b26 H=>?_)
   ·conv=>whnf
    obtain rfl:=Option.some.inj H
    exact arrive_c [33,34,35,36,37,38,39,40,41,42,43,44,45,46,30] 3 [] (.inr (⟨_,HQ21,rfl,rfl⟩)) (Nat.zero_le _) rfl (by kernel_rfl) (by kernel_rfl) rfl ⟨⟨rfl,rfl,rfl⟩,⟨⟨rfl,rfl,rfl⟩,⟨⟨rfl,rfl,rfl⟩,trivial⟩⟩⟩
   conv=>whnf
   refine ask_c (p_roster_Set_v _ _ _) H rfl rfl (fun v27 H=>?_);conv=>whnf
   refine lq_ ?_;conv=>whnf
   obtain rfl:=Option.some.inj H
   exact arrive_c [33,34,35,36,37,38,39,40,41,42,43,44,45,46,30] 3 [] (.inl (⟨_,HQ21,rfl,rfl⟩)) (Nat.zero_le _) rfl (by kernel_rfl) (by kernel_rfl) rfl ⟨⟨rfl,rfl,rfl⟩,⟨⟨rfl,rfl,rfl⟩,⟨⟨rfl,rfl,rfl⟩,trivial⟩⟩⟩
  rintro _ _ (⟨y25,H,rfl,rfl⟩ | ⟨y28,H,rfl,rfl⟩)
  ·rw [hK18] at H
   try dsimp only at H
   conv=>whnf
   refine IxO.ok (by decide) (by decide) ?_;conv=>whnf
   refine tst_c H (fun b29 H=>?_) (fun b29 H=>?_)
   ·conv=>whnf
    iterate 3 (refine Tst.T ?_;conv=>whnf)
    refine ask_c (p_roster_Set_v _ _ _) H rfl rfl (fun v30 H=>?_);conv=>whnf
    refine lq_ ?_;conv=>whnf
    refine Ari.w ?_;conv=>whnf
    exact again_c [8,23,24,25,26,27,28,29,30,31,32,33,34,35,36,37,38,39,40,41,42,43,44,45,46,47,48,49,50,51,52,53,54,55,56,57,58,59,60] n7 3 [] (⟨_,_,_,_,_,_,H,rfl,rfl⟩) (Nat.lt_succ_self _) (Nat.zero_le _) rfl (by kernel_rfl) (by kernel_rfl) rfl ⟨⟨rfl,rfl,rfl⟩,⟨⟨rfl,rfl,rfl⟩,⟨⟨rfl,rfl,rfl⟩,trivial⟩⟩⟩
   conv=>whnf
   iterate 2 (refine Tst.F ?_;conv=>whnf)
   refine tst_d H (fun b33 H=>?_) (fun b33 H=>?_)
   ·conv=>whnf
    refine Ari.w ?_;conv=>whnf
    exact again_c [8,23,24,25,26,27,28,29,30,31,32,33,34,35,36,37,38,39,40,41,42,43,44,45,46,47,48,49,50,51,52,53,54,55,56,57,58,59,60] n7 3 [] (⟨_,_,_,_,_,_,H,rfl,rfl⟩) (Nat.lt_succ_self _) (Nat.zero_le _) rfl (by kernel_rfl) (by kernel_rfl) rfl ⟨⟨rfl,rfl,rfl⟩,⟨⟨rfl,rfl,rfl⟩,⟨⟨rfl,rfl,rfl⟩,trivial⟩⟩⟩
   conv=>whnf
   refine ask_c (p_roster_Set_v _ _ _) H rfl rfl (fun v34 H=>?_);conv=>whnf
   refine lq_ ?_;conv=>whnf
   refine Ari.w ?_;conv=>whnf
   exact again_c [8,23,24,25,26,27,28,29,30,31,32,33,34,35,36,37,38,39,40,41,42,43,44,45,46,47,48,49,50,51,52,53,54,55,56,57,58,59,60] n7 3 [] (⟨_,_,_,_,_,_,H,rfl,rfl⟩) (Nat.lt_succ_self _) (Nat.zero_le _) rfl (by kernel_rfl) (by kernel_rfl) rfl ⟨⟨rfl,rfl,rfl⟩,⟨⟨rfl,rfl,rfl⟩,⟨⟨rfl,rfl,rfl⟩,trivial⟩⟩⟩
  rw [hK18] at H
  try dsimp only at H
  conv=>whnf
  refine IxO.ok (by decide) (by decide) ?_;conv=>whnf
  refine tst_c H (fun b39 H=>?_) (fun b39 H=>?_)
  ·conv=>whnf
   iterate 3 (refine Tst.T ?_;conv=>whnf)
   refine ask_c (p_roster_Set_v _ _ _) H rfl rfl (fun v40 H=>?_);conv=>whnf
   refine lq_ ?_;conv=>whnf
   refine Ari.w ?_;conv=>whnf
   exact again_c [8,23,24,25,26,27,28,29,30,31,32,33,34,35,36,37,38,39,40,41,42,43,44,45,46,47,48,49,50,51,52,53,54,55,56,57,58,59,60] n7 3 [] (⟨_,_,_,_,_,_,H,rfl,rfl⟩) (Nat.lt_succ_self _) (Nat.zero_le _) rfl (by kernel_rfl) (by kernel_rfl) rfl ⟨⟨rfl,rfl,rfl⟩,⟨⟨rfl,rfl,rfl⟩,⟨⟨rfl,rfl,rfl⟩,trivial⟩⟩⟩
  conv=>whnf
  iterate 2 (refine Tst.F ?_;conv=>whnf)
  refine tst_d H (fun b43 H=>?_) (fun b43 H=>?_)
  ·conv=>whnf
   refine Ari.w ?_;conv=>whnf
   exact again_c [8,23,24,25,26,27,28,29,30,31,32,33,34,35,36,37,38,39,40,41,42,43,44,45,46,47,48,49,50,51,52,53,54,55,56,57,58,59,60] n7 3 [] (⟨_,_,_,_,_,_,H,rfl,rfl⟩) (Nat.lt_succ_self _) (Nat.zero_le _) rfl (by kernel_rfl) (by kernel_rfl) rfl ⟨⟨rfl,rfl,rfl⟩,⟨⟨rfl,rfl,rfl⟩,⟨⟨rfl,rfl,rfl⟩,trivial⟩⟩⟩
  conv=>whnf
  refine ask_c (p_roster_Set_v _ _ _) H rfl rfl (fun v44 H=>?_);conv=>whnf
  refine lq_ ?_;conv=>whnf
  refine Ari.w ?_;conv=>whnf
  exact again_c [8,23,24,25,26,27,28,29,30,31,32,33,34,35,36,37,38,39,40,41,42,43,44,45,46,47,48,49,50,51,52,53,54,55,56,57,58,59,60] n7 3 [] (⟨_,_,_,_,_,_,H,rfl,rfl⟩) (Nat.lt_succ_self _) (Nat.zero_le _) rfl (by kernel_rfl) (by kernel_rfl) rfl ⟨⟨rfl,rfl,rfl⟩,⟨⟨rfl,rfl,rfl⟩,⟨⟨rfl,rfl,rfl⟩,trivial⟩⟩⟩
 conv=>whnf
 obtain rfl:=Option.some.inj H
 have H:=HQ6
 try dsimp only at H
 obtain ⟨o50,HL51,HQ52⟩:=bind_c H
 refine loop_c [4,9] [10,11,12,13,14,15,16,17,61,62,63,64,65,66,67,68,69,70,71,72,73,74,75,76,77,78,79,80,81,82,83,84,85,86,87,88,89,90,91,92,93,94,95,96,97,98,99,100,101,102,103,104,105,106,107,108,109,110,111,112,113,114,115,116,117,118,119,120,121,122,123,124,125,126,127,128,129,130,131,132,133,134,135,136,137,138,139,140,141,142,143,144,145,146,147,148,149,150,151,152,153,154,155,156,157,158,159,160,161,162,163,164,165,166,167,168] [10,11,12,13,14,15,16,17,61,62,63,64,65,66,67,68,69,70,71,72,73,74,75,76,77,78,79,80,81,82,83,84,85,86,87,88,89,90,91,92,93,94,95,96,97,98,99,100,101,102,103,104,105,106,107,108,109,110,111,112,113,114,115,116,117,118,119,120,121,122,123,124,125,126,127,128,129,130,131,132,133,134,135,136,137,138,139,140,141,142,143,144,145,146,147,148,149,150,151,152,153,154,155,156,157,158,159,160,161,162,163,164,165,166,167,168] (fun n vals st=>(∃ y54 y55 u56 u57 u58 u59,p_law22_PairRefused_l2  a1 a0 (Ref22Names.mk (⟨#[97,110,110,64,120]⟩ : ByteArray) (⟨#[98,111,98,64,121]⟩ : ByteArray)) n y54 y55=some o50∧vals=[.b false,.i y54]∧st=[.live [.b a0.a0,.b a0.a1] 0,.live [.s (⟨#[97,110,110,64,120]⟩ : ByteArray),.s (⟨#[98,111,98,64,121]⟩ : ByteArray)] 0,.live [.i y55.A.Ver,.i y55.A.Floor,.sl (List.map ItemItem.v y55.A.Items) u56,.sl (List.map RosterGone.v y55.A.Gone) u57,.i y55.B.Ver,.i y55.B.Floor,.sl (List.map ItemItem.v y55.B.Items) u58,.sl (List.map RosterGone.v y55.B.Gone) u59] 0])) fuel 3 [] (⟨_,_,_,_,_,_,HL51,rfl,rfl⟩) (Nat.zero_le _) rfl (by kernel_rfl) (by kernel_rfl) rfl ⟨⟨rfl,rfl,rfl⟩,⟨⟨rfl,rfl,rfl⟩,⟨⟨rfl,rfl,rfl⟩,trivial⟩⟩⟩ ?_
 rintro (_ | n53) _ _ (⟨y54,y55,u56,u57,u58,u59,H,rfl,rfl⟩)
 ·rw [p_law22_PairRefused_l2] at H;cases H
 rw [p_law22_PairRefused_l2] at H
 conv=>whnf
 refine LenQ.M ?_;conv=>whnf
 refine tst_d H (fun b60 H=>?_) (fun b60 H=>?_)
 ·conv=>whnf
  obtain rfl:=Option.some.inj H
  have H:=HQ52
  try dsimp only at H
  refine ask_c (p_law22_awake_v) H rfl rfl (fun v160 H=>?_);conv=>whnf
  exact fb_ H
 conv=>whnf
 refine lq_ ?_;conv=>whnf
 refine lq_ ?_;conv=>whnf
 refine FootQ.mk ⟨rfl,?_⟩;conv=>whnf
 refine IxO.ok (by decide) (by decide) ?_;conv=>whnf
 refine IxO.ok (by decide) (by decide) ?_;conv=>whnf
 refine FootQ.mk ⟨rfl,?_⟩;conv=>whnf
 obtain ⟨K61,hK62,o63,HL64,HQ65⟩:=join0_c H
 refine join_c [12,13,2,5,6,10,11] [73,74,75,76,77,78,79,80,81,82,83,84,85,69,71] (fun vals st=>(∃ y70 y71 y72 y73,K61 (y70,y71,y72,y73)=some o50∧vals=[.b y70,.b y71,.ptr 0 0,.ptr 1 0,.ptr 2 0,.ptr 3 0,.ptr 4 0]∧st=[.live [.b a0.a0,.b a0.a1] 0,.live [.s (⟨#[97,110,110,64,120]⟩ : ByteArray),.s (⟨#[98,111,98,64,121]⟩ : ByteArray)] 0,.live [.i y55.A.Ver,.i y55.A.Floor,.sl (List.map ItemItem.v y55.A.Items) u56,.sl (List.map RosterGone.v y55.A.Gone) u57,.i y55.B.Ver,.i y55.B.Floor,.sl (List.map ItemItem.v y55.B.Items) u58,.sl (List.map RosterGone.v y55.B.Gone) u59] 0,.live [.s y72.A,.s y72.B] 0,.live [.i y73.A.Ver,.i y73.A.Floor,.sl (List.map ItemItem.v y73.A.Items) false,.sl (List.map RosterGone.v y73.A.Gone) false,.i y73.B.Ver,.i y73.B.Floor,.sl (List.map ItemItem.v y73.B.Items) false,.sl (List.map RosterGone.v y73.B.Gone) false] 0])∨(∃ y74 y75 y76 y77,K61 (y74,y75,y76,y77)=some o50∧vals=[.b y74,.b y75,.ptr 0 0,.ptr 1 0,.ptr 2 0,.ptr 3 0,.ptr 4 0]∧st=[.live [.b a0.a0,.b a0.a1] 0,.live [.s (⟨#[97,110,110,64,120]⟩ : ByteArray),.s (⟨#[98,111,98,64,121]⟩ : ByteArray)] 0,.live [.i y55.A.Ver,.i y55.A.Floor,.sl (List.map ItemItem.v y55.A.Items) u56,.sl (List.map RosterGone.v y55.A.Gone) u57,.i y55.B.Ver,.i y55.B.Floor,.sl (List.map ItemItem.v y55.B.Items) u58,.sl (List.map RosterGone.v y55.B.Gone) u59] 0,.live [.s y76.A,.s y76.B] 0,.live [.i y77.A.Ver,.i y77.A.Floor,.sl (List.map ItemItem.v y77.A.Items) u56,.sl (List.map RosterGone.v y77.A.Gone) u57,.i y77.B.Ver,.i y77.B.Floor,.sl (List.map ItemItem.v y77.B.Items) u58,.sl (List.map RosterGone.v y77.B.Gone) u59] 0])) ?_ ?_
 ·have H:=HL64
  conv=>whnf
  refine ixs_c (f:=PairAct.v) H (fun _=>rfl) (fun x67 H=>?_);conv=>whnf
  refine lq_ ?_;conv=>whnf
  refine tst_d H (fun b68 H=>?_) (fun b68 H=>?_)
  ·conv=>whnf
   obtain rfl:=Option.some.inj H
   exact arrive_c [73,74,75,76,77,78,79,80,81,82,83,84,85,69,71] 5 [] (.inr (⟨_,_,_,_,HQ65,rfl,rfl⟩)) (Nat.zero_le _) rfl (by kernel_rfl) (by kernel_rfl) rfl ⟨⟨rfl,rfl,rfl⟩,⟨⟨rfl,rfl,rfl⟩,⟨⟨rfl,rfl,rfl⟩,⟨⟨rfl,rfl,rfl⟩,⟨⟨rfl,rfl,rfl⟩,trivial⟩⟩⟩⟩⟩
  conv=>whnf
  refine ask_c (p_pair_Turn_v _ _) H rfl rfl (fun v69 H=>?_);conv=>whnf
  refine lq_ ?_;conv=>whnf
  refine lq_ ?_;conv=>whnf
  obtain rfl:=Option.some.inj H
  exact arrive_c [73,74,75,76,77,78,79,80,81,82,83,84,85,69,71] 5 [] (.inl (⟨_,_,_,_,HQ65,rfl,rfl⟩)) (Nat.zero_le _) rfl (by kernel_rfl) (by kernel_rfl) rfl ⟨⟨rfl,rfl,rfl⟩,⟨⟨rfl,rfl,rfl⟩,⟨⟨rfl,rfl,rfl⟩,⟨⟨rfl,rfl,rfl⟩,⟨⟨rfl,rfl,rfl⟩,trivial⟩⟩⟩⟩⟩
 rintro _ _ (⟨y70,y71,y72,y73,H,rfl,rfl⟩ | ⟨y74,y75,y76,y77,H,rfl,rfl⟩)
 ·rw [hK62] at H
  try dsimp only at H
  conv=>whnf
  refine ixs_c (f:=PairAct.v) H (fun _=>rfl) (fun x78 H=>?_);conv=>whnf
  refine lq_ ?_;conv=>whnf
  refine ⟨by decide,?_⟩;conv=>whnf
  refine Ari.w ?_;conv=>whnf
  refine ask_c (p_pair_Say_v _ _ _) H rfl rfl (fun v79 H=>?_);conv=>whnf
  refine lq_ ?_;conv=>whnf
  refine lq_ ?_;conv=>whnf
  obtain ⟨K80,hK81,o82,HL83,HQ84⟩:=join0_c H
  refine join_c [4,2,5,6,10,15] [101,102,103,104,105,106,107,108,109,110,111,112,113,114,115,116,117,118,119,120,121,122,123,124,125,126,127,128,129,130,131,132,133,134,135,136,137,138,139,140,141,142,143,144,145,146,147,148,149,150,151,152,11,16] (fun vals st=>(K80 (.inr ())=some o50∧vals=[.b false,.ptr 0 0,.ptr 1 0,.ptr 2 0,.ptr 3 0,.ptr 4 0]∧st=[.live [.b a0.a0,.b a0.a1] 0,.live [.s (⟨#[97,110,110,64,120]⟩ : ByteArray),.s (⟨#[98,111,98,64,121]⟩ : ByteArray)] 0,.live [.i y55.A.Ver,.i y55.A.Floor,.sl (List.map ItemItem.v y55.A.Items) u56,.sl (List.map RosterGone.v y55.A.Gone) u57,.i y55.B.Ver,.i y55.B.Floor,.sl (List.map ItemItem.v y55.B.Items) u58,.sl (List.map RosterGone.v y55.B.Gone) u59] 0,.live [.s y72.A,.s y72.B] 0,.live [.i v79.1.A.Ver,.i v79.1.A.Floor,.sl (List.map ItemItem.v v79.1.A.Items) false,.sl (List.map RosterGone.v v79.1.A.Gone) false,.i v79.1.B.Ver,.i v79.1.B.Floor,.sl (List.map ItemItem.v v79.1.B.Items) false,.sl (List.map RosterGone.v v79.1.B.Gone) false] 0])) ?_ ?_
  ·have H:=HL83
   conv=>whnf
   refine tst_d H (fun b86 H=>?_) (fun b86 H=>?_)
   ·conv=>whnf
    iterate 13 (refine Tst.F ?_;conv=>whnf)
    refine tst_d H (fun b102 H=>?_) (fun b102 H=>?_)
    ·conv=>whnf
     iterate 16 (refine Tst.F ?_;conv=>whnf)
     obtain rfl:=Option.some.inj H
     exact arrive_c [101,102,103,104,105,106,107,108,109,110,111,112,113,114,115,116,117,118,119,120,121,122,123,124,125,126,127,128,129,130,131,132,133,134,135,136,137,138,139,140,141,142,143,144,145,146,147,148,149,150,151,152,11,16] 5 [0,1,2,3,5] (⟨HQ84,rfl,rfl⟩) (Nat.zero_le _) rfl (by kernel_rfl) (by kernel_rfl) rfl ⟨⟨rfl,rfl,rfl⟩,⟨⟨rfl,rfl,rfl⟩,⟨⟨rfl,rfl,rfl⟩,⟨⟨rfl,rfl,rfl⟩,⟨⟨rfl,rfl,rfl⟩,trivial⟩⟩⟩⟩⟩
    conv=>whnf
    refine Tst.T ?_;conv=>whnf
    refine Tst.F ?_;conv=>whnf
    refine Tst.T ?_;conv=>whnf
    refine Tst.F ?_;conv=>whnf
    refine tst_d H (fun b103 H=>?_) (fun b103 H=>?_)
    ·conv=>whnf
     iterate 11 (refine Tst.F ?_;conv=>whnf)
     obtain rfl:=Option.some.inj H
     exact arrive_c [101,102,103,104,105,106,107,108,109,110,111,112,113,114,115,116,117,118,119,120,121,122,123,124,125,126,127,128,129,130,131,132,133,134,135,136,137,138,139,140,141,142,143,144,145,146,147,148,149,150,151,152,11,16] 5 [0,1,2,3,5] (⟨HQ84,rfl,rfl⟩) (Nat.zero_le _) rfl (by kernel_rfl) (by kernel_rfl) rfl ⟨⟨rfl,rfl,rfl⟩,⟨⟨rfl,rfl,rfl⟩,⟨⟨rfl,rfl,rfl⟩,⟨⟨rfl,rfl,rfl⟩,⟨⟨rfl,rfl,rfl⟩,trivial⟩⟩⟩⟩⟩
    conv=>whnf
    refine Tst.T ?_;conv=>whnf
    refine tst_c H (fun b104 H=>?_) (fun b104 H=>?_)
    ·conv=>whnf
     iterate 2 (refine Tst.T ?_;conv=>whnf)
     refine Tst.F ?_;conv=>whnf
     refine Tst.T ?_;conv=>whnf
     refine Tst.F ?_;conv=>whnf
     iterate 2 (refine Tst.T ?_;conv=>whnf)
     refine Tst.F ?_;conv=>whnf
     refine Tst.T ?_;conv=>whnf
     refine Tst.F ?_;conv=>whnf
     refine tst_c H (fun b105 H=>?_) (fun b105 H=>?_)
     ·conv=>whnf
      obtain rfl:=Option.some.inj H
      have H:=HQ84
      rw [hK81] at H
      try dsimp only at H
      obtain rfl:=Option.some.inj H
      have H:=HQ52
      try dsimp only at H
      exact fb_ H
     conv=>whnf
     obtain rfl:=Option.some.inj H
     exact arrive_c [101,102,103,104,105,106,107,108,109,110,111,112,113,114,115,116,117,118,119,120,121,122,123,124,125,126,127,128,129,130,131,132,133,134,135,136,137,138,139,140,141,142,143,144,145,146,147,148,149,150,151,152,11,16] 5 [0,1,2,3,5] (⟨HQ84,rfl,rfl⟩) (Nat.zero_le _) rfl (by kernel_rfl) (by kernel_rfl) rfl ⟨⟨rfl,rfl,rfl⟩,⟨⟨rfl,rfl,rfl⟩,⟨⟨rfl,rfl,rfl⟩,⟨⟨rfl,rfl,rfl⟩,⟨⟨rfl,rfl,rfl⟩,trivial⟩⟩⟩⟩⟩
    conv=>whnf
    refine Tst.T ?_;conv=>whnf
    iterate 2 (refine Tst.F ?_;conv=>whnf)
    refine Tst.T ?_;conv=>whnf
    refine Tst.F ?_;conv=>whnf
    refine tst_d H (fun b106 H=>?_) (fun b106 H=>?_)
    ·conv=>whnf
     iterate 5 (refine Tst.F ?_;conv=>whnf)
     obtain rfl:=Option.some.inj H
     exact arrive_c [101,102,103,104,105,106,107,108,109,110,111,112,113,114,115,116,117,118,119,120,121,122,123,124,125,126,127,128,129,130,131,132,133,134,135,136,137,138,139,140,141,142,143,144,145,146,147,148,149,150,151,152,11,16] 5 [0,1,2,3,5] (⟨HQ84,rfl,rfl⟩) (Nat.zero_le _) rfl (by kernel_rfl) (by kernel_rfl) rfl ⟨⟨rfl,rfl,rfl⟩,⟨⟨rfl,rfl,rfl⟩,⟨⟨rfl,rfl,rfl⟩,⟨⟨rfl,rfl,rfl⟩,⟨⟨rfl,rfl,rfl⟩,trivial⟩⟩⟩⟩⟩
    conv=>whnf
    refine Tst.T ?_;conv=>whnf
    refine Tst.F ?_;conv=>whnf
    refine Tst.T ?_;conv=>whnf
    refine Tst.F ?_;conv=>whnf
    refine tst_c H (fun b107 H=>?_) (fun b107 H=>?_)
    ·conv=>whnf
     obtain rfl:=Option.some.inj H
     have H:=HQ84
     rw [hK81] at H
     try dsimp only at H
     obtain rfl:=Option.some.inj H
     have H:=HQ52
     try dsimp only at H
     exact fb_ H
    conv=>whnf
    obtain rfl:=Option.some.inj H
    exact arrive_c [101,102,103,104,105,106,107,108,109,110,111,112,113,114,115,116,117,118,119,120,121,122,123,124,125,126,127,128,129,130,131,132,133,134,135,136,137,138,139,140,141,142,143,144,145,146,147,148,149,150,151,152,11,16] 5 [0,1,2,3,5] (⟨HQ84,rfl,rfl⟩) (Nat.zero_le _) rfl (by kernel_rfl) (by kernel_rfl) rfl ⟨⟨rfl,rfl,rfl⟩,⟨⟨rfl,rfl,rfl⟩,⟨⟨rfl,rfl,rfl⟩,⟨⟨rfl,rfl,rfl⟩,⟨⟨rfl,rfl,rfl⟩,trivial⟩⟩⟩⟩⟩
   conv=>whnf
   iterate 2 (refine Tst.T ?_;conv=>whnf)
   refine tst_c H (fun b87 H=>?_) (fun b87 H=>?_)
   ·conv=>whnf
    iterate 39 (refine Tst.T ?_;conv=>whnf)
    obtain rfl:=Option.some.inj H
    have H:=HQ84
    rw [hK81] at H
    try dsimp only at H
    obtain rfl:=Option.some.inj H
    have H:=HQ52
    try dsimp only at H
    exact fb_ H
   conv=>whnf
   iterate 4 (refine Tst.F ?_;conv=>whnf)
   refine ask_c (p_roster_Same_v _ _) H rfl rfl (fun v88 H=>?_);conv=>whnf
   refine Tst.F ?_;conv=>whnf
   refine Tst.T ?_;conv=>whnf
   refine Tst.F ?_;conv=>whnf
   refine Tst.T ?_;conv=>whnf
   refine Tst.not ?_
   refine tst_d H (fun b89 H=>?_) (fun b89 H=>?_)
   ·conv=>whnf
    iterate 30 (refine Tst.T ?_;conv=>whnf)
    obtain rfl:=Option.some.inj H
    have H:=HQ84
    rw [hK81] at H
    try dsimp only at H
    obtain rfl:=Option.some.inj H
    have H:=HQ52
    try dsimp only at H
    exact fb_ H
   conv=>whnf
   iterate 4 (refine Tst.F ?_;conv=>whnf)
   refine ask_c (p_roster_Same_v _ _) H rfl rfl (fun v90 H=>?_);conv=>whnf
   refine Tst.F ?_;conv=>whnf
   refine Tst.T ?_;conv=>whnf
   refine Tst.F ?_;conv=>whnf
   refine Tst.T ?_;conv=>whnf
   refine Tst.not ?_
   refine tst_d H (fun b91 H=>?_) (fun b91 H=>?_)
   ·conv=>whnf
    iterate 21 (refine Tst.T ?_;conv=>whnf)
    obtain rfl:=Option.some.inj H
    have H:=HQ84
    rw [hK81] at H
    try dsimp only at H
    obtain rfl:=Option.some.inj H
    have H:=HQ52
    try dsimp only at H
    exact fb_ H
   conv=>whnf
   iterate 2 (refine Tst.F ?_;conv=>whnf)
   refine Tst.not ?_
   refine tst_c H (fun b92 H=>?_) (fun b92 H=>?_)
   ·conv=>whnf
    iterate 3 (refine Tst.F ?_;conv=>whnf)
    refine Tst.T ?_;conv=>whnf
    refine Tst.F ?_;conv=>whnf
    refine Tst.T ?_;conv=>whnf
    iterate 2 (refine Tst.F ?_;conv=>whnf)
    refine Tst.T ?_;conv=>whnf
    refine Tst.F ?_;conv=>whnf
    refine Tst.T ?_;conv=>whnf
    refine tst_c H (fun b93 H=>?_) (fun b93 H=>?_)
    ·conv=>whnf
     iterate 9 (refine Tst.T ?_;conv=>whnf)
     obtain rfl:=Option.some.inj H
     have H:=HQ84
     rw [hK81] at H
     try dsimp only at H
     obtain rfl:=Option.some.inj H
     have H:=HQ52
     try dsimp only at H
     exact fb_ H
    conv=>whnf
    iterate 2 (refine Tst.F ?_;conv=>whnf)
    refine tst_d H (fun b94 H=>?_) (fun b94 H=>?_)
    ·conv=>whnf
     iterate 16 (refine Tst.F ?_;conv=>whnf)
     obtain rfl:=Option.some.inj H
     exact arrive_c [101,102,103,104,105,106,107,108,109,110,111,112,113,114,115,116,117,118,119,120,121,122,123,124,125,126,127,128,129,130,131,132,133,134,135,136,137,138,139,140,141,142,143,144,145,146,147,148,149,150,151,152,11,16] 5 [0,1,2,3,5] (⟨HQ84,rfl,rfl⟩) (Nat.zero_le _) rfl (by kernel_rfl) (by kernel_rfl) rfl ⟨⟨rfl,rfl,rfl⟩,⟨⟨rfl,rfl,rfl⟩,⟨⟨rfl,rfl,rfl⟩,⟨⟨rfl,rfl,rfl⟩,⟨⟨rfl,rfl,rfl⟩,trivial⟩⟩⟩⟩⟩
    conv=>whnf
    refine Tst.T ?_;conv=>whnf
    refine Tst.F ?_;conv=>whnf
    refine Tst.T ?_;conv=>whnf
    refine Tst.F ?_;conv=>whnf
    refine tst_d H (fun b95 H=>?_) (fun b95 H=>?_)
    ·conv=>whnf
     iterate 11 (refine Tst.F ?_;conv=>whnf)
     obtain rfl:=Option.some.inj H
     exact arrive_c [101,102,103,104,105,106,107,108,109,110,111,112,113,114,115,116,117,118,119,120,121,122,123,124,125,126,127,128,129,130,131,132,133,134,135,136,137,138,139,140,141,142,143,144,145,146,147,148,149,150,151,152,11,16] 5 [0,1,2,3,5] (⟨HQ84,rfl,rfl⟩) (Nat.zero_le _) rfl (by kernel_rfl) (by kernel_rfl) rfl ⟨⟨rfl,rfl,rfl⟩,⟨⟨rfl,rfl,rfl⟩,⟨⟨rfl,rfl,rfl⟩,⟨⟨rfl,rfl,rfl⟩,⟨⟨rfl,rfl,rfl⟩,trivial⟩⟩⟩⟩⟩
    conv=>whnf
    refine Tst.T ?_;conv=>whnf
    refine Tst.isT b92 ?_;conv=>whnf
    iterate 2 (refine Tst.T ?_;conv=>whnf)
    refine Tst.F ?_;conv=>whnf
    refine Tst.T ?_;conv=>whnf
    refine Tst.F ?_;conv=>whnf
    iterate 2 (refine Tst.T ?_;conv=>whnf)
    refine Tst.F ?_;conv=>whnf
    refine Tst.T ?_;conv=>whnf
    refine Tst.F ?_;conv=>whnf
    refine tst_c H (fun b96 H=>?_) (fun b96 H=>?_)
    ·conv=>whnf
     obtain rfl:=Option.some.inj H
     have H:=HQ84
     rw [hK81] at H
     try dsimp only at H
     obtain rfl:=Option.some.inj H
     have H:=HQ52
     try dsimp only at H
     exact fb_ H
    conv=>whnf
    obtain rfl:=Option.some.inj H
    exact arrive_c [101,102,103,104,105,106,107,108,109,110,111,112,113,114,115,116,117,118,119,120,121,122,123,124,125,126,127,128,129,130,131,132,133,134,135,136,137,138,139,140,141,142,143,144,145,146,147,148,149,150,151,152,11,16] 5 [0,1,2,3,5] (⟨HQ84,rfl,rfl⟩) (Nat.zero_le _) rfl (by kernel_rfl) (by kernel_rfl) rfl ⟨⟨rfl,rfl,rfl⟩,⟨⟨rfl,rfl,rfl⟩,⟨⟨rfl,rfl,rfl⟩,⟨⟨rfl,rfl,rfl⟩,⟨⟨rfl,rfl,rfl⟩,trivial⟩⟩⟩⟩⟩
   conv=>whnf
   refine Tst.T ?_;conv=>whnf
   refine Tst.F ?_;conv=>whnf
   iterate 2 (refine Tst.T ?_;conv=>whnf)
   refine Tst.F ?_;conv=>whnf
   refine Tst.T ?_;conv=>whnf
   refine Tst.not ?_
   refine tst_d H (fun b97 H=>?_) (fun b97 H=>?_)
   ·conv=>whnf
    iterate 14 (refine Tst.T ?_;conv=>whnf)
    obtain rfl:=Option.some.inj H
    have H:=HQ84
    rw [hK81] at H
    try dsimp only at H
    obtain rfl:=Option.some.inj H
    have H:=HQ52
    try dsimp only at H
    exact fb_ H
   conv=>whnf
   refine Tst.F ?_;conv=>whnf
   refine Tst.T ?_;conv=>whnf
   refine Tst.F ?_;conv=>whnf
   refine Tst.T ?_;conv=>whnf
   refine tst_c H (fun b98 H=>?_) (fun b98 H=>?_)
   ·conv=>whnf
    iterate 9 (refine Tst.T ?_;conv=>whnf)
    obtain rfl:=Option.some.inj H
    have H:=HQ84
    rw [hK81] at H
    try dsimp only at H
    obtain rfl:=Option.some.inj H
    have H:=HQ52
    try dsimp only at H
    exact fb_ H
   conv=>whnf
   iterate 2 (refine Tst.F ?_;conv=>whnf)
   refine tst_d H (fun b99 H=>?_) (fun b99 H=>?_)
   ·conv=>whnf
    iterate 16 (refine Tst.F ?_;conv=>whnf)
    obtain rfl:=Option.some.inj H
    exact arrive_c [101,102,103,104,105,106,107,108,109,110,111,112,113,114,115,116,117,118,119,120,121,122,123,124,125,126,127,128,129,130,131,132,133,134,135,136,137,138,139,140,141,142,143,144,145,146,147,148,149,150,151,152,11,16] 5 [0,1,2,3,5] (⟨HQ84,rfl,rfl⟩) (Nat.zero_le _) rfl (by kernel_rfl) (by kernel_rfl) rfl ⟨⟨rfl,rfl,rfl⟩,⟨⟨rfl,rfl,rfl⟩,⟨⟨rfl,rfl,rfl⟩,⟨⟨rfl,rfl,rfl⟩,⟨⟨rfl,rfl,rfl⟩,trivial⟩⟩⟩⟩⟩
   conv=>whnf
   refine Tst.T ?_;conv=>whnf
   refine Tst.F ?_;conv=>whnf
   refine Tst.T ?_;conv=>whnf
   refine Tst.F ?_;conv=>whnf
   refine tst_d H (fun b100 H=>?_) (fun b100 H=>?_)
   ·conv=>whnf
    iterate 11 (refine Tst.F ?_;conv=>whnf)
    obtain rfl:=Option.some.inj H
    exact arrive_c [101,102,103,104,105,106,107,108,109,110,111,112,113,114,115,116,117,118,119,120,121,122,123,124,125,126,127,128,129,130,131,132,133,134,135,136,137,138,139,140,141,142,143,144,145,146,147,148,149,150,151,152,11,16] 5 [0,1,2,3,5] (⟨HQ84,rfl,rfl⟩) (Nat.zero_le _) rfl (by kernel_rfl) (by kernel_rfl) rfl ⟨⟨rfl,rfl,rfl⟩,⟨⟨rfl,rfl,rfl⟩,⟨⟨rfl,rfl,rfl⟩,⟨⟨rfl,rfl,rfl⟩,⟨⟨rfl,rfl,rfl⟩,trivial⟩⟩⟩⟩⟩
   conv=>whnf
   refine Tst.T ?_;conv=>whnf
   refine Tst.isF b92 ?_;conv=>whnf
   refine Tst.T ?_;conv=>whnf
   iterate 2 (refine Tst.F ?_;conv=>whnf)
   refine Tst.T ?_;conv=>whnf
   refine Tst.F ?_;conv=>whnf
   refine Tst.isT b97 ?_;conv=>whnf
   refine Tst.T ?_;conv=>whnf
   refine Tst.F ?_;conv=>whnf
   refine Tst.T ?_;conv=>whnf
   refine Tst.F ?_;conv=>whnf
   refine tst_c H (fun b101 H=>?_) (fun b101 H=>?_)
   ·conv=>whnf
    obtain rfl:=Option.some.inj H
    have H:=HQ84
    rw [hK81] at H
    try dsimp only at H
    obtain rfl:=Option.some.inj H
    have H:=HQ52
    try dsimp only at H
    exact fb_ H
   conv=>whnf
   obtain rfl:=Option.some.inj H
   exact arrive_c [101,102,103,104,105,106,107,108,109,110,111,112,113,114,115,116,117,118,119,120,121,122,123,124,125,126,127,128,129,130,131,132,133,134,135,136,137,138,139,140,141,142,143,144,145,146,147,148,149,150,151,152,11,16] 5 [0,1,2,3,5] (⟨HQ84,rfl,rfl⟩) (Nat.zero_le _) rfl (by kernel_rfl) (by kernel_rfl) rfl ⟨⟨rfl,rfl,rfl⟩,⟨⟨rfl,rfl,rfl⟩,⟨⟨rfl,rfl,rfl⟩,⟨⟨rfl,rfl,rfl⟩,⟨⟨rfl,rfl,rfl⟩,trivial⟩⟩⟩⟩⟩
  rintro _ _ (⟨H,rfl,rfl⟩)
  rw [hK81] at H
  try dsimp only at H
  conv=>whnf
  refine lq_ ?_;conv=>whnf
  refine ixs_c (f:=PairAct.v) H (fun _=>rfl) (fun x108 H=>?_);conv=>whnf
  refine lq_ ?_;conv=>whnf
  refine tst_d H (fun b109 H=>?_) (fun b109 H=>?_)
  ·conv=>whnf
   refine ask_c (p_pair_Agree_v _ _) H rfl rfl (fun v115 H=>?_);conv=>whnf
   refine Tst.not ?_
   refine tst_d H (fun b116 H=>?_) (fun b116 H=>?_)
   ·conv=>whnf
    obtain rfl:=Option.some.inj H
    have H:=HQ52
    try dsimp only at H
    exact fb_ H
   conv=>whnf
   refine Ari.w ?_;conv=>whnf
   exact again_c [10,11,12,13,14,15,16,17,61,62,63,64,65,66,67,68,69,70,71,72,73,74,75,76,77,78,79,80,81,82,83,84,85,86,87,88,89,90,91,92,93,94,95,96,97,98,99,100,101,102,103,104,105,106,107,108,109,110,111,112,113,114,115,116,117,118,119,120,121,122,123,124,125,126,127,128,129,130,131,132,133,134,135,136,137,138,139,140,141,142,143,144,145,146,147,148,149,150,151,152,153,154,155,156,157,158,159,160,161,162,163,164,165,166,167,168] n53 3 [] (⟨_,_,_,_,_,_,H,rfl,rfl⟩) (Nat.lt_succ_self _) (Nat.zero_le _) rfl (by kernel_rfl) (by kernel_rfl) rfl ⟨⟨rfl,rfl,rfl⟩,⟨⟨rfl,rfl,rfl⟩,⟨⟨rfl,rfl,rfl⟩,trivial⟩⟩⟩
  conv=>whnf
  refine ask_c (p_pair_Turn_v _ _) H rfl rfl (fun v110 H=>?_);conv=>whnf
  refine lq_ ?_;conv=>whnf
  refine ask_c (p_pair_Agree_v _ _) H rfl rfl (fun v111 H=>?_);conv=>whnf
  refine Tst.not ?_
  refine tst_d H (fun b112 H=>?_) (fun b112 H=>?_)
  ·conv=>whnf
   obtain rfl:=Option.some.inj H
   have H:=HQ52
   try dsimp only at H
   exact fb_ H
  conv=>whnf
  refine Ari.w ?_;conv=>whnf
  exact again_c [10,11,12,13,14,15,16,17,61,62,63,64,65,66,67,68,69,70,71,72,73,74,75,76,77,78,79,80,81,82,83,84,85,86,87,88,89,90,91,92,93,94,95,96,97,98,99,100,101,102,103,104,105,106,107,108,109,110,111,112,113,114,115,116,117,118,119,120,121,122,123,124,125,126,127,128,129,130,131,132,133,134,135,136,137,138,139,140,141,142,143,144,145,146,147,148,149,150,151,152,153,154,155,156,157,158,159,160,161,162,163,164,165,166,167,168] n53 3 [] (⟨_,_,_,_,_,_,H,rfl,rfl⟩) (Nat.lt_succ_self _) (Nat.zero_le _) rfl (by kernel_rfl) (by kernel_rfl) rfl ⟨⟨rfl,rfl,rfl⟩,⟨⟨rfl,rfl,rfl⟩,⟨⟨rfl,rfl,rfl⟩,trivial⟩⟩⟩
 rw [hK62] at H
 try dsimp only at H
 conv=>whnf
 refine ixs_c (f:=PairAct.v) H (fun _=>rfl) (fun x119 H=>?_);conv=>whnf
 refine lq_ ?_;conv=>whnf
 refine ⟨by decide,?_⟩;conv=>whnf
 refine Ari.w ?_;conv=>whnf
 refine ask_c (p_pair_Say_v _ _ _) H rfl rfl (fun v120 H=>?_);conv=>whnf
 refine lq_ ?_;conv=>whnf
 refine lq_ ?_;conv=>whnf
 obtain ⟨K121,hK122,o123,HL124,HQ125⟩:=join0_c H
 refine join_c [4,2,5,6,10,15] [101,102,103,104,105,106,107,108,109,110,111,112,113,114,115,116,117,118,119,120,121,122,123,124,125,126,127,128,129,130,131,132,133,134,135,136,137,138,139,140,141,142,143,144,145,146,147,148,149,150,151,152,11,16] (fun vals st=>(K121 (.inr ())=some o50∧vals=[.b false,.ptr 0 0,.ptr 1 0,.ptr 2 0,.ptr 3 0,.ptr 4 0]∧st=[.live [.b a0.a0,.b a0.a1] 0,.live [.s (⟨#[97,110,110,64,120]⟩ : ByteArray),.s (⟨#[98,111,98,64,121]⟩ : ByteArray)] 0,.live [.i y55.A.Ver,.i y55.A.Floor,.sl (List.map ItemItem.v y55.A.Items) u56,.sl (List.map RosterGone.v y55.A.Gone) u57,.i y55.B.Ver,.i y55.B.Floor,.sl (List.map ItemItem.v y55.B.Items) u58,.sl (List.map RosterGone.v y55.B.Gone) u59] 0,.live [.s y76.A,.s y76.B] 0,.live [.i v120.1.A.Ver,.i v120.1.A.Floor,.sl (List.map ItemItem.v v120.1.A.Items) false,.sl (List.map RosterGone.v v120.1.A.Gone) false,.i v120.1.B.Ver,.i v120.1.B.Floor,.sl (List.map ItemItem.v v120.1.B.Items) false,.sl (List.map RosterGone.v v120.1.B.Gone) false] 0])) ?_ ?_
 ·have H:=HL124
  conv=>whnf
  refine tst_d H (fun b127 H=>?_) (fun b127 H=>?_)
  ·conv=>whnf
   iterate 13 (refine Tst.F ?_;conv=>whnf)
   refine tst_d H (fun b143 H=>?_) (fun b143 H=>?_)
   ·conv=>whnf
    iterate 16 (refine Tst.F ?_;conv=>whnf)
    obtain rfl:=Option.some.inj H
    exact arrive_c [101,102,103,104,105,106,107,108,109,110,111,112,113,114,115,116,117,118,119,120,121,122,123,124,125,126,127,128,129,130,131,132,133,134,135,136,137,138,139,140,141,142,143,144,145,146,147,148,149,150,151,152,11,16] 5 [0,1,2,3,5] (⟨HQ125,rfl,rfl⟩) (Nat.zero_le _) rfl (by kernel_rfl) (by kernel_rfl) rfl ⟨⟨rfl,rfl,rfl⟩,⟨⟨rfl,rfl,rfl⟩,⟨⟨rfl,rfl,rfl⟩,⟨⟨rfl,rfl,rfl⟩,⟨⟨rfl,rfl,rfl⟩,trivial⟩⟩⟩⟩⟩
   conv=>whnf
   refine Tst.T ?_;conv=>whnf
   refine Tst.F ?_;conv=>whnf
   refine Tst.T ?_;conv=>whnf
   refine Tst.F ?_;conv=>whnf
   refine tst_d H (fun b144 H=>?_) (fun b144 H=>?_)
   ·conv=>whnf
    iterate 11 (refine Tst.F ?_;conv=>whnf)
    obtain rfl:=Option.some.inj H
    exact arrive_c [101,102,103,104,105,106,107,108,109,110,111,112,113,114,115,116,117,118,119,120,121,122,123,124,125,126,127,128,129,130,131,132,133,134,135,136,137,138,139,140,141,142,143,144,145,146,147,148,149,150,151,152,11,16] 5 [0,1,2,3,5] (⟨HQ125,rfl,rfl⟩) (Nat.zero_le _) rfl (by kernel_rfl) (by kernel_rfl) rfl ⟨⟨rfl,rfl,rfl⟩,⟨⟨rfl,rfl,rfl⟩,⟨⟨rfl,rfl,rfl⟩,⟨⟨rfl,rfl,rfl⟩,⟨⟨rfl,rfl,rfl⟩,trivial⟩⟩⟩⟩⟩
   conv=>whnf
   refine Tst.T ?_;conv=>whnf
   refine tst_c H (fun b145 H=>?_) (fun b145 H=>?_)
   ·conv=>whnf
    iterate 2 (refine Tst.T ?_;conv=>whnf)
    refine Tst.F ?_;conv=>whnf
    refine Tst.T ?_;conv=>whnf
    refine Tst.F ?_;conv=>whnf
    iterate 2 (refine Tst.T ?_;conv=>whnf)
    refine Tst.F ?_;conv=>whnf
    refine Tst.T ?_;conv=>whnf
    refine Tst.F ?_;conv=>whnf
    refine tst_c H (fun b146 H=>?_) (fun b146 H=>?_)
    ·conv=>whnf
     obtain rfl:=Option.some.inj H
     have H:=HQ125
     rw [hK122] at H
     try dsimp only at H
     obtain rfl:=Option.some.inj H
     have H:=HQ52
     try dsimp only at H
     exact fb_ H
    conv=>whnf
    obtain rfl:=Option.some.inj H
    exact arrive_c [101,102,103,104,105,106,107,108,109,110,111,112,113,114,115,116,117,118,119,120,121,122,123,124,125,126,127,128,129,130,131,132,133,134,135,136,137,138,139,140,141,142,143,144,145,146,147,148,149,150,151,152,11,16] 5 [0,1,2,3,5] (⟨HQ125,rfl,rfl⟩) (Nat.zero_le _) rfl (by kernel_rfl) (by kernel_rfl) rfl ⟨⟨rfl,rfl,rfl⟩,⟨⟨rfl,rfl,rfl⟩,⟨⟨rfl,rfl,rfl⟩,⟨⟨rfl,rfl,rfl⟩,⟨⟨rfl,rfl,rfl⟩,trivial⟩⟩⟩⟩⟩
   conv=>whnf
   refine Tst.T ?_;conv=>whnf
   iterate 2 (refine Tst.F ?_;conv=>whnf)
   refine Tst.T ?_;conv=>whnf
   refine Tst.F ?_;conv=>whnf
   refine tst_d H (fun b147 H=>?_) (fun b147 H=>?_)
   ·conv=>whnf
    iterate 5 (refine Tst.F ?_;conv=>whnf)
    obtain rfl:=Option.some.inj H
    exact arrive_c [101,102,103,104,105,106,107,108,109,110,111,112,113,114,115,116,117,118,119,120,121,122,123,124,125,126,127,128,129,130,131,132,133,134,135,136,137,138,139,140,141,142,143,144,145,146,147,148,149,150,151,152,11,16] 5 [0,1,2,3,5] (⟨HQ125,rfl,rfl⟩) (Nat.zero_le _) rfl (by kernel_rfl) (by kernel_rfl) rfl ⟨⟨rfl,rfl,rfl⟩,⟨⟨rfl,rfl,rfl⟩,⟨⟨rfl,rfl,rfl⟩,⟨⟨rfl,rfl,rfl⟩,⟨⟨rfl,rfl,rfl⟩,trivial⟩⟩⟩⟩⟩
   conv=>whnf
   refine Tst.T ?_;conv=>whnf
   refine Tst.F ?_;conv=>whnf
   refine Tst.T ?_;conv=>whnf
   refine Tst.F ?_;conv=>whnf
   refine tst_c H (fun b148 H=>?_) (fun b148 H=>?_)
   ·conv=>whnf
    obtain rfl:=Option.some.inj H
    have H:=HQ125
    rw [hK122] at H
    try dsimp only at H
    obtain rfl:=Option.some.inj H
    have H:=HQ52
    try dsimp only at H
    exact fb_ H
   conv=>whnf
   obtain rfl:=Option.some.inj H
   exact arrive_c [101,102,103,104,105,106,107,108,109,110,111,112,113,114,115,116,117,118,119,120,121,122,123,124,125,126,127,128,129,130,131,132,133,134,135,136,137,138,139,140,141,142,143,144,145,146,147,148,149,150,151,152,11,16] 5 [0,1,2,3,5] (⟨HQ125,rfl,rfl⟩) (Nat.zero_le _) rfl (by kernel_rfl) (by kernel_rfl) rfl ⟨⟨rfl,rfl,rfl⟩,⟨⟨rfl,rfl,rfl⟩,⟨⟨rfl,rfl,rfl⟩,⟨⟨rfl,rfl,rfl⟩,⟨⟨rfl,rfl,rfl⟩,trivial⟩⟩⟩⟩⟩
  conv=>whnf
  iterate 2 (refine Tst.T ?_;conv=>whnf)
  refine tst_c H (fun b128 H=>?_) (fun b128 H=>?_)
  ·conv=>whnf
   iterate 39 (refine Tst.T ?_;conv=>whnf)
   obtain rfl:=Option.some.inj H
   have H:=HQ125
   rw [hK122] at H
   try dsimp only at H
   obtain rfl:=Option.some.inj H
   have H:=HQ52
   try dsimp only at H
   exact fb_ H
  conv=>whnf
  iterate 4 (refine Tst.F ?_;conv=>whnf)
  refine ask_c (p_roster_Same_v _ _) H rfl rfl (fun v129 H=>?_);conv=>whnf
  refine Tst.F ?_;conv=>whnf
  refine Tst.T ?_;conv=>whnf
  refine Tst.F ?_;conv=>whnf
  refine Tst.T ?_;conv=>whnf
  refine Tst.not ?_
  refine tst_d H (fun b130 H=>?_) (fun b130 H=>?_)
  ·conv=>whnf
   iterate 30 (refine Tst.T ?_;conv=>whnf)
   obtain rfl:=Option.some.inj H
   have H:=HQ125
   rw [hK122] at H
   try dsimp only at H
   obtain rfl:=Option.some.inj H
   have H:=HQ52
   try dsimp only at H
   exact fb_ H
  conv=>whnf
  iterate 4 (refine Tst.F ?_;conv=>whnf)
  refine ask_c (p_roster_Same_v _ _) H rfl rfl (fun v131 H=>?_);conv=>whnf
  refine Tst.F ?_;conv=>whnf
  refine Tst.T ?_;conv=>whnf
  refine Tst.F ?_;conv=>whnf
  refine Tst.T ?_;conv=>whnf
  refine Tst.not ?_
  refine tst_d H (fun b132 H=>?_) (fun b132 H=>?_)
  ·conv=>whnf
   iterate 21 (refine Tst.T ?_;conv=>whnf)
   obtain rfl:=Option.some.inj H
   have H:=HQ125
   rw [hK122] at H
   try dsimp only at H
   obtain rfl:=Option.some.inj H
   have H:=HQ52
   try dsimp only at H
   exact fb_ H
  conv=>whnf
  iterate 2 (refine Tst.F ?_;conv=>whnf)
  refine Tst.not ?_
  refine tst_c H (fun b133 H=>?_) (fun b133 H=>?_)
  ·conv=>whnf
   iterate 3 (refine Tst.F ?_;conv=>whnf)
   refine Tst.T ?_;conv=>whnf
   refine Tst.F ?_;conv=>whnf
   refine Tst.T ?_;conv=>whnf
   iterate 2 (refine Tst.F ?_;conv=>whnf)
   refine Tst.T ?_;conv=>whnf
   refine Tst.F ?_;conv=>whnf
   refine Tst.T ?_;conv=>whnf
   refine tst_c H (fun b134 H=>?_) (fun b134 H=>?_)
   ·conv=>whnf
    iterate 9 (refine Tst.T ?_;conv=>whnf)
    obtain rfl:=Option.some.inj H
    have H:=HQ125
    rw [hK122] at H
    try dsimp only at H
    obtain rfl:=Option.some.inj H
    have H:=HQ52
    try dsimp only at H
    exact fb_ H
   conv=>whnf
   iterate 2 (refine Tst.F ?_;conv=>whnf)
   refine tst_d H (fun b135 H=>?_) (fun b135 H=>?_)
   ·conv=>whnf
    iterate 16 (refine Tst.F ?_;conv=>whnf)
    obtain rfl:=Option.some.inj H
    exact arrive_c [101,102,103,104,105,106,107,108,109,110,111,112,113,114,115,116,117,118,119,120,121,122,123,124,125,126,127,128,129,130,131,132,133,134,135,136,137,138,139,140,141,142,143,144,145,146,147,148,149,150,151,152,11,16] 5 [0,1,2,3,5] (⟨HQ125,rfl,rfl⟩) (Nat.zero_le _) rfl (by kernel_rfl) (by kernel_rfl) rfl ⟨⟨rfl,rfl,rfl⟩,⟨⟨rfl,rfl,rfl⟩,⟨⟨rfl,rfl,rfl⟩,⟨⟨rfl,rfl,rfl⟩,⟨⟨rfl,rfl,rfl⟩,trivial⟩⟩⟩⟩⟩
   conv=>whnf
   refine Tst.T ?_;conv=>whnf
   refine Tst.F ?_;conv=>whnf
   refine Tst.T ?_;conv=>whnf
   refine Tst.F ?_;conv=>whnf
   refine tst_d H (fun b136 H=>?_) (fun b136 H=>?_)
   ·conv=>whnf
    iterate 11 (refine Tst.F ?_;conv=>whnf)
    obtain rfl:=Option.some.inj H
    exact arrive_c [101,102,103,104,105,106,107,108,109,110,111,112,113,114,115,116,117,118,119,120,121,122,123,124,125,126,127,128,129,130,131,132,133,134,135,136,137,138,139,140,141,142,143,144,145,146,147,148,149,150,151,152,11,16] 5 [0,1,2,3,5] (⟨HQ125,rfl,rfl⟩) (Nat.zero_le _) rfl (by kernel_rfl) (by kernel_rfl) rfl ⟨⟨rfl,rfl,rfl⟩,⟨⟨rfl,rfl,rfl⟩,⟨⟨rfl,rfl,rfl⟩,⟨⟨rfl,rfl,rfl⟩,⟨⟨rfl,rfl,rfl⟩,trivial⟩⟩⟩⟩⟩
   conv=>whnf
   refine Tst.T ?_;conv=>whnf
   refine Tst.isT b133 ?_;conv=>whnf
   iterate 2 (refine Tst.T ?_;conv=>whnf)
   refine Tst.F ?_;conv=>whnf
   refine Tst.T ?_;conv=>whnf
   refine Tst.F ?_;conv=>whnf
   iterate 2 (refine Tst.T ?_;conv=>whnf)
   refine Tst.F ?_;conv=>whnf
   refine Tst.T ?_;conv=>whnf
   refine Tst.F ?_;conv=>whnf
   refine tst_c H (fun b137 H=>?_) (fun b137 H=>?_)
   ·conv=>whnf
    obtain rfl:=Option.some.inj H
    have H:=HQ125
    rw [hK122] at H
    try dsimp only at H
    obtain rfl:=Option.some.inj H
    have H:=HQ52
    try dsimp only at H
    exact fb_ H
   conv=>whnf
   obtain rfl:=Option.some.inj H
   exact arrive_c [101,102,103,104,105,106,107,108,109,110,111,112,113,114,115,116,117,118,119,120,121,122,123,124,125,126,127,128,129,130,131,132,133,134,135,136,137,138,139,140,141,142,143,144,145,146,147,148,149,150,151,152,11,16] 5 [0,1,2,3,5] (⟨HQ125,rfl,rfl⟩) (Nat.zero_le _) rfl (by kernel_rfl) (by kernel_rfl) rfl ⟨⟨rfl,rfl,rfl⟩,⟨⟨rfl,rfl,rfl⟩,⟨⟨rfl,rfl,rfl⟩,⟨⟨rfl,rfl,rfl⟩,⟨⟨rfl,rfl,rfl⟩,trivial⟩⟩⟩⟩⟩
  conv=>whnf
  refine Tst.T ?_;conv=>whnf
  refine Tst.F ?_;conv=>whnf
  iterate 2 (refine Tst.T ?_;conv=>whnf)
  refine Tst.F ?_;conv=>whnf
  refine Tst.T ?_;conv=>whnf
  refine Tst.not ?_
  refine tst_d H (fun b138 H=>?_) (fun b138 H=>?_)
  ·conv=>whnf
   iterate 14 (refine Tst.T ?_;conv=>whnf)
   obtain rfl:=Option.some.inj H
   have H:=HQ125
   rw [hK122] at H
   try dsimp only at H
   obtain rfl:=Option.some.inj H
   have H:=HQ52
   try dsimp only at H
   exact fb_ H
  conv=>whnf
  refine Tst.F ?_;conv=>whnf
  refine Tst.T ?_;conv=>whnf
  refine Tst.F ?_;conv=>whnf
  refine Tst.T ?_;conv=>whnf
  refine tst_c H (fun b139 H=>?_) (fun b139 H=>?_)
  ·conv=>whnf
   iterate 9 (refine Tst.T ?_;conv=>whnf)
   obtain rfl:=Option.some.inj H
   have H:=HQ125
   rw [hK122] at H
   try dsimp only at H
   obtain rfl:=Option.some.inj H
   have H:=HQ52
   try dsimp only at H
   exact fb_ H
  conv=>whnf
  iterate 2 (refine Tst.F ?_;conv=>whnf)
  refine tst_d H (fun b140 H=>?_) (fun b140 H=>?_)
  ·conv=>whnf
   iterate 16 (refine Tst.F ?_;conv=>whnf)
   obtain rfl:=Option.some.inj H
   exact arrive_c [101,102,103,104,105,106,107,108,109,110,111,112,113,114,115,116,117,118,119,120,121,122,123,124,125,126,127,128,129,130,131,132,133,134,135,136,137,138,139,140,141,142,143,144,145,146,147,148,149,150,151,152,11,16] 5 [0,1,2,3,5] (⟨HQ125,rfl,rfl⟩) (Nat.zero_le _) rfl (by kernel_rfl) (by kernel_rfl) rfl ⟨⟨rfl,rfl,rfl⟩,⟨⟨rfl,rfl,rfl⟩,⟨⟨rfl,rfl,rfl⟩,⟨⟨rfl,rfl,rfl⟩,⟨⟨rfl,rfl,rfl⟩,trivial⟩⟩⟩⟩⟩
  conv=>whnf
  refine Tst.T ?_;conv=>whnf
  refine Tst.F ?_;conv=>whnf
  refine Tst.T ?_;conv=>whnf
  refine Tst.F ?_;conv=>whnf
  refine tst_d H (fun b141 H=>?_) (fun b141 H=>?_)
  ·conv=>whnf
   iterate 11 (refine Tst.F ?_;conv=>whnf)
   obtain rfl:=Option.some.inj H
   exact arrive_c [101,102,103,104,105,106,107,108,109,110,111,112,113,114,115,116,117,118,119,120,121,122,123,124,125,126,127,128,129,130,131,132,133,134,135,136,137,138,139,140,141,142,143,144,145,146,147,148,149,150,151,152,11,16] 5 [0,1,2,3,5] (⟨HQ125,rfl,rfl⟩) (Nat.zero_le _) rfl (by kernel_rfl) (by kernel_rfl) rfl ⟨⟨rfl,rfl,rfl⟩,⟨⟨rfl,rfl,rfl⟩,⟨⟨rfl,rfl,rfl⟩,⟨⟨rfl,rfl,rfl⟩,⟨⟨rfl,rfl,rfl⟩,trivial⟩⟩⟩⟩⟩
  conv=>whnf
  refine Tst.T ?_;conv=>whnf
  refine Tst.isF b133 ?_;conv=>whnf
  refine Tst.T ?_;conv=>whnf
  iterate 2 (refine Tst.F ?_;conv=>whnf)
  refine Tst.T ?_;conv=>whnf
  refine Tst.F ?_;conv=>whnf
  refine Tst.isT b138 ?_;conv=>whnf
  refine Tst.T ?_;conv=>whnf
  refine Tst.F ?_;conv=>whnf
  refine Tst.T ?_;conv=>whnf
  refine Tst.F ?_;conv=>whnf
  refine tst_c H (fun b142 H=>?_) (fun b142 H=>?_)
  ·conv=>whnf
   obtain rfl:=Option.some.inj H
   have H:=HQ125
   rw [hK122] at H
   try dsimp only at H
   obtain rfl:=Option.some.inj H
   have H:=HQ52
   try dsimp only at H
   exact fb_ H
  conv=>whnf
  obtain rfl:=Option.some.inj H
  exact arrive_c [101,102,103,104,105,106,107,108,109,110,111,112,113,114,115,116,117,118,119,120,121,122,123,124,125,126,127,128,129,130,131,132,133,134,135,136,137,138,139,140,141,142,143,144,145,146,147,148,149,150,151,152,11,16] 5 [0,1,2,3,5] (⟨HQ125,rfl,rfl⟩) (Nat.zero_le _) rfl (by kernel_rfl) (by kernel_rfl) rfl ⟨⟨rfl,rfl,rfl⟩,⟨⟨rfl,rfl,rfl⟩,⟨⟨rfl,rfl,rfl⟩,⟨⟨rfl,rfl,rfl⟩,⟨⟨rfl,rfl,rfl⟩,trivial⟩⟩⟩⟩⟩
 rintro _ _ (⟨H,rfl,rfl⟩)
 rw [hK122] at H
 try dsimp only at H
 conv=>whnf
 refine lq_ ?_;conv=>whnf
 refine ixs_c (f:=PairAct.v) H (fun _=>rfl) (fun x149 H=>?_);conv=>whnf
 refine lq_ ?_;conv=>whnf
 refine tst_d H (fun b150 H=>?_) (fun b150 H=>?_)
 ·conv=>whnf
  refine ask_c (p_pair_Agree_v _ _) H rfl rfl (fun v156 H=>?_);conv=>whnf
  refine Tst.not ?_
  refine tst_d H (fun b157 H=>?_) (fun b157 H=>?_)
  ·conv=>whnf
   obtain rfl:=Option.some.inj H
   have H:=HQ52
   try dsimp only at H
   exact fb_ H
  conv=>whnf
  refine Ari.w ?_;conv=>whnf
  exact again_c [10,11,12,13,14,15,16,17,61,62,63,64,65,66,67,68,69,70,71,72,73,74,75,76,77,78,79,80,81,82,83,84,85,86,87,88,89,90,91,92,93,94,95,96,97,98,99,100,101,102,103,104,105,106,107,108,109,110,111,112,113,114,115,116,117,118,119,120,121,122,123,124,125,126,127,128,129,130,131,132,133,134,135,136,137,138,139,140,141,142,143,144,145,146,147,148,149,150,151,152,153,154,155,156,157,158,159,160,161,162,163,164,165,166,167,168] n53 3 [] (⟨_,_,_,_,_,_,H,rfl,rfl⟩) (Nat.lt_succ_self _) (Nat.zero_le _) rfl (by kernel_rfl) (by kernel_rfl) rfl ⟨⟨rfl,rfl,rfl⟩,⟨⟨rfl,rfl,rfl⟩,⟨⟨rfl,rfl,rfl⟩,trivial⟩⟩⟩
 conv=>whnf
 refine ask_c (p_pair_Turn_v _ _) H rfl rfl (fun v151 H=>?_);conv=>whnf
 refine lq_ ?_;conv=>whnf
 refine ask_c (p_pair_Agree_v _ _) H rfl rfl (fun v152 H=>?_);conv=>whnf
 refine Tst.not ?_
 refine tst_d H (fun b153 H=>?_) (fun b153 H=>?_)
 ·conv=>whnf
  obtain rfl:=Option.some.inj H
  have H:=HQ52
  try dsimp only at H
  exact fb_ H
 conv=>whnf
 refine Ari.w ?_;conv=>whnf
 exact again_c [10,11,12,13,14,15,16,17,61,62,63,64,65,66,67,68,69,70,71,72,73,74,75,76,77,78,79,80,81,82,83,84,85,86,87,88,89,90,91,92,93,94,95,96,97,98,99,100,101,102,103,104,105,106,107,108,109,110,111,112,113,114,115,116,117,118,119,120,121,122,123,124,125,126,127,128,129,130,131,132,133,134,135,136,137,138,139,140,141,142,143,144,145,146,147,148,149,150,151,152,153,154,155,156,157,158,159,160,161,162,163,164,165,166,167,168] n53 3 [] (⟨_,_,_,_,_,_,H,rfl,rfl⟩) (Nat.lt_succ_self _) (Nat.zero_le _) rfl (by kernel_rfl) (by kernel_rfl) rfl ⟨⟨rfl,rfl,rfl⟩,⟨⟨rfl,rfl,rfl⟩,⟨⟨rfl,rfl,rfl⟩,trivial⟩⟩⟩
end Go.Proofs.YtpmoioopjbfhkaaGreat

namespace Go.Proofs.YtpmoioopjbfhkaaGreat
open Go.ChangeShapes Go.WideShapes Go.ChangeAt Go.RowKit Go.Joins Go.Deep
theorem pairRefused_named:Tryz.pinned.checked.prog.funcNamed Rows.pairRefusedRow.func=some 9:=by kernel_rfl
theorem pairRefused_closed:joinedFacts Tryz.pinned.checked.prog 9 Tryz.f9 Rows.pairRefusedSpec Rows.pairRefusedRow=true:=by kernel_rfl
end Go.Proofs.YtpmoioopjbfhkaaGreat

namespace Go.Proofs.YtpmoioopjbfhkaaGreat
open Go.ChangeShapes Go.WideShapes Go.ChangeAt Go.RowKit Go.Joins Go.Deep
set_option maxRecDepth 100000 in
theorem pairRefused_lifted (os:Os) (started:os.Started) (H:Type) (enc:TypeId × Value→H) :
  ReturnsInHanded {} Tryz.checked os 9 .any (Rows.pairRefusedSpec.pre6 enc Tryz.prog Tryz.f9 Rows.pairRefusedRow.domain false) (Rows.pairRefusedSpec.post enc Tryz.prog Tryz.f9 false true false false):=by
 refine returnsInHanded_of_change_shaped (C:=Tryz.checked) own0 started (by kernel_rfl) Tryz.func9
  (ChangeSpec.witness6 (enc:=enc) (C:=Tryz.checked) false ⟨#[],#[.agg #[.bool false,.bool false],.slice none 0 0],[]⟩ 8 (by kernel_rfl) (by kernel_rfl) (by kernel_rfl) (by kernel_rfl)) ?_
 intro W base args ds gs before hval0 hW hcnd _ hsh _
 have hval:∀ (j:Nat) t v,Tryz.f9.params[j]?=some t→args[j]?=some v→Value.okWide Tryz.prog W .any base t v:=hval0
 have hW':=hW
 obtain ⟨p,q,hA0,hV,rfl,hfz,hnd⟩:=hW
 have hA:DataW.TrodAll enc Tryz.prog W 0 (fun _=>true) true Tryz.f9.params.toList args.toList ds p:=hA0
 rw [Tryz.params9] at hA hval
 have hA2:=hA
 obtain ⟨v0,v1,d0,d1,p0,p1,rfl,rfl,hp,h0,h1⟩:=trodAll_two hA
 obtain ⟨rfl,rfl⟩:=trodVars_none hV
 obtain ⟨fu0,hf0⟩:=h0
 obtain ⟨cs0,rfl,_⟩:=okWide_arr Tryz.underlying106 (hval 0 _ v0 rfl rfl)
 obtain ⟨a0,r0⟩:=rd_T106 hf0
 have hx0:Rep (MW W) noBk (.agg cs0) (.agg [.b a0.a0,.b a0.a1]):=rep_aggL r0 (by intro u hu;simp only [List.mem_cons,List.not_mem_nil,or_false] at hu;rcases hu with rfl | rfl <;> rfl)
 obtain ⟨fu1,hf1⟩:=h1
 obtain ⟨q1,l1,k1,rfl⟩:=okWide_slice Tryz.underlying121 (hval 1 _ v1 rfl rfl)
 obtain ⟨a1,w1,r1⟩:=rd_T121 hf1
 have hx1:Rep (MW W) noBk _ _:=r1.2 0 (by simp [Value.cells]) (by simp)
 refine (rep_one (callsO_true (p_law22_PairRefused_v a0 a1) (tru_ok (pairRefused_all a0 a1 w1))) (maxLen_cell W hsh) (repAr2 hx0 hx1)).mono ?_
 rintro e W' ⟨rfl,bel⟩
 refine ⟨_,rfl,_,_,_,[],p,[],hW',?_,?_,?_,?_,?_⟩
 ·exact trodAll_mk1 (shut_bool Tryz.underlying4 true)
 ·exact trodAll_below laid0 bel (by
   intro t ht
   simp at ht
   rcases ht with rfl | rfl <;> exact ⟨by kernel_rfl,of_decide_eq_true (by kernel_rfl)⟩) hA2
 ·rfl
 ·exact bel.frame _
 ·exact fun h=>by cases h
theorem pairRefused_holds:Rows.PairRefusedSaid :=
 OpenClaim.holds_of_wide 9 Tryz.f9 rfl rfl rfl rfl rfl rfl rfl ⟨rfl,rfl,rfl,rfl,rfl⟩ rfl rfl rfl rfl rfl pairRefused_named Tryz.func9 pairRefused_closed
  (of_decide_eq_true (by kernel_rfl)) (by unfold Func.isWrapper;first | (rw [if_pos (by decide +kernel)];kernel_rfl) | (rw [if_neg (by decide +kernel)];exact ⟨rfl,rfl⟩))
  (fun os started H enc _=>pairRefused_lifted os started H enc)
#print axioms pairRefused_holds
end Go.Proofs.YtpmoioopjbfhkaaGreat

