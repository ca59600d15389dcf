/- A part of the proof: 1 texts joined. -/
import Derived.Test.YtpmoioopjbfhkaaGreatWeA8
import Derived.Test.YtpmoioopjbfhkaaGreatWeA9
import Derived.Test.YtpmoioopjbfhkaaGreatWeA12
import Derived.Test.YtpmoioopjbfhkaaGreatWeA5
import Derived.KernelRfl
set_option linter.all false
namespace Go.Proofs.YtpmoioopjbfhkaaGreat
open Go.RowKit
set_option maxRecDepth 1000000
set_option maxHeartbeats 4000000
def gc112:BCode:=(.seq (R_ 3 [O_ 2 (.bx (t_ 0)) 0,O_ 3 (.bx (t_ 1)) 1,O_ 4 (.al (.agg [(.lit (.int .i64 0)),(.lit (.int .i64 0)),(.sl [] true),(.sl [] true)])) 2]) (.seq (R_ 0 [O_ 13 (.ld 4 true (t_ 2)) 0,O_ 14 (.fa 0 (t_ 3)) 0,O_ 15 (.ld 1 false (t_ 14)) 0,O_ 16 (.cl 110 [(t_ 13),(t_ 15)]) 0,O_ 12 (.mv (t_ 16)) 0,O_ 17 (.ex (t_ 12) 0) 0,O_ 18 (.ex (t_ 12) 1) 0,O_ 5 (.mv (t_ 17)) 0,O_ 6 (.mv (t_ 18)) 0]) (.join (R_ 0 [O_ 19 (.mv (t_ 6)) 0,O_ 20 (.mv (t_ 19)) 0,⟨(some 21),.fa 2 (t_ 2),(some (20,true)),0⟩,⟨(some 22),.ld 1 false (t_ 21),(some (20,true)),0⟩,⟨(some 23),.mv (t_ 5),(some (20,true)),0⟩,⟨(some 24),.ixs 5 (t_ 22) (t_ 23),(some (20,true)),0⟩,⟨(some 25),.ld 5 true (t_ 24),(some (20,true)),0⟩,⟨(some 26),.cl 18 [(t_ 25)],(some (20,true)),0⟩,O_ 27 (.pick (t_ 20) (t_ 26) (b_ false)) 0,O_ 7 (.mv (t_ 27)) 0]) (.seq (R_ 0 [O_ 28 (.fa 0 (t_ 2)) 0,O_ 29 (.ld 1 false (t_ 28)) 0,O_ 30 (.bin .add (t_ 29) (i_ 1)) 0,O_ 31 (.fa 0 (t_ 2)) 0,U_ (.st 1 (t_ 31) (t_ 30)) 0]) (.seq (R_ 0 [O_ 32 (.fa 0 (t_ 2)) 0,O_ 33 (.ld 1 false (t_ 32)) 0,O_ 34 (.fa 3 (t_ 3)) 0,U_ (.st 1 (t_ 34) (t_ 33)) 0]) (.seq (R_ 0 [O_ 8 (.mv (.const (.slice none 0 0))) 0]) (.seq (R_ 1 [O_ 35 (.mv (t_ 8)) 0,O_ 36 (.fa 2 (t_ 2)) 0,O_ 37 (.ld 1 false (t_ 36)) 0,O_ 38 (.mv (t_ 5)) 0,O_ 39 (.sls 5 (t_ 37) none (some (t_ 38)) none) 0,O_ 40 (.ap 5 56 (t_ 35) (t_ 39)) 0,O_ 8 (.mv (t_ 40)) 1]) (.join (.seq (R_ 0 [O_ 41 (.ld 5 true (t_ 3)) 0,O_ 42 (.cl 20 [(t_ 41)]) 0,O_ 43 (.un .not (t_ 42)) 0]) (.cond (t_ 43) (R_ 2 [O_ 44 (.mv (t_ 8)) 0,O_ 45 (.ld 5 true (t_ 3)) 0,O_ 46 (.bs 5 1 [(.lit (.string ⟨#[]⟩)),(.lit (.string ⟨#[]⟩)),(.lit (.int .i64 0)),(.lit (.int .i64 0)),(.lit (.bool false))] [(0,(t_ 45))]) 0,O_ 47 (.ap 5 56 (t_ 44) (t_ 46)) 1,O_ 8 (.mv (t_ 47)) 2]) .skip)) (.join (.seq (R_ 0 [O_ 48 (.mv (t_ 6)) 0]) (.cond (t_ 48) (R_ 0 [O_ 49 (.mv (t_ 5)) 0,O_ 50 (.bin .add (t_ 49) (i_ 1)) 0,O_ 5 (.mv (t_ 50)) 0]) .skip)) (.seq (R_ 1 [O_ 51 (.mv (t_ 8)) 0,O_ 52 (.fa 2 (t_ 2)) 0,O_ 53 (.ld 1 false (t_ 52)) 0,O_ 54 (.mv (t_ 5)) 0,O_ 55 (.sls 5 (t_ 53) (some (t_ 54)) none none) 0,O_ 56 (.ap 5 56 (t_ 51) (t_ 55)) 0,O_ 57 (.fa 2 (t_ 2)) 1,U_ (.st 1 (t_ 57) (t_ 56)) 1]) (.seq (R_ 0 [O_ 9 (.mv (.const (.slice none 0 0))) 0]) (.seq (R_ 0 [O_ 58 (.ld 5 true (t_ 3)) 0,O_ 59 (.cl 18 [(t_ 58)]) 0,O_ 10 (.mv (t_ 59)) 0]) (.seq (.seq (R_ 0 [O_ 11 (.mv (i_ 0)) 0]) (.block 0 (.loop (.seq (.seq (R_ 0 [O_ 60 (.mv (t_ 11)) 0,O_ 61 (.fa 3 (t_ 2)) 0,O_ 62 (.ld 1 false (t_ 61)) 0,O_ 63 (.lens (t_ 62)) 0,O_ 64 (.bin .lss (t_ 60) (t_ 63)) 0]) (.cond (t_ 64) .skip (.exit 0))) (.seq (.block 1 (.seq (.reg 0 [O_ 67 (.fa 3 (t_ 2)) 0,O_ 68 (.ld 1 false (t_ 67)) 0,O_ 69 (.mv (t_ 11)) 0,O_ 70 (.ixs 2 (t_ 68) (t_ 69)) 0,O_ 71 (.fa 0 (t_ 70)) 0,O_ 72 (.ld 1 false (t_ 71)) 0,O_ 73 (.fa 0 (t_ 3)) 0,O_ 74 (.ld 1 false (t_ 73)) 0,O_ 75 (.bin .neq (t_ 72) (t_ 74)) 0,O_ 76 (.mv (t_ 75)) 0,⟨(some 77),.mv (t_ 10),(some (76,false)),0⟩,⟨(some 78),.un .not (t_ 77),(some (76,false)),0⟩,⟨(some 79),.mv (t_ 78),(some (76,false)),0⟩,⟨(some 80),.mv (t_ 7),(some (79,true)),0⟩,⟨(some 81),.un .not (t_ 80),(some (79,true)),0⟩,⟨(some 82),.pick (t_ 79) (t_ 81) (b_ false),(some (76,false)),0⟩,O_ 83 (.pick (t_ 76) (b_ true) (t_ 82)) 0] (some [[],[0],[],[2,0,1],[1,0,2,3],[3,2,0,1,4],[],[6],[6,7,4,1,0,2,3,5],[5,3,2,0,1,4,7,6,8],[8,6,7,4,1,0,2,3,5,9],[9,5,3,2,0,1,4,7,6,8,10],[10,8,6,7,4,1,0,2,3,5,9,11],[11,9,5,3,2,0,1,4,7,6,8,10,12],[12,10,8,6,7,4,1,0,2,3,5,9,11,13],[13,14,11,9,5,3,2,0,1,4,7,6,8,10,12],[12,10,11,14,13,15,8,6,7,4,1,0,2,3,5,9]]) 0 []) (.cond (t_ 83) (R_ 2 [O_ 84 (.mv (t_ 9)) 0,O_ 85 (.fa 3 (t_ 2)) 0,O_ 86 (.ld 1 false (t_ 85)) 0,O_ 87 (.mv (t_ 11)) 0,O_ 88 (.ixs 2 (t_ 86) (t_ 87)) 0,O_ 89 (.ld 2 true (t_ 88)) 0,O_ 90 (.bs 2 1 [(.lit (.string ⟨#[]⟩)),(.lit (.int .i64 0))] [(0,(t_ 89))]) 0,O_ 91 (.ap 2 24 (t_ 84) (t_ 90)) 1,O_ 9 (.mv (t_ 91)) 2]) .skip))) (R_ 0 [O_ 65 (.mv (t_ 11)) 0,O_ 66 (.bin .add (t_ 65) (i_ 1)) 0,O_ 11 (.mv (t_ 66)) 0])))))) (.join (.seq (R_ 0 [O_ 92 (.mv (t_ 7)) 0,O_ 93 (.mv (t_ 92)) 0,⟨(some 94),.mv (t_ 10),(some (93,true)),0⟩,⟨(some 95),.un .not (t_ 94),(some (93,true)),0⟩,O_ 96 (.pick (t_ 93) (t_ 95) (b_ false)) 0]) (.cond (t_ 96) (R_ 2 [O_ 97 (.mv (t_ 9)) 0,O_ 98 (.fa 0 (t_ 3)) 0,O_ 99 (.ld 1 false (t_ 98)) 0,O_ 100 (.fa 0 (t_ 2)) 0,O_ 101 (.ld 1 false (t_ 100)) 0,O_ 102 (.bd [(.lit (.string ⟨#[]⟩)),(.lit (.int .i64 0))] [(0,1,(t_ 99)),(1,1,(t_ 101))]) 0,O_ 103 (.bs 2 1 [(.lit (.string ⟨#[]⟩)),(.lit (.int .i64 0))] [(0,(t_ 102))]) 0,O_ 104 (.ap 2 24 (t_ 97) (t_ 103)) 1,O_ 9 (.mv (t_ 104)) 2]) .skip)) (.seq (.seq (R_ 0 [O_ 105 (.mv (t_ 9)) 0,O_ 106 (.lens (t_ 105)) 0,O_ 107 (.bin .gtr (t_ 106) (i_ 8)) 0]) (.cond (t_ 107) (.seq (R_ 0 [O_ 108 (.mv (t_ 9)) 0,O_ 109 (.ixs 2 (t_ 108) (i_ 0)) 0,O_ 110 (.fa 1 (t_ 109)) 0,O_ 111 (.ld 1 false (t_ 110)) 0,O_ 112 (.fa 1 (t_ 2)) 0,U_ (.st 1 (t_ 112) (t_ 111)) 0]) (R_ 0 [O_ 113 (.mv (t_ 9)) 0,O_ 114 (.sls 2 (t_ 113) (some (i_ 1)) none none) 0,O_ 9 (.mv (t_ 114)) 0])) .skip)) (.seq (R_ 0 [O_ 115 (.mv (t_ 9)) 0,O_ 116 (.fa 3 (t_ 2)) 0,U_ (.st 1 (t_ 116) (t_ 115)) 0]) (.seq (R_ 0 [O_ 117 (.ld 4 true (t_ 2)) 0,U_ (.st 4 (t_ 4) (t_ 117)) 0]) .ret)))))))))))))))))
theorem gc112_ok:compF Tryz.prog Tryz.f112=some (gc112.er,118,[.cell 4 4 true]):=by unfold gc112;kernel_rfl
theorem p_ref21_change_v {u1 u2:Bool} (a0:RosterState) (a1:ItemItem):CallsO Tryz.prog 112 [.agg [.i a0.Ver,.i a0.Floor,.sl (List.map ItemItem.v a0.Items) u1,.sl (List.map RosterGone.v a0.Gone) u2],.agg [.s a1.Contact,.s a1.Name,.i a1.Sub,.i a1.Ver,.b a1.Own]] RosterState.v (p_ref21_change a0 a1):=by
 refine callsO_comp mix Tryz.func112 gc112_ok fun r H=>?_
 rw [p_ref21_change] at H
 conv=>whnf
 refine ask_c (p_ref21_place_v _ _) H rfl rfl (fun v1 H=>?_);conv=>whnf
 obtain ⟨K2,hK3,o4,HL5,HQ6⟩:=join0_c H
 refine join_c [7,2,3,4] [19,20,21,22,23,24,25,26,27,14] (fun vals st=>(∃ y11,K2 y11=some r∧vals=[.b y11,.ptr 0 0,.ptr 1 0,.ptr 2 0]∧st=[.live [.i a0.Ver,.i a0.Floor,.sl (List.map ItemItem.v a0.Items) u1,.sl (List.map RosterGone.v a0.Gone) u2] 0,.live [.s a1.Contact,.s a1.Name,.i a1.Sub,.i a1.Ver,.b a1.Own] 0,.live [.i (0:Int),.i (0:Int),.sl (List.map ItemItem.v []) true,.sl (List.map RosterGone.v []) true] 0])) ?_ ?_
 ·have H:=HL5
  conv=>whnf
  refine tst_d H (fun b8 H=>?_) (fun b8 H=>?_)
  ·conv=>whnf
   iterate 6 (refine Tst.F ?_;conv=>whnf)
   obtain rfl:=Option.some.inj H
   exact arrive_c [19,20,21,22,23,24,25,26,27,14] 3 [] (⟨_,HQ6,rfl,rfl⟩) (Nat.zero_le _) rfl (by kernel_rfl) (by kernel_rfl) rfl ⟨⟨rfl,rfl,rfl⟩,⟨⟨rfl,rfl,rfl⟩,⟨⟨rfl,rfl,rfl⟩,trivial⟩⟩⟩
  conv=>whnf
  iterate 3 (refine Tst.T ?_;conv=>whnf)
  refine ixs_c (f:=ItemItem.v) H (fun _=>rfl) (fun x9 H=>?_);conv=>whnf
  iterate 2 (refine Tst.T ?_;conv=>whnf)
  refine ask_c (p_ref20_Listed_v _) H rfl rfl (fun v10 H=>?_);conv=>whnf
  refine Tst.T ?_;conv=>whnf
  obtain rfl:=Option.some.inj H
  exact arrive_c [19,20,21,22,23,24,25,26,27,14] 3 [] (⟨_,HQ6,rfl,rfl⟩) (Nat.zero_le _) rfl (by kernel_rfl) (by kernel_rfl) rfl ⟨⟨rfl,rfl,rfl⟩,⟨⟨rfl,rfl,rfl⟩,⟨⟨rfl,rfl,rfl⟩,trivial⟩⟩⟩
 rintro _ _ (⟨y11,H,rfl,rfl⟩)
 rw [hK3] at H
 try dsimp only at H
 conv=>whnf
 refine Ari.w ?_;conv=>whnf
 refine lq_ ?_;conv=>whnf
 refine lq_ ?_;conv=>whnf
 refine slsH_c (f:=ItemItem.v) H (fun _=>rfl) (fun x12 H=>?_);conv=>whnf
 refine appE_c (f:=ItemItem.v) H (fun _=>rfl) rfl (.v (srcM (f:=ItemItem.v) (fun _=>rfl) _ _)) (by decide) rfl (fun H=>?_) (fun l13 H=>?_)
 ·conv=>whnf
  obtain ⟨K158,hK159,o160,HL161,HQ162⟩:=join0_c H
  refine join_c [8,2,3,4] [41,42,43,44,45,46,47,28,31,32,34,36] (fun vals st=>(K158 []=some r∧vals=[.sl (List.map ItemItem.v []) true,.ptr 0 0,.ptr 1 0,.ptr 2 0]∧st=[.live [.i (w64 (a0.Ver + (1:Int))),.i a0.Floor,.sl (List.map ItemItem.v a0.Items) u1,.sl (List.map RosterGone.v a0.Gone) u2] 0,.live [.s a1.Contact,.s a1.Name,.i a1.Sub,.i (w64 (a0.Ver + (1:Int))),.b a1.Own] 0,.live [.i (0:Int),.i (0:Int),.sl (List.map ItemItem.v []) true,.sl (List.map RosterGone.v []) true] 0])∨(∃ y167,K158 y167=some r∧vals=[.osl 3 0 (List.length y167) 5 false,.ptr 0 0,.ptr 1 0,.ptr 2 0]∧st=[.live [.i (w64 (a0.Ver + (1:Int))),.i a0.Floor,.sl (List.map ItemItem.v a0.Items) u1,.sl (List.map RosterGone.v a0.Gone) u2] 0,.live [.s a1.Contact,.s a1.Name,.i a1.Sub,.i (w64 (a0.Ver + (1:Int))),.b a1.Own] 0,.live [.i (0:Int),.i (0:Int),.sl (List.map ItemItem.v []) true,.sl (List.map RosterGone.v []) true] 0,.live (cellsM ItemItem.v y167) (cellsM ItemItem.v y167).length])) ?_ ?_
  ·have H:=HL161
   conv=>whnf
   refine ask_c (p_ref20_Idle_v _) H rfl rfl (fun v164 H=>?_);conv=>whnf
   refine Tst.not ?_
   refine tst_c H (fun b165 H=>?_) (fun b165 H=>?_)
   ·conv=>whnf
    obtain rfl:=Option.some.inj H
    exact arrive_c [41,42,43,44,45,46,47,28,31,32,34,36] 3 [] (.inl (⟨HQ162,rfl,rfl⟩)) (Nat.zero_le _) rfl (by kernel_rfl) (by kernel_rfl) rfl ⟨⟨rfl,rfl,rfl⟩,⟨⟨rfl,rfl,rfl⟩,⟨⟨rfl,rfl,rfl⟩,trivial⟩⟩⟩
   conv=>whnf
   refine appN_c (f:=ItemItem.v) H (fun _=>rfl) (srcM (f:=ItemItem.v) (fun _=>rfl) [] true) rfl (.v (srcOwn (f:=ItemItem.v) (l:=[(ItemItem.mk a1.Contact a1.Name a1.Sub (w64 (a0.Ver + (1:Int))) a1.Own)]) (fun _=>rfl) rfl rfl rfl)) (by decide) rfl (by simp) (fun l166 H=>?_);conv=>whnf
   obtain rfl:=Option.some.inj H
   exact arrive_c [41,42,43,44,45,46,47,28,31,32,34,36] 4 [0,1,2,5] (.inr (⟨_,HQ162,rfl,rfl⟩)) (Nat.zero_le _) rfl (by kernel_rfl) (by kernel_rfl) rfl ⟨⟨rfl,rfl,rfl⟩,⟨⟨rfl,rfl,rfl⟩,⟨⟨rfl,rfl,rfl⟩,wkB_live0 rfl (cellsM_idlt (f:=ItemItem.v) (fun _=>rfl) _) rfl trivial⟩⟩⟩
  rintro _ _ (⟨H,rfl,rfl⟩ | ⟨y167,H,rfl,rfl⟩)
  ·rw [hK159] at H
   try dsimp only at H
   conv=>whnf
   obtain ⟨K168,hK169,o170,HL171,HQ172⟩:=join0_c H
   refine join_c [5,2,3,4] [48,49,50] (fun vals st=>(∃ y175,K168 y175=some r∧vals=[.i y175,.ptr 0 0,.ptr 1 0,.ptr 2 0]∧st=[.live [.i (w64 (a0.Ver + (1:Int))),.i a0.Floor,.sl (List.map ItemItem.v a0.Items) u1,.sl (List.map RosterGone.v a0.Gone) u2] 0,.live [.s a1.Contact,.s a1.Name,.i a1.Sub,.i (w64 (a0.Ver + (1:Int))),.b a1.Own] 0,.live [.i (0:Int),.i (0:Int),.sl (List.map ItemItem.v []) true,.sl (List.map RosterGone.v []) true] 0])) ?_ ?_
   ·have H:=HL171
    conv=>whnf
    refine tst_d H (fun b174 H=>?_) (fun b174 H=>?_)
    ·conv=>whnf
     obtain rfl:=Option.some.inj H
     exact arrive_c [48,49,50] 3 [] (⟨_,HQ172,rfl,rfl⟩) (Nat.zero_le _) rfl (by kernel_rfl) (by kernel_rfl) rfl ⟨⟨rfl,rfl,rfl⟩,⟨⟨rfl,rfl,rfl⟩,⟨⟨rfl,rfl,rfl⟩,trivial⟩⟩⟩
    conv=>whnf
    refine Ari.w ?_;conv=>whnf
    obtain rfl:=Option.some.inj H
    exact arrive_c [48,49,50] 3 [] (⟨_,HQ172,rfl,rfl⟩) (Nat.zero_le _) rfl (by kernel_rfl) (by kernel_rfl) rfl ⟨⟨rfl,rfl,rfl⟩,⟨⟨rfl,rfl,rfl⟩,⟨⟨rfl,rfl,rfl⟩,trivial⟩⟩⟩
   rintro _ _ (⟨y175,H,rfl,rfl⟩)
   rw [hK169] at H
   try dsimp only at H
   conv=>whnf
   refine slsE_c (f:=ItemItem.v) H (fun _=>rfl) (fun x176 H=>?_);conv=>whnf
   refine appE_c (f:=ItemItem.v) H (fun _=>rfl) rfl (.v (srcM (f:=ItemItem.v) (fun _=>rfl) _ _)) (by decide) rfl (fun H=>?_) (fun l177 H=>?_)
   ·conv=>whnf
    refine lq_ ?_;conv=>whnf
    refine ask_c (p_ref20_Listed_v _) H rfl rfl (fun v240 H=>?_);conv=>whnf
    obtain ⟨o242,HL243,HQ244⟩:=bind_c H
    refine loop_c [9,11] [60,61,62,63,64,65,66,67,68,69,70,71,72,73,74,75,76,77,78,79,80,81,82,83,84,85,86,87,88,89,90,91,52,57] [60,61,62,63,64,65,66,67,68,69,70,71,72,73,74,75,76,77,78,79,80,81,82,83,84,85,86,87,88,89,90,91,52,57] (fun n vals st=>(∃ y246,p_ref21_change_l1  y11 v240 (RosterState.mk (w64 (a0.Ver + (1:Int))) a0.Floor [] a0.Gone) (ItemItem.mk a1.Contact a1.Name a1.Sub (w64 (a0.Ver + (1:Int))) a1.Own) n [] y246=some o242∧vals=[.sl (List.map RosterGone.v []) true,.i y246]∧st=[.live [.i (w64 (a0.Ver + (1:Int))),.i a0.Floor,.sl (List.map ItemItem.v []) true,.sl (List.map RosterGone.v a0.Gone) u2] 0,.live [.s a1.Contact,.s a1.Name,.i a1.Sub,.i (w64 (a0.Ver + (1:Int))),.b a1.Own] 0,.live [.i (0:Int),.i (0:Int),.sl (List.map ItemItem.v []) true,.sl (List.map RosterGone.v []) true] 0])∨(∃ y254 y255,p_ref21_change_l1  y11 v240 (RosterState.mk (w64 (a0.Ver + (1:Int))) a0.Floor [] a0.Gone) (ItemItem.mk a1.Contact a1.Name a1.Sub (w64 (a0.Ver + (1:Int))) a1.Own) n y254 y255=some o242∧vals=[.osl 3 0 (List.length y254) 2 false,.i y255]∧st=[.live [.i (w64 (a0.Ver + (1:Int))),.i a0.Floor,.sl (List.map ItemItem.v []) true,.sl (List.map RosterGone.v a0.Gone) u2] 0,.live [.s a1.Contact,.s a1.Name,.i a1.Sub,.i (w64 (a0.Ver + (1:Int))),.b a1.Own] 0,.live [.i (0:Int),.i (0:Int),.sl (List.map ItemItem.v []) true,.sl (List.map RosterGone.v []) true] 0,.live (cellsM RosterGone.v y254) (cellsM RosterGone.v y254).length])) fuel 3 [] (.inl (⟨_,HL243,rfl,rfl⟩)) (Nat.zero_le _) rfl (by kernel_rfl) (by kernel_rfl) rfl ⟨⟨rfl,rfl,rfl⟩,⟨⟨rfl,rfl,rfl⟩,⟨⟨rfl,rfl,rfl⟩,trivial⟩⟩⟩ ?_
    rintro (_ | n245) _ _ (⟨y246,H,rfl,rfl⟩ | ⟨y254,y255,H,rfl,rfl⟩)
    ·rw [p_ref21_change_l1] at H;cases H
    ·rw [p_ref21_change_l1] at H;cases H
    ·rw [p_ref21_change_l1] at H
     conv=>whnf
     refine LenQ.M ?_;conv=>whnf
     refine tst_c H (fun b247 H=>?_) (fun b247 H=>?_)
     ·conv=>whnf
      refine ixs_c (f:=RosterGone.v) H (fun _=>rfl) (fun x248 H=>?_);conv=>whnf
      refine lq_ ?_;conv=>whnf
      refine Tst.not ?_
      refine tst_d H (fun b249 H=>?_) (fun b249 H=>?_)
      ·conv=>whnf
       iterate 4 (refine Tst.T ?_;conv=>whnf)
       refine FootQ.mk ⟨rfl,?_⟩;conv=>whnf
       refine Tst.T ?_;conv=>whnf
       refine ixs_c (f:=RosterGone.v) H (fun _=>rfl) (fun x256 H=>?_);conv=>whnf
       refine appN_c (f:=RosterGone.v) H (fun _=>rfl) (srcM (f:=RosterGone.v) (fun _=>rfl) [] true) rfl (.v (srcOwn (f:=RosterGone.v) (l:=[x256]) (fun _=>rfl) rfl rfl rfl)) (by decide) rfl (by simp) (fun l257 H=>?_);conv=>whnf
       refine Ari.w ?_;conv=>whnf
       exact again_c [60,61,62,63,64,65,66,67,68,69,70,71,72,73,74,75,76,77,78,79,80,81,82,83,84,85,86,87,88,89,90,91,52,57] n245 4 [0,1,2,4] (.inr (⟨_,_,H,rfl,rfl⟩)) (Nat.lt_succ_self _) (Nat.zero_le _) rfl (by kernel_rfl) (by kernel_rfl) rfl ⟨⟨rfl,rfl,rfl⟩,⟨⟨rfl,rfl,rfl⟩,⟨⟨rfl,rfl,rfl⟩,wkB_live0 rfl (cellsM_idlt (f:=RosterGone.v) (fun _=>rfl) _) rfl trivial⟩⟩⟩
      conv=>whnf
      iterate 2 (refine Tst.F ?_;conv=>whnf)
      refine Tst.not ?_
      refine tst_c H (fun b250 H=>?_) (fun b250 H=>?_)
      ·conv=>whnf
       iterate 4 (refine Tst.F ?_;conv=>whnf)
       refine FootQ.mk ⟨rfl,?_⟩;conv=>whnf
       refine Tst.F ?_;conv=>whnf
       refine Ari.w ?_;conv=>whnf
       exact again_c [60,61,62,63,64,65,66,67,68,69,70,71,72,73,74,75,76,77,78,79,80,81,82,83,84,85,86,87,88,89,90,91,52,57] n245 3 [] (.inl (⟨_,H,rfl,rfl⟩)) (Nat.lt_succ_self _) (Nat.zero_le _) rfl (by kernel_rfl) (by kernel_rfl) rfl ⟨⟨rfl,rfl,rfl⟩,⟨⟨rfl,rfl,rfl⟩,⟨⟨rfl,rfl,rfl⟩,trivial⟩⟩⟩
      conv=>whnf
      refine Tst.T ?_;conv=>whnf
      refine Tst.F ?_;conv=>whnf
      refine Tst.T ?_;conv=>whnf
      refine Tst.F ?_;conv=>whnf
      refine FootQ.mk ⟨rfl,?_⟩;conv=>whnf
      refine Tst.not ?_
      refine tst_c H (fun b251 H=>?_) (fun b251 H=>?_)
      ·conv=>whnf
       refine Ari.w ?_;conv=>whnf
       exact again_c [60,61,62,63,64,65,66,67,68,69,70,71,72,73,74,75,76,77,78,79,80,81,82,83,84,85,86,87,88,89,90,91,52,57] n245 3 [] (.inl (⟨_,H,rfl,rfl⟩)) (Nat.lt_succ_self _) (Nat.zero_le _) rfl (by kernel_rfl) (by kernel_rfl) rfl ⟨⟨rfl,rfl,rfl⟩,⟨⟨rfl,rfl,rfl⟩,⟨⟨rfl,rfl,rfl⟩,trivial⟩⟩⟩
      conv=>whnf
      refine ixs_c (f:=RosterGone.v) H (fun _=>rfl) (fun x252 H=>?_);conv=>whnf
      refine appN_c (f:=RosterGone.v) H (fun _=>rfl) (srcM (f:=RosterGone.v) (fun _=>rfl) [] true) rfl (.v (srcOwn (f:=RosterGone.v) (l:=[x252]) (fun _=>rfl) rfl rfl rfl)) (by decide) rfl (by simp) (fun l253 H=>?_);conv=>whnf
      refine Ari.w ?_;conv=>whnf
      exact again_c [60,61,62,63,64,65,66,67,68,69,70,71,72,73,74,75,76,77,78,79,80,81,82,83,84,85,86,87,88,89,90,91,52,57] n245 4 [0,1,2,4] (.inr (⟨_,_,H,rfl,rfl⟩)) (Nat.lt_succ_self _) (Nat.zero_le _) rfl (by kernel_rfl) (by kernel_rfl) rfl ⟨⟨rfl,rfl,rfl⟩,⟨⟨rfl,rfl,rfl⟩,⟨⟨rfl,rfl,rfl⟩,wkB_live0 rfl (cellsM_idlt (f:=RosterGone.v) (fun _=>rfl) _) rfl trivial⟩⟩⟩
     conv=>whnf
     obtain rfl:=Option.some.inj H
     have H:=HQ244
     try dsimp only at H
     obtain ⟨K258,hK259,o260,HL261,HQ262⟩:=join0_c H
     refine join_c [9,2,4] [92,93,94,95,96,97,98,99,100,101,102,103,104,3,61] (fun vals st=>(K258 []=some r∧vals=[.sl (List.map RosterGone.v []) true,.ptr 0 0,.ptr 1 0]∧st=[.live [.i (w64 (a0.Ver + (1:Int))),.i a0.Floor,.sl (List.map ItemItem.v []) true,.sl (List.map RosterGone.v a0.Gone) u2] 0,.live [.i (0:Int),.i (0:Int),.sl (List.map ItemItem.v []) true,.sl (List.map RosterGone.v []) true] 0])∨(∃ y267,K258 y267=some r∧vals=[.osl 2 0 (List.length y267) 2 false,.ptr 0 0,.ptr 1 0]∧st=[.live [.i (w64 (a0.Ver + (1:Int))),.i a0.Floor,.sl (List.map ItemItem.v []) true,.sl (List.map RosterGone.v a0.Gone) u2] 0,.live [.i (0:Int),.i (0:Int),.sl (List.map ItemItem.v []) true,.sl (List.map RosterGone.v []) true] 0,.live (cellsM RosterGone.v y267) (cellsM RosterGone.v y267).length])) ?_ ?_
     ·have H:=HL261
      conv=>whnf
      refine tst_d H (fun b264 H=>?_) (fun b264 H=>?_)
      ·conv=>whnf
       iterate 3 (refine Tst.F ?_;conv=>whnf)
       obtain rfl:=Option.some.inj H
       exact arrive_c [92,93,94,95,96,97,98,99,100,101,102,103,104,3,61] 2 [0,2] (.inl (⟨HQ262,rfl,rfl⟩)) (Nat.zero_le _) rfl (by kernel_rfl) (by kernel_rfl) rfl ⟨⟨rfl,rfl,rfl⟩,⟨⟨rfl,rfl,rfl⟩,trivial⟩⟩
      conv=>whnf
      iterate 2 (refine Tst.T ?_;conv=>whnf)
      refine Tst.not ?_
      refine tst_c H (fun b265 H=>?_) (fun b265 H=>?_)
      ·conv=>whnf
       obtain rfl:=Option.some.inj H
       exact arrive_c [92,93,94,95,96,97,98,99,100,101,102,103,104,3,61] 2 [0,2] (.inl (⟨HQ262,rfl,rfl⟩)) (Nat.zero_le _) rfl (by kernel_rfl) (by kernel_rfl) rfl ⟨⟨rfl,rfl,rfl⟩,⟨⟨rfl,rfl,rfl⟩,trivial⟩⟩
      conv=>whnf
      refine appN_c (f:=RosterGone.v) H (fun _=>rfl) (srcM (f:=RosterGone.v) (fun _=>rfl) [] true) rfl (.v (srcOwn (f:=RosterGone.v) (l:=[(RosterGone.mk a1.Contact (w64 (a0.Ver + (1:Int))))]) (fun _=>rfl) rfl rfl rfl)) (by decide) rfl (by simp) (fun l266 H=>?_);conv=>whnf
      obtain rfl:=Option.some.inj H
      exact arrive_c [92,93,94,95,96,97,98,99,100,101,102,103,104,3,61] 3 [0,2,4] (.inr (⟨_,HQ262,rfl,rfl⟩)) (Nat.zero_le _) rfl (by kernel_rfl) (by kernel_rfl) rfl ⟨⟨rfl,rfl,rfl⟩,⟨⟨rfl,rfl,rfl⟩,wkB_live0 rfl (cellsM_idlt (f:=RosterGone.v) (fun _=>rfl) _) rfl trivial⟩⟩
     rintro _ _ (⟨H,rfl,rfl⟩ | ⟨y267,H,rfl,rfl⟩)
     ·rw [hK259] at H
      try dsimp only at H
      conv=>whnf
      refine LenQ.ok ?_;conv=>whnf
      refine tst_c H (fun b268 H=>?_) (fun b268 H=>?_)
      ·conv=>whnf
       exact nil_at H
      conv=>whnf
      refine lq_ ?_;conv=>whnf
      refine lq_ ?_;conv=>whnf
      refine finR_c (enc:=RosterState.v) H ?_;conv=>whnf
      exact ⟨_,.v (fzagg (.cons (.id rfl) (.cons (.id rfl) (.cons (.slw) (.cons (.slw) (.nil))))) rfl)⟩
     rw [hK259] at H
     try dsimp only at H
     conv=>whnf
     refine tst_d H (fun b269 H=>?_) (fun b269 H=>?_)
     ·conv=>whnf
      refine lq_ ?_;conv=>whnf
      refine lq_ ?_;conv=>whnf
      refine finR_c (enc:=RosterState.v) H ?_;conv=>whnf
      exact ⟨_,.v (fzagg (.cons (.id rfl) (.cons (.id rfl) (.cons (.slw) (.cons (fzown (f:=RosterGone.v) (l:=y267) rfl rfl (fun _=>rfl) (fun _=>rfl)) (.nil))))) rfl)⟩
     conv=>whnf
     refine ⟨rfl,ixo_c H (fun x270 h271 H=>?_)⟩;conv=>whnf
     refine ldo_c (f:=RosterGone.v) (es:=2) h271 (fun _=>rfl) 1 (by omega) (by decide) ?_;conv=>whnf
     refine lq_ ?_;conv=>whnf
     refine ⟨rfl,?_⟩;conv=>whnf
     refine slE_c (l:=y267) H rfl (fun x272 a273 h274 h275 H=>?_) (fun H=>?_)
     ·conv=>whnf
      refine lq_ ?_;conv=>whnf
      refine lq_ ?_;conv=>whnf
      refine finR_c (enc:=RosterState.v) H ?_;conv=>whnf
      exact ⟨_,.v (fzagg (.cons (.id rfl) (.cons (.id rfl) (.cons (.slw) (.cons (fzprtD (f:=RosterGone.v) (l:=y267) rfl rfl rfl h274 h275 (fun _=>rfl) (fun _=>rfl)) (.nil))))) rfl)⟩
     conv=>whnf
     refine lq_ ?_;conv=>whnf
     refine lq_ ?_;conv=>whnf
     refine finR_c (enc:=RosterState.v) H ?_;conv=>whnf
     exact ⟨_,.v (fzagg (.cons (.id rfl) (.cons (.id rfl) (.cons (.slw) (.cons (.id rfl) (.nil))))) rfl)⟩
    rw [p_ref21_change_l1] at H
    conv=>whnf
    refine LenQ.M ?_;conv=>whnf
    refine tst_c H (fun b276 H=>?_) (fun b276 H=>?_)
    ·conv=>whnf
     refine ixs_c (f:=RosterGone.v) H (fun _=>rfl) (fun x277 H=>?_);conv=>whnf
     refine lq_ ?_;conv=>whnf
     refine Tst.not ?_
     refine tst_d H (fun b278 H=>?_) (fun b278 H=>?_)
     ·conv=>whnf
      iterate 4 (refine Tst.T ?_;conv=>whnf)
      refine FootQ.mk ⟨rfl,?_⟩;conv=>whnf
      refine Tst.T ?_;conv=>whnf
      refine ixs_c (f:=RosterGone.v) H (fun _=>rfl) (fun x283 H=>?_);conv=>whnf
      refine appO_c (f:=RosterGone.v) H (fun _=>rfl) rfl (Nat.le_refl _) (.v (srcOwn (f:=RosterGone.v) (l:=[x283]) (fun _=>rfl) rfl rfl rfl)) (by decide) rfl (by simp) (fun l284 H=>?_);conv=>whnf
      refine Ari.w ?_;conv=>whnf
      exact again_c [60,61,62,63,64,65,66,67,68,69,70,71,72,73,74,75,76,77,78,79,80,81,82,83,84,85,86,87,88,89,90,91,52,57] n245 4 [0,1,2,5] (.inr (⟨_,_,H,rfl,rfl⟩)) (Nat.lt_succ_self _) (Nat.zero_le _) rfl (by kernel_rfl) (by kernel_rfl) rfl ⟨⟨rfl,rfl,rfl⟩,⟨⟨rfl,rfl,rfl⟩,⟨⟨rfl,rfl,rfl⟩,wkB_live0 rfl (cellsM_idlt (f:=RosterGone.v) (fun _=>rfl) _) rfl trivial⟩⟩⟩
     conv=>whnf
     iterate 2 (refine Tst.F ?_;conv=>whnf)
     refine Tst.not ?_
     refine tst_c H (fun b279 H=>?_) (fun b279 H=>?_)
     ·conv=>whnf
      iterate 4 (refine Tst.F ?_;conv=>whnf)
      refine FootQ.mk ⟨rfl,?_⟩;conv=>whnf
      refine Tst.F ?_;conv=>whnf
      refine Ari.w ?_;conv=>whnf
      exact again_c [60,61,62,63,64,65,66,67,68,69,70,71,72,73,74,75,76,77,78,79,80,81,82,83,84,85,86,87,88,89,90,91,52,57] n245 4 [] (.inr (⟨_,_,H,rfl,rfl⟩)) (Nat.lt_succ_self _) (Nat.zero_le _) rfl (by kernel_rfl) (by kernel_rfl) rfl ⟨⟨rfl,rfl,rfl⟩,⟨⟨rfl,rfl,rfl⟩,⟨⟨rfl,rfl,rfl⟩,wkB_live0 rfl (cellsM_idlt (f:=RosterGone.v) (fun _=>rfl) _) rfl trivial⟩⟩⟩
     conv=>whnf
     refine Tst.T ?_;conv=>whnf
     refine Tst.F ?_;conv=>whnf
     refine Tst.T ?_;conv=>whnf
     refine Tst.F ?_;conv=>whnf
     refine FootQ.mk ⟨rfl,?_⟩;conv=>whnf
     refine Tst.not ?_
     refine tst_c H (fun b280 H=>?_) (fun b280 H=>?_)
     ·conv=>whnf
      refine Ari.w ?_;conv=>whnf
      exact again_c [60,61,62,63,64,65,66,67,68,69,70,71,72,73,74,75,76,77,78,79,80,81,82,83,84,85,86,87,88,89,90,91,52,57] n245 4 [] (.inr (⟨_,_,H,rfl,rfl⟩)) (Nat.lt_succ_self _) (Nat.zero_le _) rfl (by kernel_rfl) (by kernel_rfl) rfl ⟨⟨rfl,rfl,rfl⟩,⟨⟨rfl,rfl,rfl⟩,⟨⟨rfl,rfl,rfl⟩,wkB_live0 rfl (cellsM_idlt (f:=RosterGone.v) (fun _=>rfl) _) rfl trivial⟩⟩⟩
     conv=>whnf
     refine ixs_c (f:=RosterGone.v) H (fun _=>rfl) (fun x281 H=>?_);conv=>whnf
     refine appO_c (f:=RosterGone.v) H (fun _=>rfl) rfl (Nat.le_refl _) (.v (srcOwn (f:=RosterGone.v) (l:=[x281]) (fun _=>rfl) rfl rfl rfl)) (by decide) rfl (by simp) (fun l282 H=>?_);conv=>whnf
     refine Ari.w ?_;conv=>whnf
     exact again_c [60,61,62,63,64,65,66,67,68,69,70,71,72,73,74,75,76,77,78,79,80,81,82,83,84,85,86,87,88,89,90,91,52,57] n245 4 [0,1,2,5] (.inr (⟨_,_,H,rfl,rfl⟩)) (Nat.lt_succ_self _) (Nat.zero_le _) rfl (by kernel_rfl) (by kernel_rfl) rfl ⟨⟨rfl,rfl,rfl⟩,⟨⟨rfl,rfl,rfl⟩,⟨⟨rfl,rfl,rfl⟩,wkB_live0 rfl (cellsM_idlt (f:=RosterGone.v) (fun _=>rfl) _) rfl trivial⟩⟩⟩
    conv=>whnf
    obtain rfl:=Option.some.inj H
    have H:=HQ244
    try dsimp only at H
    obtain ⟨K285,hK286,o287,HL288,HQ289⟩:=join0_c H
    refine join_c [9,2,4] [92,93,94,95,96,97,98,99,100,101,102,103,104,3,61] (fun vals st=>(∃ y293,K285 y293=some r∧vals=[.osl 2 0 (List.length y293) 2 false,.ptr 0 0,.ptr 1 0]∧st=[.live [.i (w64 (a0.Ver + (1:Int))),.i a0.Floor,.sl (List.map ItemItem.v []) true,.sl (List.map RosterGone.v a0.Gone) u2] 0,.live [.i (0:Int),.i (0:Int),.sl (List.map ItemItem.v []) true,.sl (List.map RosterGone.v []) true] 0,.live (cellsM RosterGone.v y293) (cellsM RosterGone.v y293).length])) ?_ ?_
    ·have H:=HL288
     conv=>whnf
     refine tst_d H (fun b291 H=>?_) (fun b291 H=>?_)
     ·conv=>whnf
      iterate 3 (refine Tst.F ?_;conv=>whnf)
      obtain rfl:=Option.some.inj H
      exact arrive_c [92,93,94,95,96,97,98,99,100,101,102,103,104,3,61] 3 [0,2,3] (⟨_,HQ289,rfl,rfl⟩) (Nat.zero_le _) rfl (by kernel_rfl) (by kernel_rfl) rfl ⟨⟨rfl,rfl,rfl⟩,⟨⟨rfl,rfl,rfl⟩,wkB_live0 rfl (cellsM_idlt (f:=RosterGone.v) (fun _=>rfl) _) rfl trivial⟩⟩
     conv=>whnf
     iterate 2 (refine Tst.T ?_;conv=>whnf)
     refine Tst.not ?_
     refine tst_c H (fun b292 H=>?_) (fun b292 H=>?_)
     ·conv=>whnf
      obtain rfl:=Option.some.inj H
      exact arrive_c [92,93,94,95,96,97,98,99,100,101,102,103,104,3,61] 3 [0,2,3] (⟨_,HQ289,rfl,rfl⟩) (Nat.zero_le _) rfl (by kernel_rfl) (by kernel_rfl) rfl ⟨⟨rfl,rfl,rfl⟩,⟨⟨rfl,rfl,rfl⟩,wkB_live0 rfl (cellsM_idlt (f:=RosterGone.v) (fun _=>rfl) _) rfl trivial⟩⟩
     conv=>whnf
     refine appO_c (f:=RosterGone.v) H (fun _=>rfl) rfl (Nat.le_refl _) (.v (srcOwn (f:=RosterGone.v) (l:=[(RosterGone.mk a1.Contact (w64 (a0.Ver + (1:Int))))]) (fun _=>rfl) rfl rfl rfl)) (by decide) rfl (by simp) (fun l294 H=>?_);conv=>whnf
     obtain rfl:=Option.some.inj H
     exact arrive_c [92,93,94,95,96,97,98,99,100,101,102,103,104,3,61] 3 [0,2,5] (⟨_,HQ289,rfl,rfl⟩) (Nat.zero_le _) rfl (by kernel_rfl) (by kernel_rfl) rfl ⟨⟨rfl,rfl,rfl⟩,⟨⟨rfl,rfl,rfl⟩,wkB_live0 rfl (cellsM_idlt (f:=RosterGone.v) (fun _=>rfl) _) rfl trivial⟩⟩
    rintro _ _ (⟨y293,H,rfl,rfl⟩)
    rw [hK286] at H
    try dsimp only at H
    conv=>whnf
    refine tst_d H (fun b295 H=>?_) (fun b295 H=>?_)
    ·conv=>whnf
     refine lq_ ?_;conv=>whnf
     refine lq_ ?_;conv=>whnf
     refine finR_c (enc:=RosterState.v) H ?_;conv=>whnf
     exact ⟨_,.v (fzagg (.cons (.id rfl) (.cons (.id rfl) (.cons (.slw) (.cons (fzown (f:=RosterGone.v) (l:=y293) rfl rfl (fun _=>rfl) (fun _=>rfl)) (.nil))))) rfl)⟩
    conv=>whnf
    refine ⟨rfl,ixo_c H (fun x296 h297 H=>?_)⟩;conv=>whnf
    refine ldo_c (f:=RosterGone.v) (es:=2) h297 (fun _=>rfl) 1 (by omega) (by decide) ?_;conv=>whnf
    refine lq_ ?_;conv=>whnf
    refine ⟨rfl,?_⟩;conv=>whnf
    refine slE_c (l:=y293) H rfl (fun x298 a299 h300 h301 H=>?_) (fun H=>?_)
    ·conv=>whnf
     refine lq_ ?_;conv=>whnf
     refine lq_ ?_;conv=>whnf
     refine finR_c (enc:=RosterState.v) H ?_;conv=>whnf
     exact ⟨_,.v (fzagg (.cons (.id rfl) (.cons (.id rfl) (.cons (.slw) (.cons (fzprtD (f:=RosterGone.v) (l:=y293) rfl rfl rfl h300 h301 (fun _=>rfl) (fun _=>rfl)) (.nil))))) rfl)⟩
    conv=>whnf
    refine lq_ ?_;conv=>whnf
    refine lq_ ?_;conv=>whnf
    refine finR_c (enc:=RosterState.v) H ?_;conv=>whnf
    exact ⟨_,.v (fzagg (.cons (.id rfl) (.cons (.id rfl) (.cons (.slw) (.cons (.id rfl) (.nil))))) rfl)⟩
   conv=>whnf
   refine lq_ ?_;conv=>whnf
   refine ask_c (p_ref20_Listed_v _) H rfl rfl (fun v178 H=>?_);conv=>whnf
   obtain ⟨o180,HL181,HQ182⟩:=bind_c H
   refine loop_c [9,11] [60,61,62,63,64,65,66,67,68,69,70,71,72,73,74,75,76,77,78,79,80,81,82,83,84,85,86,87,88,89,90,91,52,56,57] [60,61,62,63,64,65,66,67,68,69,70,71,72,73,74,75,76,77,78,79,80,81,82,83,84,85,86,87,88,89,90,91,52,56,57] (fun n vals st=>(∃ y184,p_ref21_change_l1  y11 v178 (RosterState.mk (w64 (a0.Ver + (1:Int))) a0.Floor l177 a0.Gone) (ItemItem.mk a1.Contact a1.Name a1.Sub (w64 (a0.Ver + (1:Int))) a1.Own) n [] y184=some o180∧vals=[.sl (List.map RosterGone.v []) true,.i y184]∧st=[.live [.i (w64 (a0.Ver + (1:Int))),.i a0.Floor,.osl 3 0 (List.length l177) 5 false,.sl (List.map RosterGone.v a0.Gone) u2] 0,.live [.s a1.Contact,.s a1.Name,.i a1.Sub,.i (w64 (a0.Ver + (1:Int))),.b a1.Own] 0,.live [.i (0:Int),.i (0:Int),.sl (List.map ItemItem.v []) true,.sl (List.map RosterGone.v []) true] 0,.live (cellsM ItemItem.v l177) (cellsM ItemItem.v l177).length])∨(∃ y192 y193,p_ref21_change_l1  y11 v178 (RosterState.mk (w64 (a0.Ver + (1:Int))) a0.Floor l177 a0.Gone) (ItemItem.mk a1.Contact a1.Name a1.Sub (w64 (a0.Ver + (1:Int))) a1.Own) n y192 y193=some o180∧vals=[.osl 4 0 (List.length y192) 2 false,.i y193]∧st=[.live [.i (w64 (a0.Ver + (1:Int))),.i a0.Floor,.osl 3 0 (List.length l177) 5 false,.sl (List.map RosterGone.v a0.Gone) u2] 0,.live [.s a1.Contact,.s a1.Name,.i a1.Sub,.i (w64 (a0.Ver + (1:Int))),.b a1.Own] 0,.live [.i (0:Int),.i (0:Int),.sl (List.map ItemItem.v []) true,.sl (List.map RosterGone.v []) true] 0,.live (cellsM ItemItem.v l177) (cellsM ItemItem.v l177).length,.live (cellsM RosterGone.v y192) (cellsM RosterGone.v y192).length])) fuel 4 [] (.inl (⟨_,HL181,rfl,rfl⟩)) (Nat.zero_le _) rfl (by kernel_rfl) (by kernel_rfl) rfl ⟨⟨rfl,rfl,rfl⟩,⟨⟨rfl,rfl,rfl⟩,⟨⟨rfl,rfl,rfl⟩,wkB_live0 rfl (cellsM_idlt (f:=ItemItem.v) (fun _=>rfl) _) rfl trivial⟩⟩⟩ ?_
   rintro (_ | n183) _ _ (⟨y184,H,rfl,rfl⟩ | ⟨y192,y193,H,rfl,rfl⟩)
   ·rw [p_ref21_change_l1] at H;cases H
   ·rw [p_ref21_change_l1] at H;cases H
   ·rw [p_ref21_change_l1] at H
    conv=>whnf
    refine LenQ.M ?_;conv=>whnf
    refine tst_c H (fun b185 H=>?_) (fun b185 H=>?_)
    ·conv=>whnf
     refine ixs_c (f:=RosterGone.v) H (fun _=>rfl) (fun x186 H=>?_);conv=>whnf
     refine lq_ ?_;conv=>whnf
     refine Tst.not ?_
     refine tst_d H (fun b187 H=>?_) (fun b187 H=>?_)
     ·conv=>whnf
      iterate 4 (refine Tst.T ?_;conv=>whnf)
      refine FootQ.mk ⟨rfl,?_⟩;conv=>whnf
      refine Tst.T ?_;conv=>whnf
      refine ixs_c (f:=RosterGone.v) H (fun _=>rfl) (fun x194 H=>?_);conv=>whnf
      refine appN_c (f:=RosterGone.v) H (fun _=>rfl) (srcM (f:=RosterGone.v) (fun _=>rfl) [] true) rfl (.v (srcOwn (f:=RosterGone.v) (l:=[x194]) (fun _=>rfl) rfl rfl rfl)) (by decide) rfl (by simp) (fun l195 H=>?_);conv=>whnf
      refine Ari.w ?_;conv=>whnf
      exact again_c [60,61,62,63,64,65,66,67,68,69,70,71,72,73,74,75,76,77,78,79,80,81,82,83,84,85,86,87,88,89,90,91,52,56,57] n183 5 [0,1,2,3,5] (.inr (⟨_,_,H,rfl,rfl⟩)) (Nat.lt_succ_self _) (Nat.zero_le _) rfl (by kernel_rfl) (by kernel_rfl) rfl ⟨⟨rfl,rfl,rfl⟩,⟨⟨rfl,rfl,rfl⟩,⟨⟨rfl,rfl,rfl⟩,wkB_live0 rfl (cellsM_idlt (f:=ItemItem.v) (fun _=>rfl) _) rfl (wkB_live0 rfl (cellsM_idlt (f:=RosterGone.v) (fun _=>rfl) _) rfl trivial)⟩⟩⟩
     conv=>whnf
     iterate 2 (refine Tst.F ?_;conv=>whnf)
     refine Tst.not ?_
     refine tst_c H (fun b188 H=>?_) (fun b188 H=>?_)
     ·conv=>whnf
      iterate 4 (refine Tst.F ?_;conv=>whnf)
      refine FootQ.mk ⟨rfl,?_⟩;conv=>whnf
      refine Tst.F ?_;conv=>whnf
      refine Ari.w ?_;conv=>whnf
      exact again_c [60,61,62,63,64,65,66,67,68,69,70,71,72,73,74,75,76,77,78,79,80,81,82,83,84,85,86,87,88,89,90,91,52,56,57] n183 4 [] (.inl (⟨_,H,rfl,rfl⟩)) (Nat.lt_succ_self _) (Nat.zero_le _) rfl (by kernel_rfl) (by kernel_rfl) rfl ⟨⟨rfl,rfl,rfl⟩,⟨⟨rfl,rfl,rfl⟩,⟨⟨rfl,rfl,rfl⟩,wkB_live0 rfl (cellsM_idlt (f:=ItemItem.v) (fun _=>rfl) _) rfl trivial⟩⟩⟩
     conv=>whnf
     refine Tst.T ?_;conv=>whnf
     refine Tst.F ?_;conv=>whnf
     refine Tst.T ?_;conv=>whnf
     refine Tst.F ?_;conv=>whnf
     refine FootQ.mk ⟨rfl,?_⟩;conv=>whnf
     refine Tst.not ?_
     refine tst_c H (fun b189 H=>?_) (fun b189 H=>?_)
     ·conv=>whnf
      refine Ari.w ?_;conv=>whnf
      exact again_c [60,61,62,63,64,65,66,67,68,69,70,71,72,73,74,75,76,77,78,79,80,81,82,83,84,85,86,87,88,89,90,91,52,56,57] n183 4 [] (.inl (⟨_,H,rfl,rfl⟩)) (Nat.lt_succ_self _) (Nat.zero_le _) rfl (by kernel_rfl) (by kernel_rfl) rfl ⟨⟨rfl,rfl,rfl⟩,⟨⟨rfl,rfl,rfl⟩,⟨⟨rfl,rfl,rfl⟩,wkB_live0 rfl (cellsM_idlt (f:=ItemItem.v) (fun _=>rfl) _) rfl trivial⟩⟩⟩
     conv=>whnf
     refine ixs_c (f:=RosterGone.v) H (fun _=>rfl) (fun x190 H=>?_);conv=>whnf
     refine appN_c (f:=RosterGone.v) H (fun _=>rfl) (srcM (f:=RosterGone.v) (fun _=>rfl) [] true) rfl (.v (srcOwn (f:=RosterGone.v) (l:=[x190]) (fun _=>rfl) rfl rfl rfl)) (by decide) rfl (by simp) (fun l191 H=>?_);conv=>whnf
     refine Ari.w ?_;conv=>whnf
     exact again_c [60,61,62,63,64,65,66,67,68,69,70,71,72,73,74,75,76,77,78,79,80,81,82,83,84,85,86,87,88,89,90,91,52,56,57] n183 5 [0,1,2,3,5] (.inr (⟨_,_,H,rfl,rfl⟩)) (Nat.lt_succ_self _) (Nat.zero_le _) rfl (by kernel_rfl) (by kernel_rfl) rfl ⟨⟨rfl,rfl,rfl⟩,⟨⟨rfl,rfl,rfl⟩,⟨⟨rfl,rfl,rfl⟩,wkB_live0 rfl (cellsM_idlt (f:=ItemItem.v) (fun _=>rfl) _) rfl (wkB_live0 rfl (cellsM_idlt (f:=RosterGone.v) (fun _=>rfl) _) rfl trivial)⟩⟩⟩
    conv=>whnf
    obtain rfl:=Option.some.inj H
    have H:=HQ182
    try dsimp only at H
    obtain ⟨K196,hK197,o198,HL199,HQ200⟩:=join0_c H
    refine join_c [9,2,4] [92,93,94,95,96,97,98,99,100,101,102,103,104,3,61] (fun vals st=>(K196 []=some r∧vals=[.sl (List.map RosterGone.v []) true,.ptr 0 0,.ptr 1 0]∧st=[.live [.i (w64 (a0.Ver + (1:Int))),.i a0.Floor,.osl 2 0 (List.length l177) 5 false,.sl (List.map RosterGone.v a0.Gone) u2] 0,.live [.i (0:Int),.i (0:Int),.sl (List.map ItemItem.v []) true,.sl (List.map RosterGone.v []) true] 0,.live (cellsM ItemItem.v l177) (cellsM ItemItem.v l177).length])∨(∃ y205,K196 y205=some r∧vals=[.osl 3 0 (List.length y205) 2 false,.ptr 0 0,.ptr 1 0]∧st=[.live [.i (w64 (a0.Ver + (1:Int))),.i a0.Floor,.osl 2 0 (List.length l177) 5 false,.sl (List.map RosterGone.v a0.Gone) u2] 0,.live [.i (0:Int),.i (0:Int),.sl (List.map ItemItem.v []) true,.sl (List.map RosterGone.v []) true] 0,.live (cellsM ItemItem.v l177) (cellsM ItemItem.v l177).length,.live (cellsM RosterGone.v y205) (cellsM RosterGone.v y205).length])) ?_ ?_
    ·have H:=HL199
     conv=>whnf
     refine tst_d H (fun b202 H=>?_) (fun b202 H=>?_)
     ·conv=>whnf
      iterate 3 (refine Tst.F ?_;conv=>whnf)
      obtain rfl:=Option.some.inj H
      exact arrive_c [92,93,94,95,96,97,98,99,100,101,102,103,104,3,61] 3 [0,2,3] (.inl (⟨HQ200,rfl,rfl⟩)) (Nat.zero_le _) rfl (by kernel_rfl) (by kernel_rfl) rfl ⟨⟨rfl,rfl,rfl⟩,⟨⟨rfl,rfl,rfl⟩,wkB_live0 rfl (cellsM_idlt (f:=ItemItem.v) (fun _=>rfl) _) rfl trivial⟩⟩
     conv=>whnf
     iterate 2 (refine Tst.T ?_;conv=>whnf)
     refine Tst.not ?_
     refine tst_c H (fun b203 H=>?_) (fun b203 H=>?_)
     ·conv=>whnf
      obtain rfl:=Option.some.inj H
      exact arrive_c [92,93,94,95,96,97,98,99,100,101,102,103,104,3,61] 3 [0,2,3] (.inl (⟨HQ200,rfl,rfl⟩)) (Nat.zero_le _) rfl (by kernel_rfl) (by kernel_rfl) rfl ⟨⟨rfl,rfl,rfl⟩,⟨⟨rfl,rfl,rfl⟩,wkB_live0 rfl (cellsM_idlt (f:=ItemItem.v) (fun _=>rfl) _) rfl trivial⟩⟩
     conv=>whnf
     refine appN_c (f:=RosterGone.v) H (fun _=>rfl) (srcM (f:=RosterGone.v) (fun _=>rfl) [] true) rfl (.v (srcOwn (f:=RosterGone.v) (l:=[(RosterGone.mk a1.Contact (w64 (a0.Ver + (1:Int))))]) (fun _=>rfl) rfl rfl rfl)) (by decide) rfl (by simp) (fun l204 H=>?_);conv=>whnf
     obtain rfl:=Option.some.inj H
     exact arrive_c [92,93,94,95,96,97,98,99,100,101,102,103,104,3,61] 4 [0,2,3,5] (.inr (⟨_,HQ200,rfl,rfl⟩)) (Nat.zero_le _) rfl (by kernel_rfl) (by kernel_rfl) rfl ⟨⟨rfl,rfl,rfl⟩,⟨⟨rfl,rfl,rfl⟩,wkB_live0 rfl (cellsM_idlt (f:=ItemItem.v) (fun _=>rfl) _) rfl (wkB_live0 rfl (cellsM_idlt (f:=RosterGone.v) (fun _=>rfl) _) rfl trivial)⟩⟩
    rintro _ _ (⟨H,rfl,rfl⟩ | ⟨y205,H,rfl,rfl⟩)
    ·rw [hK197] at H
     try dsimp only at H
     conv=>whnf
     refine LenQ.ok ?_;conv=>whnf
     refine tst_c H (fun b206 H=>?_) (fun b206 H=>?_)
     ·conv=>whnf
      exact nil_at H
     conv=>whnf
     refine lq_ ?_;conv=>whnf
     refine lq_ ?_;conv=>whnf
     refine finR_c (enc:=RosterState.v) H ?_;conv=>whnf
     exact ⟨_,.v (fzagg (.cons (.id rfl) (.cons (.id rfl) (.cons (fzown (f:=ItemItem.v) (l:=l177) rfl rfl (fun _=>rfl) (fun _=>rfl)) (.cons (.slw) (.nil))))) rfl)⟩
    rw [hK197] at H
    try dsimp only at H
    conv=>whnf
    refine tst_d H (fun b207 H=>?_) (fun b207 H=>?_)
    ·conv=>whnf
     refine lq_ ?_;conv=>whnf
     refine lq_ ?_;conv=>whnf
     refine finR_c (enc:=RosterState.v) H ?_;conv=>whnf
     exact ⟨_,.v (fzagg (.cons (.id rfl) (.cons (.id rfl) (.cons (fzown (f:=ItemItem.v) (l:=l177) rfl rfl (fun _=>rfl) (fun _=>rfl)) (.cons (fzown (f:=RosterGone.v) (l:=y205) rfl rfl (fun _=>rfl) (fun _=>rfl)) (.nil))))) rfl)⟩
    conv=>whnf
    refine ⟨rfl,ixo_c H (fun x208 h209 H=>?_)⟩;conv=>whnf
    refine ldo_c (f:=RosterGone.v) (es:=2) h209 (fun _=>rfl) 1 (by omega) (by decide) ?_;conv=>whnf
    refine lq_ ?_;conv=>whnf
    refine ⟨rfl,?_⟩;conv=>whnf
    refine slE_c (l:=y205) H rfl (fun x210 a211 h212 h213 H=>?_) (fun H=>?_)
    ·conv=>whnf
     refine lq_ ?_;conv=>whnf
     refine lq_ ?_;conv=>whnf
     refine finR_c (enc:=RosterState.v) H ?_;conv=>whnf
     exact ⟨_,.v (fzagg (.cons (.id rfl) (.cons (.id rfl) (.cons (fzown (f:=ItemItem.v) (l:=l177) rfl rfl (fun _=>rfl) (fun _=>rfl)) (.cons (fzprtD (f:=RosterGone.v) (l:=y205) rfl rfl rfl h212 h213 (fun _=>rfl) (fun _=>rfl)) (.nil))))) rfl)⟩
    conv=>whnf
    refine lq_ ?_;conv=>whnf
    refine lq_ ?_;conv=>whnf
    refine finR_c (enc:=RosterState.v) H ?_;conv=>whnf
    exact ⟨_,.v (fzagg (.cons (.id rfl) (.cons (.id rfl) (.cons (fzown (f:=ItemItem.v) (l:=l177) rfl rfl (fun _=>rfl) (fun _=>rfl)) (.cons (.id rfl) (.nil))))) rfl)⟩
   rw [p_ref21_change_l1] at H
   conv=>whnf
   refine LenQ.M ?_;conv=>whnf
   refine tst_c H (fun b214 H=>?_) (fun b214 H=>?_)
   ·conv=>whnf
    refine ixs_c (f:=RosterGone.v) H (fun _=>rfl) (fun x215 H=>?_);conv=>whnf
    refine lq_ ?_;conv=>whnf
    refine Tst.not ?_
    refine tst_d H (fun b216 H=>?_) (fun b216 H=>?_)
    ·conv=>whnf
     iterate 4 (refine Tst.T ?_;conv=>whnf)
     refine FootQ.mk ⟨rfl,?_⟩;conv=>whnf
     refine Tst.T ?_;conv=>whnf
     refine ixs_c (f:=RosterGone.v) H (fun _=>rfl) (fun x221 H=>?_);conv=>whnf
     refine appO_c (f:=RosterGone.v) H (fun _=>rfl) rfl (Nat.le_refl _) (.v (srcOwn (f:=RosterGone.v) (l:=[x221]) (fun _=>rfl) rfl rfl rfl)) (by decide) rfl (by simp) (fun l222 H=>?_);conv=>whnf
     refine Ari.w ?_;conv=>whnf
     exact again_c [60,61,62,63,64,65,66,67,68,69,70,71,72,73,74,75,76,77,78,79,80,81,82,83,84,85,86,87,88,89,90,91,52,56,57] n183 5 [0,1,2,3,6] (.inr (⟨_,_,H,rfl,rfl⟩)) (Nat.lt_succ_self _) (Nat.zero_le _) rfl (by kernel_rfl) (by kernel_rfl) rfl ⟨⟨rfl,rfl,rfl⟩,⟨⟨rfl,rfl,rfl⟩,⟨⟨rfl,rfl,rfl⟩,wkB_live0 rfl (cellsM_idlt (f:=ItemItem.v) (fun _=>rfl) _) rfl (wkB_live0 rfl (cellsM_idlt (f:=RosterGone.v) (fun _=>rfl) _) rfl trivial)⟩⟩⟩
    conv=>whnf
    iterate 2 (refine Tst.F ?_;conv=>whnf)
    refine Tst.not ?_
    refine tst_c H (fun b217 H=>?_) (fun b217 H=>?_)
    ·conv=>whnf
     iterate 4 (refine Tst.F ?_;conv=>whnf)
     refine FootQ.mk ⟨rfl,?_⟩;conv=>whnf
     refine Tst.F ?_;conv=>whnf
     refine Ari.w ?_;conv=>whnf
     exact again_c [60,61,62,63,64,65,66,67,68,69,70,71,72,73,74,75,76,77,78,79,80,81,82,83,84,85,86,87,88,89,90,91,52,56,57] n183 5 [] (.inr (⟨_,_,H,rfl,rfl⟩)) (Nat.lt_succ_self _) (Nat.zero_le _) rfl (by kernel_rfl) (by kernel_rfl) rfl ⟨⟨rfl,rfl,rfl⟩,⟨⟨rfl,rfl,rfl⟩,⟨⟨rfl,rfl,rfl⟩,wkB_live0 rfl (cellsM_idlt (f:=ItemItem.v) (fun _=>rfl) _) rfl (wkB_live0 rfl (cellsM_idlt (f:=RosterGone.v) (fun _=>rfl) _) rfl trivial)⟩⟩⟩
    conv=>whnf
    refine Tst.T ?_;conv=>whnf
    refine Tst.F ?_;conv=>whnf
    refine Tst.T ?_;conv=>whnf
    refine Tst.F ?_;conv=>whnf
    refine FootQ.mk ⟨rfl,?_⟩;conv=>whnf
    refine Tst.not ?_
    refine tst_c H (fun b218 H=>?_) (fun b218 H=>?_)
    ·conv=>whnf
     refine Ari.w ?_;conv=>whnf
     exact again_c [60,61,62,63,64,65,66,67,68,69,70,71,72,73,74,75,76,77,78,79,80,81,82,83,84,85,86,87,88,89,90,91,52,56,57] n183 5 [] (.inr (⟨_,_,H,rfl,rfl⟩)) (Nat.lt_succ_self _) (Nat.zero_le _) rfl (by kernel_rfl) (by kernel_rfl) rfl ⟨⟨rfl,rfl,rfl⟩,⟨⟨rfl,rfl,rfl⟩,⟨⟨rfl,rfl,rfl⟩,wkB_live0 rfl (cellsM_idlt (f:=ItemItem.v) (fun _=>rfl) _) rfl (wkB_live0 rfl (cellsM_idlt (f:=RosterGone.v) (fun _=>rfl) _) rfl trivial)⟩⟩⟩
    conv=>whnf
    refine ixs_c (f:=RosterGone.v) H (fun _=>rfl) (fun x219 H=>?_);conv=>whnf
    refine appO_c (f:=RosterGone.v) H (fun _=>rfl) rfl (Nat.le_refl _) (.v (srcOwn (f:=RosterGone.v) (l:=[x219]) (fun _=>rfl) rfl rfl rfl)) (by decide) rfl (by simp) (fun l220 H=>?_);conv=>whnf
    refine Ari.w ?_;conv=>whnf
    exact again_c [60,61,62,63,64,65,66,67,68,69,70,71,72,73,74,75,76,77,78,79,80,81,82,83,84,85,86,87,88,89,90,91,52,56,57] n183 5 [0,1,2,3,6] (.inr (⟨_,_,H,rfl,rfl⟩)) (Nat.lt_succ_self _) (Nat.zero_le _) rfl (by kernel_rfl) (by kernel_rfl) rfl ⟨⟨rfl,rfl,rfl⟩,⟨⟨rfl,rfl,rfl⟩,⟨⟨rfl,rfl,rfl⟩,wkB_live0 rfl (cellsM_idlt (f:=ItemItem.v) (fun _=>rfl) _) rfl (wkB_live0 rfl (cellsM_idlt (f:=RosterGone.v) (fun _=>rfl) _) rfl trivial)⟩⟩⟩
   conv=>whnf
   obtain rfl:=Option.some.inj H
   have H:=HQ182
   try dsimp only at H
   obtain ⟨K223,hK224,o225,HL226,HQ227⟩:=join0_c H
   refine join_c [9,2,4] [92,93,94,95,96,97,98,99,100,101,102,103,104,3,61] (fun vals st=>(∃ y231,K223 y231=some r∧vals=[.osl 3 0 (List.length y231) 2 false,.ptr 0 0,.ptr 1 0]∧st=[.live [.i (w64 (a0.Ver + (1:Int))),.i a0.Floor,.osl 2 0 (List.length l177) 5 false,.sl (List.map RosterGone.v a0.Gone) u2] 0,.live [.i (0:Int),.i (0:Int),.sl (List.map ItemItem.v []) true,.sl (List.map RosterGone.v []) true] 0,.live (cellsM ItemItem.v l177) (cellsM ItemItem.v l177).length,.live (cellsM RosterGone.v y231) (cellsM RosterGone.v y231).length])) ?_ ?_
   ·have H:=HL226
    conv=>whnf
    refine tst_d H (fun b229 H=>?_) (fun b229 H=>?_)
    ·conv=>whnf
     iterate 3 (refine Tst.F ?_;conv=>whnf)
     obtain rfl:=Option.some.inj H
     exact arrive_c [92,93,94,95,96,97,98,99,100,101,102,103,104,3,61] 4 [0,2,3,4] (⟨_,HQ227,rfl,rfl⟩) (Nat.zero_le _) rfl (by kernel_rfl) (by kernel_rfl) rfl ⟨⟨rfl,rfl,rfl⟩,⟨⟨rfl,rfl,rfl⟩,wkB_live0 rfl (cellsM_idlt (f:=ItemItem.v) (fun _=>rfl) _) rfl (wkB_live0 rfl (cellsM_idlt (f:=RosterGone.v) (fun _=>rfl) _) rfl trivial)⟩⟩
    conv=>whnf
    iterate 2 (refine Tst.T ?_;conv=>whnf)
    refine Tst.not ?_
    refine tst_c H (fun b230 H=>?_) (fun b230 H=>?_)
    ·conv=>whnf
     obtain rfl:=Option.some.inj H
     exact arrive_c [92,93,94,95,96,97,98,99,100,101,102,103,104,3,61] 4 [0,2,3,4] (⟨_,HQ227,rfl,rfl⟩) (Nat.zero_le _) rfl (by kernel_rfl) (by kernel_rfl) rfl ⟨⟨rfl,rfl,rfl⟩,⟨⟨rfl,rfl,rfl⟩,wkB_live0 rfl (cellsM_idlt (f:=ItemItem.v) (fun _=>rfl) _) rfl (wkB_live0 rfl (cellsM_idlt (f:=RosterGone.v) (fun _=>rfl) _) rfl trivial)⟩⟩
    conv=>whnf
    refine appO_c (f:=RosterGone.v) H (fun _=>rfl) rfl (Nat.le_refl _) (.v (srcOwn (f:=RosterGone.v) (l:=[(RosterGone.mk a1.Contact (w64 (a0.Ver + (1:Int))))]) (fun _=>rfl) rfl rfl rfl)) (by decide) rfl (by simp) (fun l232 H=>?_);conv=>whnf
    obtain rfl:=Option.some.inj H
    exact arrive_c [92,93,94,95,96,97,98,99,100,101,102,103,104,3,61] 4 [0,2,3,6] (⟨_,HQ227,rfl,rfl⟩) (Nat.zero_le _) rfl (by kernel_rfl) (by kernel_rfl) rfl ⟨⟨rfl,rfl,rfl⟩,⟨⟨rfl,rfl,rfl⟩,wkB_live0 rfl (cellsM_idlt (f:=ItemItem.v) (fun _=>rfl) _) rfl (wkB_live0 rfl (cellsM_idlt (f:=RosterGone.v) (fun _=>rfl) _) rfl trivial)⟩⟩
   rintro _ _ (⟨y231,H,rfl,rfl⟩)
   rw [hK224] at H
   try dsimp only at H
   conv=>whnf
   refine tst_d H (fun b233 H=>?_) (fun b233 H=>?_)
   ·conv=>whnf
    refine lq_ ?_;conv=>whnf
    refine lq_ ?_;conv=>whnf
    refine finR_c (enc:=RosterState.v) H ?_;conv=>whnf
    exact ⟨_,.v (fzagg (.cons (.id rfl) (.cons (.id rfl) (.cons (fzown (f:=ItemItem.v) (l:=l177) rfl rfl (fun _=>rfl) (fun _=>rfl)) (.cons (fzown (f:=RosterGone.v) (l:=y231) rfl rfl (fun _=>rfl) (fun _=>rfl)) (.nil))))) rfl)⟩
   conv=>whnf
   refine ⟨rfl,ixo_c H (fun x234 h235 H=>?_)⟩;conv=>whnf
   refine ldo_c (f:=RosterGone.v) (es:=2) h235 (fun _=>rfl) 1 (by omega) (by decide) ?_;conv=>whnf
   refine lq_ ?_;conv=>whnf
   refine ⟨rfl,?_⟩;conv=>whnf
   refine slE_c (l:=y231) H rfl (fun x236 a237 h238 h239 H=>?_) (fun H=>?_)
   ·conv=>whnf
    refine lq_ ?_;conv=>whnf
    refine lq_ ?_;conv=>whnf
    refine finR_c (enc:=RosterState.v) H ?_;conv=>whnf
    exact ⟨_,.v (fzagg (.cons (.id rfl) (.cons (.id rfl) (.cons (fzown (f:=ItemItem.v) (l:=l177) rfl rfl (fun _=>rfl) (fun _=>rfl)) (.cons (fzprtD (f:=RosterGone.v) (l:=y231) rfl rfl rfl h238 h239 (fun _=>rfl) (fun _=>rfl)) (.nil))))) rfl)⟩
   conv=>whnf
   refine lq_ ?_;conv=>whnf
   refine lq_ ?_;conv=>whnf
   refine finR_c (enc:=RosterState.v) H ?_;conv=>whnf
   exact ⟨_,.v (fzagg (.cons (.id rfl) (.cons (.id rfl) (.cons (fzown (f:=ItemItem.v) (l:=l177) rfl rfl (fun _=>rfl) (fun _=>rfl)) (.cons (.id rfl) (.nil))))) rfl)⟩
  rw [hK159] at H
  try dsimp only at H
  conv=>whnf
  obtain ⟨K302,hK303,o304,HL305,HQ306⟩:=join0_c H
  refine join_c [5,2,3,4,8] [48,49,50] (fun vals st=>(∃ y309,K302 y309=some r∧vals=[.i y309,.ptr 0 0,.ptr 1 0,.ptr 2 0,.osl 3 0 (List.length y167) 5 false]∧st=[.live [.i (w64 (a0.Ver + (1:Int))),.i a0.Floor,.sl (List.map ItemItem.v a0.Items) u1,.sl (List.map RosterGone.v a0.Gone) u2] 0,.live [.s a1.Contact,.s a1.Name,.i a1.Sub,.i (w64 (a0.Ver + (1:Int))),.b a1.Own] 0,.live [.i (0:Int),.i (0:Int),.sl (List.map ItemItem.v []) true,.sl (List.map RosterGone.v []) true] 0,.live (cellsM ItemItem.v y167) (cellsM ItemItem.v y167).length])) ?_ ?_
  ·have H:=HL305
   conv=>whnf
   refine tst_d H (fun b308 H=>?_) (fun b308 H=>?_)
   ·conv=>whnf
    obtain rfl:=Option.some.inj H
    exact arrive_c [48,49,50] 4 [] (⟨_,HQ306,rfl,rfl⟩) (Nat.zero_le _) rfl (by kernel_rfl) (by kernel_rfl) rfl ⟨⟨rfl,rfl,rfl⟩,⟨⟨rfl,rfl,rfl⟩,⟨⟨rfl,rfl,rfl⟩,wkB_live0 rfl (cellsM_idlt (f:=ItemItem.v) (fun _=>rfl) _) rfl trivial⟩⟩⟩
   conv=>whnf
   refine Ari.w ?_;conv=>whnf
   obtain rfl:=Option.some.inj H
   exact arrive_c [48,49,50] 4 [] (⟨_,HQ306,rfl,rfl⟩) (Nat.zero_le _) rfl (by kernel_rfl) (by kernel_rfl) rfl ⟨⟨rfl,rfl,rfl⟩,⟨⟨rfl,rfl,rfl⟩,⟨⟨rfl,rfl,rfl⟩,wkB_live0 rfl (cellsM_idlt (f:=ItemItem.v) (fun _=>rfl) _) rfl trivial⟩⟩⟩
  rintro _ _ (⟨y309,H,rfl,rfl⟩)
  rw [hK303] at H
  try dsimp only at H
  conv=>whnf
  refine slsE_c (f:=ItemItem.v) H (fun _=>rfl) (fun x310 H=>?_);conv=>whnf
  refine appP_c (f:=ItemItem.v) H (fun _=>rfl) rfl rfl (.v (srcM (f:=ItemItem.v) (fun _=>rfl) _ _)) (by decide) rfl (fun l311 H=>?_) (fun l311 H=>?_)
  ·conv=>whnf
   refine lq_ ?_;conv=>whnf
   refine ask_c (p_ref20_Listed_v _) H rfl rfl (fun v374 H=>?_);conv=>whnf
   obtain ⟨o376,HL377,HQ378⟩:=bind_c H
   refine loop_c [9,11] [60,61,62,63,64,65,66,67,68,69,70,71,72,73,74,75,76,77,78,79,80,81,82,83,84,85,86,87,88,89,90,91,8,51,52,56,57] [60,61,62,63,64,65,66,67,68,69,70,71,72,73,74,75,76,77,78,79,80,81,82,83,84,85,86,87,88,89,90,91,8,51,52,56,57] (fun n vals st=>(∃ y380,p_ref21_change_l1  y11 v374 (RosterState.mk (w64 (a0.Ver + (1:Int))) a0.Floor l311 a0.Gone) (ItemItem.mk a1.Contact a1.Name a1.Sub (w64 (a0.Ver + (1:Int))) a1.Own) n [] y380=some o376∧vals=[.sl (List.map RosterGone.v []) true,.i y380]∧st=[.live [.i (w64 (a0.Ver + (1:Int))),.i a0.Floor,.osl 3 0 (List.length l311) 5 false,.sl (List.map RosterGone.v a0.Gone) u2] 0,.live [.s a1.Contact,.s a1.Name,.i a1.Sub,.i (w64 (a0.Ver + (1:Int))),.b a1.Own] 0,.live [.i (0:Int),.i (0:Int),.sl (List.map ItemItem.v []) true,.sl (List.map RosterGone.v []) true] 0,.live (cellsM ItemItem.v l311) (cellsM ItemItem.v l311).length])∨(∃ y388 y389,p_ref21_change_l1  y11 v374 (RosterState.mk (w64 (a0.Ver + (1:Int))) a0.Floor l311 a0.Gone) (ItemItem.mk a1.Contact a1.Name a1.Sub (w64 (a0.Ver + (1:Int))) a1.Own) n y388 y389=some o376∧vals=[.osl 4 0 (List.length y388) 2 false,.i y389]∧st=[.live [.i (w64 (a0.Ver + (1:Int))),.i a0.Floor,.osl 3 0 (List.length l311) 5 false,.sl (List.map RosterGone.v a0.Gone) u2] 0,.live [.s a1.Contact,.s a1.Name,.i a1.Sub,.i (w64 (a0.Ver + (1:Int))),.b a1.Own] 0,.live [.i (0:Int),.i (0:Int),.sl (List.map ItemItem.v []) true,.sl (List.map RosterGone.v []) true] 0,.live (cellsM ItemItem.v l311) (cellsM ItemItem.v l311).length,.live (cellsM RosterGone.v y388) (cellsM RosterGone.v y388).length])) fuel 4 [] (.inl (⟨_,HL377,rfl,rfl⟩)) (Nat.zero_le _) rfl (by kernel_rfl) (by kernel_rfl) rfl ⟨⟨rfl,rfl,rfl⟩,⟨⟨rfl,rfl,rfl⟩,⟨⟨rfl,rfl,rfl⟩,wkB_live0 rfl (cellsM_idlt (f:=ItemItem.v) (fun _=>rfl) _) rfl trivial⟩⟩⟩ ?_
   rintro (_ | n379) _ _ (⟨y380,H,rfl,rfl⟩ | ⟨y388,y389,H,rfl,rfl⟩)
   ·rw [p_ref21_change_l1] at H;cases H
   ·rw [p_ref21_change_l1] at H;cases H
   ·rw [p_ref21_change_l1] at H
    conv=>whnf
    refine LenQ.M ?_;conv=>whnf
    refine tst_c H (fun b381 H=>?_) (fun b381 H=>?_)
    ·conv=>whnf
     refine ixs_c (f:=RosterGone.v) H (fun _=>rfl) (fun x382 H=>?_);conv=>whnf
     refine lq_ ?_;conv=>whnf
     refine Tst.not ?_
     refine tst_d H (fun b383 H=>?_) (fun b383 H=>?_)
     ·conv=>whnf
      iterate 4 (refine Tst.T ?_;conv=>whnf)
      refine FootQ.mk ⟨rfl,?_⟩;conv=>whnf
      refine Tst.T ?_;conv=>whnf
      refine ixs_c (f:=RosterGone.v) H (fun _=>rfl) (fun x390 H=>?_);conv=>whnf
      refine appN_c (f:=RosterGone.v) H (fun _=>rfl) (srcM (f:=RosterGone.v) (fun _=>rfl) [] true) rfl (.v (srcOwn (f:=RosterGone.v) (l:=[x390]) (fun _=>rfl) rfl rfl rfl)) (by decide) rfl (by simp) (fun l391 H=>?_);conv=>whnf
      refine Ari.w ?_;conv=>whnf
      exact again_c [60,61,62,63,64,65,66,67,68,69,70,71,72,73,74,75,76,77,78,79,80,81,82,83,84,85,86,87,88,89,90,91,8,51,52,56,57] n379 5 [0,1,2,3,5] (.inr (⟨_,_,H,rfl,rfl⟩)) (Nat.lt_succ_self _) (Nat.zero_le _) rfl (by kernel_rfl) (by kernel_rfl) rfl ⟨⟨rfl,rfl,rfl⟩,⟨⟨rfl,rfl,rfl⟩,⟨⟨rfl,rfl,rfl⟩,wkB_live0 rfl (cellsM_idlt (f:=ItemItem.v) (fun _=>rfl) _) rfl (wkB_live0 rfl (cellsM_idlt (f:=RosterGone.v) (fun _=>rfl) _) rfl trivial)⟩⟩⟩
     conv=>whnf
     iterate 2 (refine Tst.F ?_;conv=>whnf)
     refine Tst.not ?_
     refine tst_c H (fun b384 H=>?_) (fun b384 H=>?_)
     ·conv=>whnf
      iterate 4 (refine Tst.F ?_;conv=>whnf)
      refine FootQ.mk ⟨rfl,?_⟩;conv=>whnf
      refine Tst.F ?_;conv=>whnf
      refine Ari.w ?_;conv=>whnf
      exact again_c [60,61,62,63,64,65,66,67,68,69,70,71,72,73,74,75,76,77,78,79,80,81,82,83,84,85,86,87,88,89,90,91,8,51,52,56,57] n379 4 [] (.inl (⟨_,H,rfl,rfl⟩)) (Nat.lt_succ_self _) (Nat.zero_le _) rfl (by kernel_rfl) (by kernel_rfl) rfl ⟨⟨rfl,rfl,rfl⟩,⟨⟨rfl,rfl,rfl⟩,⟨⟨rfl,rfl,rfl⟩,wkB_live0 rfl (cellsM_idlt (f:=ItemItem.v) (fun _=>rfl) _) rfl trivial⟩⟩⟩
     conv=>whnf
     refine Tst.T ?_;conv=>whnf
     refine Tst.F ?_;conv=>whnf
     refine Tst.T ?_;conv=>whnf
     refine Tst.F ?_;conv=>whnf
     refine FootQ.mk ⟨rfl,?_⟩;conv=>whnf
     refine Tst.not ?_
     refine tst_c H (fun b385 H=>?_) (fun b385 H=>?_)
     ·conv=>whnf
      refine Ari.w ?_;conv=>whnf
      exact again_c [60,61,62,63,64,65,66,67,68,69,70,71,72,73,74,75,76,77,78,79,80,81,82,83,84,85,86,87,88,89,90,91,8,51,52,56,57] n379 4 [] (.inl (⟨_,H,rfl,rfl⟩)) (Nat.lt_succ_self _) (Nat.zero_le _) rfl (by kernel_rfl) (by kernel_rfl) rfl ⟨⟨rfl,rfl,rfl⟩,⟨⟨rfl,rfl,rfl⟩,⟨⟨rfl,rfl,rfl⟩,wkB_live0 rfl (cellsM_idlt (f:=ItemItem.v) (fun _=>rfl) _) rfl trivial⟩⟩⟩
     conv=>whnf
     refine ixs_c (f:=RosterGone.v) H (fun _=>rfl) (fun x386 H=>?_);conv=>whnf
     refine appN_c (f:=RosterGone.v) H (fun _=>rfl) (srcM (f:=RosterGone.v) (fun _=>rfl) [] true) rfl (.v (srcOwn (f:=RosterGone.v) (l:=[x386]) (fun _=>rfl) rfl rfl rfl)) (by decide) rfl (by simp) (fun l387 H=>?_);conv=>whnf
     refine Ari.w ?_;conv=>whnf
     exact again_c [60,61,62,63,64,65,66,67,68,69,70,71,72,73,74,75,76,77,78,79,80,81,82,83,84,85,86,87,88,89,90,91,8,51,52,56,57] n379 5 [0,1,2,3,5] (.inr (⟨_,_,H,rfl,rfl⟩)) (Nat.lt_succ_self _) (Nat.zero_le _) rfl (by kernel_rfl) (by kernel_rfl) rfl ⟨⟨rfl,rfl,rfl⟩,⟨⟨rfl,rfl,rfl⟩,⟨⟨rfl,rfl,rfl⟩,wkB_live0 rfl (cellsM_idlt (f:=ItemItem.v) (fun _=>rfl) _) rfl (wkB_live0 rfl (cellsM_idlt (f:=RosterGone.v) (fun _=>rfl) _) rfl trivial)⟩⟩⟩
    conv=>whnf
    obtain rfl:=Option.some.inj H
    have H:=HQ378
    try dsimp only at H
    obtain ⟨K392,hK393,o394,HL395,HQ396⟩:=join0_c H
    refine join_c [9,2,4] [92,93,94,95,96,97,98,99,100,101,102,103,104,3,61] (fun vals st=>(K392 []=some r∧vals=[.sl (List.map RosterGone.v []) true,.ptr 0 0,.ptr 1 0]∧st=[.live [.i (w64 (a0.Ver + (1:Int))),.i a0.Floor,.osl 2 0 (List.length l311) 5 false,.sl (List.map RosterGone.v a0.Gone) u2] 0,.live [.i (0:Int),.i (0:Int),.sl (List.map ItemItem.v []) true,.sl (List.map RosterGone.v []) true] 0,.live (cellsM ItemItem.v l311) (cellsM ItemItem.v l311).length])∨(∃ y401,K392 y401=some r∧vals=[.osl 3 0 (List.length y401) 2 false,.ptr 0 0,.ptr 1 0]∧st=[.live [.i (w64 (a0.Ver + (1:Int))),.i a0.Floor,.osl 2 0 (List.length l311) 5 false,.sl (List.map RosterGone.v a0.Gone) u2] 0,.live [.i (0:Int),.i (0:Int),.sl (List.map ItemItem.v []) true,.sl (List.map RosterGone.v []) true] 0,.live (cellsM ItemItem.v l311) (cellsM ItemItem.v l311).length,.live (cellsM RosterGone.v y401) (cellsM RosterGone.v y401).length])) ?_ ?_
    ·have H:=HL395
     conv=>whnf
     refine tst_d H (fun b398 H=>?_) (fun b398 H=>?_)
     ·conv=>whnf
      iterate 3 (refine Tst.F ?_;conv=>whnf)
      obtain rfl:=Option.some.inj H
      exact arrive_c [92,93,94,95,96,97,98,99,100,101,102,103,104,3,61] 3 [0,2,3] (.inl (⟨HQ396,rfl,rfl⟩)) (Nat.zero_le _) rfl (by kernel_rfl) (by kernel_rfl) rfl ⟨⟨rfl,rfl,rfl⟩,⟨⟨rfl,rfl,rfl⟩,wkB_live0 rfl (cellsM_idlt (f:=ItemItem.v) (fun _=>rfl) _) rfl trivial⟩⟩
     conv=>whnf
     iterate 2 (refine Tst.T ?_;conv=>whnf)
     refine Tst.not ?_
     refine tst_c H (fun b399 H=>?_) (fun b399 H=>?_)
     ·conv=>whnf
      obtain rfl:=Option.some.inj H
      exact arrive_c [92,93,94,95,96,97,98,99,100,101,102,103,104,3,61] 3 [0,2,3] (.inl (⟨HQ396,rfl,rfl⟩)) (Nat.zero_le _) rfl (by kernel_rfl) (by kernel_rfl) rfl ⟨⟨rfl,rfl,rfl⟩,⟨⟨rfl,rfl,rfl⟩,wkB_live0 rfl (cellsM_idlt (f:=ItemItem.v) (fun _=>rfl) _) rfl trivial⟩⟩
     conv=>whnf
     refine appN_c (f:=RosterGone.v) H (fun _=>rfl) (srcM (f:=RosterGone.v) (fun _=>rfl) [] true) rfl (.v (srcOwn (f:=RosterGone.v) (l:=[(RosterGone.mk a1.Contact (w64 (a0.Ver + (1:Int))))]) (fun _=>rfl) rfl rfl rfl)) (by decide) rfl (by simp) (fun l400 H=>?_);conv=>whnf
     obtain rfl:=Option.some.inj H
     exact arrive_c [92,93,94,95,96,97,98,99,100,101,102,103,104,3,61] 4 [0,2,3,5] (.inr (⟨_,HQ396,rfl,rfl⟩)) (Nat.zero_le _) rfl (by kernel_rfl) (by kernel_rfl) rfl ⟨⟨rfl,rfl,rfl⟩,⟨⟨rfl,rfl,rfl⟩,wkB_live0 rfl (cellsM_idlt (f:=ItemItem.v) (fun _=>rfl) _) rfl (wkB_live0 rfl (cellsM_idlt (f:=RosterGone.v) (fun _=>rfl) _) rfl trivial)⟩⟩
    rintro _ _ (⟨H,rfl,rfl⟩ | ⟨y401,H,rfl,rfl⟩)
    ·rw [hK393] at H
     try dsimp only at H
     conv=>whnf
     refine LenQ.ok ?_;conv=>whnf
     refine tst_c H (fun b402 H=>?_) (fun b402 H=>?_)
     ·conv=>whnf
      exact nil_at H
     conv=>whnf
     refine lq_ ?_;conv=>whnf
     refine lq_ ?_;conv=>whnf
     refine finR_c (enc:=RosterState.v) H ?_;conv=>whnf
     exact ⟨_,.v (fzagg (.cons (.id rfl) (.cons (.id rfl) (.cons (fzown (f:=ItemItem.v) (l:=l311) rfl rfl (fun _=>rfl) (fun _=>rfl)) (.cons (.slw) (.nil))))) rfl)⟩
    rw [hK393] at H
    try dsimp only at H
    conv=>whnf
    refine tst_d H (fun b403 H=>?_) (fun b403 H=>?_)
    ·conv=>whnf
     refine lq_ ?_;conv=>whnf
     refine lq_ ?_;conv=>whnf
     refine finR_c (enc:=RosterState.v) H ?_;conv=>whnf
     exact ⟨_,.v (fzagg (.cons (.id rfl) (.cons (.id rfl) (.cons (fzown (f:=ItemItem.v) (l:=l311) rfl rfl (fun _=>rfl) (fun _=>rfl)) (.cons (fzown (f:=RosterGone.v) (l:=y401) rfl rfl (fun _=>rfl) (fun _=>rfl)) (.nil))))) rfl)⟩
    conv=>whnf
    refine ⟨rfl,ixo_c H (fun x404 h405 H=>?_)⟩;conv=>whnf
    refine ldo_c (f:=RosterGone.v) (es:=2) h405 (fun _=>rfl) 1 (by omega) (by decide) ?_;conv=>whnf
    refine lq_ ?_;conv=>whnf
    refine ⟨rfl,?_⟩;conv=>whnf
    refine slE_c (l:=y401) H rfl (fun x406 a407 h408 h409 H=>?_) (fun H=>?_)
    ·conv=>whnf
     refine lq_ ?_;conv=>whnf
     refine lq_ ?_;conv=>whnf
     refine finR_c (enc:=RosterState.v) H ?_;conv=>whnf
     exact ⟨_,.v (fzagg (.cons (.id rfl) (.cons (.id rfl) (.cons (fzown (f:=ItemItem.v) (l:=l311) rfl rfl (fun _=>rfl) (fun _=>rfl)) (.cons (fzprtD (f:=RosterGone.v) (l:=y401) rfl rfl rfl h408 h409 (fun _=>rfl) (fun _=>rfl)) (.nil))))) rfl)⟩
    conv=>whnf
    refine lq_ ?_;conv=>whnf
    refine lq_ ?_;conv=>whnf
    refine finR_c (enc:=RosterState.v) H ?_;conv=>whnf
    exact ⟨_,.v (fzagg (.cons (.id rfl) (.cons (.id rfl) (.cons (fzown (f:=ItemItem.v) (l:=l311) rfl rfl (fun _=>rfl) (fun _=>rfl)) (.cons (.id rfl) (.nil))))) rfl)⟩
   rw [p_ref21_change_l1] at H
   conv=>whnf
   refine LenQ.M ?_;conv=>whnf
   refine tst_c H (fun b410 H=>?_) (fun b410 H=>?_)
   ·conv=>whnf
    refine ixs_c (f:=RosterGone.v) H (fun _=>rfl) (fun x411 H=>?_);conv=>whnf
    refine lq_ ?_;conv=>whnf
    refine Tst.not ?_
    refine tst_d H (fun b412 H=>?_) (fun b412 H=>?_)
    ·conv=>whnf
     iterate 4 (refine Tst.T ?_;conv=>whnf)
     refine FootQ.mk ⟨rfl,?_⟩;conv=>whnf
     refine Tst.T ?_;conv=>whnf
     refine ixs_c (f:=RosterGone.v) H (fun _=>rfl) (fun x417 H=>?_);conv=>whnf
     refine appO_c (f:=RosterGone.v) H (fun _=>rfl) rfl (Nat.le_refl _) (.v (srcOwn (f:=RosterGone.v) (l:=[x417]) (fun _=>rfl) rfl rfl rfl)) (by decide) rfl (by simp) (fun l418 H=>?_);conv=>whnf
     refine Ari.w ?_;conv=>whnf
     exact again_c [60,61,62,63,64,65,66,67,68,69,70,71,72,73,74,75,76,77,78,79,80,81,82,83,84,85,86,87,88,89,90,91,8,51,52,56,57] n379 5 [0,1,2,3,6] (.inr (⟨_,_,H,rfl,rfl⟩)) (Nat.lt_succ_self _) (Nat.zero_le _) rfl (by kernel_rfl) (by kernel_rfl) rfl ⟨⟨rfl,rfl,rfl⟩,⟨⟨rfl,rfl,rfl⟩,⟨⟨rfl,rfl,rfl⟩,wkB_live0 rfl (cellsM_idlt (f:=ItemItem.v) (fun _=>rfl) _) rfl (wkB_live0 rfl (cellsM_idlt (f:=RosterGone.v) (fun _=>rfl) _) rfl trivial)⟩⟩⟩
    conv=>whnf
    iterate 2 (refine Tst.F ?_;conv=>whnf)
    refine Tst.not ?_
    refine tst_c H (fun b413 H=>?_) (fun b413 H=>?_)
    ·conv=>whnf
     iterate 4 (refine Tst.F ?_;conv=>whnf)
     refine FootQ.mk ⟨rfl,?_⟩;conv=>whnf
     refine Tst.F ?_;conv=>whnf
     refine Ari.w ?_;conv=>whnf
     exact again_c [60,61,62,63,64,65,66,67,68,69,70,71,72,73,74,75,76,77,78,79,80,81,82,83,84,85,86,87,88,89,90,91,8,51,52,56,57] n379 5 [] (.inr (⟨_,_,H,rfl,rfl⟩)) (Nat.lt_succ_self _) (Nat.zero_le _) rfl (by kernel_rfl) (by kernel_rfl) rfl ⟨⟨rfl,rfl,rfl⟩,⟨⟨rfl,rfl,rfl⟩,⟨⟨rfl,rfl,rfl⟩,wkB_live0 rfl (cellsM_idlt (f:=ItemItem.v) (fun _=>rfl) _) rfl (wkB_live0 rfl (cellsM_idlt (f:=RosterGone.v) (fun _=>rfl) _) rfl trivial)⟩⟩⟩
    conv=>whnf
    refine Tst.T ?_;conv=>whnf
    refine Tst.F ?_;conv=>whnf
    refine Tst.T ?_;conv=>whnf
    refine Tst.F ?_;conv=>whnf
    refine FootQ.mk ⟨rfl,?_⟩;conv=>whnf
    refine Tst.not ?_
    refine tst_c H (fun b414 H=>?_) (fun b414 H=>?_)
    ·conv=>whnf
     refine Ari.w ?_;conv=>whnf
     exact again_c [60,61,62,63,64,65,66,67,68,69,70,71,72,73,74,75,76,77,78,79,80,81,82,83,84,85,86,87,88,89,90,91,8,51,52,56,57] n379 5 [] (.inr (⟨_,_,H,rfl,rfl⟩)) (Nat.lt_succ_self _) (Nat.zero_le _) rfl (by kernel_rfl) (by kernel_rfl) rfl ⟨⟨rfl,rfl,rfl⟩,⟨⟨rfl,rfl,rfl⟩,⟨⟨rfl,rfl,rfl⟩,wkB_live0 rfl (cellsM_idlt (f:=ItemItem.v) (fun _=>rfl) _) rfl (wkB_live0 rfl (cellsM_idlt (f:=RosterGone.v) (fun _=>rfl) _) rfl trivial)⟩⟩⟩
    conv=>whnf
    refine ixs_c (f:=RosterGone.v) H (fun _=>rfl) (fun x415 H=>?_);conv=>whnf
    refine appO_c (f:=RosterGone.v) H (fun _=>rfl) rfl (Nat.le_refl _) (.v (srcOwn (f:=RosterGone.v) (l:=[x415]) (fun _=>rfl) rfl rfl rfl)) (by decide) rfl (by simp) (fun l416 H=>?_);conv=>whnf
    refine Ari.w ?_;conv=>whnf
    exact again_c [60,61,62,63,64,65,66,67,68,69,70,71,72,73,74,75,76,77,78,79,80,81,82,83,84,85,86,87,88,89,90,91,8,51,52,56,57] n379 5 [0,1,2,3,6] (.inr (⟨_,_,H,rfl,rfl⟩)) (Nat.lt_succ_self _) (Nat.zero_le _) rfl (by kernel_rfl) (by kernel_rfl) rfl ⟨⟨rfl,rfl,rfl⟩,⟨⟨rfl,rfl,rfl⟩,⟨⟨rfl,rfl,rfl⟩,wkB_live0 rfl (cellsM_idlt (f:=ItemItem.v) (fun _=>rfl) _) rfl (wkB_live0 rfl (cellsM_idlt (f:=RosterGone.v) (fun _=>rfl) _) rfl trivial)⟩⟩⟩
   conv=>whnf
   obtain rfl:=Option.some.inj H
   have H:=HQ378
   try dsimp only at H
   obtain ⟨K419,hK420,o421,HL422,HQ423⟩:=join0_c H
   refine join_c [9,2,4] [92,93,94,95,96,97,98,99,100,101,102,103,104,3,61] (fun vals st=>(∃ y427,K419 y427=some r∧vals=[.osl 3 0 (List.length y427) 2 false,.ptr 0 0,.ptr 1 0]∧st=[.live [.i (w64 (a0.Ver + (1:Int))),.i a0.Floor,.osl 2 0 (List.length l311) 5 false,.sl (List.map RosterGone.v a0.Gone) u2] 0,.live [.i (0:Int),.i (0:Int),.sl (List.map ItemItem.v []) true,.sl (List.map RosterGone.v []) true] 0,.live (cellsM ItemItem.v l311) (cellsM ItemItem.v l311).length,.live (cellsM RosterGone.v y427) (cellsM RosterGone.v y427).length])) ?_ ?_
   ·have H:=HL422
    conv=>whnf
    refine tst_d H (fun b425 H=>?_) (fun b425 H=>?_)
    ·conv=>whnf
     iterate 3 (refine Tst.F ?_;conv=>whnf)
     obtain rfl:=Option.some.inj H
     exact arrive_c [92,93,94,95,96,97,98,99,100,101,102,103,104,3,61] 4 [0,2,3,4] (⟨_,HQ423,rfl,rfl⟩) (Nat.zero_le _) rfl (by kernel_rfl) (by kernel_rfl) rfl ⟨⟨rfl,rfl,rfl⟩,⟨⟨rfl,rfl,rfl⟩,wkB_live0 rfl (cellsM_idlt (f:=ItemItem.v) (fun _=>rfl) _) rfl (wkB_live0 rfl (cellsM_idlt (f:=RosterGone.v) (fun _=>rfl) _) rfl trivial)⟩⟩
    conv=>whnf
    iterate 2 (refine Tst.T ?_;conv=>whnf)
    refine Tst.not ?_
    refine tst_c H (fun b426 H=>?_) (fun b426 H=>?_)
    ·conv=>whnf
     obtain rfl:=Option.some.inj H
     exact arrive_c [92,93,94,95,96,97,98,99,100,101,102,103,104,3,61] 4 [0,2,3,4] (⟨_,HQ423,rfl,rfl⟩) (Nat.zero_le _) rfl (by kernel_rfl) (by kernel_rfl) rfl ⟨⟨rfl,rfl,rfl⟩,⟨⟨rfl,rfl,rfl⟩,wkB_live0 rfl (cellsM_idlt (f:=ItemItem.v) (fun _=>rfl) _) rfl (wkB_live0 rfl (cellsM_idlt (f:=RosterGone.v) (fun _=>rfl) _) rfl trivial)⟩⟩
    conv=>whnf
    refine appO_c (f:=RosterGone.v) H (fun _=>rfl) rfl (Nat.le_refl _) (.v (srcOwn (f:=RosterGone.v) (l:=[(RosterGone.mk a1.Contact (w64 (a0.Ver + (1:Int))))]) (fun _=>rfl) rfl rfl rfl)) (by decide) rfl (by simp) (fun l428 H=>?_);conv=>whnf
    obtain rfl:=Option.some.inj H
    exact arrive_c [92,93,94,95,96,97,98,99,100,101,102,103,104,3,61] 4 [0,2,3,6] (⟨_,HQ423,rfl,rfl⟩) (Nat.zero_le _) rfl (by kernel_rfl) (by kernel_rfl) rfl ⟨⟨rfl,rfl,rfl⟩,⟨⟨rfl,rfl,rfl⟩,wkB_live0 rfl (cellsM_idlt (f:=ItemItem.v) (fun _=>rfl) _) rfl (wkB_live0 rfl (cellsM_idlt (f:=RosterGone.v) (fun _=>rfl) _) rfl trivial)⟩⟩
   rintro _ _ (⟨y427,H,rfl,rfl⟩)
   rw [hK420] at H
   try dsimp only at H
   conv=>whnf
   refine tst_d H (fun b429 H=>?_) (fun b429 H=>?_)
   ·conv=>whnf
    refine lq_ ?_;conv=>whnf
    refine lq_ ?_;conv=>whnf
    refine finR_c (enc:=RosterState.v) H ?_;conv=>whnf
    exact ⟨_,.v (fzagg (.cons (.id rfl) (.cons (.id rfl) (.cons (fzown (f:=ItemItem.v) (l:=l311) rfl rfl (fun _=>rfl) (fun _=>rfl)) (.cons (fzown (f:=RosterGone.v) (l:=y427) rfl rfl (fun _=>rfl) (fun _=>rfl)) (.nil))))) rfl)⟩
   conv=>whnf
   refine ⟨rfl,ixo_c H (fun x430 h431 H=>?_)⟩;conv=>whnf
   refine ldo_c (f:=RosterGone.v) (es:=2) h431 (fun _=>rfl) 1 (by omega) (by decide) ?_;conv=>whnf
   refine lq_ ?_;conv=>whnf
   refine ⟨rfl,?_⟩;conv=>whnf
   refine slE_c (l:=y427) H rfl (fun x432 a433 h434 h435 H=>?_) (fun H=>?_)
   ·conv=>whnf
    refine lq_ ?_;conv=>whnf
    refine lq_ ?_;conv=>whnf
    refine finR_c (enc:=RosterState.v) H ?_;conv=>whnf
    exact ⟨_,.v (fzagg (.cons (.id rfl) (.cons (.id rfl) (.cons (fzown (f:=ItemItem.v) (l:=l311) rfl rfl (fun _=>rfl) (fun _=>rfl)) (.cons (fzprtD (f:=RosterGone.v) (l:=y427) rfl rfl rfl h434 h435 (fun _=>rfl) (fun _=>rfl)) (.nil))))) rfl)⟩
   conv=>whnf
   refine lq_ ?_;conv=>whnf
   refine lq_ ?_;conv=>whnf
   refine finR_c (enc:=RosterState.v) H ?_;conv=>whnf
   exact ⟨_,.v (fzagg (.cons (.id rfl) (.cons (.id rfl) (.cons (fzown (f:=ItemItem.v) (l:=l311) rfl rfl (fun _=>rfl) (fun _=>rfl)) (.cons (.id rfl) (.nil))))) rfl)⟩
  conv=>whnf
  refine lq_ ?_;conv=>whnf
  refine ask_c (p_ref20_Listed_v _) H rfl rfl (fun v312 H=>?_);conv=>whnf
  obtain ⟨o314,HL315,HQ316⟩:=bind_c H
  refine loop_c [9,11] [60,61,62,63,64,65,66,67,68,69,70,71,72,73,74,75,76,77,78,79,80,81,82,83,84,85,86,87,88,89,90,91,8,51,52,56,57] [60,61,62,63,64,65,66,67,68,69,70,71,72,73,74,75,76,77,78,79,80,81,82,83,84,85,86,87,88,89,90,91,8,51,52,56,57] (fun n vals st=>(∃ y318,p_ref21_change_l1  y11 v312 (RosterState.mk (w64 (a0.Ver + (1:Int))) a0.Floor l311 a0.Gone) (ItemItem.mk a1.Contact a1.Name a1.Sub (w64 (a0.Ver + (1:Int))) a1.Own) n [] y318=some o314∧vals=[.sl (List.map RosterGone.v []) true,.i y318]∧st=[.live [.i (w64 (a0.Ver + (1:Int))),.i a0.Floor,.osl 3 0 (List.length l311) 5 false,.sl (List.map RosterGone.v a0.Gone) u2] 0,.live [.s a1.Contact,.s a1.Name,.i a1.Sub,.i (w64 (a0.Ver + (1:Int))),.b a1.Own] 0,.live [.i (0:Int),.i (0:Int),.sl (List.map ItemItem.v []) true,.sl (List.map RosterGone.v []) true] 0,.live (cellsM ItemItem.v l311) (cellsM ItemItem.v l311).length])∨(∃ y326 y327,p_ref21_change_l1  y11 v312 (RosterState.mk (w64 (a0.Ver + (1:Int))) a0.Floor l311 a0.Gone) (ItemItem.mk a1.Contact a1.Name a1.Sub (w64 (a0.Ver + (1:Int))) a1.Own) n y326 y327=some o314∧vals=[.osl 4 0 (List.length y326) 2 false,.i y327]∧st=[.live [.i (w64 (a0.Ver + (1:Int))),.i a0.Floor,.osl 3 0 (List.length l311) 5 false,.sl (List.map RosterGone.v a0.Gone) u2] 0,.live [.s a1.Contact,.s a1.Name,.i a1.Sub,.i (w64 (a0.Ver + (1:Int))),.b a1.Own] 0,.live [.i (0:Int),.i (0:Int),.sl (List.map ItemItem.v []) true,.sl (List.map RosterGone.v []) true] 0,.live (cellsM ItemItem.v l311) (cellsM ItemItem.v l311).length,.live (cellsM RosterGone.v y326) (cellsM RosterGone.v y326).length])) fuel 4 [0,1,2,4] (.inl (⟨_,HL315,rfl,rfl⟩)) (Nat.zero_le _) rfl (by kernel_rfl) (by kernel_rfl) rfl ⟨⟨rfl,rfl,rfl⟩,⟨⟨rfl,rfl,rfl⟩,⟨⟨rfl,rfl,rfl⟩,wkB_live0 rfl (cellsM_idlt (f:=ItemItem.v) (fun _=>rfl) _) rfl trivial⟩⟩⟩ ?_
  rintro (_ | n317) _ _ (⟨y318,H,rfl,rfl⟩ | ⟨y326,y327,H,rfl,rfl⟩)
  ·rw [p_ref21_change_l1] at H;cases H
  ·rw [p_ref21_change_l1] at H;cases H
  ·rw [p_ref21_change_l1] at H
   conv=>whnf
   refine LenQ.M ?_;conv=>whnf
   refine tst_c H (fun b319 H=>?_) (fun b319 H=>?_)
   ·conv=>whnf
    refine ixs_c (f:=RosterGone.v) H (fun _=>rfl) (fun x320 H=>?_);conv=>whnf
    refine lq_ ?_;conv=>whnf
    refine Tst.not ?_
    refine tst_d H (fun b321 H=>?_) (fun b321 H=>?_)
    ·conv=>whnf
     iterate 4 (refine Tst.T ?_;conv=>whnf)
     refine FootQ.mk ⟨rfl,?_⟩;conv=>whnf
     refine Tst.T ?_;conv=>whnf
     refine ixs_c (f:=RosterGone.v) H (fun _=>rfl) (fun x328 H=>?_);conv=>whnf
     refine appN_c (f:=RosterGone.v) H (fun _=>rfl) (srcM (f:=RosterGone.v) (fun _=>rfl) [] true) rfl (.v (srcOwn (f:=RosterGone.v) (l:=[x328]) (fun _=>rfl) rfl rfl rfl)) (by decide) rfl (by simp) (fun l329 H=>?_);conv=>whnf
     refine Ari.w ?_;conv=>whnf
     exact again_c [60,61,62,63,64,65,66,67,68,69,70,71,72,73,74,75,76,77,78,79,80,81,82,83,84,85,86,87,88,89,90,91,8,51,52,56,57] n317 5 [0,1,2,3,5] (.inr (⟨_,_,H,rfl,rfl⟩)) (Nat.lt_succ_self _) (Nat.zero_le _) rfl (by kernel_rfl) (by kernel_rfl) rfl ⟨⟨rfl,rfl,rfl⟩,⟨⟨rfl,rfl,rfl⟩,⟨⟨rfl,rfl,rfl⟩,wkB_live0 rfl (cellsM_idlt (f:=ItemItem.v) (fun _=>rfl) _) rfl (wkB_live0 rfl (cellsM_idlt (f:=RosterGone.v) (fun _=>rfl) _) rfl trivial)⟩⟩⟩
    conv=>whnf
    iterate 2 (refine Tst.F ?_;conv=>whnf)
    refine Tst.not ?_
    refine tst_c H (fun b322 H=>?_) (fun b322 H=>?_)
    ·conv=>whnf
     iterate 4 (refine Tst.F ?_;conv=>whnf)
     refine FootQ.mk ⟨rfl,?_⟩;conv=>whnf
     refine Tst.F ?_;conv=>whnf
     refine Ari.w ?_;conv=>whnf
     exact again_c [60,61,62,63,64,65,66,67,68,69,70,71,72,73,74,75,76,77,78,79,80,81,82,83,84,85,86,87,88,89,90,91,8,51,52,56,57] n317 4 [] (.inl (⟨_,H,rfl,rfl⟩)) (Nat.lt_succ_self _) (Nat.zero_le _) rfl (by kernel_rfl) (by kernel_rfl) rfl ⟨⟨rfl,rfl,rfl⟩,⟨⟨rfl,rfl,rfl⟩,⟨⟨rfl,rfl,rfl⟩,wkB_live0 rfl (cellsM_idlt (f:=ItemItem.v) (fun _=>rfl) _) rfl trivial⟩⟩⟩
    conv=>whnf
    refine Tst.T ?_;conv=>whnf
    refine Tst.F ?_;conv=>whnf
    refine Tst.T ?_;conv=>whnf
    refine Tst.F ?_;conv=>whnf
    refine FootQ.mk ⟨rfl,?_⟩;conv=>whnf
    refine Tst.not ?_
    refine tst_c H (fun b323 H=>?_) (fun b323 H=>?_)
    ·conv=>whnf
     refine Ari.w ?_;conv=>whnf
     exact again_c [60,61,62,63,64,65,66,67,68,69,70,71,72,73,74,75,76,77,78,79,80,81,82,83,84,85,86,87,88,89,90,91,8,51,52,56,57] n317 4 [] (.inl (⟨_,H,rfl,rfl⟩)) (Nat.lt_succ_self _) (Nat.zero_le _) rfl (by kernel_rfl) (by kernel_rfl) rfl ⟨⟨rfl,rfl,rfl⟩,⟨⟨rfl,rfl,rfl⟩,⟨⟨rfl,rfl,rfl⟩,wkB_live0 rfl (cellsM_idlt (f:=ItemItem.v) (fun _=>rfl) _) rfl trivial⟩⟩⟩
    conv=>whnf
    refine ixs_c (f:=RosterGone.v) H (fun _=>rfl) (fun x324 H=>?_);conv=>whnf
    refine appN_c (f:=RosterGone.v) H (fun _=>rfl) (srcM (f:=RosterGone.v) (fun _=>rfl) [] true) rfl (.v (srcOwn (f:=RosterGone.v) (l:=[x324]) (fun _=>rfl) rfl rfl rfl)) (by decide) rfl (by simp) (fun l325 H=>?_);conv=>whnf
    refine Ari.w ?_;conv=>whnf
    exact again_c [60,61,62,63,64,65,66,67,68,69,70,71,72,73,74,75,76,77,78,79,80,81,82,83,84,85,86,87,88,89,90,91,8,51,52,56,57] n317 5 [0,1,2,3,5] (.inr (⟨_,_,H,rfl,rfl⟩)) (Nat.lt_succ_self _) (Nat.zero_le _) rfl (by kernel_rfl) (by kernel_rfl) rfl ⟨⟨rfl,rfl,rfl⟩,⟨⟨rfl,rfl,rfl⟩,⟨⟨rfl,rfl,rfl⟩,wkB_live0 rfl (cellsM_idlt (f:=ItemItem.v) (fun _=>rfl) _) rfl (wkB_live0 rfl (cellsM_idlt (f:=RosterGone.v) (fun _=>rfl) _) rfl trivial)⟩⟩⟩
   conv=>whnf
   obtain rfl:=Option.some.inj H
   have H:=HQ316
   try dsimp only at H
   obtain ⟨K330,hK331,o332,HL333,HQ334⟩:=join0_c H
   refine join_c [9,2,4] [92,93,94,95,96,97,98,99,100,101,102,103,104,3,61] (fun vals st=>(K330 []=some r∧vals=[.sl (List.map RosterGone.v []) true,.ptr 0 0,.ptr 1 0]∧st=[.live [.i (w64 (a0.Ver + (1:Int))),.i a0.Floor,.osl 2 0 (List.length l311) 5 false,.sl (List.map RosterGone.v a0.Gone) u2] 0,.live [.i (0:Int),.i (0:Int),.sl (List.map ItemItem.v []) true,.sl (List.map RosterGone.v []) true] 0,.live (cellsM ItemItem.v l311) (cellsM ItemItem.v l311).length])∨(∃ y339,K330 y339=some r∧vals=[.osl 3 0 (List.length y339) 2 false,.ptr 0 0,.ptr 1 0]∧st=[.live [.i (w64 (a0.Ver + (1:Int))),.i a0.Floor,.osl 2 0 (List.length l311) 5 false,.sl (List.map RosterGone.v a0.Gone) u2] 0,.live [.i (0:Int),.i (0:Int),.sl (List.map ItemItem.v []) true,.sl (List.map RosterGone.v []) true] 0,.live (cellsM ItemItem.v l311) (cellsM ItemItem.v l311).length,.live (cellsM RosterGone.v y339) (cellsM RosterGone.v y339).length])) ?_ ?_
   ·have H:=HL333
    conv=>whnf
    refine tst_d H (fun b336 H=>?_) (fun b336 H=>?_)
    ·conv=>whnf
     iterate 3 (refine Tst.F ?_;conv=>whnf)
     obtain rfl:=Option.some.inj H
     exact arrive_c [92,93,94,95,96,97,98,99,100,101,102,103,104,3,61] 3 [0,2,3] (.inl (⟨HQ334,rfl,rfl⟩)) (Nat.zero_le _) rfl (by kernel_rfl) (by kernel_rfl) rfl ⟨⟨rfl,rfl,rfl⟩,⟨⟨rfl,rfl,rfl⟩,wkB_live0 rfl (cellsM_idlt (f:=ItemItem.v) (fun _=>rfl) _) rfl trivial⟩⟩
    conv=>whnf
    iterate 2 (refine Tst.T ?_;conv=>whnf)
    refine Tst.not ?_
    refine tst_c H (fun b337 H=>?_) (fun b337 H=>?_)
    ·conv=>whnf
     obtain rfl:=Option.some.inj H
     exact arrive_c [92,93,94,95,96,97,98,99,100,101,102,103,104,3,61] 3 [0,2,3] (.inl (⟨HQ334,rfl,rfl⟩)) (Nat.zero_le _) rfl (by kernel_rfl) (by kernel_rfl) rfl ⟨⟨rfl,rfl,rfl⟩,⟨⟨rfl,rfl,rfl⟩,wkB_live0 rfl (cellsM_idlt (f:=ItemItem.v) (fun _=>rfl) _) rfl trivial⟩⟩
    conv=>whnf
    refine appN_c (f:=RosterGone.v) H (fun _=>rfl) (srcM (f:=RosterGone.v) (fun _=>rfl) [] true) rfl (.v (srcOwn (f:=RosterGone.v) (l:=[(RosterGone.mk a1.Contact (w64 (a0.Ver + (1:Int))))]) (fun _=>rfl) rfl rfl rfl)) (by decide) rfl (by simp) (fun l338 H=>?_);conv=>whnf
    obtain rfl:=Option.some.inj H
    exact arrive_c [92,93,94,95,96,97,98,99,100,101,102,103,104,3,61] 4 [0,2,3,5] (.inr (⟨_,HQ334,rfl,rfl⟩)) (Nat.zero_le _) rfl (by kernel_rfl) (by kernel_rfl) rfl ⟨⟨rfl,rfl,rfl⟩,⟨⟨rfl,rfl,rfl⟩,wkB_live0 rfl (cellsM_idlt (f:=ItemItem.v) (fun _=>rfl) _) rfl (wkB_live0 rfl (cellsM_idlt (f:=RosterGone.v) (fun _=>rfl) _) rfl trivial)⟩⟩
   rintro _ _ (⟨H,rfl,rfl⟩ | ⟨y339,H,rfl,rfl⟩)
   ·rw [hK331] at H
    try dsimp only at H
    conv=>whnf
    refine LenQ.ok ?_;conv=>whnf
    refine tst_c H (fun b340 H=>?_) (fun b340 H=>?_)
    ·conv=>whnf
     exact nil_at H
    conv=>whnf
    refine lq_ ?_;conv=>whnf
    refine lq_ ?_;conv=>whnf
    refine finR_c (enc:=RosterState.v) H ?_;conv=>whnf
    exact ⟨_,.v (fzagg (.cons (.id rfl) (.cons (.id rfl) (.cons (fzown (f:=ItemItem.v) (l:=l311) rfl rfl (fun _=>rfl) (fun _=>rfl)) (.cons (.slw) (.nil))))) rfl)⟩
   rw [hK331] at H
   try dsimp only at H
   conv=>whnf
   refine tst_d H (fun b341 H=>?_) (fun b341 H=>?_)
   ·conv=>whnf
    refine lq_ ?_;conv=>whnf
    refine lq_ ?_;conv=>whnf
    refine finR_c (enc:=RosterState.v) H ?_;conv=>whnf
    exact ⟨_,.v (fzagg (.cons (.id rfl) (.cons (.id rfl) (.cons (fzown (f:=ItemItem.v) (l:=l311) rfl rfl (fun _=>rfl) (fun _=>rfl)) (.cons (fzown (f:=RosterGone.v) (l:=y339) rfl rfl (fun _=>rfl) (fun _=>rfl)) (.nil))))) rfl)⟩
   conv=>whnf
   refine ⟨rfl,ixo_c H (fun x342 h343 H=>?_)⟩;conv=>whnf
   refine ldo_c (f:=RosterGone.v) (es:=2) h343 (fun _=>rfl) 1 (by omega) (by decide) ?_;conv=>whnf
   refine lq_ ?_;conv=>whnf
   refine ⟨rfl,?_⟩;conv=>whnf
   refine slE_c (l:=y339) H rfl (fun x344 a345 h346 h347 H=>?_) (fun H=>?_)
   ·conv=>whnf
    refine lq_ ?_;conv=>whnf
    refine lq_ ?_;conv=>whnf
    refine finR_c (enc:=RosterState.v) H ?_;conv=>whnf
    exact ⟨_,.v (fzagg (.cons (.id rfl) (.cons (.id rfl) (.cons (fzown (f:=ItemItem.v) (l:=l311) rfl rfl (fun _=>rfl) (fun _=>rfl)) (.cons (fzprtD (f:=RosterGone.v) (l:=y339) rfl rfl rfl h346 h347 (fun _=>rfl) (fun _=>rfl)) (.nil))))) rfl)⟩
   conv=>whnf
   refine lq_ ?_;conv=>whnf
   refine lq_ ?_;conv=>whnf
   refine finR_c (enc:=RosterState.v) H ?_;conv=>whnf
   exact ⟨_,.v (fzagg (.cons (.id rfl) (.cons (.id rfl) (.cons (fzown (f:=ItemItem.v) (l:=l311) rfl rfl (fun _=>rfl) (fun _=>rfl)) (.cons (.id rfl) (.nil))))) rfl)⟩
  rw [p_ref21_change_l1] at H
  conv=>whnf
  refine LenQ.M ?_;conv=>whnf
  refine tst_c H (fun b348 H=>?_) (fun b348 H=>?_)
  ·conv=>whnf
   refine ixs_c (f:=RosterGone.v) H (fun _=>rfl) (fun x349 H=>?_);conv=>whnf
   refine lq_ ?_;conv=>whnf
   refine Tst.not ?_
   refine tst_d H (fun b350 H=>?_) (fun b350 H=>?_)
   ·conv=>whnf
    iterate 4 (refine Tst.T ?_;conv=>whnf)
    refine FootQ.mk ⟨rfl,?_⟩;conv=>whnf
    refine Tst.T ?_;conv=>whnf
    refine ixs_c (f:=RosterGone.v) H (fun _=>rfl) (fun x355 H=>?_);conv=>whnf
    refine appO_c (f:=RosterGone.v) H (fun _=>rfl) rfl (Nat.le_refl _) (.v (srcOwn (f:=RosterGone.v) (l:=[x355]) (fun _=>rfl) rfl rfl rfl)) (by decide) rfl (by simp) (fun l356 H=>?_);conv=>whnf
    refine Ari.w ?_;conv=>whnf
    exact again_c [60,61,62,63,64,65,66,67,68,69,70,71,72,73,74,75,76,77,78,79,80,81,82,83,84,85,86,87,88,89,90,91,8,51,52,56,57] n317 5 [0,1,2,3,6] (.inr (⟨_,_,H,rfl,rfl⟩)) (Nat.lt_succ_self _) (Nat.zero_le _) rfl (by kernel_rfl) (by kernel_rfl) rfl ⟨⟨rfl,rfl,rfl⟩,⟨⟨rfl,rfl,rfl⟩,⟨⟨rfl,rfl,rfl⟩,wkB_live0 rfl (cellsM_idlt (f:=ItemItem.v) (fun _=>rfl) _) rfl (wkB_live0 rfl (cellsM_idlt (f:=RosterGone.v) (fun _=>rfl) _) rfl trivial)⟩⟩⟩
   conv=>whnf
   iterate 2 (refine Tst.F ?_;conv=>whnf)
   refine Tst.not ?_
   refine tst_c H (fun b351 H=>?_) (fun b351 H=>?_)
   ·conv=>whnf
    iterate 4 (refine Tst.F ?_;conv=>whnf)
    refine FootQ.mk ⟨rfl,?_⟩;conv=>whnf
    refine Tst.F ?_;conv=>whnf
    refine Ari.w ?_;conv=>whnf
    exact again_c [60,61,62,63,64,65,66,67,68,69,70,71,72,73,74,75,76,77,78,79,80,81,82,83,84,85,86,87,88,89,90,91,8,51,52,56,57] n317 5 [] (.inr (⟨_,_,H,rfl,rfl⟩)) (Nat.lt_succ_self _) (Nat.zero_le _) rfl (by kernel_rfl) (by kernel_rfl) rfl ⟨⟨rfl,rfl,rfl⟩,⟨⟨rfl,rfl,rfl⟩,⟨⟨rfl,rfl,rfl⟩,wkB_live0 rfl (cellsM_idlt (f:=ItemItem.v) (fun _=>rfl) _) rfl (wkB_live0 rfl (cellsM_idlt (f:=RosterGone.v) (fun _=>rfl) _) rfl trivial)⟩⟩⟩
   conv=>whnf
   refine Tst.T ?_;conv=>whnf
   refine Tst.F ?_;conv=>whnf
   refine Tst.T ?_;conv=>whnf
   refine Tst.F ?_;conv=>whnf
   refine FootQ.mk ⟨rfl,?_⟩;conv=>whnf
   refine Tst.not ?_
   refine tst_c H (fun b352 H=>?_) (fun b352 H=>?_)
   ·conv=>whnf
    refine Ari.w ?_;conv=>whnf
    exact again_c [60,61,62,63,64,65,66,67,68,69,70,71,72,73,74,75,76,77,78,79,80,81,82,83,84,85,86,87,88,89,90,91,8,51,52,56,57] n317 5 [] (.inr (⟨_,_,H,rfl,rfl⟩)) (Nat.lt_succ_self _) (Nat.zero_le _) rfl (by kernel_rfl) (by kernel_rfl) rfl ⟨⟨rfl,rfl,rfl⟩,⟨⟨rfl,rfl,rfl⟩,⟨⟨rfl,rfl,rfl⟩,wkB_live0 rfl (cellsM_idlt (f:=ItemItem.v) (fun _=>rfl) _) rfl (wkB_live0 rfl (cellsM_idlt (f:=RosterGone.v) (fun _=>rfl) _) rfl trivial)⟩⟩⟩
   conv=>whnf
   refine ixs_c (f:=RosterGone.v) H (fun _=>rfl) (fun x353 H=>?_);conv=>whnf
   refine appO_c (f:=RosterGone.v) H (fun _=>rfl) rfl (Nat.le_refl _) (.v (srcOwn (f:=RosterGone.v) (l:=[x353]) (fun _=>rfl) rfl rfl rfl)) (by decide) rfl (by simp) (fun l354 H=>?_);conv=>whnf
   refine Ari.w ?_;conv=>whnf
   exact again_c [60,61,62,63,64,65,66,67,68,69,70,71,72,73,74,75,76,77,78,79,80,81,82,83,84,85,86,87,88,89,90,91,8,51,52,56,57] n317 5 [0,1,2,3,6] (.inr (⟨_,_,H,rfl,rfl⟩)) (Nat.lt_succ_self _) (Nat.zero_le _) rfl (by kernel_rfl) (by kernel_rfl) rfl ⟨⟨rfl,rfl,rfl⟩,⟨⟨rfl,rfl,rfl⟩,⟨⟨rfl,rfl,rfl⟩,wkB_live0 rfl (cellsM_idlt (f:=ItemItem.v) (fun _=>rfl) _) rfl (wkB_live0 rfl (cellsM_idlt (f:=RosterGone.v) (fun _=>rfl) _) rfl trivial)⟩⟩⟩
  conv=>whnf
  obtain rfl:=Option.some.inj H
  have H:=HQ316
  try dsimp only at H
  obtain ⟨K357,hK358,o359,HL360,HQ361⟩:=join0_c H
  refine join_c [9,2,4] [92,93,94,95,96,97,98,99,100,101,102,103,104,3,61] (fun vals st=>(∃ y365,K357 y365=some r∧vals=[.osl 3 0 (List.length y365) 2 false,.ptr 0 0,.ptr 1 0]∧st=[.live [.i (w64 (a0.Ver + (1:Int))),.i a0.Floor,.osl 2 0 (List.length l311) 5 false,.sl (List.map RosterGone.v a0.Gone) u2] 0,.live [.i (0:Int),.i (0:Int),.sl (List.map ItemItem.v []) true,.sl (List.map RosterGone.v []) true] 0,.live (cellsM ItemItem.v l311) (cellsM ItemItem.v l311).length,.live (cellsM RosterGone.v y365) (cellsM RosterGone.v y365).length])) ?_ ?_
  ·have H:=HL360
   conv=>whnf
   refine tst_d H (fun b363 H=>?_) (fun b363 H=>?_)
   ·conv=>whnf
    iterate 3 (refine Tst.F ?_;conv=>whnf)
    obtain rfl:=Option.some.inj H
    exact arrive_c [92,93,94,95,96,97,98,99,100,101,102,103,104,3,61] 4 [0,2,3,4] (⟨_,HQ361,rfl,rfl⟩) (Nat.zero_le _) rfl (by kernel_rfl) (by kernel_rfl) rfl ⟨⟨rfl,rfl,rfl⟩,⟨⟨rfl,rfl,rfl⟩,wkB_live0 rfl (cellsM_idlt (f:=ItemItem.v) (fun _=>rfl) _) rfl (wkB_live0 rfl (cellsM_idlt (f:=RosterGone.v) (fun _=>rfl) _) rfl trivial)⟩⟩
   conv=>whnf
   iterate 2 (refine Tst.T ?_;conv=>whnf)
   refine Tst.not ?_
   refine tst_c H (fun b364 H=>?_) (fun b364 H=>?_)
   ·conv=>whnf
    obtain rfl:=Option.some.inj H
    exact arrive_c [92,93,94,95,96,97,98,99,100,101,102,103,104,3,61] 4 [0,2,3,4] (⟨_,HQ361,rfl,rfl⟩) (Nat.zero_le _) rfl (by kernel_rfl) (by kernel_rfl) rfl ⟨⟨rfl,rfl,rfl⟩,⟨⟨rfl,rfl,rfl⟩,wkB_live0 rfl (cellsM_idlt (f:=ItemItem.v) (fun _=>rfl) _) rfl (wkB_live0 rfl (cellsM_idlt (f:=RosterGone.v) (fun _=>rfl) _) rfl trivial)⟩⟩
   conv=>whnf
   refine appO_c (f:=RosterGone.v) H (fun _=>rfl) rfl (Nat.le_refl _) (.v (srcOwn (f:=RosterGone.v) (l:=[(RosterGone.mk a1.Contact (w64 (a0.Ver + (1:Int))))]) (fun _=>rfl) rfl rfl rfl)) (by decide) rfl (by simp) (fun l366 H=>?_);conv=>whnf
   obtain rfl:=Option.some.inj H
   exact arrive_c [92,93,94,95,96,97,98,99,100,101,102,103,104,3,61] 4 [0,2,3,6] (⟨_,HQ361,rfl,rfl⟩) (Nat.zero_le _) rfl (by kernel_rfl) (by kernel_rfl) rfl ⟨⟨rfl,rfl,rfl⟩,⟨⟨rfl,rfl,rfl⟩,wkB_live0 rfl (cellsM_idlt (f:=ItemItem.v) (fun _=>rfl) _) rfl (wkB_live0 rfl (cellsM_idlt (f:=RosterGone.v) (fun _=>rfl) _) rfl trivial)⟩⟩
  rintro _ _ (⟨y365,H,rfl,rfl⟩)
  rw [hK358] at H
  try dsimp only at H
  conv=>whnf
  refine tst_d H (fun b367 H=>?_) (fun b367 H=>?_)
  ·conv=>whnf
   refine lq_ ?_;conv=>whnf
   refine lq_ ?_;conv=>whnf
   refine finR_c (enc:=RosterState.v) H ?_;conv=>whnf
   exact ⟨_,.v (fzagg (.cons (.id rfl) (.cons (.id rfl) (.cons (fzown (f:=ItemItem.v) (l:=l311) rfl rfl (fun _=>rfl) (fun _=>rfl)) (.cons (fzown (f:=RosterGone.v) (l:=y365) rfl rfl (fun _=>rfl) (fun _=>rfl)) (.nil))))) rfl)⟩
  conv=>whnf
  refine ⟨rfl,ixo_c H (fun x368 h369 H=>?_)⟩;conv=>whnf
  refine ldo_c (f:=RosterGone.v) (es:=2) h369 (fun _=>rfl) 1 (by omega) (by decide) ?_;conv=>whnf
  refine lq_ ?_;conv=>whnf
  refine ⟨rfl,?_⟩;conv=>whnf
  refine slE_c (l:=y365) H rfl (fun x370 a371 h372 h373 H=>?_) (fun H=>?_)
  ·conv=>whnf
   refine lq_ ?_;conv=>whnf
   refine lq_ ?_;conv=>whnf
   refine finR_c (enc:=RosterState.v) H ?_;conv=>whnf
   exact ⟨_,.v (fzagg (.cons (.id rfl) (.cons (.id rfl) (.cons (fzown (f:=ItemItem.v) (l:=l311) rfl rfl (fun _=>rfl) (fun _=>rfl)) (.cons (fzprtD (f:=RosterGone.v) (l:=y365) rfl rfl rfl h372 h373 (fun _=>rfl) (fun _=>rfl)) (.nil))))) rfl)⟩
  conv=>whnf
  refine lq_ ?_;conv=>whnf
  refine lq_ ?_;conv=>whnf
  refine finR_c (enc:=RosterState.v) H ?_;conv=>whnf
  exact ⟨_,.v (fzagg (.cons (.id rfl) (.cons (.id rfl) (.cons (fzown (f:=ItemItem.v) (l:=l311) rfl rfl (fun _=>rfl) (fun _=>rfl)) (.cons (.id rfl) (.nil))))) rfl)⟩
 conv=>whnf
 obtain ⟨K14,hK15,o16,HL17,HQ18⟩:=join0_c H
 refine join_c [8,2,3,4] [41,42,43,44,45,46,47,28,31,32,34,36,40] (fun vals st=>(∃ y22,K14 y22=some r∧vals=[.osl 3 0 (List.length y22) 5 false,.ptr 0 0,.ptr 1 0,.ptr 2 0]∧st=[.live [.i (w64 (a0.Ver + (1:Int))),.i a0.Floor,.sl (List.map ItemItem.v a0.Items) u1,.sl (List.map RosterGone.v a0.Gone) u2] 0,.live [.s a1.Contact,.s a1.Name,.i a1.Sub,.i (w64 (a0.Ver + (1:Int))),.b a1.Own] 0,.live [.i (0:Int),.i (0:Int),.sl (List.map ItemItem.v []) true,.sl (List.map RosterGone.v []) true] 0,.live (cellsM ItemItem.v y22) (cellsM ItemItem.v y22).length])) ?_ ?_
 ·have H:=HL17
  conv=>whnf
  refine ask_c (p_ref20_Idle_v _) H rfl rfl (fun v20 H=>?_);conv=>whnf
  refine Tst.not ?_
  refine tst_c H (fun b21 H=>?_) (fun b21 H=>?_)
  ·conv=>whnf
   obtain rfl:=Option.some.inj H
   exact arrive_c [41,42,43,44,45,46,47,28,31,32,34,36,40] 4 [] (⟨_,HQ18,rfl,rfl⟩) (Nat.zero_le _) rfl (by kernel_rfl) (by kernel_rfl) rfl ⟨⟨rfl,rfl,rfl⟩,⟨⟨rfl,rfl,rfl⟩,⟨⟨rfl,rfl,rfl⟩,wkB_live0 rfl (cellsM_idlt (f:=ItemItem.v) (fun _=>rfl) _) rfl trivial⟩⟩⟩
  conv=>whnf
  refine appO_c (f:=ItemItem.v) H (fun _=>rfl) rfl (Nat.le_refl _) (.v (srcOwn (f:=ItemItem.v) (l:=[(ItemItem.mk a1.Contact a1.Name a1.Sub (w64 (a0.Ver + (1:Int))) a1.Own)]) (fun _=>rfl) rfl rfl rfl)) (by decide) rfl (by simp) (fun l23 H=>?_);conv=>whnf
  obtain rfl:=Option.some.inj H
  exact arrive_c [41,42,43,44,45,46,47,28,31,32,34,36,40] 4 [0,1,2,5] (⟨_,HQ18,rfl,rfl⟩) (Nat.zero_le _) rfl (by kernel_rfl) (by kernel_rfl) rfl ⟨⟨rfl,rfl,rfl⟩,⟨⟨rfl,rfl,rfl⟩,⟨⟨rfl,rfl,rfl⟩,wkB_live0 rfl (cellsM_idlt (f:=ItemItem.v) (fun _=>rfl) _) rfl trivial⟩⟩⟩
 rintro _ _ (⟨y22,H,rfl,rfl⟩)
 rw [hK15] at H
 try dsimp only at H
 conv=>whnf
 obtain ⟨K24,hK25,o26,HL27,HQ28⟩:=join0_c H
 refine join_c [5,2,3,4,8] [48,49,50] (fun vals st=>(∃ y31,K24 y31=some r∧vals=[.i y31,.ptr 0 0,.ptr 1 0,.ptr 2 0,.osl 3 0 (List.length y22) 5 false]∧st=[.live [.i (w64 (a0.Ver + (1:Int))),.i a0.Floor,.sl (List.map ItemItem.v a0.Items) u1,.sl (List.map RosterGone.v a0.Gone) u2] 0,.live [.s a1.Contact,.s a1.Name,.i a1.Sub,.i (w64 (a0.Ver + (1:Int))),.b a1.Own] 0,.live [.i (0:Int),.i (0:Int),.sl (List.map ItemItem.v []) true,.sl (List.map RosterGone.v []) true] 0,.live (cellsM ItemItem.v y22) (cellsM ItemItem.v y22).length])) ?_ ?_
 ·have H:=HL27
  conv=>whnf
  refine tst_d H (fun b30 H=>?_) (fun b30 H=>?_)
  ·conv=>whnf
   obtain rfl:=Option.some.inj H
   exact arrive_c [48,49,50] 4 [] (⟨_,HQ28,rfl,rfl⟩) (Nat.zero_le _) rfl (by kernel_rfl) (by kernel_rfl) rfl ⟨⟨rfl,rfl,rfl⟩,⟨⟨rfl,rfl,rfl⟩,⟨⟨rfl,rfl,rfl⟩,wkB_live0 rfl (cellsM_idlt (f:=ItemItem.v) (fun _=>rfl) _) rfl trivial⟩⟩⟩
  conv=>whnf
  refine Ari.w ?_;conv=>whnf
  obtain rfl:=Option.some.inj H
  exact arrive_c [48,49,50] 4 [] (⟨_,HQ28,rfl,rfl⟩) (Nat.zero_le _) rfl (by kernel_rfl) (by kernel_rfl) rfl ⟨⟨rfl,rfl,rfl⟩,⟨⟨rfl,rfl,rfl⟩,⟨⟨rfl,rfl,rfl⟩,wkB_live0 rfl (cellsM_idlt (f:=ItemItem.v) (fun _=>rfl) _) rfl trivial⟩⟩⟩
 rintro _ _ (⟨y31,H,rfl,rfl⟩)
 rw [hK25] at H
 try dsimp only at H
 conv=>whnf
 refine slsE_c (f:=ItemItem.v) H (fun _=>rfl) (fun x32 H=>?_);conv=>whnf
 refine appP_c (f:=ItemItem.v) H (fun _=>rfl) rfl rfl (.v (srcM (f:=ItemItem.v) (fun _=>rfl) _ _)) (by decide) rfl (fun l33 H=>?_) (fun l33 H=>?_)
 ·conv=>whnf
  refine lq_ ?_;conv=>whnf
  refine ask_c (p_ref20_Listed_v _) H rfl rfl (fun v96 H=>?_);conv=>whnf
  obtain ⟨o98,HL99,HQ100⟩:=bind_c H
  refine loop_c [9,11] [60,61,62,63,64,65,66,67,68,69,70,71,72,73,74,75,76,77,78,79,80,81,82,83,84,85,86,87,88,89,90,91,8,51,52,56,57] [60,61,62,63,64,65,66,67,68,69,70,71,72,73,74,75,76,77,78,79,80,81,82,83,84,85,86,87,88,89,90,91,8,51,52,56,57] (fun n vals st=>(∃ y102,p_ref21_change_l1  y11 v96 (RosterState.mk (w64 (a0.Ver + (1:Int))) a0.Floor l33 a0.Gone) (ItemItem.mk a1.Contact a1.Name a1.Sub (w64 (a0.Ver + (1:Int))) a1.Own) n [] y102=some o98∧vals=[.sl (List.map RosterGone.v []) true,.i y102]∧st=[.live [.i (w64 (a0.Ver + (1:Int))),.i a0.Floor,.osl 3 0 (List.length l33) 5 false,.sl (List.map RosterGone.v a0.Gone) u2] 0,.live [.s a1.Contact,.s a1.Name,.i a1.Sub,.i (w64 (a0.Ver + (1:Int))),.b a1.Own] 0,.live [.i (0:Int),.i (0:Int),.sl (List.map ItemItem.v []) true,.sl (List.map RosterGone.v []) true] 0,.live (cellsM ItemItem.v l33) (cellsM ItemItem.v l33).length])∨(∃ y110 y111,p_ref21_change_l1  y11 v96 (RosterState.mk (w64 (a0.Ver + (1:Int))) a0.Floor l33 a0.Gone) (ItemItem.mk a1.Contact a1.Name a1.Sub (w64 (a0.Ver + (1:Int))) a1.Own) n y110 y111=some o98∧vals=[.osl 4 0 (List.length y110) 2 false,.i y111]∧st=[.live [.i (w64 (a0.Ver + (1:Int))),.i a0.Floor,.osl 3 0 (List.length l33) 5 false,.sl (List.map RosterGone.v a0.Gone) u2] 0,.live [.s a1.Contact,.s a1.Name,.i a1.Sub,.i (w64 (a0.Ver + (1:Int))),.b a1.Own] 0,.live [.i (0:Int),.i (0:Int),.sl (List.map ItemItem.v []) true,.sl (List.map RosterGone.v []) true] 0,.live (cellsM ItemItem.v l33) (cellsM ItemItem.v l33).length,.live (cellsM RosterGone.v y110) (cellsM RosterGone.v y110).length])) fuel 4 [] (.inl (⟨_,HL99,rfl,rfl⟩)) (Nat.zero_le _) rfl (by kernel_rfl) (by kernel_rfl) rfl ⟨⟨rfl,rfl,rfl⟩,⟨⟨rfl,rfl,rfl⟩,⟨⟨rfl,rfl,rfl⟩,wkB_live0 rfl (cellsM_idlt (f:=ItemItem.v) (fun _=>rfl) _) rfl trivial⟩⟩⟩ ?_
  rintro (_ | n101) _ _ (⟨y102,H,rfl,rfl⟩ | ⟨y110,y111,H,rfl,rfl⟩)
  ·rw [p_ref21_change_l1] at H;cases H
  ·rw [p_ref21_change_l1] at H;cases H
  ·rw [p_ref21_change_l1] at H
   conv=>whnf
   refine LenQ.M ?_;conv=>whnf
   refine tst_c H (fun b103 H=>?_) (fun b103 H=>?_)
   ·conv=>whnf
    refine ixs_c (f:=RosterGone.v) H (fun _=>rfl) (fun x104 H=>?_);conv=>whnf
    refine lq_ ?_;conv=>whnf
    refine Tst.not ?_
    refine tst_d H (fun b105 H=>?_) (fun b105 H=>?_)
    ·conv=>whnf
     iterate 4 (refine Tst.T ?_;conv=>whnf)
     refine FootQ.mk ⟨rfl,?_⟩;conv=>whnf
     refine Tst.T ?_;conv=>whnf
     refine ixs_c (f:=RosterGone.v) H (fun _=>rfl) (fun x112 H=>?_);conv=>whnf
     refine appN_c (f:=RosterGone.v) H (fun _=>rfl) (srcM (f:=RosterGone.v) (fun _=>rfl) [] true) rfl (.v (srcOwn (f:=RosterGone.v) (l:=[x112]) (fun _=>rfl) rfl rfl rfl)) (by decide) rfl (by simp) (fun l113 H=>?_);conv=>whnf
     refine Ari.w ?_;conv=>whnf
     exact again_c [60,61,62,63,64,65,66,67,68,69,70,71,72,73,74,75,76,77,78,79,80,81,82,83,84,85,86,87,88,89,90,91,8,51,52,56,57] n101 5 [0,1,2,3,5] (.inr (⟨_,_,H,rfl,rfl⟩)) (Nat.lt_succ_self _) (Nat.zero_le _) rfl (by kernel_rfl) (by kernel_rfl) rfl ⟨⟨rfl,rfl,rfl⟩,⟨⟨rfl,rfl,rfl⟩,⟨⟨rfl,rfl,rfl⟩,wkB_live0 rfl (cellsM_idlt (f:=ItemItem.v) (fun _=>rfl) _) rfl (wkB_live0 rfl (cellsM_idlt (f:=RosterGone.v) (fun _=>rfl) _) rfl trivial)⟩⟩⟩
    conv=>whnf
    iterate 2 (refine Tst.F ?_;conv=>whnf)
    refine Tst.not ?_
    refine tst_c H (fun b106 H=>?_) (fun b106 H=>?_)
    ·conv=>whnf
     iterate 4 (refine Tst.F ?_;conv=>whnf)
     refine FootQ.mk ⟨rfl,?_⟩;conv=>whnf
     refine Tst.F ?_;conv=>whnf
     refine Ari.w ?_;conv=>whnf
     exact again_c [60,61,62,63,64,65,66,67,68,69,70,71,72,73,74,75,76,77,78,79,80,81,82,83,84,85,86,87,88,89,90,91,8,51,52,56,57] n101 4 [] (.inl (⟨_,H,rfl,rfl⟩)) (Nat.lt_succ_self _) (Nat.zero_le _) rfl (by kernel_rfl) (by kernel_rfl) rfl ⟨⟨rfl,rfl,rfl⟩,⟨⟨rfl,rfl,rfl⟩,⟨⟨rfl,rfl,rfl⟩,wkB_live0 rfl (cellsM_idlt (f:=ItemItem.v) (fun _=>rfl) _) rfl trivial⟩⟩⟩
    conv=>whnf
    refine Tst.T ?_;conv=>whnf
    refine Tst.F ?_;conv=>whnf
    refine Tst.T ?_;conv=>whnf
    refine Tst.F ?_;conv=>whnf
    refine FootQ.mk ⟨rfl,?_⟩;conv=>whnf
    refine Tst.not ?_
    refine tst_c H (fun b107 H=>?_) (fun b107 H=>?_)
    ·conv=>whnf
     refine Ari.w ?_;conv=>whnf
     exact again_c [60,61,62,63,64,65,66,67,68,69,70,71,72,73,74,75,76,77,78,79,80,81,82,83,84,85,86,87,88,89,90,91,8,51,52,56,57] n101 4 [] (.inl (⟨_,H,rfl,rfl⟩)) (Nat.lt_succ_self _) (Nat.zero_le _) rfl (by kernel_rfl) (by kernel_rfl) rfl ⟨⟨rfl,rfl,rfl⟩,⟨⟨rfl,rfl,rfl⟩,⟨⟨rfl,rfl,rfl⟩,wkB_live0 rfl (cellsM_idlt (f:=ItemItem.v) (fun _=>rfl) _) rfl trivial⟩⟩⟩
    conv=>whnf
    refine ixs_c (f:=RosterGone.v) H (fun _=>rfl) (fun x108 H=>?_);conv=>whnf
    refine appN_c (f:=RosterGone.v) H (fun _=>rfl) (srcM (f:=RosterGone.v) (fun _=>rfl) [] true) rfl (.v (srcOwn (f:=RosterGone.v) (l:=[x108]) (fun _=>rfl) rfl rfl rfl)) (by decide) rfl (by simp) (fun l109 H=>?_);conv=>whnf
    refine Ari.w ?_;conv=>whnf
    exact again_c [60,61,62,63,64,65,66,67,68,69,70,71,72,73,74,75,76,77,78,79,80,81,82,83,84,85,86,87,88,89,90,91,8,51,52,56,57] n101 5 [0,1,2,3,5] (.inr (⟨_,_,H,rfl,rfl⟩)) (Nat.lt_succ_self _) (Nat.zero_le _) rfl (by kernel_rfl) (by kernel_rfl) rfl ⟨⟨rfl,rfl,rfl⟩,⟨⟨rfl,rfl,rfl⟩,⟨⟨rfl,rfl,rfl⟩,wkB_live0 rfl (cellsM_idlt (f:=ItemItem.v) (fun _=>rfl) _) rfl (wkB_live0 rfl (cellsM_idlt (f:=RosterGone.v) (fun _=>rfl) _) rfl trivial)⟩⟩⟩
   conv=>whnf
   obtain rfl:=Option.some.inj H
   have H:=HQ100
   try dsimp only at H
   obtain ⟨K114,hK115,o116,HL117,HQ118⟩:=join0_c H
   refine join_c [9,2,4] [92,93,94,95,96,97,98,99,100,101,102,103,104,3,61] (fun vals st=>(K114 []=some r∧vals=[.sl (List.map RosterGone.v []) true,.ptr 0 0,.ptr 1 0]∧st=[.live [.i (w64 (a0.Ver + (1:Int))),.i a0.Floor,.osl 2 0 (List.length l33) 5 false,.sl (List.map RosterGone.v a0.Gone) u2] 0,.live [.i (0:Int),.i (0:Int),.sl (List.map ItemItem.v []) true,.sl (List.map RosterGone.v []) true] 0,.live (cellsM ItemItem.v l33) (cellsM ItemItem.v l33).length])∨(∃ y123,K114 y123=some r∧vals=[.osl 3 0 (List.length y123) 2 false,.ptr 0 0,.ptr 1 0]∧st=[.live [.i (w64 (a0.Ver + (1:Int))),.i a0.Floor,.osl 2 0 (List.length l33) 5 false,.sl (List.map RosterGone.v a0.Gone) u2] 0,.live [.i (0:Int),.i (0:Int),.sl (List.map ItemItem.v []) true,.sl (List.map RosterGone.v []) true] 0,.live (cellsM ItemItem.v l33) (cellsM ItemItem.v l33).length,.live (cellsM RosterGone.v y123) (cellsM RosterGone.v y123).length])) ?_ ?_
   ·have H:=HL117
    conv=>whnf
    refine tst_d H (fun b120 H=>?_) (fun b120 H=>?_)
    ·conv=>whnf
     iterate 3 (refine Tst.F ?_;conv=>whnf)
     obtain rfl:=Option.some.inj H
     exact arrive_c [92,93,94,95,96,97,98,99,100,101,102,103,104,3,61] 3 [0,2,3] (.inl (⟨HQ118,rfl,rfl⟩)) (Nat.zero_le _) rfl (by kernel_rfl) (by kernel_rfl) rfl ⟨⟨rfl,rfl,rfl⟩,⟨⟨rfl,rfl,rfl⟩,wkB_live0 rfl (cellsM_idlt (f:=ItemItem.v) (fun _=>rfl) _) rfl trivial⟩⟩
    conv=>whnf
    iterate 2 (refine Tst.T ?_;conv=>whnf)
    refine Tst.not ?_
    refine tst_c H (fun b121 H=>?_) (fun b121 H=>?_)
    ·conv=>whnf
     obtain rfl:=Option.some.inj H
     exact arrive_c [92,93,94,95,96,97,98,99,100,101,102,103,104,3,61] 3 [0,2,3] (.inl (⟨HQ118,rfl,rfl⟩)) (Nat.zero_le _) rfl (by kernel_rfl) (by kernel_rfl) rfl ⟨⟨rfl,rfl,rfl⟩,⟨⟨rfl,rfl,rfl⟩,wkB_live0 rfl (cellsM_idlt (f:=ItemItem.v) (fun _=>rfl) _) rfl trivial⟩⟩
    conv=>whnf
    refine appN_c (f:=RosterGone.v) H (fun _=>rfl) (srcM (f:=RosterGone.v) (fun _=>rfl) [] true) rfl (.v (srcOwn (f:=RosterGone.v) (l:=[(RosterGone.mk a1.Contact (w64 (a0.Ver + (1:Int))))]) (fun _=>rfl) rfl rfl rfl)) (by decide) rfl (by simp) (fun l122 H=>?_);conv=>whnf
    obtain rfl:=Option.some.inj H
    exact arrive_c [92,93,94,95,96,97,98,99,100,101,102,103,104,3,61] 4 [0,2,3,5] (.inr (⟨_,HQ118,rfl,rfl⟩)) (Nat.zero_le _) rfl (by kernel_rfl) (by kernel_rfl) rfl ⟨⟨rfl,rfl,rfl⟩,⟨⟨rfl,rfl,rfl⟩,wkB_live0 rfl (cellsM_idlt (f:=ItemItem.v) (fun _=>rfl) _) rfl (wkB_live0 rfl (cellsM_idlt (f:=RosterGone.v) (fun _=>rfl) _) rfl trivial)⟩⟩
   rintro _ _ (⟨H,rfl,rfl⟩ | ⟨y123,H,rfl,rfl⟩)
   ·rw [hK115] at H
    try dsimp only at H
    conv=>whnf
    refine LenQ.ok ?_;conv=>whnf
    refine tst_c H (fun b124 H=>?_) (fun b124 H=>?_)
    ·conv=>whnf
     exact nil_at H
    conv=>whnf
    refine lq_ ?_;conv=>whnf
    refine lq_ ?_;conv=>whnf
    refine finR_c (enc:=RosterState.v) H ?_;conv=>whnf
    exact ⟨_,.v (fzagg (.cons (.id rfl) (.cons (.id rfl) (.cons (fzown (f:=ItemItem.v) (l:=l33) rfl rfl (fun _=>rfl) (fun _=>rfl)) (.cons (.slw) (.nil))))) rfl)⟩
   rw [hK115] at H
   try dsimp only at H
   conv=>whnf
   refine tst_d H (fun b125 H=>?_) (fun b125 H=>?_)
   ·conv=>whnf
    refine lq_ ?_;conv=>whnf
    refine lq_ ?_;conv=>whnf
    refine finR_c (enc:=RosterState.v) H ?_;conv=>whnf
    exact ⟨_,.v (fzagg (.cons (.id rfl) (.cons (.id rfl) (.cons (fzown (f:=ItemItem.v) (l:=l33) rfl rfl (fun _=>rfl) (fun _=>rfl)) (.cons (fzown (f:=RosterGone.v) (l:=y123) rfl rfl (fun _=>rfl) (fun _=>rfl)) (.nil))))) rfl)⟩
   conv=>whnf
   refine ⟨rfl,ixo_c H (fun x126 h127 H=>?_)⟩;conv=>whnf
   refine ldo_c (f:=RosterGone.v) (es:=2) h127 (fun _=>rfl) 1 (by omega) (by decide) ?_;conv=>whnf
   refine lq_ ?_;conv=>whnf
   refine ⟨rfl,?_⟩;conv=>whnf
   refine slE_c (l:=y123) H rfl (fun x128 a129 h130 h131 H=>?_) (fun H=>?_)
   ·conv=>whnf
    refine lq_ ?_;conv=>whnf
    refine lq_ ?_;conv=>whnf
    refine finR_c (enc:=RosterState.v) H ?_;conv=>whnf
    exact ⟨_,.v (fzagg (.cons (.id rfl) (.cons (.id rfl) (.cons (fzown (f:=ItemItem.v) (l:=l33) rfl rfl (fun _=>rfl) (fun _=>rfl)) (.cons (fzprtD (f:=RosterGone.v) (l:=y123) rfl rfl rfl h130 h131 (fun _=>rfl) (fun _=>rfl)) (.nil))))) rfl)⟩
   conv=>whnf
   refine lq_ ?_;conv=>whnf
   refine lq_ ?_;conv=>whnf
   refine finR_c (enc:=RosterState.v) H ?_;conv=>whnf
   exact ⟨_,.v (fzagg (.cons (.id rfl) (.cons (.id rfl) (.cons (fzown (f:=ItemItem.v) (l:=l33) rfl rfl (fun _=>rfl) (fun _=>rfl)) (.cons (.id rfl) (.nil))))) rfl)⟩
  rw [p_ref21_change_l1] at H
  conv=>whnf
  refine LenQ.M ?_;conv=>whnf
  refine tst_c H (fun b132 H=>?_) (fun b132 H=>?_)
  ·conv=>whnf
   refine ixs_c (f:=RosterGone.v) H (fun _=>rfl) (fun x133 H=>?_);conv=>whnf
   refine lq_ ?_;conv=>whnf
   refine Tst.not ?_
   refine tst_d H (fun b134 H=>?_) (fun b134 H=>?_)
   ·conv=>whnf
    iterate 4 (refine Tst.T ?_;conv=>whnf)
    refine FootQ.mk ⟨rfl,?_⟩;conv=>whnf
    refine Tst.T ?_;conv=>whnf
    refine ixs_c (f:=RosterGone.v) H (fun _=>rfl) (fun x139 H=>?_);conv=>whnf
    refine appO_c (f:=RosterGone.v) H (fun _=>rfl) rfl (Nat.le_refl _) (.v (srcOwn (f:=RosterGone.v) (l:=[x139]) (fun _=>rfl) rfl rfl rfl)) (by decide) rfl (by simp) (fun l140 H=>?_);conv=>whnf
    refine Ari.w ?_;conv=>whnf
    exact again_c [60,61,62,63,64,65,66,67,68,69,70,71,72,73,74,75,76,77,78,79,80,81,82,83,84,85,86,87,88,89,90,91,8,51,52,56,57] n101 5 [0,1,2,3,6] (.inr (⟨_,_,H,rfl,rfl⟩)) (Nat.lt_succ_self _) (Nat.zero_le _) rfl (by kernel_rfl) (by kernel_rfl) rfl ⟨⟨rfl,rfl,rfl⟩,⟨⟨rfl,rfl,rfl⟩,⟨⟨rfl,rfl,rfl⟩,wkB_live0 rfl (cellsM_idlt (f:=ItemItem.v) (fun _=>rfl) _) rfl (wkB_live0 rfl (cellsM_idlt (f:=RosterGone.v) (fun _=>rfl) _) rfl trivial)⟩⟩⟩
   conv=>whnf
   iterate 2 (refine Tst.F ?_;conv=>whnf)
   refine Tst.not ?_
   refine tst_c H (fun b135 H=>?_) (fun b135 H=>?_)
   ·conv=>whnf
    iterate 4 (refine Tst.F ?_;conv=>whnf)
    refine FootQ.mk ⟨rfl,?_⟩;conv=>whnf
    refine Tst.F ?_;conv=>whnf
    refine Ari.w ?_;conv=>whnf
    exact again_c [60,61,62,63,64,65,66,67,68,69,70,71,72,73,74,75,76,77,78,79,80,81,82,83,84,85,86,87,88,89,90,91,8,51,52,56,57] n101 5 [] (.inr (⟨_,_,H,rfl,rfl⟩)) (Nat.lt_succ_self _) (Nat.zero_le _) rfl (by kernel_rfl) (by kernel_rfl) rfl ⟨⟨rfl,rfl,rfl⟩,⟨⟨rfl,rfl,rfl⟩,⟨⟨rfl,rfl,rfl⟩,wkB_live0 rfl (cellsM_idlt (f:=ItemItem.v) (fun _=>rfl) _) rfl (wkB_live0 rfl (cellsM_idlt (f:=RosterGone.v) (fun _=>rfl) _) rfl trivial)⟩⟩⟩
   conv=>whnf
   refine Tst.T ?_;conv=>whnf
   refine Tst.F ?_;conv=>whnf
   refine Tst.T ?_;conv=>whnf
   refine Tst.F ?_;conv=>whnf
   refine FootQ.mk ⟨rfl,?_⟩;conv=>whnf
   refine Tst.not ?_
   refine tst_c H (fun b136 H=>?_) (fun b136 H=>?_)
   ·conv=>whnf
    refine Ari.w ?_;conv=>whnf
    exact again_c [60,61,62,63,64,65,66,67,68,69,70,71,72,73,74,75,76,77,78,79,80,81,82,83,84,85,86,87,88,89,90,91,8,51,52,56,57] n101 5 [] (.inr (⟨_,_,H,rfl,rfl⟩)) (Nat.lt_succ_self _) (Nat.zero_le _) rfl (by kernel_rfl) (by kernel_rfl) rfl ⟨⟨rfl,rfl,rfl⟩,⟨⟨rfl,rfl,rfl⟩,⟨⟨rfl,rfl,rfl⟩,wkB_live0 rfl (cellsM_idlt (f:=ItemItem.v) (fun _=>rfl) _) rfl (wkB_live0 rfl (cellsM_idlt (f:=RosterGone.v) (fun _=>rfl) _) rfl trivial)⟩⟩⟩
   conv=>whnf
   refine ixs_c (f:=RosterGone.v) H (fun _=>rfl) (fun x137 H=>?_);conv=>whnf
   refine appO_c (f:=RosterGone.v) H (fun _=>rfl) rfl (Nat.le_refl _) (.v (srcOwn (f:=RosterGone.v) (l:=[x137]) (fun _=>rfl) rfl rfl rfl)) (by decide) rfl (by simp) (fun l138 H=>?_);conv=>whnf
   refine Ari.w ?_;conv=>whnf
   exact again_c [60,61,62,63,64,65,66,67,68,69,70,71,72,73,74,75,76,77,78,79,80,81,82,83,84,85,86,87,88,89,90,91,8,51,52,56,57] n101 5 [0,1,2,3,6] (.inr (⟨_,_,H,rfl,rfl⟩)) (Nat.lt_succ_self _) (Nat.zero_le _) rfl (by kernel_rfl) (by kernel_rfl) rfl ⟨⟨rfl,rfl,rfl⟩,⟨⟨rfl,rfl,rfl⟩,⟨⟨rfl,rfl,rfl⟩,wkB_live0 rfl (cellsM_idlt (f:=ItemItem.v) (fun _=>rfl) _) rfl (wkB_live0 rfl (cellsM_idlt (f:=RosterGone.v) (fun _=>rfl) _) rfl trivial)⟩⟩⟩
  conv=>whnf
  obtain rfl:=Option.some.inj H
  have H:=HQ100
  try dsimp only at H
  obtain ⟨K141,hK142,o143,HL144,HQ145⟩:=join0_c H
  refine join_c [9,2,4] [92,93,94,95,96,97,98,99,100,101,102,103,104,3,61] (fun vals st=>(∃ y149,K141 y149=some r∧vals=[.osl 3 0 (List.length y149) 2 false,.ptr 0 0,.ptr 1 0]∧st=[.live [.i (w64 (a0.Ver + (1:Int))),.i a0.Floor,.osl 2 0 (List.length l33) 5 false,.sl (List.map RosterGone.v a0.Gone) u2] 0,.live [.i (0:Int),.i (0:Int),.sl (List.map ItemItem.v []) true,.sl (List.map RosterGone.v []) true] 0,.live (cellsM ItemItem.v l33) (cellsM ItemItem.v l33).length,.live (cellsM RosterGone.v y149) (cellsM RosterGone.v y149).length])) ?_ ?_
  ·have H:=HL144
   conv=>whnf
   refine tst_d H (fun b147 H=>?_) (fun b147 H=>?_)
   ·conv=>whnf
    iterate 3 (refine Tst.F ?_;conv=>whnf)
    obtain rfl:=Option.some.inj H
    exact arrive_c [92,93,94,95,96,97,98,99,100,101,102,103,104,3,61] 4 [0,2,3,4] (⟨_,HQ145,rfl,rfl⟩) (Nat.zero_le _) rfl (by kernel_rfl) (by kernel_rfl) rfl ⟨⟨rfl,rfl,rfl⟩,⟨⟨rfl,rfl,rfl⟩,wkB_live0 rfl (cellsM_idlt (f:=ItemItem.v) (fun _=>rfl) _) rfl (wkB_live0 rfl (cellsM_idlt (f:=RosterGone.v) (fun _=>rfl) _) rfl trivial)⟩⟩
   conv=>whnf
   iterate 2 (refine Tst.T ?_;conv=>whnf)
   refine Tst.not ?_
   refine tst_c H (fun b148 H=>?_) (fun b148 H=>?_)
   ·conv=>whnf
    obtain rfl:=Option.some.inj H
    exact arrive_c [92,93,94,95,96,97,98,99,100,101,102,103,104,3,61] 4 [0,2,3,4] (⟨_,HQ145,rfl,rfl⟩) (Nat.zero_le _) rfl (by kernel_rfl) (by kernel_rfl) rfl ⟨⟨rfl,rfl,rfl⟩,⟨⟨rfl,rfl,rfl⟩,wkB_live0 rfl (cellsM_idlt (f:=ItemItem.v) (fun _=>rfl) _) rfl (wkB_live0 rfl (cellsM_idlt (f:=RosterGone.v) (fun _=>rfl) _) rfl trivial)⟩⟩
   conv=>whnf
   refine appO_c (f:=RosterGone.v) H (fun _=>rfl) rfl (Nat.le_refl _) (.v (srcOwn (f:=RosterGone.v) (l:=[(RosterGone.mk a1.Contact (w64 (a0.Ver + (1:Int))))]) (fun _=>rfl) rfl rfl rfl)) (by decide) rfl (by simp) (fun l150 H=>?_);conv=>whnf
   obtain rfl:=Option.some.inj H
   exact arrive_c [92,93,94,95,96,97,98,99,100,101,102,103,104,3,61] 4 [0,2,3,6] (⟨_,HQ145,rfl,rfl⟩) (Nat.zero_le _) rfl (by kernel_rfl) (by kernel_rfl) rfl ⟨⟨rfl,rfl,rfl⟩,⟨⟨rfl,rfl,rfl⟩,wkB_live0 rfl (cellsM_idlt (f:=ItemItem.v) (fun _=>rfl) _) rfl (wkB_live0 rfl (cellsM_idlt (f:=RosterGone.v) (fun _=>rfl) _) rfl trivial)⟩⟩
  rintro _ _ (⟨y149,H,rfl,rfl⟩)
  rw [hK142] at H
  try dsimp only at H
  conv=>whnf
  refine tst_d H (fun b151 H=>?_) (fun b151 H=>?_)
  ·conv=>whnf
   refine lq_ ?_;conv=>whnf
   refine lq_ ?_;conv=>whnf
   refine finR_c (enc:=RosterState.v) H ?_;conv=>whnf
   exact ⟨_,.v (fzagg (.cons (.id rfl) (.cons (.id rfl) (.cons (fzown (f:=ItemItem.v) (l:=l33) rfl rfl (fun _=>rfl) (fun _=>rfl)) (.cons (fzown (f:=RosterGone.v) (l:=y149) rfl rfl (fun _=>rfl) (fun _=>rfl)) (.nil))))) rfl)⟩
  conv=>whnf
  refine ⟨rfl,ixo_c H (fun x152 h153 H=>?_)⟩;conv=>whnf
  refine ldo_c (f:=RosterGone.v) (es:=2) h153 (fun _=>rfl) 1 (by omega) (by decide) ?_;conv=>whnf
  refine lq_ ?_;conv=>whnf
  refine ⟨rfl,?_⟩;conv=>whnf
  refine slE_c (l:=y149) H rfl (fun x154 a155 h156 h157 H=>?_) (fun H=>?_)
  ·conv=>whnf
   refine lq_ ?_;conv=>whnf
   refine lq_ ?_;conv=>whnf
   refine finR_c (enc:=RosterState.v) H ?_;conv=>whnf
   exact ⟨_,.v (fzagg (.cons (.id rfl) (.cons (.id rfl) (.cons (fzown (f:=ItemItem.v) (l:=l33) rfl rfl (fun _=>rfl) (fun _=>rfl)) (.cons (fzprtD (f:=RosterGone.v) (l:=y149) rfl rfl rfl h156 h157 (fun _=>rfl) (fun _=>rfl)) (.nil))))) rfl)⟩
  conv=>whnf
  refine lq_ ?_;conv=>whnf
  refine lq_ ?_;conv=>whnf
  refine finR_c (enc:=RosterState.v) H ?_;conv=>whnf
  exact ⟨_,.v (fzagg (.cons (.id rfl) (.cons (.id rfl) (.cons (fzown (f:=ItemItem.v) (l:=l33) rfl rfl (fun _=>rfl) (fun _=>rfl)) (.cons (.id rfl) (.nil))))) rfl)⟩
 conv=>whnf
 refine lq_ ?_;conv=>whnf
 refine ask_c (p_ref20_Listed_v _) H rfl rfl (fun v34 H=>?_);conv=>whnf
 obtain ⟨o36,HL37,HQ38⟩:=bind_c H
 refine loop_c [9,11] [60,61,62,63,64,65,66,67,68,69,70,71,72,73,74,75,76,77,78,79,80,81,82,83,84,85,86,87,88,89,90,91,8,51,52,56,57] [60,61,62,63,64,65,66,67,68,69,70,71,72,73,74,75,76,77,78,79,80,81,82,83,84,85,86,87,88,89,90,91,8,51,52,56,57] (fun n vals st=>(∃ y40,p_ref21_change_l1  y11 v34 (RosterState.mk (w64 (a0.Ver + (1:Int))) a0.Floor l33 a0.Gone) (ItemItem.mk a1.Contact a1.Name a1.Sub (w64 (a0.Ver + (1:Int))) a1.Own) n [] y40=some o36∧vals=[.sl (List.map RosterGone.v []) true,.i y40]∧st=[.live [.i (w64 (a0.Ver + (1:Int))),.i a0.Floor,.osl 3 0 (List.length l33) 5 false,.sl (List.map RosterGone.v a0.Gone) u2] 0,.live [.s a1.Contact,.s a1.Name,.i a1.Sub,.i (w64 (a0.Ver + (1:Int))),.b a1.Own] 0,.live [.i (0:Int),.i (0:Int),.sl (List.map ItemItem.v []) true,.sl (List.map RosterGone.v []) true] 0,.live (cellsM ItemItem.v l33) (cellsM ItemItem.v l33).length])∨(∃ y48 y49,p_ref21_change_l1  y11 v34 (RosterState.mk (w64 (a0.Ver + (1:Int))) a0.Floor l33 a0.Gone) (ItemItem.mk a1.Contact a1.Name a1.Sub (w64 (a0.Ver + (1:Int))) a1.Own) n y48 y49=some o36∧vals=[.osl 4 0 (List.length y48) 2 false,.i y49]∧st=[.live [.i (w64 (a0.Ver + (1:Int))),.i a0.Floor,.osl 3 0 (List.length l33) 5 false,.sl (List.map RosterGone.v a0.Gone) u2] 0,.live [.s a1.Contact,.s a1.Name,.i a1.Sub,.i (w64 (a0.Ver + (1:Int))),.b a1.Own] 0,.live [.i (0:Int),.i (0:Int),.sl (List.map ItemItem.v []) true,.sl (List.map RosterGone.v []) true] 0,.live (cellsM ItemItem.v l33) (cellsM ItemItem.v l33).length,.live (cellsM RosterGone.v y48) (cellsM RosterGone.v y48).length])) fuel 4 [0,1,2,4] (.inl (⟨_,HL37,rfl,rfl⟩)) (Nat.zero_le _) rfl (by kernel_rfl) (by kernel_rfl) rfl ⟨⟨rfl,rfl,rfl⟩,⟨⟨rfl,rfl,rfl⟩,⟨⟨rfl,rfl,rfl⟩,wkB_live0 rfl (cellsM_idlt (f:=ItemItem.v) (fun _=>rfl) _) rfl trivial⟩⟩⟩ ?_
 rintro (_ | n39) _ _ (⟨y40,H,rfl,rfl⟩ | ⟨y48,y49,H,rfl,rfl⟩)
 ·rw [p_ref21_change_l1] at H;cases H
 ·rw [p_ref21_change_l1] at H;cases H
 ·rw [p_ref21_change_l1] at H
  conv=>whnf
  refine LenQ.M ?_;conv=>whnf
  refine tst_c H (fun b41 H=>?_) (fun b41 H=>?_)
  ·conv=>whnf
   refine ixs_c (f:=RosterGone.v) H (fun _=>rfl) (fun x42 H=>?_);conv=>whnf
   refine lq_ ?_;conv=>whnf
   refine Tst.not ?_
   refine tst_d H (fun b43 H=>?_) (fun b43 H=>?_)
   ·conv=>whnf
    iterate 4 (refine Tst.T ?_;conv=>whnf)
    refine FootQ.mk ⟨rfl,?_⟩;conv=>whnf
    refine Tst.T ?_;conv=>whnf
    refine ixs_c (f:=RosterGone.v) H (fun _=>rfl) (fun x50 H=>?_);conv=>whnf
    refine appN_c (f:=RosterGone.v) H (fun _=>rfl) (srcM (f:=RosterGone.v) (fun _=>rfl) [] true) rfl (.v (srcOwn (f:=RosterGone.v) (l:=[x50]) (fun _=>rfl) rfl rfl rfl)) (by decide) rfl (by simp) (fun l51 H=>?_);conv=>whnf
    refine Ari.w ?_;conv=>whnf
    exact again_c [60,61,62,63,64,65,66,67,68,69,70,71,72,73,74,75,76,77,78,79,80,81,82,83,84,85,86,87,88,89,90,91,8,51,52,56,57] n39 5 [0,1,2,3,5] (.inr (⟨_,_,H,rfl,rfl⟩)) (Nat.lt_succ_self _) (Nat.zero_le _) rfl (by kernel_rfl) (by kernel_rfl) rfl ⟨⟨rfl,rfl,rfl⟩,⟨⟨rfl,rfl,rfl⟩,⟨⟨rfl,rfl,rfl⟩,wkB_live0 rfl (cellsM_idlt (f:=ItemItem.v) (fun _=>rfl) _) rfl (wkB_live0 rfl (cellsM_idlt (f:=RosterGone.v) (fun _=>rfl) _) rfl trivial)⟩⟩⟩
   conv=>whnf
   iterate 2 (refine Tst.F ?_;conv=>whnf)
   refine Tst.not ?_
   refine tst_c H (fun b44 H=>?_) (fun b44 H=>?_)
   ·conv=>whnf
    iterate 4 (refine Tst.F ?_;conv=>whnf)
    refine FootQ.mk ⟨rfl,?_⟩;conv=>whnf
    refine Tst.F ?_;conv=>whnf
    refine Ari.w ?_;conv=>whnf
    exact again_c [60,61,62,63,64,65,66,67,68,69,70,71,72,73,74,75,76,77,78,79,80,81,82,83,84,85,86,87,88,89,90,91,8,51,52,56,57] n39 4 [] (.inl (⟨_,H,rfl,rfl⟩)) (Nat.lt_succ_self _) (Nat.zero_le _) rfl (by kernel_rfl) (by kernel_rfl) rfl ⟨⟨rfl,rfl,rfl⟩,⟨⟨rfl,rfl,rfl⟩,⟨⟨rfl,rfl,rfl⟩,wkB_live0 rfl (cellsM_idlt (f:=ItemItem.v) (fun _=>rfl) _) rfl trivial⟩⟩⟩
   conv=>whnf
   refine Tst.T ?_;conv=>whnf
   refine Tst.F ?_;conv=>whnf
   refine Tst.T ?_;conv=>whnf
   refine Tst.F ?_;conv=>whnf
   refine FootQ.mk ⟨rfl,?_⟩;conv=>whnf
   refine Tst.not ?_
   refine tst_c H (fun b45 H=>?_) (fun b45 H=>?_)
   ·conv=>whnf
    refine Ari.w ?_;conv=>whnf
    exact again_c [60,61,62,63,64,65,66,67,68,69,70,71,72,73,74,75,76,77,78,79,80,81,82,83,84,85,86,87,88,89,90,91,8,51,52,56,57] n39 4 [] (.inl (⟨_,H,rfl,rfl⟩)) (Nat.lt_succ_self _) (Nat.zero_le _) rfl (by kernel_rfl) (by kernel_rfl) rfl ⟨⟨rfl,rfl,rfl⟩,⟨⟨rfl,rfl,rfl⟩,⟨⟨rfl,rfl,rfl⟩,wkB_live0 rfl (cellsM_idlt (f:=ItemItem.v) (fun _=>rfl) _) rfl trivial⟩⟩⟩
   conv=>whnf
   refine ixs_c (f:=RosterGone.v) H (fun _=>rfl) (fun x46 H=>?_);conv=>whnf
   refine appN_c (f:=RosterGone.v) H (fun _=>rfl) (srcM (f:=RosterGone.v) (fun _=>rfl) [] true) rfl (.v (srcOwn (f:=RosterGone.v) (l:=[x46]) (fun _=>rfl) rfl rfl rfl)) (by decide) rfl (by simp) (fun l47 H=>?_);conv=>whnf
   refine Ari.w ?_;conv=>whnf
   exact again_c [60,61,62,63,64,65,66,67,68,69,70,71,72,73,74,75,76,77,78,79,80,81,82,83,84,85,86,87,88,89,90,91,8,51,52,56,57] n39 5 [0,1,2,3,5] (.inr (⟨_,_,H,rfl,rfl⟩)) (Nat.lt_succ_self _) (Nat.zero_le _) rfl (by kernel_rfl) (by kernel_rfl) rfl ⟨⟨rfl,rfl,rfl⟩,⟨⟨rfl,rfl,rfl⟩,⟨⟨rfl,rfl,rfl⟩,wkB_live0 rfl (cellsM_idlt (f:=ItemItem.v) (fun _=>rfl) _) rfl (wkB_live0 rfl (cellsM_idlt (f:=RosterGone.v) (fun _=>rfl) _) rfl trivial)⟩⟩⟩
  conv=>whnf
  obtain rfl:=Option.some.inj H
  have H:=HQ38
  try dsimp only at H
  obtain ⟨K52,hK53,o54,HL55,HQ56⟩:=join0_c H
  refine join_c [9,2,4] [92,93,94,95,96,97,98,99,100,101,102,103,104,3,61] (fun vals st=>(K52 []=some r∧vals=[.sl (List.map RosterGone.v []) true,.ptr 0 0,.ptr 1 0]∧st=[.live [.i (w64 (a0.Ver + (1:Int))),.i a0.Floor,.osl 2 0 (List.length l33) 5 false,.sl (List.map RosterGone.v a0.Gone) u2] 0,.live [.i (0:Int),.i (0:Int),.sl (List.map ItemItem.v []) true,.sl (List.map RosterGone.v []) true] 0,.live (cellsM ItemItem.v l33) (cellsM ItemItem.v l33).length])∨(∃ y61,K52 y61=some r∧vals=[.osl 3 0 (List.length y61) 2 false,.ptr 0 0,.ptr 1 0]∧st=[.live [.i (w64 (a0.Ver + (1:Int))),.i a0.Floor,.osl 2 0 (List.length l33) 5 false,.sl (List.map RosterGone.v a0.Gone) u2] 0,.live [.i (0:Int),.i (0:Int),.sl (List.map ItemItem.v []) true,.sl (List.map RosterGone.v []) true] 0,.live (cellsM ItemItem.v l33) (cellsM ItemItem.v l33).length,.live (cellsM RosterGone.v y61) (cellsM RosterGone.v y61).length])) ?_ ?_
  ·have H:=HL55
   conv=>whnf
   refine tst_d H (fun b58 H=>?_) (fun b58 H=>?_)
   ·conv=>whnf
    iterate 3 (refine Tst.F ?_;conv=>whnf)
    obtain rfl:=Option.some.inj H
    exact arrive_c [92,93,94,95,96,97,98,99,100,101,102,103,104,3,61] 3 [0,2,3] (.inl (⟨HQ56,rfl,rfl⟩)) (Nat.zero_le _) rfl (by kernel_rfl) (by kernel_rfl) rfl ⟨⟨rfl,rfl,rfl⟩,⟨⟨rfl,rfl,rfl⟩,wkB_live0 rfl (cellsM_idlt (f:=ItemItem.v) (fun _=>rfl) _) rfl trivial⟩⟩
   conv=>whnf
   iterate 2 (refine Tst.T ?_;conv=>whnf)
   refine Tst.not ?_
   refine tst_c H (fun b59 H=>?_) (fun b59 H=>?_)
   ·conv=>whnf
    obtain rfl:=Option.some.inj H
    exact arrive_c [92,93,94,95,96,97,98,99,100,101,102,103,104,3,61] 3 [0,2,3] (.inl (⟨HQ56,rfl,rfl⟩)) (Nat.zero_le _) rfl (by kernel_rfl) (by kernel_rfl) rfl ⟨⟨rfl,rfl,rfl⟩,⟨⟨rfl,rfl,rfl⟩,wkB_live0 rfl (cellsM_idlt (f:=ItemItem.v) (fun _=>rfl) _) rfl trivial⟩⟩
   conv=>whnf
   refine appN_c (f:=RosterGone.v) H (fun _=>rfl) (srcM (f:=RosterGone.v) (fun _=>rfl) [] true) rfl (.v (srcOwn (f:=RosterGone.v) (l:=[(RosterGone.mk a1.Contact (w64 (a0.Ver + (1:Int))))]) (fun _=>rfl) rfl rfl rfl)) (by decide) rfl (by simp) (fun l60 H=>?_);conv=>whnf
   obtain rfl:=Option.some.inj H
   exact arrive_c [92,93,94,95,96,97,98,99,100,101,102,103,104,3,61] 4 [0,2,3,5] (.inr (⟨_,HQ56,rfl,rfl⟩)) (Nat.zero_le _) rfl (by kernel_rfl) (by kernel_rfl) rfl ⟨⟨rfl,rfl,rfl⟩,⟨⟨rfl,rfl,rfl⟩,wkB_live0 rfl (cellsM_idlt (f:=ItemItem.v) (fun _=>rfl) _) rfl (wkB_live0 rfl (cellsM_idlt (f:=RosterGone.v) (fun _=>rfl) _) rfl trivial)⟩⟩
  rintro _ _ (⟨H,rfl,rfl⟩ | ⟨y61,H,rfl,rfl⟩)
  ·rw [hK53] at H
   try dsimp only at H
   conv=>whnf
   refine LenQ.ok ?_;conv=>whnf
   refine tst_c H (fun b62 H=>?_) (fun b62 H=>?_)
   ·conv=>whnf
    exact nil_at H
   conv=>whnf
   refine lq_ ?_;conv=>whnf
   refine lq_ ?_;conv=>whnf
   refine finR_c (enc:=RosterState.v) H ?_;conv=>whnf
   exact ⟨_,.v (fzagg (.cons (.id rfl) (.cons (.id rfl) (.cons (fzown (f:=ItemItem.v) (l:=l33) rfl rfl (fun _=>rfl) (fun _=>rfl)) (.cons (.slw) (.nil))))) rfl)⟩
  rw [hK53] at H
  try dsimp only at H
  conv=>whnf
  refine tst_d H (fun b63 H=>?_) (fun b63 H=>?_)
  ·conv=>whnf
   refine lq_ ?_;conv=>whnf
   refine lq_ ?_;conv=>whnf
   refine finR_c (enc:=RosterState.v) H ?_;conv=>whnf
   exact ⟨_,.v (fzagg (.cons (.id rfl) (.cons (.id rfl) (.cons (fzown (f:=ItemItem.v) (l:=l33) rfl rfl (fun _=>rfl) (fun _=>rfl)) (.cons (fzown (f:=RosterGone.v) (l:=y61) rfl rfl (fun _=>rfl) (fun _=>rfl)) (.nil))))) rfl)⟩
  conv=>whnf
  refine ⟨rfl,ixo_c H (fun x64 h65 H=>?_)⟩;conv=>whnf
  refine ldo_c (f:=RosterGone.v) (es:=2) h65 (fun _=>rfl) 1 (by omega) (by decide) ?_;conv=>whnf
  refine lq_ ?_;conv=>whnf
  refine ⟨rfl,?_⟩;conv=>whnf
  refine slE_c (l:=y61) H rfl (fun x66 a67 h68 h69 H=>?_) (fun H=>?_)
  ·conv=>whnf
   refine lq_ ?_;conv=>whnf
   refine lq_ ?_;conv=>whnf
   refine finR_c (enc:=RosterState.v) H ?_;conv=>whnf
   exact ⟨_,.v (fzagg (.cons (.id rfl) (.cons (.id rfl) (.cons (fzown (f:=ItemItem.v) (l:=l33) rfl rfl (fun _=>rfl) (fun _=>rfl)) (.cons (fzprtD (f:=RosterGone.v) (l:=y61) rfl rfl rfl h68 h69 (fun _=>rfl) (fun _=>rfl)) (.nil))))) rfl)⟩
  conv=>whnf
  refine lq_ ?_;conv=>whnf
  refine lq_ ?_;conv=>whnf
  refine finR_c (enc:=RosterState.v) H ?_;conv=>whnf
  exact ⟨_,.v (fzagg (.cons (.id rfl) (.cons (.id rfl) (.cons (fzown (f:=ItemItem.v) (l:=l33) rfl rfl (fun _=>rfl) (fun _=>rfl)) (.cons (.id rfl) (.nil))))) rfl)⟩
 rw [p_ref21_change_l1] at H
 conv=>whnf
 refine LenQ.M ?_;conv=>whnf
 refine tst_c H (fun b70 H=>?_) (fun b70 H=>?_)
 ·conv=>whnf
  refine ixs_c (f:=RosterGone.v) H (fun _=>rfl) (fun x71 H=>?_);conv=>whnf
  refine lq_ ?_;conv=>whnf
  refine Tst.not ?_
  refine tst_d H (fun b72 H=>?_) (fun b72 H=>?_)
  ·conv=>whnf
   iterate 4 (refine Tst.T ?_;conv=>whnf)
   refine FootQ.mk ⟨rfl,?_⟩;conv=>whnf
   refine Tst.T ?_;conv=>whnf
   refine ixs_c (f:=RosterGone.v) H (fun _=>rfl) (fun x77 H=>?_);conv=>whnf
   refine appO_c (f:=RosterGone.v) H (fun _=>rfl) rfl (Nat.le_refl _) (.v (srcOwn (f:=RosterGone.v) (l:=[x77]) (fun _=>rfl) rfl rfl rfl)) (by decide) rfl (by simp) (fun l78 H=>?_);conv=>whnf
   refine Ari.w ?_;conv=>whnf
   exact again_c [60,61,62,63,64,65,66,67,68,69,70,71,72,73,74,75,76,77,78,79,80,81,82,83,84,85,86,87,88,89,90,91,8,51,52,56,57] n39 5 [0,1,2,3,6] (.inr (⟨_,_,H,rfl,rfl⟩)) (Nat.lt_succ_self _) (Nat.zero_le _) rfl (by kernel_rfl) (by kernel_rfl) rfl ⟨⟨rfl,rfl,rfl⟩,⟨⟨rfl,rfl,rfl⟩,⟨⟨rfl,rfl,rfl⟩,wkB_live0 rfl (cellsM_idlt (f:=ItemItem.v) (fun _=>rfl) _) rfl (wkB_live0 rfl (cellsM_idlt (f:=RosterGone.v) (fun _=>rfl) _) rfl trivial)⟩⟩⟩
  conv=>whnf
  iterate 2 (refine Tst.F ?_;conv=>whnf)
  refine Tst.not ?_
  refine tst_c H (fun b73 H=>?_) (fun b73 H=>?_)
  ·conv=>whnf
   iterate 4 (refine Tst.F ?_;conv=>whnf)
   refine FootQ.mk ⟨rfl,?_⟩;conv=>whnf
   refine Tst.F ?_;conv=>whnf
   refine Ari.w ?_;conv=>whnf
   exact again_c [60,61,62,63,64,65,66,67,68,69,70,71,72,73,74,75,76,77,78,79,80,81,82,83,84,85,86,87,88,89,90,91,8,51,52,56,57] n39 5 [] (.inr (⟨_,_,H,rfl,rfl⟩)) (Nat.lt_succ_self _) (Nat.zero_le _) rfl (by kernel_rfl) (by kernel_rfl) rfl ⟨⟨rfl,rfl,rfl⟩,⟨⟨rfl,rfl,rfl⟩,⟨⟨rfl,rfl,rfl⟩,wkB_live0 rfl (cellsM_idlt (f:=ItemItem.v) (fun _=>rfl) _) rfl (wkB_live0 rfl (cellsM_idlt (f:=RosterGone.v) (fun _=>rfl) _) rfl trivial)⟩⟩⟩
  conv=>whnf
  refine Tst.T ?_;conv=>whnf
  refine Tst.F ?_;conv=>whnf
  refine Tst.T ?_;conv=>whnf
  refine Tst.F ?_;conv=>whnf
  refine FootQ.mk ⟨rfl,?_⟩;conv=>whnf
  refine Tst.not ?_
  refine tst_c H (fun b74 H=>?_) (fun b74 H=>?_)
  ·conv=>whnf
   refine Ari.w ?_;conv=>whnf
   exact again_c [60,61,62,63,64,65,66,67,68,69,70,71,72,73,74,75,76,77,78,79,80,81,82,83,84,85,86,87,88,89,90,91,8,51,52,56,57] n39 5 [] (.inr (⟨_,_,H,rfl,rfl⟩)) (Nat.lt_succ_self _) (Nat.zero_le _) rfl (by kernel_rfl) (by kernel_rfl) rfl ⟨⟨rfl,rfl,rfl⟩,⟨⟨rfl,rfl,rfl⟩,⟨⟨rfl,rfl,rfl⟩,wkB_live0 rfl (cellsM_idlt (f:=ItemItem.v) (fun _=>rfl) _) rfl (wkB_live0 rfl (cellsM_idlt (f:=RosterGone.v) (fun _=>rfl) _) rfl trivial)⟩⟩⟩
  conv=>whnf
  refine ixs_c (f:=RosterGone.v) H (fun _=>rfl) (fun x75 H=>?_);conv=>whnf
  refine appO_c (f:=RosterGone.v) H (fun _=>rfl) rfl (Nat.le_refl _) (.v (srcOwn (f:=RosterGone.v) (l:=[x75]) (fun _=>rfl) rfl rfl rfl)) (by decide) rfl (by simp) (fun l76 H=>?_);conv=>whnf
  refine Ari.w ?_;conv=>whnf
  exact again_c [60,61,62,63,64,65,66,67,68,69,70,71,72,73,74,75,76,77,78,79,80,81,82,83,84,85,86,87,88,89,90,91,8,51,52,56,57] n39 5 [0,1,2,3,6] (.inr (⟨_,_,H,rfl,rfl⟩)) (Nat.lt_succ_self _) (Nat.zero_le _) rfl (by kernel_rfl) (by kernel_rfl) rfl ⟨⟨rfl,rfl,rfl⟩,⟨⟨rfl,rfl,rfl⟩,⟨⟨rfl,rfl,rfl⟩,wkB_live0 rfl (cellsM_idlt (f:=ItemItem.v) (fun _=>rfl) _) rfl (wkB_live0 rfl (cellsM_idlt (f:=RosterGone.v) (fun _=>rfl) _) rfl trivial)⟩⟩⟩
 conv=>whnf
 obtain rfl:=Option.some.inj H
 have H:=HQ38
 try dsimp only at H
 obtain ⟨K79,hK80,o81,HL82,HQ83⟩:=join0_c H
 refine join_c [9,2,4] [92,93,94,95,96,97,98,99,100,101,102,103,104,3,61] (fun vals st=>(∃ y87,K79 y87=some r∧vals=[.osl 3 0 (List.length y87) 2 false,.ptr 0 0,.ptr 1 0]∧st=[.live [.i (w64 (a0.Ver + (1:Int))),.i a0.Floor,.osl 2 0 (List.length l33) 5 false,.sl (List.map RosterGone.v a0.Gone) u2] 0,.live [.i (0:Int),.i (0:Int),.sl (List.map ItemItem.v []) true,.sl (List.map RosterGone.v []) true] 0,.live (cellsM ItemItem.v l33) (cellsM ItemItem.v l33).length,.live (cellsM RosterGone.v y87) (cellsM RosterGone.v y87).length])) ?_ ?_
 ·have H:=HL82
  conv=>whnf
  refine tst_d H (fun b85 H=>?_) (fun b85 H=>?_)
  ·conv=>whnf
   iterate 3 (refine Tst.F ?_;conv=>whnf)
   obtain rfl:=Option.some.inj H
   exact arrive_c [92,93,94,95,96,97,98,99,100,101,102,103,104,3,61] 4 [0,2,3,4] (⟨_,HQ83,rfl,rfl⟩) (Nat.zero_le _) rfl (by kernel_rfl) (by kernel_rfl) rfl ⟨⟨rfl,rfl,rfl⟩,⟨⟨rfl,rfl,rfl⟩,wkB_live0 rfl (cellsM_idlt (f:=ItemItem.v) (fun _=>rfl) _) rfl (wkB_live0 rfl (cellsM_idlt (f:=RosterGone.v) (fun _=>rfl) _) rfl trivial)⟩⟩
  conv=>whnf
  iterate 2 (refine Tst.T ?_;conv=>whnf)
  refine Tst.not ?_
  refine tst_c H (fun b86 H=>?_) (fun b86 H=>?_)
  ·conv=>whnf
   obtain rfl:=Option.some.inj H
   exact arrive_c [92,93,94,95,96,97,98,99,100,101,102,103,104,3,61] 4 [0,2,3,4] (⟨_,HQ83,rfl,rfl⟩) (Nat.zero_le _) rfl (by kernel_rfl) (by kernel_rfl) rfl ⟨⟨rfl,rfl,rfl⟩,⟨⟨rfl,rfl,rfl⟩,wkB_live0 rfl (cellsM_idlt (f:=ItemItem.v) (fun _=>rfl) _) rfl (wkB_live0 rfl (cellsM_idlt (f:=RosterGone.v) (fun _=>rfl) _) rfl trivial)⟩⟩
  conv=>whnf
  refine appO_c (f:=RosterGone.v) H (fun _=>rfl) rfl (Nat.le_refl _) (.v (srcOwn (f:=RosterGone.v) (l:=[(RosterGone.mk a1.Contact (w64 (a0.Ver + (1:Int))))]) (fun _=>rfl) rfl rfl rfl)) (by decide) rfl (by simp) (fun l88 H=>?_);conv=>whnf
  obtain rfl:=Option.some.inj H
  exact arrive_c [92,93,94,95,96,97,98,99,100,101,102,103,104,3,61] 4 [0,2,3,6] (⟨_,HQ83,rfl,rfl⟩) (Nat.zero_le _) rfl (by kernel_rfl) (by kernel_rfl) rfl ⟨⟨rfl,rfl,rfl⟩,⟨⟨rfl,rfl,rfl⟩,wkB_live0 rfl (cellsM_idlt (f:=ItemItem.v) (fun _=>rfl) _) rfl (wkB_live0 rfl (cellsM_idlt (f:=RosterGone.v) (fun _=>rfl) _) rfl trivial)⟩⟩
 rintro _ _ (⟨y87,H,rfl,rfl⟩)
 rw [hK80] at H
 try dsimp only at H
 conv=>whnf
 refine tst_d H (fun b89 H=>?_) (fun b89 H=>?_)
 ·conv=>whnf
  refine lq_ ?_;conv=>whnf
  refine lq_ ?_;conv=>whnf
  refine finR_c (enc:=RosterState.v) H ?_;conv=>whnf
  exact ⟨_,.v (fzagg (.cons (.id rfl) (.cons (.id rfl) (.cons (fzown (f:=ItemItem.v) (l:=l33) rfl rfl (fun _=>rfl) (fun _=>rfl)) (.cons (fzown (f:=RosterGone.v) (l:=y87) rfl rfl (fun _=>rfl) (fun _=>rfl)) (.nil))))) rfl)⟩
 conv=>whnf
 refine ⟨rfl,ixo_c H (fun x90 h91 H=>?_)⟩;conv=>whnf
 refine ldo_c (f:=RosterGone.v) (es:=2) h91 (fun _=>rfl) 1 (by omega) (by decide) ?_;conv=>whnf
 refine lq_ ?_;conv=>whnf
 refine ⟨rfl,?_⟩;conv=>whnf
 refine slE_c (l:=y87) H rfl (fun x92 a93 h94 h95 H=>?_) (fun H=>?_)
 ·conv=>whnf
  refine lq_ ?_;conv=>whnf
  refine lq_ ?_;conv=>whnf
  refine finR_c (enc:=RosterState.v) H ?_;conv=>whnf
  exact ⟨_,.v (fzagg (.cons (.id rfl) (.cons (.id rfl) (.cons (fzown (f:=ItemItem.v) (l:=l33) rfl rfl (fun _=>rfl) (fun _=>rfl)) (.cons (fzprtD (f:=RosterGone.v) (l:=y87) rfl rfl rfl h94 h95 (fun _=>rfl) (fun _=>rfl)) (.nil))))) rfl)⟩
 conv=>whnf
 refine lq_ ?_;conv=>whnf
 refine lq_ ?_;conv=>whnf
 refine finR_c (enc:=RosterState.v) H ?_;conv=>whnf
 exact ⟨_,.v (fzagg (.cons (.id rfl) (.cons (.id rfl) (.cons (fzown (f:=ItemItem.v) (l:=l33) rfl rfl (fun _=>rfl) (fun _=>rfl)) (.cons (.id rfl) (.nil))))) rfl)⟩
end Go.Proofs.YtpmoioopjbfhkaaGreat

