/- ScriptPuts: for every input the call returns true, and its arguments read as they did. -/
import Derived.Test.YtpkodpcfafipdaaGreatDoorSuA18
import Derived.Test.YtpkodpcfafipdaaGreatDoorSuA17
import Derived.Test.YtpkodpcfafipdaaGreatDoorSuA20
import Derived.Test.YtpkodpcfafipdaaGreatDoorSuA12
import Derived.KernelRfl
import Derived.Test.YtpkodpcfafipdaaGreatDoorSuA14
import Derived.HandedShaped
import Derived.LaidMore
import Derived.LaidLaws
import Derived.ProofKit
import Derived.OpenShut
import Derived.Stop.Joined
import Derived.MakeChecks
import Derived.LaidSub
import Derived.Lib.LaidTab
import Derived.Lib.ItoaNum
import Derived.Test.YtpkodpcfafipdaaGreatDoorSuA13
import Derived.Test.YtpkodpcfafipdaaGreatDoorRows
import Derived.Test.YtpkodpcfafipdaaGreatDoorSuA19
import Derived.Test.YtpkodpcfafipdaaGreatDoorCards
import Derived.Test.YtpkodpcfafipdaaGreatDoorTie
set_option linter.all false
namespace Go.Proofs.YtpkodpcfafipdaaGreatDoor
open Go.RowKit
set_option maxRecDepth 100000
set_option maxHeartbeats 4000000
def gc7:BCode:=(.seq (R_ 1 [O_ 1 (.bx (t_ 0)) 0,O_ 2 (.mv (.const (.string ⟨#[]⟩))) 1,O_ 3 (.mv (i_ 0)) 1]) (.seq (.block 0 (.seq (R_ 0 [O_ 10 (.fa 0 (t_ 1)) 0,O_ 11 (.ld 1 false (t_ 10)) 0,O_ 12 (.bin .gtr (t_ 11) (.const (.int .u8 5))) 0,O_ 9 (.mv (t_ 12)) 0]) (.cond (t_ 9) (.seq (R_ 0 [O_ 2 (.mv (.const (.string ⟨#[]⟩))) 0,O_ 3 (.mv (i_ 12)) 0]) .ret) (.seq (R_ 0 [O_ 14 (.ld 4 true (t_ 1)) 0,O_ 15 (.cl 28 [(t_ 14)]) 0,O_ 16 (.un .not (t_ 15)) 0,O_ 13 (.mv (t_ 16)) 0]) (.cond (t_ 13) (.seq (R_ 0 [O_ 2 (.mv (.const (.string ⟨#[]⟩))) 0,O_ 3 (.mv (i_ 4)) 0]) .ret) .skip))))) (.seq (R_ 1 [O_ 17 (.fa 0 (t_ 1)) 0,O_ 18 (.ld 1 false (t_ 17)) 0,O_ 19 (.bs 1 1 [(.lit (.int .u8 0))] [(0,(t_ 18))]) 0,O_ 4 (.mv (t_ 19)) 1]) (.seq (R_ 0 [O_ 20 (.fa 0 (t_ 1)) 0,O_ 21 (.ld 1 false (t_ 20)) 0,O_ 22 (.cl 29 [(t_ 21)]) 0,O_ 5 (.mv (t_ 22)) 0]) (.seq (.seq (R_ 0 [O_ 6 (.mv (i_ 0)) 0]) (.block 1 (.loop (.seq (.seq (R_ 0 [O_ 23 (.mv (t_ 6)) 0,O_ 24 (.mv (t_ 5)) 0,O_ 25 (.lent (t_ 24)) 0,O_ 26 (.bin .lss (t_ 23) (t_ 25)) 0]) (.cond (t_ 26) .skip (.exit 1))) (.seq (.block 2 (.seq (R_ 0 [O_ 7 (.mv (.const (.slice none 0 0))) 0]) (.seq (R_ 0 [O_ 8 (.mv (i_ 0)) 0]) (.seq (.seq (R_ 0 [O_ 29 (.mv (t_ 5)) 0,O_ 30 (.mv (t_ 6)) 0,O_ 31 (.ixt (t_ 29) (t_ 30)) 0]) (.block 3 (.seq (R_ 0 [O_ 44 (.bin .eql (t_ 31) (.const (.int .u8 99))) 0,O_ 43 (.mv (t_ 44)) 0]) (.cond (t_ 43) (R_ 0 [O_ 46 (.fa 1 (t_ 1)) 0,O_ 47 (.ld 1 false (t_ 46)) 0,O_ 48 (.cl 30 [(t_ 47),(i_ 1)]) 0,O_ 45 (.mv (t_ 48)) 0,O_ 49 (.ex (t_ 45) 0) 0,O_ 50 (.ex (t_ 45) 1) 0,O_ 7 (.mv (t_ 49)) 0,O_ 8 (.mv (t_ 50)) 0]) (.seq (R_ 0 [O_ 52 (.bin .eql (t_ 31) (.const (.int .u8 116))) 0,O_ 51 (.mv (t_ 52)) 0]) (.cond (t_ 51) (R_ 0 [O_ 54 (.fa 3 (t_ 1)) 0,O_ 55 (.ld 1 false (t_ 54)) 0,O_ 56 (.cl 31 [(t_ 55),(i_ 255)]) 0,O_ 53 (.mv (t_ 56)) 0,O_ 57 (.ex (t_ 53) 0) 0,O_ 58 (.ex (t_ 53) 1) 0,O_ 7 (.mv (t_ 57)) 0,O_ 8 (.mv (t_ 58)) 0]) (.reg 0 [O_ 33 (.fa 2 (t_ 1)) 0,O_ 34 (.ld 1 false (t_ 33)) 0,O_ 35 (.mv (t_ 5)) 0,O_ 36 (.mv (t_ 6)) 0,O_ 37 (.ixt (t_ 35) (t_ 36)) 0,O_ 38 (.bin .sub (t_ 37) (.const (.int .u8 48))) 0,O_ 39 (.cvi .i64 (t_ 38)) 0,O_ 40 (.cl 30 [(t_ 34),(t_ 39)]) 0,O_ 32 (.mv (t_ 40)) 0,O_ 41 (.ex (t_ 32) 0) 0,O_ 42 (.ex (t_ 32) 1) 0,O_ 7 (.mv (t_ 41)) 0,O_ 8 (.mv (t_ 42)) 0] (some [[],[0],[],[],[3,2],[2,3,4],[4,3,2,5],[5,2,3,4,6,0,1],[1,0,6,4,3,2,5,7],[7,5,2,3,4,6,0,1,8],[7,5,2,3,4,6,0,1,8],[8,1,0,6,4,3,2,5,7,9],[9,11,8,1,0,6,4,3,2,5,7,10]]) 0 []))))))) (.seq (.seq (R_ 0 [O_ 59 (.mv (t_ 8)) 0,O_ 60 (.bin .neq (t_ 59) (i_ 0)) 0]) (.cond (t_ 60) (.seq (R_ 0 [O_ 61 (.mv (t_ 8)) 0,O_ 2 (.mv (.const (.string ⟨#[]⟩))) 0,O_ 3 (.mv (t_ 61)) 0]) .ret) .skip)) (R_ 1 [O_ 62 (.mv (t_ 4)) 0,O_ 63 (.mv (t_ 7)) 0,O_ 64 (.ap 1 1 (t_ 62) (t_ 63)) 0,O_ 4 (.mv (t_ 64)) 1])))))) (R_ 0 [O_ 27 (.mv (t_ 6)) 0,O_ 28 (.bin .add (t_ 27) (i_ 1)) 0,O_ 6 (.mv (t_ 28)) 0])))))) (.seq (R_ 0 [O_ 65 (.mv (t_ 4)) 0,O_ 66 (.b2s (t_ 65)) 0,O_ 2 (.mv (t_ 66)) 0,O_ 3 (.mv (i_ 0)) 0]) .ret))))))
theorem gc7_ok:compF Tryz.prog Tryz.f7=some (gc7.er,67,[.tmp 2,.tmp 3]):=by unfold gc7;kernel_rfl
theorem p_ref34_Put_v (a0:BrokerStep):CallsO Tryz.prog 7 [.agg [.y8 a0.Kind,.i a0.Conn,.i a0.N,.s a0.Text]] (fun r:ByteArray × Int=>.tup [V.s r.1,V.i r.2]) (p_ref34_Put a0):=by
 refine callsO_comp mix Tryz.func7 gc7_ok fun r H=>?_
 rw [p_ref34_Put] at H
 conv=>whnf
 refine tst_c H (fun b1 H=>?_) (fun b1 H=>?_)
 ·conv=>whnf
  exact fin0_c (enc:=(fun r:ByteArray × Int=>.tup [V.s r.1,V.i r.2])) H (.inr rfl) (.cons (.tmp rfl) (.cons (.tmp rfl) (.nil))) rfl rfl
 conv=>whnf
 refine ask_c (p_ref34_zero_v _) H rfl rfl (fun v2 H=>?_);conv=>whnf
 refine Tst.not ?_
 refine tst_d H (fun b3 H=>?_) (fun b3 H=>?_)
 ·conv=>whnf
  exact fin0_c (enc:=(fun r:ByteArray × Int=>.tup [V.s r.1,V.i r.2])) H (.inr rfl) (.cons (.tmp rfl) (.cons (.tmp rfl) (.nil))) rfl rfl
 conv=>whnf
 refine ask_c (p_ref34_has_v _) H rfl rfl (fun v4 H=>?_);conv=>whnf
 obtain ⟨o6,HL7,HQ8⟩:=bind_c H
 refine loop_c [2,3,4,6] [7,8,23,24,25,26,27,28,29,30,31,32,33,34,35,36,37,38,39,40,41,42,43,44,45,46,47,48,49,50,51,52,53,54,55,56,57,58,59,60,61,62,63,64,10,17,19,20] [7,8,23,24,25,26,27,28,29,30,31,32,33,34,35,36,37,38,39,40,41,42,43,44,45,46,47,48,49,50,51,52,53,54,55,56,57,58,59,60,61,62,63,64,10,17,19,20] (fun n vals st=>(∃ y10 y11,p_ref34_Put_l1  v4 a0 n y10 y11=some o6∧vals=[.s (⟨#[]⟩ : ByteArray),.i (0:Int),.osl 1 0 (List.length y10) 1 true,.i y11]∧st=[.live [.y8 a0.Kind,.i a0.Conn,.i a0.N,.s a0.Text] 0,.live (cellsM V.y8 y10) (cellsM V.y8 y10).length])∨(∃ y18 y19,p_ref34_Put_l1  v4 a0 n y18 y19=some o6∧vals=[.s (⟨#[]⟩ : ByteArray),.i (0:Int),.osl 1 0 (List.length y18) 1 false,.i y19]∧st=[.live [.y8 a0.Kind,.i a0.Conn,.i a0.N,.s a0.Text] 0,.live (cellsM V.y8 y18) (cellsM V.y8 y18).length])) fuel 2 [] (.inl (⟨_,_,HL7,rfl,rfl⟩)) (Nat.zero_le _) rfl (by kernel_rfl) (by kernel_rfl) rfl ⟨⟨rfl,rfl,rfl⟩,wkB_live0 rfl (cellsM_idlt (f:=V.y8) (fun _=>rfl) _) rfl trivial⟩ ?_
 rintro (_ | n9) _ _ (⟨y10,y11,H,rfl,rfl⟩ | ⟨y18,y19,H,rfl,rfl⟩)
 ·rw [p_ref34_Put_l1] at H;cases H
 ·rw [p_ref34_Put_l1] at H;cases H
 ·rw [p_ref34_Put_l1] at H
  conv=>whnf
  refine tst_d H (fun b12 H=>?_) (fun b12 H=>?_)
  ·conv=>whnf
   obtain rfl:=Option.some.inj H
   have H:=HQ8
   try dsimp only at H
   refine b2sO_c H rfl rfl rfl (fun s28 H=>?_);conv=>whnf
   exact fin0_c (enc:=(fun r:ByteArray × Int=>.tup [V.s r.1,V.i r.2])) H (.inr rfl) (.cons (.tmp rfl) (.cons (.tmp rfl) (.nil))) rfl rfl
  conv=>whnf
  refine ixt_c H (fun c13 H=>?_);conv=>whnf
  refine tst_c H (fun b14 H=>?_) (fun b14 H=>?_)
  ·conv=>whnf
   refine ask_c (p_ref01_Lay_v _ _) H rfl rfl (fun v15 H=>?_);conv=>whnf
   refine tst_c H (fun b16 H=>?_) (fun b16 H=>?_)
   ·conv=>whnf
    obtain rfl:=Option.some.inj H
    have H:=HQ8
    try dsimp only at H
    exact fin0_c (enc:=(fun r:ByteArray × Int=>.tup [V.s r.1,V.i r.2])) H (.inr rfl) (.cons (.tmp rfl) (.cons (.tmp rfl) (.nil))) rfl rfl
   conv=>whnf
   refine appD_c (f:=V.y8) H (fun _=>rfl) rfl rfl rfl rfl (.v (srcM (f:=V.y8) (fun _=>rfl) _ _)) (by decide) rfl (fun l17 H=>?_) (fun l17 H=>?_)
   ·conv=>whnf
    refine Ari.w ?_;conv=>whnf
    exact again_c [7,8,23,24,25,26,27,28,29,30,31,32,33,34,35,36,37,38,39,40,41,42,43,44,45,46,47,48,49,50,51,52,53,54,55,56,57,58,59,60,61,62,63,64,10,17,19,20] n9 2 [] (.inl (⟨_,_,H,rfl,rfl⟩)) (Nat.lt_succ_self _) (Nat.zero_le _) rfl (by kernel_rfl) (by kernel_rfl) rfl ⟨⟨rfl,rfl,rfl⟩,wkB_live0 rfl (cellsM_idlt (f:=V.y8) (fun _=>rfl) _) rfl trivial⟩
   conv=>whnf
   refine Ari.w ?_;conv=>whnf
   exact again_c [7,8,23,24,25,26,27,28,29,30,31,32,33,34,35,36,37,38,39,40,41,42,43,44,45,46,47,48,49,50,51,52,53,54,55,56,57,58,59,60,61,62,63,64,10,17,19,20] n9 2 [0,2] (.inr (⟨_,_,H,rfl,rfl⟩)) (Nat.lt_succ_self _) (Nat.zero_le _) rfl (by kernel_rfl) (by kernel_rfl) rfl ⟨⟨rfl,rfl,rfl⟩,wkB_live0 rfl (cellsM_idlt (f:=V.y8) (fun _=>rfl) _) rfl trivial⟩
  conv=>whnf
  refine tst_c H (fun b20 H=>?_) (fun b20 H=>?_)
  ·conv=>whnf
   refine ask_c (p_ref01_Say_v _ _) H rfl rfl (fun v21 H=>?_);conv=>whnf
   refine tst_c H (fun b22 H=>?_) (fun b22 H=>?_)
   ·conv=>whnf
    obtain rfl:=Option.some.inj H
    have H:=HQ8
    try dsimp only at H
    exact fin0_c (enc:=(fun r:ByteArray × Int=>.tup [V.s r.1,V.i r.2])) H (.inr rfl) (.cons (.tmp rfl) (.cons (.tmp rfl) (.nil))) rfl rfl
   conv=>whnf
   refine appD_c (f:=V.y8) H (fun _=>rfl) rfl rfl rfl rfl (.v (srcM (f:=V.y8) (fun _=>rfl) _ _)) (by decide) rfl (fun l23 H=>?_) (fun l23 H=>?_)
   ·conv=>whnf
    refine Ari.w ?_;conv=>whnf
    exact again_c [7,8,23,24,25,26,27,28,29,30,31,32,33,34,35,36,37,38,39,40,41,42,43,44,45,46,47,48,49,50,51,52,53,54,55,56,57,58,59,60,61,62,63,64,10,17,19,20] n9 2 [] (.inl (⟨_,_,H,rfl,rfl⟩)) (Nat.lt_succ_self _) (Nat.zero_le _) rfl (by kernel_rfl) (by kernel_rfl) rfl ⟨⟨rfl,rfl,rfl⟩,wkB_live0 rfl (cellsM_idlt (f:=V.y8) (fun _=>rfl) _) rfl trivial⟩
   conv=>whnf
   refine Ari.w ?_;conv=>whnf
   exact again_c [7,8,23,24,25,26,27,28,29,30,31,32,33,34,35,36,37,38,39,40,41,42,43,44,45,46,47,48,49,50,51,52,53,54,55,56,57,58,59,60,61,62,63,64,10,17,19,20] n9 2 [0,2] (.inr (⟨_,_,H,rfl,rfl⟩)) (Nat.lt_succ_self _) (Nat.zero_le _) rfl (by kernel_rfl) (by kernel_rfl) rfl ⟨⟨rfl,rfl,rfl⟩,wkB_live0 rfl (cellsM_idlt (f:=V.y8) (fun _=>rfl) _) rfl trivial⟩
  conv=>whnf
  refine ixt_c H (fun c24 H=>?_);conv=>whnf
  iterate 2 (refine Ari.w ?_;conv=>whnf)
  refine ask_c (p_ref01_Lay_v _ _) H rfl rfl (fun v25 H=>?_);conv=>whnf
  refine FootQ.mk ⟨rfl,?_⟩;conv=>whnf
  refine tst_c H (fun b26 H=>?_) (fun b26 H=>?_)
  ·conv=>whnf
   obtain rfl:=Option.some.inj H
   have H:=HQ8
   try dsimp only at H
   exact fin0_c (enc:=(fun r:ByteArray × Int=>.tup [V.s r.1,V.i r.2])) H (.inr rfl) (.cons (.tmp rfl) (.cons (.tmp rfl) (.nil))) rfl rfl
  conv=>whnf
  refine appD_c (f:=V.y8) H (fun _=>rfl) rfl rfl rfl rfl (.v (srcM (f:=V.y8) (fun _=>rfl) _ _)) (by decide) rfl (fun l27 H=>?_) (fun l27 H=>?_)
  ·conv=>whnf
   refine Ari.w ?_;conv=>whnf
   exact again_c [7,8,23,24,25,26,27,28,29,30,31,32,33,34,35,36,37,38,39,40,41,42,43,44,45,46,47,48,49,50,51,52,53,54,55,56,57,58,59,60,61,62,63,64,10,17,19,20] n9 2 [] (.inl (⟨_,_,H,rfl,rfl⟩)) (Nat.lt_succ_self _) (Nat.zero_le _) rfl (by kernel_rfl) (by kernel_rfl) rfl ⟨⟨rfl,rfl,rfl⟩,wkB_live0 rfl (cellsM_idlt (f:=V.y8) (fun _=>rfl) _) rfl trivial⟩
  conv=>whnf
  refine Ari.w ?_;conv=>whnf
  exact again_c [7,8,23,24,25,26,27,28,29,30,31,32,33,34,35,36,37,38,39,40,41,42,43,44,45,46,47,48,49,50,51,52,53,54,55,56,57,58,59,60,61,62,63,64,10,17,19,20] n9 2 [0,2] (.inr (⟨_,_,H,rfl,rfl⟩)) (Nat.lt_succ_self _) (Nat.zero_le _) rfl (by kernel_rfl) (by kernel_rfl) rfl ⟨⟨rfl,rfl,rfl⟩,wkB_live0 rfl (cellsM_idlt (f:=V.y8) (fun _=>rfl) _) rfl trivial⟩
 rw [p_ref34_Put_l1] at H
 conv=>whnf
 refine tst_d H (fun b29 H=>?_) (fun b29 H=>?_)
 ·conv=>whnf
  obtain rfl:=Option.some.inj H
  have H:=HQ8
  try dsimp only at H
  refine b2sO_c H rfl rfl rfl (fun s43 H=>?_);conv=>whnf
  exact fin0_c (enc:=(fun r:ByteArray × Int=>.tup [V.s r.1,V.i r.2])) H (.inr rfl) (.cons (.tmp rfl) (.cons (.tmp rfl) (.nil))) rfl rfl
 conv=>whnf
 refine ixt_c H (fun c30 H=>?_);conv=>whnf
 refine tst_c H (fun b31 H=>?_) (fun b31 H=>?_)
 ·conv=>whnf
  refine ask_c (p_ref01_Lay_v _ _) H rfl rfl (fun v32 H=>?_);conv=>whnf
  refine tst_c H (fun b33 H=>?_) (fun b33 H=>?_)
  ·conv=>whnf
   obtain rfl:=Option.some.inj H
   have H:=HQ8
   try dsimp only at H
   exact fin0_c (enc:=(fun r:ByteArray × Int=>.tup [V.s r.1,V.i r.2])) H (.inr rfl) (.cons (.tmp rfl) (.cons (.tmp rfl) (.nil))) rfl rfl
  conv=>whnf
  refine appP_c (f:=V.y8) H (fun _=>rfl) rfl rfl (.v (srcM (f:=V.y8) (fun _=>rfl) _ _)) (by decide) rfl (fun l34 H=>?_) (fun l34 H=>?_)
  ·conv=>whnf
   refine Ari.w ?_;conv=>whnf
   exact again_c [7,8,23,24,25,26,27,28,29,30,31,32,33,34,35,36,37,38,39,40,41,42,43,44,45,46,47,48,49,50,51,52,53,54,55,56,57,58,59,60,61,62,63,64,10,17,19,20] n9 2 [] (.inr (⟨_,_,H,rfl,rfl⟩)) (Nat.lt_succ_self _) (Nat.zero_le _) rfl (by kernel_rfl) (by kernel_rfl) rfl ⟨⟨rfl,rfl,rfl⟩,wkB_live0 rfl (cellsM_idlt (f:=V.y8) (fun _=>rfl) _) rfl trivial⟩
  conv=>whnf
  refine Ari.w ?_;conv=>whnf
  exact again_c [7,8,23,24,25,26,27,28,29,30,31,32,33,34,35,36,37,38,39,40,41,42,43,44,45,46,47,48,49,50,51,52,53,54,55,56,57,58,59,60,61,62,63,64,10,17,19,20] n9 2 [0,2] (.inr (⟨_,_,H,rfl,rfl⟩)) (Nat.lt_succ_self _) (Nat.zero_le _) rfl (by kernel_rfl) (by kernel_rfl) rfl ⟨⟨rfl,rfl,rfl⟩,wkB_live0 rfl (cellsM_idlt (f:=V.y8) (fun _=>rfl) _) rfl trivial⟩
 conv=>whnf
 refine tst_c H (fun b35 H=>?_) (fun b35 H=>?_)
 ·conv=>whnf
  refine ask_c (p_ref01_Say_v _ _) H rfl rfl (fun v36 H=>?_);conv=>whnf
  refine tst_c H (fun b37 H=>?_) (fun b37 H=>?_)
  ·conv=>whnf
   obtain rfl:=Option.some.inj H
   have H:=HQ8
   try dsimp only at H
   exact fin0_c (enc:=(fun r:ByteArray × Int=>.tup [V.s r.1,V.i r.2])) H (.inr rfl) (.cons (.tmp rfl) (.cons (.tmp rfl) (.nil))) rfl rfl
  conv=>whnf
  refine appP_c (f:=V.y8) H (fun _=>rfl) rfl rfl (.v (srcM (f:=V.y8) (fun _=>rfl) _ _)) (by decide) rfl (fun l38 H=>?_) (fun l38 H=>?_)
  ·conv=>whnf
   refine Ari.w ?_;conv=>whnf
   exact again_c [7,8,23,24,25,26,27,28,29,30,31,32,33,34,35,36,37,38,39,40,41,42,43,44,45,46,47,48,49,50,51,52,53,54,55,56,57,58,59,60,61,62,63,64,10,17,19,20] n9 2 [] (.inr (⟨_,_,H,rfl,rfl⟩)) (Nat.lt_succ_self _) (Nat.zero_le _) rfl (by kernel_rfl) (by kernel_rfl) rfl ⟨⟨rfl,rfl,rfl⟩,wkB_live0 rfl (cellsM_idlt (f:=V.y8) (fun _=>rfl) _) rfl trivial⟩
  conv=>whnf
  refine Ari.w ?_;conv=>whnf
  exact again_c [7,8,23,24,25,26,27,28,29,30,31,32,33,34,35,36,37,38,39,40,41,42,43,44,45,46,47,48,49,50,51,52,53,54,55,56,57,58,59,60,61,62,63,64,10,17,19,20] n9 2 [0,2] (.inr (⟨_,_,H,rfl,rfl⟩)) (Nat.lt_succ_self _) (Nat.zero_le _) rfl (by kernel_rfl) (by kernel_rfl) rfl ⟨⟨rfl,rfl,rfl⟩,wkB_live0 rfl (cellsM_idlt (f:=V.y8) (fun _=>rfl) _) rfl trivial⟩
 conv=>whnf
 refine ixt_c H (fun c39 H=>?_);conv=>whnf
 iterate 2 (refine Ari.w ?_;conv=>whnf)
 refine ask_c (p_ref01_Lay_v _ _) H rfl rfl (fun v40 H=>?_);conv=>whnf
 refine FootQ.mk ⟨rfl,?_⟩;conv=>whnf
 refine tst_c H (fun b41 H=>?_) (fun b41 H=>?_)
 ·conv=>whnf
  obtain rfl:=Option.some.inj H
  have H:=HQ8
  try dsimp only at H
  exact fin0_c (enc:=(fun r:ByteArray × Int=>.tup [V.s r.1,V.i r.2])) H (.inr rfl) (.cons (.tmp rfl) (.cons (.tmp rfl) (.nil))) rfl rfl
 conv=>whnf
 refine appP_c (f:=V.y8) H (fun _=>rfl) rfl rfl (.v (srcM (f:=V.y8) (fun _=>rfl) _ _)) (by decide) rfl (fun l42 H=>?_) (fun l42 H=>?_)
 ·conv=>whnf
  refine Ari.w ?_;conv=>whnf
  exact again_c [7,8,23,24,25,26,27,28,29,30,31,32,33,34,35,36,37,38,39,40,41,42,43,44,45,46,47,48,49,50,51,52,53,54,55,56,57,58,59,60,61,62,63,64,10,17,19,20] n9 2 [] (.inr (⟨_,_,H,rfl,rfl⟩)) (Nat.lt_succ_self _) (Nat.zero_le _) rfl (by kernel_rfl) (by kernel_rfl) rfl ⟨⟨rfl,rfl,rfl⟩,wkB_live0 rfl (cellsM_idlt (f:=V.y8) (fun _=>rfl) _) rfl trivial⟩
 conv=>whnf
 refine Ari.w ?_;conv=>whnf
 exact again_c [7,8,23,24,25,26,27,28,29,30,31,32,33,34,35,36,37,38,39,40,41,42,43,44,45,46,47,48,49,50,51,52,53,54,55,56,57,58,59,60,61,62,63,64,10,17,19,20] n9 2 [0,2] (.inr (⟨_,_,H,rfl,rfl⟩)) (Nat.lt_succ_self _) (Nat.zero_le _) rfl (by kernel_rfl) (by kernel_rfl) rfl ⟨⟨rfl,rfl,rfl⟩,wkB_live0 rfl (cellsM_idlt (f:=V.y8) (fun _=>rfl) _) rfl trivial⟩
def gc16:BCode:=(.seq (R_ 0 [O_ 2 (.mv (.const (.string ⟨#[]⟩))) 0]) (.seq (.seq (R_ 0 [O_ 3 (.mv (t_ 0)) 0]) (.block 0 (.seq (R_ 0 [O_ 5 (.bin .eql (t_ 3) (.const (.int .u8 0))) 0,O_ 4 (.mv (t_ 5)) 0]) (.cond (t_ 4) (.seq (R_ 0 [O_ 2 (.mv (.const (.string ⟨#[99,111,110,110,101,99,116]⟩))) 0]) .ret) (.seq (R_ 0 [O_ 7 (.bin .eql (t_ 3) (.const (.int .u8 1))) 0,O_ 6 (.mv (t_ 7)) 0]) (.cond (t_ 6) (.seq (R_ 0 [O_ 2 (.mv (.const (.string ⟨#[98,121,116,101,115]⟩))) 0]) .ret) (.seq (R_ 0 [O_ 9 (.bin .eql (t_ 3) (.const (.int .u8 2))) 0,O_ 8 (.mv (t_ 9)) 0]) (.cond (t_ 8) (.seq (R_ 0 [O_ 2 (.mv (.const (.string ⟨#[99,108,111,115,101]⟩))) 0]) .ret) (.seq (R_ 0 [O_ 11 (.bin .eql (t_ 3) (.const (.int .u8 3))) 0,O_ 10 (.mv (t_ 11)) 0]) (.cond (t_ 10) (.seq (R_ 0 [O_ 2 (.mv (.const (.string ⟨#[116,105,99,107]⟩))) 0]) .ret) (.seq (R_ 0 [O_ 13 (.bin .eql (t_ 3) (.const (.int .u8 4))) 0,O_ 12 (.mv (t_ 13)) 0]) (.cond (t_ 12) (.seq (R_ 0 [O_ 2 (.mv (.const (.string ⟨#[99,114,101,100,105,116]⟩))) 0]) .ret) (.seq (R_ 0 [O_ 15 (.bin .eql (t_ 3) (.const (.int .u8 5))) 0,O_ 14 (.mv (t_ 15)) 0]) (.cond (t_ 14) (.seq (R_ 0 [O_ 2 (.mv (.const (.string ⟨#[100,114,97,119]⟩))) 0]) .ret) .skip)))))))))))))) (.seq (R_ 0 [O_ 2 (.mv (.const (.string ⟨#[]⟩))) 0]) .ret)))
theorem gc16_ok:compF Tryz.prog Tryz.f16=some (gc16.er,16,[.tmp 2]):=by unfold gc16;kernel_rfl
theorem p_ref34_Name_v (a0:Int):CallsO Tryz.prog 16 [.y8 a0] V.s (p_ref34_Name a0):=by
 refine callsO_comp mix Tryz.func16 gc16_ok fun r H=>?_
 rw [p_ref34_Name] at H
 conv=>whnf
 refine tst_c H (fun b1 H=>?_) (fun b1 H=>?_)
 ·conv=>whnf
  exact fin0_c (enc:=V.s) H (.inr rfl) (.cons (.tmp rfl) (.nil)) rfl rfl
 conv=>whnf
 refine tst_c H (fun b2 H=>?_) (fun b2 H=>?_)
 ·conv=>whnf
  exact fin0_c (enc:=V.s) H (.inr rfl) (.cons (.tmp rfl) (.nil)) rfl rfl
 conv=>whnf
 refine tst_c H (fun b3 H=>?_) (fun b3 H=>?_)
 ·conv=>whnf
  exact fin0_c (enc:=V.s) H (.inr rfl) (.cons (.tmp rfl) (.nil)) rfl rfl
 conv=>whnf
 refine tst_c H (fun b4 H=>?_) (fun b4 H=>?_)
 ·conv=>whnf
  exact fin0_c (enc:=V.s) H (.inr rfl) (.cons (.tmp rfl) (.nil)) rfl rfl
 conv=>whnf
 refine tst_c H (fun b5 H=>?_) (fun b5 H=>?_)
 ·conv=>whnf
  exact fin0_c (enc:=V.s) H (.inr rfl) (.cons (.tmp rfl) (.nil)) rfl rfl
 conv=>whnf
 refine tst_c H (fun b6 H=>?_) (fun b6 H=>?_)
 ·conv=>whnf
  exact fin0_c (enc:=V.s) H (.inr rfl) (.cons (.tmp rfl) (.nil)) rfl rfl
 conv=>whnf
 exact fin0_c (enc:=V.s) H (.inr rfl) (.cons (.tmp rfl) (.nil)) rfl rfl
def gc34:BCode:=(.seq (R_ 0 [O_ 2 (.mv (.const (.string ⟨#[]⟩))) 0]) (.seq (.seq (R_ 0 [O_ 3 (.mv (t_ 0)) 0,O_ 4 (.bin .lss (t_ 3) (i_ 0)) 0]) (.cond (t_ 4) (.seq (R_ 0 [O_ 5 (.mv (t_ 0)) 0,O_ 6 (.cl 46 [(t_ 5)]) 0,O_ 7 (.bin .add (.const (.string ⟨#[45]⟩)) (t_ 6)) 0,O_ 2 (.mv (t_ 7)) 0]) .ret) .skip)) (.seq (R_ 0 [O_ 8 (.mv (t_ 0)) 0,O_ 9 (.un .neg (t_ 8)) 0,O_ 10 (.cl 46 [(t_ 9)]) 0,O_ 2 (.mv (t_ 10)) 0]) .ret)))
theorem gc34_ok:compF Tryz.prog Tryz.f34=some (gc34.er,11,[.tmp 2]):=by unfold gc34;kernel_rfl
theorem p_ref34_decimal_v (a0:Int):CallsO Tryz.prog 34 [.i a0] V.s (p_ref34_decimal a0):=by
 refine callsO_comp mix Tryz.func34 gc34_ok fun r H=>?_
 rw [p_ref34_decimal] at H
 conv=>whnf
 refine tst_d H (fun b1 H=>?_) (fun b1 H=>?_)
 ·conv=>whnf
  refine Ari.w ?_;conv=>whnf
  refine ask_c (p_ref34_digits_v _) H rfl rfl (fun v4 H=>?_);conv=>whnf
  exact fin0_c (enc:=V.s) H (.inr rfl) (.cons (.tmp rfl) (.nil)) rfl rfl
 conv=>whnf
 refine ask_c (p_ref34_digits_v _) H rfl rfl (fun v2 H=>?_);conv=>whnf
 refine cat_c H (fun s3 H=>?_);conv=>whnf
 exact fin0_c (enc:=V.s) H (.inr rfl) (.cons (.tmp rfl) (.nil)) rfl rfl
def gc9:BCode:=(.seq (R_ 1 [O_ 1 (.bx (t_ 0)) 0,O_ 2 (.mv (.const (.string ⟨#[]⟩))) 1]) (.seq (.seq (R_ 0 [O_ 3 (.fa 0 (t_ 1)) 0,O_ 4 (.ld 1 false (t_ 3)) 0,O_ 5 (.bin .gtr (t_ 4) (.const (.int .u8 5))) 0]) (.cond (t_ 5) (.seq (R_ 0 [O_ 2 (.mv (.const (.string ⟨#[]⟩))) 0]) .ret) .skip)) (.seq (.reg 0 [O_ 6 (.fa 0 (t_ 1)) 0,O_ 7 (.ld 1 false (t_ 6)) 0,O_ 8 (.cl 16 [(t_ 7)]) 0,O_ 9 (.bin .add (t_ 8) (.const (.string ⟨#[32]⟩))) 0,O_ 10 (.fa 1 (t_ 1)) 0,O_ 11 (.ld 1 false (t_ 10)) 0,O_ 12 (.cl 34 [(t_ 11)]) 0,O_ 13 (.bin .add (t_ 9) (t_ 12)) 0,O_ 14 (.bin .add (t_ 13) (.const (.string ⟨#[32]⟩))) 0,O_ 15 (.fa 2 (t_ 1)) 0,O_ 16 (.ld 1 false (t_ 15)) 0,O_ 17 (.cl 34 [(t_ 16)]) 0,O_ 18 (.bin .add (t_ 14) (t_ 17)) 0,O_ 19 (.bin .add (t_ 18) (.const (.string ⟨#[32]⟩))) 0,O_ 20 (.fa 3 (t_ 1)) 0,O_ 21 (.ld 1 false (t_ 20)) 0,O_ 22 (.lent (t_ 21)) 0,O_ 23 (.cl 34 [(t_ 22)]) 0,O_ 24 (.bin .add (t_ 19) (t_ 23)) 0,O_ 2 (.mv (t_ 24)) 0] (some [[],[0],[0,1],[1,0,2],[],[4],[1,0,2,4,5],[5,4,6,2,0,1,3],[3,1,0,2,6,4,5,7],[],[9],[5,4,2,0,1,6,9,10],[10,9,11,7,5,4,6,2,0,1,3,8],[8,3,1,0,2,6,4,5,7,11,9,10,12],[],[14],[14,15],[10,9,6,1,0,2,4,5,11,15,14,16],[16,14,15,17,12,10,9,11,7,5,4,6,2,0,1,3,8,13],[13,8,3,1,0,2,6,4,5,7,11,9,10,12,17,15,14,16,18]]) 0 []) .ret)))
theorem gc9_ok:compF Tryz.prog Tryz.f9=some (gc9.er,25,[.tmp 2]):=by unfold gc9;kernel_rfl
theorem p_ref34_Say_v (a0:BrokerStep):CallsO Tryz.prog 9 [.agg [.y8 a0.Kind,.i a0.Conn,.i a0.N,.s a0.Text]] V.s (p_ref34_Say a0):=by
 refine callsO_comp mix Tryz.func9 gc9_ok fun r H=>?_
 rw [p_ref34_Say] at H
 conv=>whnf
 refine tst_c H (fun b1 H=>?_) (fun b1 H=>?_)
 ·conv=>whnf
  exact fin0_c (enc:=V.s) H (.inr rfl) (.cons (.tmp rfl) (.nil)) rfl rfl
 conv=>whnf
 refine ask_c (p_ref34_Name_v _) H rfl rfl (fun v2 H=>?_);conv=>whnf
 refine cat_c H (fun s3 H=>?_);conv=>whnf
 refine ask_c (p_ref34_decimal_v _) H rfl rfl (fun v4 H=>?_);conv=>whnf
 refine cat_c H (fun s5 H=>?_);conv=>whnf
 refine cat_c H (fun s6 H=>?_);conv=>whnf
 refine ask_c (p_ref34_decimal_v _) H rfl rfl (fun v7 H=>?_);conv=>whnf
 refine cat_c H (fun s8 H=>?_);conv=>whnf
 refine cat_c H (fun s9 H=>?_);conv=>whnf
 refine ask_c (p_ref34_decimal_v _) H rfl rfl (fun v10 H=>?_);conv=>whnf
 refine cat_c H (fun s11 H=>?_);conv=>whnf
 refine FootQ.mk ⟨rfl,?_⟩;conv=>whnf
 exact fin0_c (enc:=V.s) H (.inr rfl) (.cons (.tmp rfl) (.nil)) rfl rfl
def gc11:BCode:=(.seq (R_ 0 [O_ 2 (.mv (.const (.slice none 0 0))) 0]) (.seq (R_ 0 [O_ 3 (.mv (.const (.slice none 0 0))) 0]) (.seq (.seq (R_ 0 [O_ 4 (.mv (i_ 0)) 0]) (.block 0 (.loop (.seq (.seq (R_ 0 [O_ 5 (.mv (t_ 4)) 0,O_ 6 (.mv (t_ 0)) 0,O_ 7 (.lens (t_ 6)) 0,O_ 8 (.bin .lss (t_ 5) (t_ 7)) 0]) (.cond (t_ 8) .skip (.exit 0))) (.seq (.block 1 (R_ 2 [O_ 11 (.mv (t_ 3)) 0,O_ 12 (.mv (t_ 0)) 0,O_ 13 (.mv (t_ 4)) 0,O_ 14 (.ixs 4 (t_ 12) (t_ 13)) 0,O_ 15 (.ld 4 true (t_ 14)) 0,O_ 16 (.bs 4 1 [(.lit (.int .u8 0)),(.lit (.int .i64 0)),(.lit (.int .i64 0)),(.lit (.string ⟨#[]⟩))] [(0,(t_ 15))]) 0,O_ 17 (.ap 4 40 (t_ 11) (t_ 16)) 1,O_ 3 (.mv (t_ 17)) 2])) (R_ 0 [O_ 9 (.mv (t_ 4)) 0,O_ 10 (.bin .add (t_ 9) (i_ 1)) 0,O_ 4 (.mv (t_ 10)) 0])))))) (.seq (R_ 0 [O_ 18 (.mv (t_ 3)) 0,O_ 2 (.mv (t_ 18)) 0]) .ret))))
theorem gc11_ok:compF Tryz.prog Tryz.f11=some (gc11.er,19,[.tmp 2]):=by unfold gc11;kernel_rfl
theorem p_law33_Steps_v {u1:Bool} (a0:List BrokerStep):CallsO Tryz.prog 11 [.sl (List.map BrokerStep.v a0) u1] (fun l:List BrokerStep=>V.sl (l.map BrokerStep.v) false) (p_law33_Steps a0):=by
 refine callsO_comp mix Tryz.func11 gc11_ok fun r H=>?_
 rw [p_law33_Steps] at H
 conv=>whnf
 obtain ⟨o2,HL3,HQ4⟩:=bind_c H
 refine loop_c [3,4] [5,6,7,8,9,10,11,12,13,14,15,16,17] [5,6,7,8,9,10,11,12,13,14,15,16,17] (fun n vals st=>(∃ y6,p_law33_Steps_l1  a0 n [] y6=some o2∧vals=[.sl (List.map BrokerStep.v []) true,.i y6]∧st=[])∨(∃ y10 y11,p_law33_Steps_l1  a0 n y10 y11=some o2∧vals=[.osl 0 0 (List.length y10) 4 false,.i y11]∧st=[.live (cellsM BrokerStep.v y10) (cellsM BrokerStep.v y10).length])) fuel 0 [] (.inl (⟨_,HL3,rfl,rfl⟩)) (Nat.zero_le _) rfl (by kernel_rfl) (by kernel_rfl) rfl trivial ?_
 rintro (_ | n5) _ _ (⟨y6,H,rfl,rfl⟩ | ⟨y10,y11,H,rfl,rfl⟩)
 ·rw [p_law33_Steps_l1] at H;cases H
 ·rw [p_law33_Steps_l1] at H;cases H
 ·rw [p_law33_Steps_l1] at H
  conv=>whnf
  refine LenQ.M ?_;conv=>whnf
  refine tst_d H (fun b7 H=>?_) (fun b7 H=>?_)
  ·conv=>whnf
   obtain rfl:=Option.some.inj H
   have H:=HQ4
   try dsimp only at H
   refine finR_c (enc:=(fun l:List BrokerStep=>V.sl (l.map BrokerStep.v) false)) H ?_;conv=>whnf
   exact ⟨_,.v (.c (.slw))⟩
  conv=>whnf
  refine ixs_c (f:=BrokerStep.v) H (fun _=>rfl) (fun x8 H=>?_);conv=>whnf
  refine appN_c (f:=BrokerStep.v) H (fun _=>rfl) (srcM (f:=BrokerStep.v) (fun _=>rfl) [] true) rfl (.v (srcOwn (f:=BrokerStep.v) (l:=[x8]) (fun _=>rfl) rfl rfl rfl)) (by decide) rfl (by simp) (fun l9 H=>?_);conv=>whnf
  refine Ari.w ?_;conv=>whnf
  exact again_c [5,6,7,8,9,10,11,12,13,14,15,16,17] n5 1 [1] (.inr (⟨_,_,H,rfl,rfl⟩)) (Nat.lt_succ_self _) (Nat.zero_le _) rfl (by kernel_rfl) (by kernel_rfl) rfl (wkB_live0 rfl (cellsM_idlt (f:=BrokerStep.v) (fun _=>rfl) _) rfl trivial)
 rw [p_law33_Steps_l1] at H
 conv=>whnf
 refine LenQ.M ?_;conv=>whnf
 refine tst_d H (fun b12 H=>?_) (fun b12 H=>?_)
 ·conv=>whnf
  obtain rfl:=Option.some.inj H
  have H:=HQ4
  try dsimp only at H
  refine finR_c (enc:=(fun l:List BrokerStep=>V.sl (l.map BrokerStep.v) false)) H ?_;conv=>whnf
  exact ⟨_,.v (.c (fzown (f:=BrokerStep.v) (l:=y10) rfl rfl (fun _=>rfl) (fun _=>rfl)))⟩
 conv=>whnf
 refine ixs_c (f:=BrokerStep.v) H (fun _=>rfl) (fun x13 H=>?_);conv=>whnf
 refine appO_c (f:=BrokerStep.v) H (fun _=>rfl) rfl (Nat.le_refl _) (.v (srcOwn (f:=BrokerStep.v) (l:=[x13]) (fun _=>rfl) rfl rfl rfl)) (by decide) rfl (by simp) (fun l14 H=>?_);conv=>whnf
 refine Ari.w ?_;conv=>whnf
 exact again_c [5,6,7,8,9,10,11,12,13,14,15,16,17] n5 1 [2] (.inr (⟨_,_,H,rfl,rfl⟩)) (Nat.lt_succ_self _) (Nat.zero_le _) rfl (by kernel_rfl) (by kernel_rfl) rfl (wkB_live0 rfl (cellsM_idlt (f:=BrokerStep.v) (fun _=>rfl) _) rfl trivial)
end Go.Proofs.YtpkodpcfafipdaaGreatDoor

namespace Go.Proofs.YtpkodpcfafipdaaGreatDoor
open Go.RowKit
set_option maxRecDepth 100000
set_option maxHeartbeats 4000000
def gc12:BCode:=(.seq (R_ 0 [O_ 2 (.mv (.const (.string ⟨#[]⟩))) 0,O_ 3 (.mv (i_ 0)) 0]) (.seq (R_ 0 [O_ 4 (.mv (.const (.string ⟨#[]⟩))) 0]) (.seq (.seq (R_ 0 [O_ 5 (.mv (i_ 0)) 0]) (.block 0 (.loop (.seq (.seq (R_ 0 [O_ 8 (.mv (t_ 5)) 0,O_ 9 (.mv (t_ 0)) 0,O_ 10 (.lens (t_ 9)) 0,O_ 11 (.bin .lss (t_ 8) (t_ 10)) 0]) (.cond (t_ 11) .skip (.exit 0))) (.seq (.block 1 (.seq (R_ 0 [O_ 15 (.mv (t_ 0)) 0,O_ 16 (.mv (t_ 5)) 0,O_ 17 (.ixs 4 (t_ 15) (t_ 16)) 0,O_ 18 (.ld 4 true (t_ 17)) 0,O_ 19 (.cl 7 [(t_ 18)]) 0,O_ 14 (.mv (t_ 19)) 0,O_ 20 (.ex (t_ 14) 0) 0,O_ 21 (.ex (t_ 14) 1) 0,O_ 6 (.mv (t_ 20)) 0,O_ 7 (.mv (t_ 21)) 0]) (.seq (.seq (R_ 0 [O_ 22 (.mv (t_ 7)) 0,O_ 23 (.bin .neq (t_ 22) (i_ 0)) 0]) (.cond (t_ 23) (.seq (R_ 0 [O_ 24 (.mv (t_ 7)) 0,O_ 2 (.mv (.const (.string ⟨#[]⟩))) 0,O_ 3 (.mv (t_ 24)) 0]) .ret) .skip)) (R_ 0 [O_ 25 (.mv (t_ 4)) 0,O_ 26 (.mv (t_ 6)) 0,O_ 27 (.bin .add (t_ 25) (t_ 26)) 0,O_ 4 (.mv (t_ 27)) 0])))) (R_ 0 [O_ 12 (.mv (t_ 5)) 0,O_ 13 (.bin .add (t_ 12) (i_ 1)) 0,O_ 5 (.mv (t_ 13)) 0])))))) (.seq (R_ 0 [O_ 28 (.mv (t_ 4)) 0,O_ 2 (.mv (t_ 28)) 0,O_ 3 (.mv (i_ 0)) 0]) .ret))))
theorem gc12_ok:compF Tryz.prog Tryz.f12=some (gc12.er,29,[.tmp 2,.tmp 3]):=by unfold gc12;kernel_rfl
theorem p_ref34_Join_v {u1:Bool} (a0:List BrokerStep):CallsO Tryz.prog 12 [.sl (List.map BrokerStep.v a0) u1] (fun r:ByteArray × Int=>.tup [V.s r.1,V.i r.2]) (p_ref34_Join a0):=by
 refine callsO_comp mix Tryz.func12 gc12_ok fun r H=>?_
 rw [p_ref34_Join] at H
 conv=>whnf
 obtain ⟨o2,HL3,HQ4⟩:=bind_c H
 refine loop_c [2,3,4,5] [6,7,8,9,10,11,12,13,14,15,16,17,18,19,20,21,22,23,24,25,26,27] [6,7,8,9,10,11,12,13,14,15,16,17,18,19,20,21,22,23,24,25,26,27] (fun n vals st=>(∃ y6 y7,p_ref34_Join_l1  a0 n y6 y7=some o2∧vals=[.s (⟨#[]⟩ : ByteArray),.i (0:Int),.s y6,.i y7]∧st=[])) fuel 0 [] (⟨_,_,HL3,rfl,rfl⟩) (Nat.zero_le _) rfl (by kernel_rfl) (by kernel_rfl) rfl trivial ?_
 rintro (_ | n5) _ _ (⟨y6,y7,H,rfl,rfl⟩)
 ·rw [p_ref34_Join_l1] at H;cases H
 rw [p_ref34_Join_l1] at H
 conv=>whnf
 refine LenQ.M ?_;conv=>whnf
 refine tst_d H (fun b8 H=>?_) (fun b8 H=>?_)
 ·conv=>whnf
  obtain rfl:=Option.some.inj H
  have H:=HQ4
  try dsimp only at H
  exact fin0_c (enc:=(fun r:ByteArray × Int=>.tup [V.s r.1,V.i r.2])) H (.inr rfl) (.cons (.tmp rfl) (.cons (.tmp rfl) (.nil))) rfl rfl
 conv=>whnf
 refine ixs_c (f:=BrokerStep.v) H (fun _=>rfl) (fun x9 H=>?_);conv=>whnf
 refine ask_c (p_ref34_Put_v _) H rfl rfl (fun v10 H=>?_);conv=>whnf
 refine tst_c H (fun b11 H=>?_) (fun b11 H=>?_)
 ·conv=>whnf
  obtain rfl:=Option.some.inj H
  have H:=HQ4
  try dsimp only at H
  exact fin0_c (enc:=(fun r:ByteArray × Int=>.tup [V.s r.1,V.i r.2])) H (.inr rfl) (.cons (.tmp rfl) (.cons (.tmp rfl) (.nil))) rfl rfl
 conv=>whnf
 refine cat_c H (fun s12 H=>?_);conv=>whnf
 refine Ari.w ?_;conv=>whnf
 exact again_c [6,7,8,9,10,11,12,13,14,15,16,17,18,19,20,21,22,23,24,25,26,27] n5 0 [] (⟨_,_,H,rfl,rfl⟩) (Nat.lt_succ_self _) (Nat.zero_le _) rfl (by kernel_rfl) (by kernel_rfl) rfl trivial
def gc64:BCode:=(.seq (R_ 0 [O_ 2 (.mv (.const (.string ⟨#[]⟩))) 0]) (.seq (.seq (R_ 0 [O_ 3 (.mv (t_ 0)) 0]) (.block 0 (.seq (R_ 0 [O_ 5 (.bin .eql (t_ 3) (.const (.int .u8 1))) 0,O_ 4 (.mv (t_ 5)) 0]) (.cond (t_ 4) (.seq (R_ 0 [O_ 2 (.mv (.const (.string ⟨#[117,114]⟩))) 0]) .ret) (.seq (R_ 0 [O_ 7 (.bin .eql (t_ 3) (.const (.int .u8 3))) 0,O_ 6 (.mv (t_ 7)) 0]) (.cond (t_ 6) (.seq (R_ 0 [O_ 2 (.mv (.const (.string ⟨#[115,112]⟩))) 0]) .ret) (.seq (R_ 0 [O_ 9 (.bin .eql (t_ 3) (.const (.int .u8 5))) 0,O_ 8 (.mv (t_ 9)) 0]) (.cond (t_ 8) (.seq (R_ 0 [O_ 2 (.mv (.const (.string ⟨#[117,115,112]⟩))) 0]) .ret) (.seq (.seq (R_ 0 [O_ 11 (.bin .eql (t_ 3) (.const (.int .u8 6))) 0,O_ 10 (.mv (t_ 11)) 0]) (.cond (t_ 10) .skip (.seq (R_ 0 [O_ 12 (.bin .eql (t_ 3) (.const (.int .u8 7))) 0,O_ 10 (.mv (t_ 12)) 0]) (.cond (t_ 10) .skip (.seq (R_ 0 [O_ 13 (.bin .eql (t_ 3) (.const (.int .u8 8))) 0,O_ 10 (.mv (t_ 13)) 0]) (.cond (t_ 10) .skip (.seq (R_ 0 [O_ 14 (.bin .eql (t_ 3) (.const (.int .u8 9))) 0,O_ 10 (.mv (t_ 14)) 0]) (.cond (t_ 10) .skip (.seq (R_ 0 [O_ 15 (.bin .eql (t_ 3) (.const (.int .u8 10))) 0,O_ 10 (.mv (t_ 15)) 0]) (.cond (t_ 10) .skip (.seq (R_ 0 [O_ 16 (.bin .eql (t_ 3) (.const (.int .u8 11))) 0,O_ 10 (.mv (t_ 16)) 0]) (.cond (t_ 10) .skip (R_ 0 [O_ 17 (.bin .eql (t_ 3) (.const (.int .u8 14))) 0,O_ 10 (.mv (t_ 17)) 0]))))))))))))) (.cond (t_ 10) (.seq (R_ 0 [O_ 2 (.mv (.const (.string ⟨#[117]⟩))) 0]) .ret) (.seq (.seq (R_ 0 [O_ 19 (.bin .eql (t_ 3) (.const (.int .u8 12))) 0,O_ 18 (.mv (t_ 19)) 0]) (.cond (t_ 18) .skip (.seq (R_ 0 [O_ 20 (.bin .eql (t_ 3) (.const (.int .u8 15))) 0,O_ 18 (.mv (t_ 20)) 0]) (.cond (t_ 18) .skip (.seq (R_ 0 [O_ 21 (.bin .eql (t_ 3) (.const (.int .u8 36))) 0,O_ 18 (.mv (t_ 21)) 0]) (.cond (t_ 18) .skip (R_ 0 [O_ 22 (.bin .eql (t_ 3) (.const (.int .u8 41))) 0,O_ 18 (.mv (t_ 22)) 0]))))))) (.cond (t_ 18) (.seq (R_ 0 [O_ 2 (.mv (.const (.string ⟨#[110]⟩))) 0]) .ret) (.seq (R_ 0 [O_ 24 (.bin .eql (t_ 3) (.const (.int .u8 13))) 0,O_ 23 (.mv (t_ 24)) 0]) (.cond (t_ 23) (.seq (R_ 0 [O_ 2 (.mv (.const (.string ⟨#[117,109]⟩))) 0]) .ret) (.seq (R_ 0 [O_ 26 (.bin .eql (t_ 3) (.const (.int .u8 32))) 0,O_ 25 (.mv (t_ 26)) 0]) (.cond (t_ 25) (.seq (R_ 0 [O_ 2 (.mv (.const (.string ⟨#[99,110]⟩))) 0]) .ret) (.seq (R_ 0 [O_ 28 (.bin .eql (t_ 3) (.const (.int .u8 33))) 0,O_ 27 (.mv (t_ 28)) 0]) (.cond (t_ 27) (.seq (R_ 0 [O_ 2 (.mv (.const (.string ⟨#[99,115,110]⟩))) 0]) .ret) (.seq (R_ 0 [O_ 30 (.bin .eql (t_ 3) (.const (.int .u8 34))) 0,O_ 29 (.mv (t_ 30)) 0]) (.cond (t_ 29) (.seq (R_ 0 [O_ 2 (.mv (.const (.string ⟨#[117,114,115,112,110]⟩))) 0]) .ret) (.seq (R_ 0 [O_ 32 (.bin .eql (t_ 3) (.const (.int .u8 35))) 0,O_ 31 (.mv (t_ 32)) 0]) (.cond (t_ 31) (.seq (R_ 0 [O_ 2 (.mv (.const (.string ⟨#[117,114,110]⟩))) 0]) .ret) (.seq (R_ 0 [O_ 34 (.bin .eql (t_ 3) (.const (.int .u8 38))) 0,O_ 33 (.mv (t_ 34)) 0]) (.cond (t_ 33) (.seq (R_ 0 [O_ 2 (.mv (.const (.string ⟨#[117,109,115,110]⟩))) 0]) .ret) (.seq (R_ 0 [O_ 36 (.bin .eql (t_ 3) (.const (.int .u8 39))) 0,O_ 35 (.mv (t_ 36)) 0]) (.cond (t_ 35) (.seq (R_ 0 [O_ 2 (.mv (.const (.string ⟨#[117,110]⟩))) 0]) .ret) (.seq (R_ 0 [O_ 38 (.bin .eql (t_ 3) (.const (.int .u8 40))) 0,O_ 37 (.mv (t_ 38)) 0]) (.cond (t_ 37) (.seq (R_ 0 [O_ 2 (.mv (.const (.string ⟨#[117,99]⟩))) 0]) .ret) .skip)))))))))))))))))))))))))))) (.seq (R_ 0 [O_ 2 (.mv (.const (.string ⟨#[]⟩))) 0]) .ret)))
theorem gc64_ok:compF Tryz.prog Tryz.f64=some (gc64.er,39,[.tmp 2]):=by unfold gc64;kernel_rfl
theorem p_ref10_Has_v (a0:Int):CallsO Tryz.prog 64 [.y8 a0] V.s (p_ref10_Has a0):=by
 refine callsO_comp mix Tryz.func64 gc64_ok fun r H=>?_
 rw [p_ref10_Has] at H
 conv=>whnf
 refine tst_c H (fun b1 H=>?_) (fun b1 H=>?_)
 ·conv=>whnf
  exact fin0_c (enc:=V.s) H (.inr rfl) (.cons (.tmp rfl) (.nil)) rfl rfl
 conv=>whnf
 refine tst_c H (fun b2 H=>?_) (fun b2 H=>?_)
 ·conv=>whnf
  exact fin0_c (enc:=V.s) H (.inr rfl) (.cons (.tmp rfl) (.nil)) rfl rfl
 conv=>whnf
 refine tst_c H (fun b3 H=>?_) (fun b3 H=>?_)
 ·conv=>whnf
  exact fin0_c (enc:=V.s) H (.inr rfl) (.cons (.tmp rfl) (.nil)) rfl rfl
 conv=>whnf
 refine tst_c H (fun b4 H=>?_) (fun b4 H=>?_)
 ·conv=>whnf
  refine Tst.T ?_;conv=>whnf
  exact fin0_c (enc:=V.s) H (.inr rfl) (.cons (.tmp rfl) (.nil)) rfl rfl
 conv=>whnf
 refine tst_c H (fun b5 H=>?_) (fun b5 H=>?_)
 ·conv=>whnf
  refine Tst.T ?_;conv=>whnf
  exact fin0_c (enc:=V.s) H (.inr rfl) (.cons (.tmp rfl) (.nil)) rfl rfl
 conv=>whnf
 refine tst_c H (fun b6 H=>?_) (fun b6 H=>?_)
 ·conv=>whnf
  refine Tst.T ?_;conv=>whnf
  exact fin0_c (enc:=V.s) H (.inr rfl) (.cons (.tmp rfl) (.nil)) rfl rfl
 conv=>whnf
 refine tst_c H (fun b7 H=>?_) (fun b7 H=>?_)
 ·conv=>whnf
  refine Tst.T ?_;conv=>whnf
  exact fin0_c (enc:=V.s) H (.inr rfl) (.cons (.tmp rfl) (.nil)) rfl rfl
 conv=>whnf
 refine tst_c H (fun b8 H=>?_) (fun b8 H=>?_)
 ·conv=>whnf
  refine Tst.T ?_;conv=>whnf
  exact fin0_c (enc:=V.s) H (.inr rfl) (.cons (.tmp rfl) (.nil)) rfl rfl
 conv=>whnf
 refine tst_c H (fun b9 H=>?_) (fun b9 H=>?_)
 ·conv=>whnf
  refine Tst.T ?_;conv=>whnf
  exact fin0_c (enc:=V.s) H (.inr rfl) (.cons (.tmp rfl) (.nil)) rfl rfl
 conv=>whnf
 refine tst_c H (fun b10 H=>?_) (fun b10 H=>?_)
 ·conv=>whnf
  exact fin0_c (enc:=V.s) H (.inr rfl) (.cons (.tmp rfl) (.nil)) rfl rfl
 conv=>whnf
 refine tst_c H (fun b11 H=>?_) (fun b11 H=>?_)
 ·conv=>whnf
  refine Tst.T ?_;conv=>whnf
  exact fin0_c (enc:=V.s) H (.inr rfl) (.cons (.tmp rfl) (.nil)) rfl rfl
 conv=>whnf
 refine tst_c H (fun b12 H=>?_) (fun b12 H=>?_)
 ·conv=>whnf
  refine Tst.T ?_;conv=>whnf
  exact fin0_c (enc:=V.s) H (.inr rfl) (.cons (.tmp rfl) (.nil)) rfl rfl
 conv=>whnf
 refine tst_c H (fun b13 H=>?_) (fun b13 H=>?_)
 ·conv=>whnf
  refine Tst.T ?_;conv=>whnf
  exact fin0_c (enc:=V.s) H (.inr rfl) (.cons (.tmp rfl) (.nil)) rfl rfl
 conv=>whnf
 refine tst_c H (fun b14 H=>?_) (fun b14 H=>?_)
 ·conv=>whnf
  exact fin0_c (enc:=V.s) H (.inr rfl) (.cons (.tmp rfl) (.nil)) rfl rfl
 conv=>whnf
 refine tst_c H (fun b15 H=>?_) (fun b15 H=>?_)
 ·conv=>whnf
  exact fin0_c (enc:=V.s) H (.inr rfl) (.cons (.tmp rfl) (.nil)) rfl rfl
 conv=>whnf
 refine tst_c H (fun b16 H=>?_) (fun b16 H=>?_)
 ·conv=>whnf
  exact fin0_c (enc:=V.s) H (.inr rfl) (.cons (.tmp rfl) (.nil)) rfl rfl
 conv=>whnf
 refine tst_c H (fun b17 H=>?_) (fun b17 H=>?_)
 ·conv=>whnf
  exact fin0_c (enc:=V.s) H (.inr rfl) (.cons (.tmp rfl) (.nil)) rfl rfl
 conv=>whnf
 refine tst_c H (fun b18 H=>?_) (fun b18 H=>?_)
 ·conv=>whnf
  exact fin0_c (enc:=V.s) H (.inr rfl) (.cons (.tmp rfl) (.nil)) rfl rfl
 conv=>whnf
 refine tst_c H (fun b19 H=>?_) (fun b19 H=>?_)
 ·conv=>whnf
  exact fin0_c (enc:=V.s) H (.inr rfl) (.cons (.tmp rfl) (.nil)) rfl rfl
 conv=>whnf
 refine tst_c H (fun b20 H=>?_) (fun b20 H=>?_)
 ·conv=>whnf
  exact fin0_c (enc:=V.s) H (.inr rfl) (.cons (.tmp rfl) (.nil)) rfl rfl
 conv=>whnf
 refine tst_c H (fun b21 H=>?_) (fun b21 H=>?_)
 ·conv=>whnf
  exact fin0_c (enc:=V.s) H (.inr rfl) (.cons (.tmp rfl) (.nil)) rfl rfl
 conv=>whnf
 refine tst_c H (fun b22 H=>?_) (fun b22 H=>?_)
 ·conv=>whnf
  exact fin0_c (enc:=V.s) H (.inr rfl) (.cons (.tmp rfl) (.nil)) rfl rfl
 conv=>whnf
 exact fin0_c (enc:=V.s) H (.inr rfl) (.cons (.tmp rfl) (.nil)) rfl rfl
def gc65:BCode:=(.seq (R_ 1 [O_ 2 (.bx (t_ 0)) 0,O_ 4 (.mv (.const (.slice none 0 0))) 1]) (.seq (R_ 0 [O_ 5 (.mv (.const (.slice none 0 0))) 0]) (.seq (.seq (R_ 0 [O_ 6 (.mv (t_ 1)) 0]) (.block 0 (.seq (R_ 0 [O_ 14 (.bin .eql (t_ 6) (.const (.int .u8 117))) 0,O_ 13 (.mv (t_ 14)) 0]) (.cond (t_ 13) (R_ 0 [O_ 16 (.fa 1 (t_ 2)) 0,O_ 17 (.ld 1 false (t_ 16)) 0,O_ 18 (.cl 31 [(t_ 17),(i_ 33)]) 0,O_ 15 (.mv (t_ 18)) 0,O_ 19 (.ex (t_ 15) 0) 0,O_ 20 (.ex (t_ 15) 1) 0,O_ 5 (.mv (t_ 19)) 0]) (.seq (R_ 0 [O_ 22 (.bin .eql (t_ 6) (.const (.int .u8 114))) 0,O_ 21 (.mv (t_ 22)) 0]) (.cond (t_ 21) (R_ 0 [O_ 24 (.fa 2 (t_ 2)) 0,O_ 25 (.ld 1 false (t_ 24)) 0,O_ 26 (.cl 31 [(t_ 25),(i_ 12)]) 0,O_ 23 (.mv (t_ 26)) 0,O_ 27 (.ex (t_ 23) 0) 0,O_ 28 (.ex (t_ 23) 1) 0,O_ 5 (.mv (t_ 27)) 0]) (.seq (R_ 0 [O_ 30 (.bin .eql (t_ 6) (.const (.int .u8 109))) 0,O_ 29 (.mv (t_ 30)) 0]) (.cond (t_ 29) (R_ 0 [O_ 32 (.fa 3 (t_ 2)) 0,O_ 33 (.ld 1 false (t_ 32)) 0,O_ 34 (.cl 31 [(t_ 33),(i_ 24)]) 0,O_ 31 (.mv (t_ 34)) 0,O_ 35 (.ex (t_ 31) 0) 0,O_ 36 (.ex (t_ 31) 1) 0,O_ 5 (.mv (t_ 35)) 0]) (.seq (R_ 0 [O_ 38 (.bin .eql (t_ 6) (.const (.int .u8 115))) 0,O_ 37 (.mv (t_ 38)) 0]) (.cond (t_ 37) (R_ 0 [O_ 40 (.fa 4 (t_ 2)) 0,O_ 41 (.ld 1 false (t_ 40)) 0,O_ 42 (.cl 30 [(t_ 41),(i_ 1)]) 0,O_ 39 (.mv (t_ 42)) 0,O_ 43 (.ex (t_ 39) 0) 0,O_ 44 (.ex (t_ 39) 1) 0,O_ 5 (.mv (t_ 43)) 0]) (.seq (R_ 0 [O_ 46 (.bin .eql (t_ 6) (.const (.int .u8 112))) 0,O_ 45 (.mv (t_ 46)) 0]) (.cond (t_ 45) (R_ 0 [O_ 48 (.fa 5 (t_ 2)) 0,O_ 49 (.ld 1 false (t_ 48)) 0,O_ 50 (.bin .add (t_ 49) (i_ 128)) 0,O_ 51 (.cl 30 [(t_ 50),(i_ 1)]) 0,O_ 47 (.mv (t_ 51)) 0,O_ 52 (.ex (t_ 47) 0) 0,O_ 53 (.ex (t_ 47) 1) 0,O_ 5 (.mv (t_ 52)) 0]) (.seq (R_ 0 [O_ 55 (.bin .eql (t_ 6) (.const (.int .u8 99))) 0,O_ 54 (.mv (t_ 55)) 0]) (.cond (t_ 54) (R_ 0 [O_ 57 (.fa 6 (t_ 2)) 0,O_ 58 (.ld 1 false (t_ 57)) 0,O_ 59 (.cl 30 [(t_ 58),(i_ 1)]) 0,O_ 56 (.mv (t_ 59)) 0,O_ 60 (.ex (t_ 56) 0) 0,O_ 61 (.ex (t_ 56) 1) 0,O_ 5 (.mv (t_ 60)) 0]) (R_ 0 [O_ 8 (.fa 7 (t_ 2)) 0,O_ 9 (.ld 1 false (t_ 8)) 0,O_ 10 (.cl 30 [(t_ 9),(i_ 6)]) 0,O_ 7 (.mv (t_ 10)) 0,O_ 11 (.ex (t_ 7) 0) 0,O_ 12 (.ex (t_ 7) 1) 0,O_ 5 (.mv (t_ 11)) 0]))))))))))))))) (.seq (R_ 0 [O_ 62 (.mv (t_ 5)) 0,O_ 4 (.mv (t_ 62)) 0]) .ret))))
theorem gc65_ok:compF Tryz.prog Tryz.f65=some (gc65.er,63,[.tmp 4]):=by unfold gc65;kernel_rfl
theorem p_ref10_field_v (a0:StanzaStanza) (a1:Int):CallsO Tryz.prog 65 [.agg [.y8 a0.Kind,.s a0.User,.s a0.Res,.s a0.Name,.i a0.Show,.i a0.Prio,.i a0.Code,.i a0.N],.y8 a1] (fun l:List Int=>V.sl (l.map V.y8) false) (p_ref10_field a0 a1):=by
 refine callsO_comp mix Tryz.func65 gc65_ok fun r H=>?_
 rw [p_ref10_field] at H
 conv=>whnf
 refine tst_c H (fun b1 H=>?_) (fun b1 H=>?_)
 ·conv=>whnf
  refine ask_c (p_ref01_Say_v _ _) H rfl rfl (fun v2 H=>?_);conv=>whnf
  exact fin0_c (enc:=(fun l:List Int=>V.sl (l.map V.y8) false)) H (.inr rfl) (.cons (.tmp rfl) (.nil)) rfl rfl
 conv=>whnf
 refine tst_c H (fun b3 H=>?_) (fun b3 H=>?_)
 ·conv=>whnf
  refine ask_c (p_ref01_Say_v _ _) H rfl rfl (fun v4 H=>?_);conv=>whnf
  exact fin0_c (enc:=(fun l:List Int=>V.sl (l.map V.y8) false)) H (.inr rfl) (.cons (.tmp rfl) (.nil)) rfl rfl
 conv=>whnf
 refine tst_c H (fun b5 H=>?_) (fun b5 H=>?_)
 ·conv=>whnf
  refine ask_c (p_ref01_Say_v _ _) H rfl rfl (fun v6 H=>?_);conv=>whnf
  exact fin0_c (enc:=(fun l:List Int=>V.sl (l.map V.y8) false)) H (.inr rfl) (.cons (.tmp rfl) (.nil)) rfl rfl
 conv=>whnf
 refine tst_c H (fun b7 H=>?_) (fun b7 H=>?_)
 ·conv=>whnf
  refine ask_c (p_ref01_Lay_v _ _) H rfl rfl (fun v8 H=>?_);conv=>whnf
  exact fin0_c (enc:=(fun l:List Int=>V.sl (l.map V.y8) false)) H (.inr rfl) (.cons (.tmp rfl) (.nil)) rfl rfl
 conv=>whnf
 refine tst_c H (fun b9 H=>?_) (fun b9 H=>?_)
 ·conv=>whnf
  refine Ari.w ?_;conv=>whnf
  refine ask_c (p_ref01_Lay_v _ _) H rfl rfl (fun v10 H=>?_);conv=>whnf
  exact fin0_c (enc:=(fun l:List Int=>V.sl (l.map V.y8) false)) H (.inr rfl) (.cons (.tmp rfl) (.nil)) rfl rfl
 conv=>whnf
 refine tst_c H (fun b11 H=>?_) (fun b11 H=>?_)
 ·conv=>whnf
  refine ask_c (p_ref01_Lay_v _ _) H rfl rfl (fun v12 H=>?_);conv=>whnf
  exact fin0_c (enc:=(fun l:List Int=>V.sl (l.map V.y8) false)) H (.inr rfl) (.cons (.tmp rfl) (.nil)) rfl rfl
 conv=>whnf
 refine ask_c (p_ref01_Lay_v _ _) H rfl rfl (fun v13 H=>?_);conv=>whnf
 exact fin0_c (enc:=(fun l:List Int=>V.sl (l.map V.y8) false)) H (.inr rfl) (.cons (.tmp rfl) (.nil)) rfl rfl
def gc50:BCode:=(.seq (R_ 1 [O_ 1 (.bx (t_ 0)) 0,O_ 2 (.mv (.const (.string ⟨#[]⟩))) 1,O_ 3 (.mv (i_ 0)) 1]) (.seq (R_ 0 [O_ 8 (.ld 8 true (t_ 1)) 0,O_ 9 (.cl 63 [(t_ 8)]) 0,O_ 4 (.mv (t_ 9)) 0]) (.seq (.seq (R_ 0 [O_ 10 (.mv (t_ 4)) 0,O_ 11 (.bin .neq (t_ 10) (i_ 0)) 0]) (.cond (t_ 11) (.seq (R_ 0 [O_ 12 (.mv (t_ 4)) 0,O_ 2 (.mv (.const (.string ⟨#[]⟩))) 0,O_ 3 (.mv (t_ 12)) 0]) .ret) .skip)) (.seq (R_ 1 [O_ 13 (.fa 0 (t_ 1)) 0,O_ 14 (.ld 1 false (t_ 13)) 0,O_ 15 (.bs 1 1 [(.lit (.int .u8 0))] [(0,(t_ 14))]) 0,O_ 5 (.mv (t_ 15)) 1]) (.seq (R_ 0 [O_ 16 (.fa 0 (t_ 1)) 0,O_ 17 (.ld 1 false (t_ 16)) 0,O_ 18 (.cl 64 [(t_ 17)]) 0,O_ 6 (.mv (t_ 18)) 0]) (.seq (.seq (R_ 0 [O_ 7 (.mv (i_ 0)) 0]) (.block 0 (.loop (.seq (.seq (R_ 0 [O_ 19 (.mv (t_ 7)) 0,O_ 20 (.mv (t_ 6)) 0,O_ 21 (.lent (t_ 20)) 0,O_ 22 (.bin .lss (t_ 19) (t_ 21)) 0]) (.cond (t_ 22) .skip (.exit 0))) (.seq (.block 1 (.reg 1 [O_ 25 (.mv (t_ 5)) 0,O_ 26 (.ld 8 true (t_ 1)) 0,O_ 27 (.mv (t_ 6)) 0,O_ 28 (.mv (t_ 7)) 0,O_ 29 (.ixt (t_ 27) (t_ 28)) 0,O_ 30 (.cl 65 [(t_ 26),(t_ 29)]) 0,O_ 31 (.ap 1 1 (t_ 25) (t_ 30)) 0,O_ 5 (.mv (t_ 31)) 1] (some [[],[],[],[],[3,2],[2,3,4,1],[1,4,3,2,5,0],[0,5,2,3,4,1,6]]) 0 [])) (R_ 0 [O_ 23 (.mv (t_ 7)) 0,O_ 24 (.bin .add (t_ 23) (i_ 1)) 0,O_ 7 (.mv (t_ 24)) 0])))))) (.seq (R_ 0 [O_ 32 (.mv (t_ 5)) 0,O_ 33 (.b2s (t_ 32)) 0,O_ 2 (.mv (t_ 33)) 0,O_ 3 (.mv (i_ 0)) 0]) .ret)))))))
theorem gc50_ok:compF Tryz.prog Tryz.f50=some (gc50.er,34,[.tmp 2,.tmp 3]):=by unfold gc50;kernel_rfl
theorem p_ref10_Put_v (a0:StanzaStanza):CallsO Tryz.prog 50 [.agg [.y8 a0.Kind,.s a0.User,.s a0.Res,.s a0.Name,.i a0.Show,.i a0.Prio,.i a0.Code,.i a0.N]] (fun r:ByteArray × Int=>.tup [V.s r.1,V.i r.2]) (p_ref10_Put a0):=by
 refine callsO_comp mix Tryz.func50 gc50_ok fun r H=>?_
 rw [p_ref10_Put] at H
 conv=>whnf
 refine ask_c (p_ref10_Check_v _) H rfl rfl (fun v1 H=>?_);conv=>whnf
 refine tst_c H (fun b2 H=>?_) (fun b2 H=>?_)
 ·conv=>whnf
  exact fin0_c (enc:=(fun r:ByteArray × Int=>.tup [V.s r.1,V.i r.2])) H (.inr rfl) (.cons (.tmp rfl) (.cons (.tmp rfl) (.nil))) rfl rfl
 conv=>whnf
 refine ask_c (p_ref10_Has_v _) H rfl rfl (fun v3 H=>?_);conv=>whnf
 obtain ⟨o5,HL6,HQ7⟩:=bind_c H
 refine loop_c [5,7] [19,20,21,22,23,24,25,26,27,28,29,30,31,13,15,16] [19,20,21,22,23,24,25,26,27,28,29,30,31,13,15,16] (fun n vals st=>(∃ y9 y10,p_ref10_Put_l1  v3 a0 n y9 y10=some o5∧vals=[.osl 1 0 (List.length y9) 1 true,.i y10]∧st=[.live [.y8 a0.Kind,.s a0.User,.s a0.Res,.s a0.Name,.i a0.Show,.i a0.Prio,.i a0.Code,.i a0.N] 0,.live (cellsM V.y8 y9) (cellsM V.y8 y9).length])∨(∃ y15 y16,p_ref10_Put_l1  v3 a0 n y15 y16=some o5∧vals=[.osl 1 0 (List.length y15) 1 false,.i y16]∧st=[.live [.y8 a0.Kind,.s a0.User,.s a0.Res,.s a0.Name,.i a0.Show,.i a0.Prio,.i a0.Code,.i a0.N] 0,.live (cellsM V.y8 y15) (cellsM V.y8 y15).length])) fuel 2 [] (.inl (⟨_,_,HL6,rfl,rfl⟩)) (Nat.zero_le _) rfl (by kernel_rfl) (by kernel_rfl) rfl ⟨⟨rfl,rfl,rfl⟩,wkB_live0 rfl (cellsM_idlt (f:=V.y8) (fun _=>rfl) _) rfl trivial⟩ ?_
 rintro (_ | n8) _ _ (⟨y9,y10,H,rfl,rfl⟩ | ⟨y15,y16,H,rfl,rfl⟩)
 ·rw [p_ref10_Put_l1] at H;cases H
 ·rw [p_ref10_Put_l1] at H;cases H
 ·rw [p_ref10_Put_l1] at H
  conv=>whnf
  refine tst_d H (fun b11 H=>?_) (fun b11 H=>?_)
  ·conv=>whnf
   obtain rfl:=Option.some.inj H
   have H:=HQ7
   try dsimp only at H
   refine b2sO_c H rfl rfl rfl (fun s17 H=>?_);conv=>whnf
   exact fin0_c (enc:=(fun r:ByteArray × Int=>.tup [V.s r.1,V.i r.2])) H (.inr rfl) (.cons (.tmp rfl) (.cons (.tmp rfl) (.nil))) rfl rfl
  conv=>whnf
  refine ixt_c H (fun c12 H=>?_);conv=>whnf
  refine ask_c (p_ref10_field_v _ _) H rfl rfl (fun v13 H=>?_);conv=>whnf
  refine appD_c (f:=V.y8) H (fun _=>rfl) rfl rfl rfl rfl (.v (srcM (f:=V.y8) (fun _=>rfl) _ _)) (by decide) rfl (fun l14 H=>?_) (fun l14 H=>?_)
  ·conv=>whnf
   refine FootQ.mk ⟨rfl,?_⟩;conv=>whnf
   refine Ari.w ?_;conv=>whnf
   exact again_c [19,20,21,22,23,24,25,26,27,28,29,30,31,13,15,16] n8 2 [] (.inl (⟨_,_,H,rfl,rfl⟩)) (Nat.lt_succ_self _) (Nat.zero_le _) rfl (by kernel_rfl) (by kernel_rfl) rfl ⟨⟨rfl,rfl,rfl⟩,wkB_live0 rfl (cellsM_idlt (f:=V.y8) (fun _=>rfl) _) rfl trivial⟩
  conv=>whnf
  refine FootQ.mk ⟨rfl,?_⟩;conv=>whnf
  refine Ari.w ?_;conv=>whnf
  exact again_c [19,20,21,22,23,24,25,26,27,28,29,30,31,13,15,16] n8 2 [0,2] (.inr (⟨_,_,H,rfl,rfl⟩)) (Nat.lt_succ_self _) (Nat.zero_le _) rfl (by kernel_rfl) (by kernel_rfl) rfl ⟨⟨rfl,rfl,rfl⟩,wkB_live0 rfl (cellsM_idlt (f:=V.y8) (fun _=>rfl) _) rfl trivial⟩
 rw [p_ref10_Put_l1] at H
 conv=>whnf
 refine tst_d H (fun b18 H=>?_) (fun b18 H=>?_)
 ·conv=>whnf
  obtain rfl:=Option.some.inj H
  have H:=HQ7
  try dsimp only at H
  refine b2sO_c H rfl rfl rfl (fun s22 H=>?_);conv=>whnf
  exact fin0_c (enc:=(fun r:ByteArray × Int=>.tup [V.s r.1,V.i r.2])) H (.inr rfl) (.cons (.tmp rfl) (.cons (.tmp rfl) (.nil))) rfl rfl
 conv=>whnf
 refine ixt_c H (fun c19 H=>?_);conv=>whnf
 refine ask_c (p_ref10_field_v _ _) H rfl rfl (fun v20 H=>?_);conv=>whnf
 refine appP_c (f:=V.y8) H (fun _=>rfl) rfl rfl (.v (srcM (f:=V.y8) (fun _=>rfl) _ _)) (by decide) rfl (fun l21 H=>?_) (fun l21 H=>?_)
 ·conv=>whnf
  refine FootQ.mk ⟨rfl,?_⟩;conv=>whnf
  refine Ari.w ?_;conv=>whnf
  exact again_c [19,20,21,22,23,24,25,26,27,28,29,30,31,13,15,16] n8 2 [] (.inr (⟨_,_,H,rfl,rfl⟩)) (Nat.lt_succ_self _) (Nat.zero_le _) rfl (by kernel_rfl) (by kernel_rfl) rfl ⟨⟨rfl,rfl,rfl⟩,wkB_live0 rfl (cellsM_idlt (f:=V.y8) (fun _=>rfl) _) rfl trivial⟩
 conv=>whnf
 refine FootQ.mk ⟨rfl,?_⟩;conv=>whnf
 refine Ari.w ?_;conv=>whnf
 exact again_c [19,20,21,22,23,24,25,26,27,28,29,30,31,13,15,16] n8 2 [0,2] (.inr (⟨_,_,H,rfl,rfl⟩)) (Nat.lt_succ_self _) (Nat.zero_le _) rfl (by kernel_rfl) (by kernel_rfl) rfl ⟨⟨rfl,rfl,rfl⟩,wkB_live0 rfl (cellsM_idlt (f:=V.y8) (fun _=>rfl) _) rfl trivial⟩
def gc51:BCode:=(.seq (R_ 0 [O_ 2 (.mv (.const (.string ⟨#[]⟩))) 0,O_ 3 (.mv (i_ 0)) 0]) (.seq (.block 0 (.seq (R_ 0 [O_ 5 (.mv (t_ 0)) 0,O_ 6 (.bin .eql (t_ 5) (.const (.string ⟨#[]⟩))) 0,O_ 4 (.mv (t_ 6)) 0]) (.cond (t_ 4) (.seq (R_ 0 [O_ 2 (.mv (.const (.string ⟨#[]⟩))) 0,O_ 3 (.mv (i_ 4)) 0]) .ret) (.seq (R_ 0 [O_ 8 (.mv (t_ 0)) 0,O_ 9 (.lent (t_ 8)) 0,O_ 10 (.bin .gtr (t_ 9) (i_ 128)) 0,O_ 7 (.mv (t_ 10)) 0]) (.cond (t_ 7) (.seq (R_ 0 [O_ 2 (.mv (.const (.string ⟨#[]⟩))) 0,O_ 3 (.mv (i_ 5)) 0]) .ret) .skip))))) (.seq (R_ 1 [O_ 11 (.mv (t_ 0)) 0,O_ 12 (.lent (t_ 11)) 0,O_ 13 (.bin .quo (t_ 12) (i_ 256)) 0,O_ 14 (.cvi .u8 (t_ 13)) 0,O_ 15 (.mv (t_ 0)) 0,O_ 16 (.lent (t_ 15)) 0,O_ 17 (.bin .rem (t_ 16) (i_ 256)) 0,O_ 18 (.cvi .u8 (t_ 17)) 0,O_ 19 (.bs 1 2 [(.lit (.int .u8 0)),(.lit (.int .u8 0))] [(0,(t_ 14)),(1,(t_ 18))]) 0,O_ 20 (.b2s (t_ 19)) 1,O_ 21 (.mv (t_ 0)) 1,O_ 22 (.bin .add (t_ 20) (t_ 21)) 1,O_ 2 (.mv (t_ 22)) 1,O_ 3 (.mv (i_ 0)) 1]) .ret)))
theorem gc51_ok:compF Tryz.prog Tryz.f51=some (gc51.er,23,[.tmp 2,.tmp 3]):=by unfold gc51;kernel_rfl
theorem p_ref11_Put_v (a0:ByteArray):CallsO Tryz.prog 51 [.s a0] (fun r:ByteArray × Int=>.tup [V.s r.1,V.i r.2]) (p_ref11_Put a0):=by
 refine callsO_comp mix Tryz.func51 gc51_ok fun r H=>?_
 rw [p_ref11_Put] at H
 conv=>whnf
 refine tst_c H (fun b1 H=>?_) (fun b1 H=>?_)
 ·conv=>whnf
  exact fin0_c (enc:=(fun r:ByteArray × Int=>.tup [V.s r.1,V.i r.2])) H (.inr rfl) (.cons (.tmp rfl) (.cons (.tmp rfl) (.nil))) rfl rfl
 conv=>whnf
 refine tst_c H (fun b2 H=>?_) (fun b2 H=>?_)
 ·conv=>whnf
  exact fin0_c (enc:=(fun r:ByteArray × Int=>.tup [V.s r.1,V.i r.2])) H (.inr rfl) (.cons (.tmp rfl) (.cons (.tmp rfl) (.nil))) rfl rfl
 conv=>whnf
 refine ⟨by decide,Ari.w ?_⟩;conv=>whnf
 refine Ari.w ?_;conv=>whnf
 refine ⟨by decide,?_⟩;conv=>whnf
 refine Ari.w ?_;conv=>whnf
 refine b2sO_c H rfl rfl rfl (fun s3 H=>?_);conv=>whnf
 refine cat_c H (fun s4 H=>?_);conv=>whnf
 exact fin0_c (enc:=(fun r:ByteArray × Int=>.tup [V.s r.1,V.i r.2])) H (.inr rfl) (.cons (.tmp rfl) (.cons (.tmp rfl) (.nil))) rfl rfl
end Go.Proofs.YtpkodpcfafipdaaGreatDoor

namespace Go.Proofs.YtpkodpcfafipdaaGreatDoor
open Go.RowKit
set_option maxRecDepth 100000
set_option maxHeartbeats 4000000
def gc38:BCode:=(.seq (R_ 0 [O_ 2 (.mv (.const (.string ⟨#[]⟩))) 0,O_ 3 (.mv (i_ 0)) 0]) (.seq (R_ 0 [O_ 4 (.mv (.const (.string ⟨#[]⟩))) 0]) (.seq (.seq (R_ 0 [O_ 5 (.mv (i_ 0)) 0]) (.block 0 (.loop (.seq (.seq (R_ 0 [O_ 9 (.mv (t_ 5)) 0,O_ 10 (.mv (t_ 0)) 0,O_ 11 (.lens (t_ 10)) 0,O_ 12 (.bin .lss (t_ 9) (t_ 11)) 0]) (.cond (t_ 12) .skip (.exit 0))) (.seq (.block 1 (.seq (R_ 0 [O_ 16 (.mv (t_ 0)) 0,O_ 17 (.mv (t_ 5)) 0,O_ 18 (.ixs 8 (t_ 16) (t_ 17)) 0,O_ 19 (.ld 8 true (t_ 18)) 0,O_ 20 (.cl 50 [(t_ 19)]) 0,O_ 15 (.mv (t_ 20)) 0,O_ 21 (.ex (t_ 15) 0) 0,O_ 22 (.ex (t_ 15) 1) 0,O_ 6 (.mv (t_ 21)) 0,O_ 7 (.mv (t_ 22)) 0]) (.seq (.seq (R_ 0 [O_ 23 (.mv (t_ 7)) 0,O_ 24 (.bin .neq (t_ 23) (i_ 0)) 0]) (.cond (t_ 24) (.seq (R_ 0 [O_ 25 (.mv (t_ 7)) 0,O_ 2 (.mv (.const (.string ⟨#[]⟩))) 0,O_ 3 (.mv (t_ 25)) 0]) .ret) .skip)) (.seq (R_ 0 [O_ 27 (.mv (t_ 6)) 0,O_ 28 (.cl 51 [(t_ 27)]) 0,O_ 26 (.mv (t_ 28)) 0,O_ 29 (.ex (t_ 26) 0) 0,O_ 30 (.ex (t_ 26) 1) 0,O_ 8 (.mv (t_ 29)) 0,O_ 7 (.mv (t_ 30)) 0]) (.seq (.seq (R_ 0 [O_ 31 (.mv (t_ 7)) 0,O_ 32 (.bin .neq (t_ 31) (i_ 0)) 0]) (.cond (t_ 32) (.seq (R_ 0 [O_ 33 (.mv (t_ 7)) 0,O_ 2 (.mv (.const (.string ⟨#[]⟩))) 0,O_ 3 (.mv (t_ 33)) 0]) .ret) .skip)) (R_ 0 [O_ 34 (.mv (t_ 4)) 0,O_ 35 (.mv (t_ 8)) 0,O_ 36 (.bin .add (t_ 34) (t_ 35)) 0,O_ 4 (.mv (t_ 36)) 0])))))) (R_ 0 [O_ 13 (.mv (t_ 5)) 0,O_ 14 (.bin .add (t_ 13) (i_ 1)) 0,O_ 5 (.mv (t_ 14)) 0])))))) (.seq (R_ 0 [O_ 37 (.mv (t_ 4)) 0,O_ 2 (.mv (t_ 37)) 0,O_ 3 (.mv (i_ 0)) 0]) .ret))))
theorem gc38_ok:compF Tryz.prog Tryz.f38=some (gc38.er,38,[.tmp 2,.tmp 3]):=by unfold gc38;kernel_rfl
theorem p_ref12_Encode_v {u1:Bool} (a0:List StanzaStanza):CallsO Tryz.prog 38 [.sl (List.map StanzaStanza.v a0) u1] (fun r:ByteArray × Int=>.tup [V.s r.1,V.i r.2]) (p_ref12_Encode a0):=by
 refine callsO_comp mix Tryz.func38 gc38_ok fun r H=>?_
 rw [p_ref12_Encode] at H
 conv=>whnf
 obtain ⟨o2,HL3,HQ4⟩:=bind_c H
 refine loop_c [2,3,4,5] [6,7,8,9,10,11,12,13,14,15,16,17,18,19,20,21,22,23,24,25,26,27,28,29,30,31,32,33,34,35,36] [6,7,8,9,10,11,12,13,14,15,16,17,18,19,20,21,22,23,24,25,26,27,28,29,30,31,32,33,34,35,36] (fun n vals st=>(∃ y6 y7,p_ref12_Encode_l1  a0 n y6 y7=some o2∧vals=[.s (⟨#[]⟩ : ByteArray),.i (0:Int),.s y6,.i y7]∧st=[])) fuel 0 [] (⟨_,_,HL3,rfl,rfl⟩) (Nat.zero_le _) rfl (by kernel_rfl) (by kernel_rfl) rfl trivial ?_
 rintro (_ | n5) _ _ (⟨y6,y7,H,rfl,rfl⟩)
 ·rw [p_ref12_Encode_l1] at H;cases H
 rw [p_ref12_Encode_l1] at H
 conv=>whnf
 refine LenQ.M ?_;conv=>whnf
 refine tst_d H (fun b8 H=>?_) (fun b8 H=>?_)
 ·conv=>whnf
  obtain rfl:=Option.some.inj H
  have H:=HQ4
  try dsimp only at H
  exact fin0_c (enc:=(fun r:ByteArray × Int=>.tup [V.s r.1,V.i r.2])) H (.inr rfl) (.cons (.tmp rfl) (.cons (.tmp rfl) (.nil))) rfl rfl
 conv=>whnf
 refine ixs_c (f:=StanzaStanza.v) H (fun _=>rfl) (fun x9 H=>?_);conv=>whnf
 refine ask_c (p_ref10_Put_v _) H rfl rfl (fun v10 H=>?_);conv=>whnf
 refine tst_c H (fun b11 H=>?_) (fun b11 H=>?_)
 ·conv=>whnf
  obtain rfl:=Option.some.inj H
  have H:=HQ4
  try dsimp only at H
  exact fin0_c (enc:=(fun r:ByteArray × Int=>.tup [V.s r.1,V.i r.2])) H (.inr rfl) (.cons (.tmp rfl) (.cons (.tmp rfl) (.nil))) rfl rfl
 conv=>whnf
 refine ask_c (p_ref11_Put_v _) H rfl rfl (fun v12 H=>?_);conv=>whnf
 refine tst_c H (fun b13 H=>?_) (fun b13 H=>?_)
 ·conv=>whnf
  obtain rfl:=Option.some.inj H
  have H:=HQ4
  try dsimp only at H
  exact fin0_c (enc:=(fun r:ByteArray × Int=>.tup [V.s r.1,V.i r.2])) H (.inr rfl) (.cons (.tmp rfl) (.cons (.tmp rfl) (.nil))) rfl rfl
 conv=>whnf
 refine cat_c H (fun s14 H=>?_);conv=>whnf
 refine Ari.w ?_;conv=>whnf
 exact again_c [6,7,8,9,10,11,12,13,14,15,16,17,18,19,20,21,22,23,24,25,26,27,28,29,30,31,32,33,34,35,36] n5 0 [] (⟨_,_,H,rfl,rfl⟩) (Nat.lt_succ_self _) (Nat.zero_le _) rfl (by kernel_rfl) (by kernel_rfl) rfl trivial
def gc14:BCode:=(.seq (R_ 1 [O_ 4 (.al (.agg [(.lit (.int .u8 0)),(.lit (.int .i64 0)),(.lit (.int .i64 0)),(.lit (.string ⟨#[]⟩))])) 0,O_ 5 (.mv (i_ 0)) 1]) (.seq (R_ 0 [O_ 9 (.mv (t_ 1)) 0,O_ 10 (.cl 38 [(t_ 9)]) 0,O_ 8 (.mv (t_ 10)) 0,O_ 11 (.ex (t_ 8) 0) 0,O_ 12 (.ex (t_ 8) 1) 0,O_ 6 (.mv (t_ 11)) 0,O_ 7 (.mv (t_ 12)) 0]) (.seq (.block 0 (.seq (R_ 0 [O_ 14 (.mv (t_ 7)) 0,O_ 15 (.bin .neq (t_ 14) (i_ 0)) 0,O_ 13 (.mv (t_ 15)) 0]) (.cond (t_ 13) (.seq (R_ 0 [O_ 16 (.bd [(.lit (.int .u8 0)),(.lit (.int .i64 0)),(.lit (.int .i64 0)),(.lit (.string ⟨#[]⟩))] []) 0,O_ 17 (.mv (t_ 7)) 0,U_ (.st 4 (t_ 4) (t_ 16)) 0,O_ 5 (.mv (t_ 17)) 0]) .ret) (.seq (R_ 0 [O_ 19 (.mv (t_ 6)) 0,O_ 20 (.lent (t_ 19)) 0,O_ 21 (.bin .gtr (t_ 20) (i_ 255)) 0,O_ 18 (.mv (t_ 21)) 0]) (.cond (t_ 18) (.seq (R_ 0 [O_ 22 (.bd [(.lit (.int .u8 0)),(.lit (.int .i64 0)),(.lit (.int .i64 0)),(.lit (.string ⟨#[]⟩))] []) 0,U_ (.st 4 (t_ 4) (t_ 22)) 0,O_ 5 (.mv (i_ 5)) 0]) .ret) .skip))))) (.seq (R_ 0 [O_ 23 (.mv (t_ 0)) 0,O_ 24 (.mv (t_ 6)) 0,O_ 25 (.bd [(.lit (.int .u8 0)),(.lit (.int .i64 0)),(.lit (.int .i64 0)),(.lit (.string ⟨#[]⟩))] [(0,1,(.const (.int .u8 1))),(1,1,(t_ 23)),(3,1,(t_ 24))]) 0,U_ (.st 4 (t_ 4) (t_ 25)) 0,O_ 5 (.mv (i_ 0)) 0]) .ret))))
theorem gc14_ok:compF Tryz.prog Tryz.f14=some (gc14.er,26,[.cell 4 4 true,.tmp 5]):=by unfold gc14;kernel_rfl
theorem p_ref34_Ask_v {u1:Bool} (a0:Int) (a1:List StanzaStanza):CallsO Tryz.prog 14 [.i a0,.sl (List.map StanzaStanza.v a1) u1] (fun r:BrokerStep × Int=>.tup [BrokerStep.v r.1,V.i r.2]) (p_ref34_Ask a0 a1):=by
 refine callsO_comp mix Tryz.func14 gc14_ok fun r H=>?_
 rw [p_ref34_Ask] at H
 conv=>whnf
 refine ask_c (p_ref12_Encode_v _) H rfl rfl (fun v1 H=>?_);conv=>whnf
 refine tst_c H (fun b2 H=>?_) (fun b2 H=>?_)
 ·conv=>whnf
  refine lq_ ?_;conv=>whnf
  exact fin0_c (enc:=(fun r:BrokerStep × Int=>.tup [BrokerStep.v r.1,V.i r.2])) H (.inr rfl) (.cons (.cell rfl rfl (Nat.le_of_ble_eq_true rfl)) (.cons (.tmp rfl) (.nil))) rfl rfl
 conv=>whnf
 refine tst_c H (fun b3 H=>?_) (fun b3 H=>?_)
 ·conv=>whnf
  refine lq_ ?_;conv=>whnf
  exact fin0_c (enc:=(fun r:BrokerStep × Int=>.tup [BrokerStep.v r.1,V.i r.2])) H (.inr rfl) (.cons (.cell rfl rfl (Nat.le_of_ble_eq_true rfl)) (.cons (.tmp rfl) (.nil))) rfl rfl
 conv=>whnf
 refine lq_ ?_;conv=>whnf
 exact fin0_c (enc:=(fun r:BrokerStep × Int=>.tup [BrokerStep.v r.1,V.i r.2])) H (.inr rfl) (.cons (.cell rfl rfl (Nat.le_of_ble_eq_true rfl)) (.cons (.tmp rfl) (.nil))) rfl rfl
def gc18:BCode:=(.seq (R_ 0 [O_ 4 (.mv (i_ 0)) 0]) (.seq (R_ 0 [O_ 5 (.mv (i_ 0)) 0]) (.seq (.seq (R_ 0 [O_ 6 (.mv (i_ 0)) 0]) (.block 0 (.loop (.seq (.seq (R_ 0 [O_ 7 (.mv (t_ 6)) 0,O_ 8 (.mv (t_ 0)) 0,O_ 9 (.lens (t_ 8)) 0,O_ 10 (.bin .lss (t_ 7) (t_ 9)) 0]) (.cond (t_ 10) .skip (.exit 0))) (.seq (.block 1 (.seq (R_ 0 [O_ 13 (.mv (t_ 0)) 0,O_ 14 (.mv (t_ 6)) 0,O_ 15 (.ixs 4 (t_ 13) (t_ 14)) 0,O_ 16 (.fa 0 (t_ 15)) 0,O_ 17 (.ld 1 false (t_ 16)) 0,O_ 18 (.mv (t_ 1)) 0,O_ 19 (.bin .eql (t_ 17) (t_ 18)) 0]) (.cond (t_ 19) (R_ 0 [O_ 20 (.mv (t_ 5)) 0,O_ 21 (.bin .add (t_ 20) (i_ 1)) 0,O_ 5 (.mv (t_ 21)) 0]) .skip))) (R_ 0 [O_ 11 (.mv (t_ 6)) 0,O_ 12 (.bin .add (t_ 11) (i_ 1)) 0,O_ 6 (.mv (t_ 12)) 0])))))) (.seq (R_ 0 [O_ 22 (.mv (t_ 5)) 0,O_ 4 (.mv (t_ 22)) 0]) .ret))))
theorem gc18_ok:compF Tryz.prog Tryz.f18=some (gc18.er,23,[.tmp 4]):=by unfold gc18;kernel_rfl
theorem p_ref34_Count_v {u1:Bool} (a0:List BrokerStep) (a1:Int):CallsO Tryz.prog 18 [.sl (List.map BrokerStep.v a0) u1,.y8 a1] V.i (p_ref34_Count a0 a1):=by
 refine callsO_comp mix Tryz.func18 gc18_ok fun r H=>?_
 rw [p_ref34_Count] at H
 conv=>whnf
 obtain ⟨o2,HL3,HQ4⟩:=bind_c H
 refine loop_c [5,6] [7,8,9,10,11,12,13,14,15,16,17,18,19,20,21] [7,8,9,10,11,12,13,14,15,16,17,18,19,20,21] (fun n vals st=>(∃ y6 y7,p_ref34_Count_l1  a0 a1 n y6 y7=some o2∧vals=[.i y6,.i y7]∧st=[])) fuel 0 [] (⟨_,_,HL3,rfl,rfl⟩) (Nat.zero_le _) rfl (by kernel_rfl) (by kernel_rfl) rfl trivial ?_
 rintro (_ | n5) _ _ (⟨y6,y7,H,rfl,rfl⟩)
 ·rw [p_ref34_Count_l1] at H;cases H
 rw [p_ref34_Count_l1] at H
 conv=>whnf
 refine LenQ.M ?_;conv=>whnf
 refine tst_d H (fun b8 H=>?_) (fun b8 H=>?_)
 ·conv=>whnf
  obtain rfl:=Option.some.inj H
  have H:=HQ4
  try dsimp only at H
  exact fi_ H
 conv=>whnf
 refine ixs_c (f:=BrokerStep.v) H (fun _=>rfl) (fun x9 H=>?_);conv=>whnf
 refine lq_ ?_;conv=>whnf
 refine tst_d H (fun b10 H=>?_) (fun b10 H=>?_)
 ·conv=>whnf
  refine Ari.w ?_;conv=>whnf
  exact again_c [7,8,9,10,11,12,13,14,15,16,17,18,19,20,21] n5 0 [] (⟨_,_,H,rfl,rfl⟩) (Nat.lt_succ_self _) (Nat.zero_le _) rfl (by kernel_rfl) (by kernel_rfl) rfl trivial
 conv=>whnf
 iterate 2 (refine Ari.w ?_;conv=>whnf)
 exact again_c [7,8,9,10,11,12,13,14,15,16,17,18,19,20,21] n5 0 [] (⟨_,_,H,rfl,rfl⟩) (Nat.lt_succ_self _) (Nat.zero_le _) rfl (by kernel_rfl) (by kernel_rfl) rfl trivial
end Go.Proofs.YtpkodpcfafipdaaGreatDoor

namespace Go.Proofs.YtpkodpcfafipdaaGreatDoor
open Go.RowKit
set_option maxRecDepth 1000000
set_option maxHeartbeats 4000000
def gc3:BCode:=(.seq (R_ 0 [O_ 6 (.mv (b_ false)) 0]) (.join (.seq (R_ 0 [O_ 22 (.mv (t_ 0)) 0,O_ 23 (.lens (t_ 22)) 0,O_ 24 (.bin .gtr (t_ 23) (i_ 10)) 0,O_ 25 (.mv (t_ 24)) 0,⟨(some 26),.mv (t_ 1),(some (25,false)),0⟩,⟨(some 27),.lens (t_ 26),(some (25,false)),0⟩,⟨(some 28),.bin .gtr (t_ 27) (i_ 6),(some (25,false)),0⟩,O_ 29 (.pick (t_ 25) (b_ true) (t_ 28)) 0]) (.cond (t_ 29) (.seq (R_ 0 [O_ 30 (.cl 4 []) 0,O_ 6 (.mv (t_ 30)) 0]) .ret) .skip)) (.seq (R_ 0 [O_ 7 (.mv (.const (.slice none 0 0))) 0]) (.seq (.seq (R_ 0 [O_ 8 (.mv (i_ 0)) 0]) (.block 0 (.loop (.seq (.seq (R_ 0 [O_ 31 (.mv (t_ 8)) 0,O_ 32 (.mv (t_ 1)) 0,O_ 33 (.lens (t_ 32)) 0,O_ 34 (.bin .lss (t_ 31) (t_ 33)) 0]) (.cond (t_ 34) .skip (.exit 0))) (.seq (.block 1 (.seq (.seq (R_ 0 [O_ 37 (.mv (t_ 1)) 0,O_ 38 (.mv (t_ 8)) 0,O_ 39 (.ixs 8 (t_ 37) (t_ 38)) 0,O_ 40 (.ld 8 true (t_ 39)) 0,O_ 41 (.cl 5 [(t_ 40)]) 0,O_ 42 (.un .not (t_ 41)) 0]) (.cond (t_ 42) (.seq (R_ 0 [O_ 43 (.cl 4 []) 0,O_ 6 (.mv (t_ 43)) 0]) .ret) .skip)) (R_ 2 [O_ 44 (.mv (t_ 7)) 0,O_ 45 (.mv (t_ 1)) 0,O_ 46 (.mv (t_ 8)) 0,O_ 47 (.ixs 8 (t_ 45) (t_ 46)) 0,O_ 48 (.ld 8 true (t_ 47)) 0,O_ 49 (.bs 8 1 [(.lit (.int .u8 0)),(.lit (.string ⟨#[]⟩)),(.lit (.string ⟨#[]⟩)),(.lit (.string ⟨#[]⟩)),(.lit (.int .i64 0)),(.lit (.int .i64 0)),(.lit (.int .i64 0)),(.lit (.int .i64 0))] [(0,(t_ 48))]) 0,O_ 50 (.ap 8 88 (t_ 44) (t_ 49)) 1,O_ 7 (.mv (t_ 50)) 2]))) (R_ 0 [O_ 35 (.mv (t_ 8)) 0,O_ 36 (.bin .add (t_ 35) (i_ 1)) 0,O_ 8 (.mv (t_ 36)) 0])))))) (.seq (.seq (R_ 0 [O_ 9 (.mv (i_ 0)) 0]) (.block 2 (.loop (.seq (.seq (R_ 0 [O_ 51 (.mv (t_ 9)) 0,O_ 52 (.mv (t_ 0)) 0,O_ 53 (.lens (t_ 52)) 0,O_ 54 (.bin .lss (t_ 51) (t_ 53)) 0]) (.cond (t_ 54) .skip (.exit 2))) (.seq (.block 3 (.seq (.seq (R_ 0 [O_ 57 (.mv (t_ 0)) 0,O_ 58 (.mv (t_ 9)) 0,O_ 59 (.ixs 4 (t_ 57) (t_ 58)) 0,O_ 60 (.fa 3 (t_ 59)) 0,O_ 61 (.ld 1 false (t_ 60)) 0,O_ 62 (.lent (t_ 61)) 0,O_ 63 (.bin .gtr (t_ 62) (i_ 300)) 0]) (.cond (t_ 63) (.seq (R_ 0 [O_ 64 (.cl 4 []) 0,O_ 6 (.mv (t_ 64)) 0]) .ret) .skip)) (.seq (R_ 0 [O_ 66 (.mv (t_ 0)) 0,O_ 67 (.mv (t_ 9)) 0,O_ 68 (.ixs 4 (t_ 66) (t_ 67)) 0,O_ 69 (.ld 4 true (t_ 68)) 0,O_ 70 (.cl 6 [(t_ 69)]) 0,O_ 65 (.mv (t_ 70)) 0,O_ 71 (.ex (t_ 65) 0) 0,O_ 72 (.ex (t_ 65) 1) 0,O_ 10 (.mv (t_ 71)) 0,O_ 11 (.mv (t_ 72)) 0]) (.seq (R_ 0 [O_ 74 (.mv (t_ 0)) 0,O_ 75 (.mv (t_ 9)) 0,O_ 76 (.ixs 4 (t_ 74) (t_ 75)) 0,O_ 77 (.ld 4 true (t_ 76)) 0,O_ 78 (.cl 7 [(t_ 77)]) 0,O_ 73 (.mv (t_ 78)) 0,O_ 79 (.ex (t_ 73) 0) 0,O_ 80 (.ex (t_ 73) 1) 0,O_ 12 (.mv (t_ 79)) 0,O_ 13 (.mv (t_ 80)) 0]) (.seq (.reg 0 [O_ 81 (.mv (t_ 10)) 0,O_ 82 (.mv (t_ 12)) 0,O_ 83 (.bin .neq (t_ 81) (t_ 82)) 0,O_ 84 (.mv (t_ 83)) 0,⟨(some 85),.mv (t_ 11),(some (84,false)),0⟩,⟨(some 86),.mv (t_ 13),(some (84,false)),0⟩,⟨(some 87),.bin .neq (t_ 85) (t_ 86),(some (84,false)),0⟩,O_ 88 (.pick (t_ 84) (b_ true) (t_ 87)) 0,O_ 89 (.mv (t_ 88)) 0,⟨(some 90),.mv (t_ 0),(some (89,false)),0⟩,⟨(some 91),.mv (t_ 9),(some (89,false)),0⟩,⟨(some 92),.ixs 4 (t_ 90) (t_ 91),(some (89,false)),0⟩,⟨(some 93),.ld 4 true (t_ 92),(some (89,false)),0⟩,⟨(some 94),.cl 8 [(t_ 93)],(some (89,false)),0⟩,⟨(some 95),.mv (t_ 0),(some (89,false)),0⟩,⟨(some 96),.mv (t_ 9),(some (89,false)),0⟩,⟨(some 97),.ixs 4 (t_ 95) (t_ 96),(some (89,false)),0⟩,⟨(some 98),.ld 4 true (t_ 97),(some (89,false)),0⟩,⟨(some 99),.cl 9 [(t_ 98)],(some (89,false)),0⟩,⟨(some 100),.bin .neq (t_ 94) (t_ 99),(some (89,false)),0⟩,O_ 101 (.pick (t_ 89) (b_ true) (t_ 100)) 0] (some [[],[],[1,0],[0,1,2],[2,1,0,3],[2,1,0,3],[5,3,0,1,2,4],[4,5,6,2,1,0,3],[3,0,1,2,6,5,4,7],[7,4,5,6,2,1,0,3,8],[7,4,5,6,2,1,0,3,8],[10,8,3,0,1,2,6,5,4,7,9],[9,7,4,5,6,2,1,0,3,8,10,11],[11,10,8,3,0,1,2,6,5,4,7,9,12],[7,4,5,6,2,1,0,3,8],[7,4,5,6,2,1,0,3,8],[15,8,3,0,1,2,6,5,4,7,14],[14,7,4,5,6,2,1,0,3,8,15,16],[12,9,10,11,13,16,15,8,3,0,1,2,6,5,4,7,14,17],[17,14,15,16,18,12,9,7,4,5,6,2,1,0,3,8,10,11,13],[13,11,10,9,12,18,16,15,14,17,19,7,4,5,6,2,1,0,3,8]]) 0 []) (.cond (t_ 101) (.seq (R_ 0 [O_ 6 (.mv (b_ false)) 0]) .ret) .skip)))))) (R_ 0 [O_ 55 (.mv (t_ 9)) 0,O_ 56 (.bin .add (t_ 55) (i_ 1)) 0,O_ 9 (.mv (t_ 56)) 0])))))) (.seq (R_ 0 [O_ 103 (.mv (t_ 0)) 0,O_ 104 (.cl 11 [(t_ 103)]) 0,O_ 105 (.cl 10 [(t_ 104)]) 0,O_ 102 (.mv (t_ 105)) 0,O_ 106 (.ex (t_ 102) 0) 0,O_ 107 (.ex (t_ 102) 1) 0,O_ 14 (.mv (t_ 106)) 0,O_ 15 (.mv (t_ 107)) 0]) (.seq (R_ 0 [O_ 109 (.mv (t_ 0)) 0,O_ 110 (.cl 12 [(t_ 109)]) 0,O_ 108 (.mv (t_ 110)) 0,O_ 111 (.ex (t_ 108) 0) 0,O_ 112 (.ex (t_ 108) 1) 0,O_ 16 (.mv (t_ 111)) 0,O_ 17 (.mv (t_ 112)) 0]) (.seq (R_ 1 [O_ 114 (.mv (t_ 2)) 0,O_ 115 (.cvi .i64 (t_ 114)) 0,O_ 116 (.mv (t_ 7)) 0,O_ 117 (.cl 13 [(t_ 115),(t_ 116)]) 0,O_ 113 (.mv (t_ 117)) 0,O_ 118 (.ex (t_ 113) 0) 0,O_ 119 (.ex (t_ 113) 1) 0,O_ 18 (.al (.agg [(.lit (.int .u8 0)),(.lit (.int .i64 0)),(.lit (.int .i64 0)),(.lit (.string ⟨#[]⟩))])) 0,U_ (.st 4 (t_ 18) (t_ 118)) 1,O_ 19 (.mv (t_ 119)) 1]) (.seq (R_ 1 [O_ 121 (.mv (t_ 2)) 0,O_ 122 (.cvi .i64 (t_ 121)) 0,O_ 123 (.mv (t_ 1)) 0,O_ 124 (.cl 14 [(t_ 122),(t_ 123)]) 0,O_ 120 (.mv (t_ 124)) 0,O_ 125 (.ex (t_ 120) 0) 0,O_ 126 (.ex (t_ 120) 1) 0,O_ 20 (.al (.agg [(.lit (.int .u8 0)),(.lit (.int .i64 0)),(.lit (.int .i64 0)),(.lit (.string ⟨#[]⟩))])) 0,U_ (.st 4 (t_ 20) (t_ 125)) 1,O_ 21 (.mv (t_ 126)) 1]) (.seq (R_ 0 [O_ 127 (.mv (t_ 14)) 0,O_ 128 (.mv (t_ 16)) 0,O_ 129 (.bin .eql (t_ 127) (t_ 128)) 0,O_ 130 (.mv (t_ 129)) 0,⟨(some 131),.mv (t_ 15),(some (130,true)),0⟩,⟨(some 132),.mv (t_ 17),(some (130,true)),0⟩,⟨(some 133),.bin .eql (t_ 131) (t_ 132),(some (130,true)),0⟩,O_ 134 (.pick (t_ 130) (t_ 133) (b_ false)) 0,O_ 135 (.mv (t_ 134)) 0,⟨(some 136),.ld 4 true (t_ 18),(some (135,true)),0⟩,⟨(some 137),.ld 4 true (t_ 20),(some (135,true)),0⟩,⟨(some 138),.eqa false [1,1,1,2] (t_ 136) (t_ 137),(some (135,true)),0⟩,O_ 139 (.pick (t_ 135) (t_ 138) (b_ false)) 0,O_ 140 (.mv (t_ 139)) 0,⟨(some 141),.mv (t_ 19),(some (140,true)),0⟩,⟨(some 142),.mv (t_ 21),(some (140,true)),0⟩,⟨(some 143),.bin .eql (t_ 141) (t_ 142),(some (140,true)),0⟩,O_ 144 (.pick (t_ 140) (t_ 143) (b_ false)) 0,O_ 145 (.mv (t_ 144)) 0,⟨(some 146),.mv (t_ 2),(some (145,true)),0⟩,⟨(some 147),.cl 15 [(t_ 146)],(some (145,true)),0⟩,⟨(some 148),.mv (t_ 2),(some (145,true)),0⟩,⟨(some 149),.cl 16 [(t_ 148)],(some (145,true)),0⟩,⟨(some 150),.bin .eql (t_ 147) (t_ 149),(some (145,true)),0⟩,O_ 151 (.pick (t_ 145) (t_ 150) (b_ false)) 0,O_ 152 (.mv (t_ 151)) 0,⟨(some 153),.mv (t_ 0),(some (152,true)),0⟩,⟨(some 154),.cl 11 [(t_ 153)],(some (152,true)),0⟩,⟨(some 155),.mv (t_ 2),(some (152,true)),0⟩,⟨(some 156),.cl 17 [(t_ 154),(t_ 155)],(some (152,true)),0⟩,⟨(some 157),.mv (t_ 0),(some (152,true)),0⟩,⟨(some 158),.mv (t_ 2),(some (152,true)),0⟩,⟨(some 159),.cl 18 [(t_ 157),(t_ 158)],(some (152,true)),0⟩,⟨(some 160),.bin .eql (t_ 156) (t_ 159),(some (152,true)),0⟩,O_ 161 (.pick (t_ 152) (t_ 160) (b_ false)) 0,O_ 162 (.mv (t_ 161)) 0,⟨(some 163),.cl 4 [],(some (162,true)),0⟩,O_ 164 (.pick (t_ 162) (t_ 163) (b_ false)) 0,O_ 6 (.mv (t_ 164)) 0]) .ret))))))))))
theorem gc3_ok:compF Tryz.prog Tryz.f3=some (gc3.er,165,[.tmp 6]):=by unfold gc3;kernel_rfl
theorem p_law34_ScriptPuts_v {u1 u2:Bool} (a0:List BrokerStep) (a1:List StanzaStanza) (a2:Int):CallsO Tryz.prog 3 [.sl (List.map BrokerStep.v a0) u1,.sl (List.map StanzaStanza.v a1) u2,.y8 a2] V.b (tru? (p_law34_ScriptPuts a0 a1 a2)):=by
 refine callsO_comp mix Tryz.func3 gc3_ok fun r H=>?_
 have H1:=tru_of H
 clear H
 obtain ⟨rfl,H⟩:=H1
 rw [p_law34_ScriptPuts] at H
 conv=>whnf
 obtain ⟨K1,hK2,o3,HL4,HQ5⟩:=join0_c H
 refine join_c [6] [22,23,24,25,26,27,28,29,30] (fun vals st=>(K1 (.inr ())=some true∧vals=[.b false]∧st=[])) ?_ ?_
 ·have H:=HL4
  conv=>whnf
  refine LenQ.M ?_;conv=>whnf
  refine tst_c H (fun b7 H=>?_) (fun b7 H=>?_)
  ·conv=>whnf
   iterate 4 (refine Tst.T ?_;conv=>whnf)
   refine ask_c (p_law34_awake_v) H rfl rfl (fun v8 H=>?_);conv=>whnf
   obtain rfl:=Option.some.inj H
   have H:=HQ5
   rw [hK2] at H
   try dsimp only at H
   exact fb_ H
  conv=>whnf
  refine Tst.F ?_;conv=>whnf
  refine LenQ.M ?_;conv=>whnf
  iterate 2 (refine Tst.F ?_;conv=>whnf)
  refine tst_d H (fun b9 H=>?_) (fun b9 H=>?_)
  ·conv=>whnf
   obtain rfl:=Option.some.inj H
   exact arrive_c [22,23,24,25,26,27,28,29,30] 0 [] (⟨HQ5,rfl,rfl⟩) (Nat.zero_le _) rfl (by kernel_rfl) (by kernel_rfl) rfl trivial
  conv=>whnf
  refine ask_c (p_law34_awake_v) H rfl rfl (fun v10 H=>?_);conv=>whnf
  obtain rfl:=Option.some.inj H
  have H:=HQ5
  rw [hK2] at H
  try dsimp only at H
  exact fb_ H
 rintro _ _ (⟨H,rfl,rfl⟩)
 rw [hK2] at H
 try dsimp only at H
 conv=>whnf
 obtain ⟨o12,HL13,HQ14⟩:=bind_c H
 refine loop_c [6,7,8] [31,32,33,34,35,36,37,38,39,40,41,42,43,44,45,46,47,48,49,50] [31,32,33,34,35,36,37,38,39,40,41,42,43,44,45,46,47,48,49,50] (fun n vals st=>(∃ y16,p_law34_ScriptPuts_l1  a1 n [] y16=some o12∧vals=[.b false,.sl (List.map StanzaStanza.v []) true,.i y16]∧st=[])∨(∃ y23 y24,p_law34_ScriptPuts_l1  a1 n y23 y24=some o12∧vals=[.b false,.osl 0 0 (List.length y23) 8 false,.i y24]∧st=[.live (cellsM StanzaStanza.v y23) (cellsM StanzaStanza.v y23).length])) fuel 0 [] (.inl (⟨_,HL13,rfl,rfl⟩)) (Nat.zero_le _) rfl (by kernel_rfl) (by kernel_rfl) rfl trivial ?_
 rintro (_ | n15) _ _ (⟨y16,H,rfl,rfl⟩ | ⟨y23,y24,H,rfl,rfl⟩)
 ·rw [p_law34_ScriptPuts_l1] at H;cases H
 ·rw [p_law34_ScriptPuts_l1] at H;cases H
 ·rw [p_law34_ScriptPuts_l1] at H
  conv=>whnf
  refine LenQ.M ?_;conv=>whnf
  refine tst_c H (fun b17 H=>?_) (fun b17 H=>?_)
  ·conv=>whnf
   refine ixs_c (f:=StanzaStanza.v) H (fun _=>rfl) (fun x18 H=>?_);conv=>whnf
   refine ask_c (p_ref10_Light_v _) H rfl rfl (fun v19 H=>?_);conv=>whnf
   refine Tst.not ?_
   refine tst_d H (fun b20 H=>?_) (fun b20 H=>?_)
   ·conv=>whnf
    refine ask_c (p_law34_awake_v) H rfl rfl (fun v25 H=>?_);conv=>whnf
    obtain rfl:=Option.some.inj H
    have H:=HQ14
    try dsimp only at H
    exact fb_ H
   conv=>whnf
   refine ixs_c (f:=StanzaStanza.v) H (fun _=>rfl) (fun x21 H=>?_);conv=>whnf
   refine appN_c (f:=StanzaStanza.v) H (fun _=>rfl) (srcM (f:=StanzaStanza.v) (fun _=>rfl) [] true) rfl (.v (srcOwn (f:=StanzaStanza.v) (l:=[x21]) (fun _=>rfl) rfl rfl rfl)) (by decide) rfl (by simp) (fun l22 H=>?_);conv=>whnf
   refine Ari.w ?_;conv=>whnf
   exact again_c [31,32,33,34,35,36,37,38,39,40,41,42,43,44,45,46,47,48,49,50] n15 1 [1] (.inr (⟨_,_,H,rfl,rfl⟩)) (Nat.lt_succ_self _) (Nat.zero_le _) rfl (by kernel_rfl) (by kernel_rfl) rfl (wkB_live0 rfl (cellsM_idlt (f:=StanzaStanza.v) (fun _=>rfl) _) rfl trivial)
  conv=>whnf
  obtain rfl:=Option.some.inj H
  have H:=HQ14
  try dsimp only at H
  obtain ⟨o27,HL28,HQ29⟩:=bind_c H
  refine loop_c [6,9] [10,11,12,13,51,52,53,54,55,56,57,58,59,60,61,62,63,64,65,66,67,68,69,70,71,72,73,74,75,76,77,78,79,80,81,82,83,84,85,86,87,88,89,90,91,92,93,94,95,96,97,98,99,100,101] [10,11,12,13,51,52,53,54,55,56,57,58,59,60,61,62,63,64,65,66,67,68,69,70,71,72,73,74,75,76,77,78,79,80,81,82,83,84,85,86,87,88,89,90,91,92,93,94,95,96,97,98,99,100,101] (fun n vals st=>(∃ y31,p_law34_ScriptPuts_l2  a0 n y31=some o27∧vals=[.b false,.i y31]∧st=[])) fuel 0 [] (⟨_,HL28,rfl,rfl⟩) (Nat.zero_le _) rfl (by kernel_rfl) (by kernel_rfl) rfl trivial ?_
  rintro (_ | n30) _ _ (⟨y31,H,rfl,rfl⟩)
  ·rw [p_law34_ScriptPuts_l2] at H;cases H
  rw [p_law34_ScriptPuts_l2] at H
  conv=>whnf
  refine LenQ.M ?_;conv=>whnf
  refine tst_d H (fun b32 H=>?_) (fun b32 H=>?_)
  ·conv=>whnf
   obtain rfl:=Option.some.inj H
   have H:=HQ29
   try dsimp only at H
   refine ask_c (p_law33_Steps_v _) H rfl rfl (fun v47 H=>?_);conv=>whnf
   refine ask_c (p_script_Join_v _) H rfl rfl (fun v48 H=>?_);conv=>whnf
   refine ask_c (p_ref34_Join_v _) H rfl rfl (fun v49 H=>?_);conv=>whnf
   refine Ari.w ?_;conv=>whnf
   refine ask_c (p_script_Ask_v _ _) H rfl rfl (fun v50 H=>?_);conv=>whnf
   refine lq_ ?_;conv=>whnf
   refine Ari.w ?_;conv=>whnf
   refine ask_c (p_ref34_Ask_v _ _) H rfl rfl (fun v51 H=>?_);conv=>whnf
   refine lq_ ?_;conv=>whnf
   refine tstT_c H (fun b52 H=>?_);conv=>whnf
   iterate 3 (refine Tst.T ?_;conv=>whnf)
   refine tstT_c H (fun b53 H=>?_);conv=>whnf
   iterate 3 (refine Tst.T ?_;conv=>whnf)
   refine tstT_c H (fun b54 H=>?_);conv=>whnf
   iterate 3 (refine Tst.T ?_;conv=>whnf)
   refine tstT_c H (fun b55 H=>?_);conv=>whnf
   refine Tst.T ?_;conv=>whnf
   refine ask_c (p_script_Name_v _) H rfl rfl (fun v56 H=>?_);conv=>whnf
   iterate 2 (refine Tst.T ?_;conv=>whnf)
   refine ask_c (p_ref34_Name_v _) H rfl rfl (fun v57 H=>?_);conv=>whnf
   iterate 2 (refine Tst.T ?_;conv=>whnf)
   refine tstT_c H (fun b58 H=>?_);conv=>whnf
   refine Tst.T ?_;conv=>whnf
   refine ask_c (p_law33_Steps_v _) H rfl rfl (fun v59 H=>?_);conv=>whnf
   iterate 2 (refine Tst.T ?_;conv=>whnf)
   refine ask_c (p_script_Count_v _ _) H rfl rfl (fun v60 H=>?_);conv=>whnf
   iterate 3 (refine Tst.T ?_;conv=>whnf)
   refine ask_c (p_ref34_Count_v _ _) H rfl rfl (fun v61 H=>?_);conv=>whnf
   iterate 2 (refine Tst.T ?_;conv=>whnf)
   refine tstT_c H (fun b62 H=>?_);conv=>whnf
   refine ask_c (p_law34_awake_v) H rfl rfl (fun v63 H=>?_);conv=>whnf
   refine Tst.T ?_;conv=>whnf
   exact fb_ H
  conv=>whnf
  refine ixs_c (f:=BrokerStep.v) H (fun _=>rfl) (fun x33 H=>?_);conv=>whnf
  refine lq_ ?_;conv=>whnf
  refine tst_c H (fun b34 H=>?_) (fun b34 H=>?_)
  ·conv=>whnf
   refine ask_c (p_law34_awake_v) H rfl rfl (fun v35 H=>?_);conv=>whnf
   obtain rfl:=Option.some.inj H
   have H:=HQ29
   try dsimp only at H
   exact fb_ H
  conv=>whnf
  refine ixs_c (f:=BrokerStep.v) H (fun _=>rfl) (fun x36 H=>?_);conv=>whnf
  refine ask_c (p_script_Put_v _) H rfl rfl (fun v37 H=>?_);conv=>whnf
  refine ixs_c (f:=BrokerStep.v) H (fun _=>rfl) (fun x38 H=>?_);conv=>whnf
  refine ask_c (p_ref34_Put_v _) H rfl rfl (fun v39 H=>?_);conv=>whnf
  refine Tst.not ?_
  refine tst_d H (fun b40 H=>?_) (fun b40 H=>?_)
  ·conv=>whnf
   iterate 15 (refine Tst.T ?_;conv=>whnf)
   refine FootQ.mk ⟨rfl,?_⟩;conv=>whnf
   refine Tst.T ?_;conv=>whnf
   obtain rfl:=Option.some.inj H
   have H:=HQ29
   try dsimp only at H
   exact fb_ H
  conv=>whnf
  iterate 3 (refine Tst.F ?_;conv=>whnf)
  refine tst_c H (fun b41 H=>?_) (fun b41 H=>?_)
  ·conv=>whnf
   iterate 11 (refine Tst.T ?_;conv=>whnf)
   refine FootQ.mk ⟨rfl,?_⟩;conv=>whnf
   refine Tst.T ?_;conv=>whnf
   obtain rfl:=Option.some.inj H
   have H:=HQ29
   try dsimp only at H
   exact fb_ H
  conv=>whnf
  iterate 2 (refine Tst.F ?_;conv=>whnf)
  refine ixs_c (f:=BrokerStep.v) H (fun _=>rfl) (fun x42 H=>?_);conv=>whnf
  iterate 2 (refine Tst.F ?_;conv=>whnf)
  refine ask_c (p_script_Say_v _) H rfl rfl (fun v43 H=>?_);conv=>whnf
  iterate 3 (refine Tst.F ?_;conv=>whnf)
  refine ixs_c (f:=BrokerStep.v) H (fun _=>rfl) (fun x44 H=>?_);conv=>whnf
  iterate 2 (refine Tst.F ?_;conv=>whnf)
  refine ask_c (p_ref34_Say_v _) H rfl rfl (fun v45 H=>?_);conv=>whnf
  iterate 2 (refine Tst.F ?_;conv=>whnf)
  refine FootQ.mk ⟨rfl,?_⟩;conv=>whnf
  refine Tst.not ?_
  refine tst_d H (fun b46 H=>?_) (fun b46 H=>?_)
  ·conv=>whnf
   obtain rfl:=Option.some.inj H
   have H:=HQ29
   try dsimp only at H
   exact fb_ H
  conv=>whnf
  refine Ari.w ?_;conv=>whnf
  exact again_c [10,11,12,13,51,52,53,54,55,56,57,58,59,60,61,62,63,64,65,66,67,68,69,70,71,72,73,74,75,76,77,78,79,80,81,82,83,84,85,86,87,88,89,90,91,92,93,94,95,96,97,98,99,100,101] n30 0 [] (⟨_,H,rfl,rfl⟩) (Nat.lt_succ_self _) (Nat.zero_le _) rfl (by kernel_rfl) (by kernel_rfl) rfl trivial
 rw [p_law34_ScriptPuts_l1] at H
 conv=>whnf
 refine LenQ.M ?_;conv=>whnf
 refine tst_c H (fun b64 H=>?_) (fun b64 H=>?_)
 ·conv=>whnf
  refine ixs_c (f:=StanzaStanza.v) H (fun _=>rfl) (fun x65 H=>?_);conv=>whnf
  refine ask_c (p_ref10_Light_v _) H rfl rfl (fun v66 H=>?_);conv=>whnf
  refine Tst.not ?_
  refine tst_d H (fun b67 H=>?_) (fun b67 H=>?_)
  ·conv=>whnf
   refine ask_c (p_law34_awake_v) H rfl rfl (fun v70 H=>?_);conv=>whnf
   obtain rfl:=Option.some.inj H
   have H:=HQ14
   try dsimp only at H
   exact fb_ H
  conv=>whnf
  refine ixs_c (f:=StanzaStanza.v) H (fun _=>rfl) (fun x68 H=>?_);conv=>whnf
  refine appO_c (f:=StanzaStanza.v) H (fun _=>rfl) rfl (Nat.le_refl _) (.v (srcOwn (f:=StanzaStanza.v) (l:=[x68]) (fun _=>rfl) rfl rfl rfl)) (by decide) rfl (by simp) (fun l69 H=>?_);conv=>whnf
  refine Ari.w ?_;conv=>whnf
  exact again_c [31,32,33,34,35,36,37,38,39,40,41,42,43,44,45,46,47,48,49,50] n15 1 [2] (.inr (⟨_,_,H,rfl,rfl⟩)) (Nat.lt_succ_self _) (Nat.zero_le _) rfl (by kernel_rfl) (by kernel_rfl) rfl (wkB_live0 rfl (cellsM_idlt (f:=StanzaStanza.v) (fun _=>rfl) _) rfl trivial)
 conv=>whnf
 obtain rfl:=Option.some.inj H
 have H:=HQ14
 try dsimp only at H
 obtain ⟨o72,HL73,HQ74⟩:=bind_c H
 refine loop_c [6,9] [10,11,12,13,51,52,53,54,55,56,57,58,59,60,61,62,63,64,65,66,67,68,69,70,71,72,73,74,75,76,77,78,79,80,81,82,83,84,85,86,87,88,89,90,91,92,93,94,95,96,97,98,99,100,101] [10,11,12,13,51,52,53,54,55,56,57,58,59,60,61,62,63,64,65,66,67,68,69,70,71,72,73,74,75,76,77,78,79,80,81,82,83,84,85,86,87,88,89,90,91,92,93,94,95,96,97,98,99,100,101] (fun n vals st=>(∃ y76,p_law34_ScriptPuts_l2  a0 n y76=some o72∧vals=[.b false,.i y76]∧st=[.live (cellsM StanzaStanza.v y23) (cellsM StanzaStanza.v y23).length])) fuel 1 [] (⟨_,HL73,rfl,rfl⟩) (Nat.zero_le _) rfl (by kernel_rfl) (by kernel_rfl) rfl (wkB_live0 rfl (cellsM_idlt (f:=StanzaStanza.v) (fun _=>rfl) _) rfl trivial) ?_
 rintro (_ | n75) _ _ (⟨y76,H,rfl,rfl⟩)
 ·rw [p_law34_ScriptPuts_l2] at H;cases H
 rw [p_law34_ScriptPuts_l2] at H
 conv=>whnf
 refine LenQ.M ?_;conv=>whnf
 refine tst_d H (fun b77 H=>?_) (fun b77 H=>?_)
 ·conv=>whnf
  obtain rfl:=Option.some.inj H
  have H:=HQ74
  try dsimp only at H
  refine ask_c (p_law33_Steps_v _) H rfl rfl (fun v92 H=>?_);conv=>whnf
  refine ask_c (p_script_Join_v _) H rfl rfl (fun v93 H=>?_);conv=>whnf
  refine ask_c (p_ref34_Join_v _) H rfl rfl (fun v94 H=>?_);conv=>whnf
  refine Ari.w ?_;conv=>whnf
  refine askF_c (p_script_Ask_v _ _) H (.cons (.c (.id rfl)) (.cons (.c (fzown (f:=StanzaStanza.v) (l:=y23) rfl rfl (fun _=>rfl) (fun _=>rfl))) (.nil))) (fun v95 H=>?_);conv=>whnf
  refine lq_ ?_;conv=>whnf
  refine Ari.w ?_;conv=>whnf
  refine ask_c (p_ref34_Ask_v _ _) H rfl rfl (fun v96 H=>?_);conv=>whnf
  refine lq_ ?_;conv=>whnf
  refine tstT_c H (fun b97 H=>?_);conv=>whnf
  iterate 3 (refine Tst.T ?_;conv=>whnf)
  refine tstT_c H (fun b98 H=>?_);conv=>whnf
  iterate 3 (refine Tst.T ?_;conv=>whnf)
  refine tstT_c H (fun b99 H=>?_);conv=>whnf
  iterate 3 (refine Tst.T ?_;conv=>whnf)
  refine tstT_c H (fun b100 H=>?_);conv=>whnf
  refine Tst.T ?_;conv=>whnf
  refine ask_c (p_script_Name_v _) H rfl rfl (fun v101 H=>?_);conv=>whnf
  iterate 2 (refine Tst.T ?_;conv=>whnf)
  refine ask_c (p_ref34_Name_v _) H rfl rfl (fun v102 H=>?_);conv=>whnf
  iterate 2 (refine Tst.T ?_;conv=>whnf)
  refine tstT_c H (fun b103 H=>?_);conv=>whnf
  refine Tst.T ?_;conv=>whnf
  refine ask_c (p_law33_Steps_v _) H rfl rfl (fun v104 H=>?_);conv=>whnf
  iterate 2 (refine Tst.T ?_;conv=>whnf)
  refine ask_c (p_script_Count_v _ _) H rfl rfl (fun v105 H=>?_);conv=>whnf
  iterate 3 (refine Tst.T ?_;conv=>whnf)
  refine ask_c (p_ref34_Count_v _ _) H rfl rfl (fun v106 H=>?_);conv=>whnf
  iterate 2 (refine Tst.T ?_;conv=>whnf)
  refine tstT_c H (fun b107 H=>?_);conv=>whnf
  refine ask_c (p_law34_awake_v) H rfl rfl (fun v108 H=>?_);conv=>whnf
  refine Tst.T ?_;conv=>whnf
  exact fb_ H
 conv=>whnf
 refine ixs_c (f:=BrokerStep.v) H (fun _=>rfl) (fun x78 H=>?_);conv=>whnf
 refine lq_ ?_;conv=>whnf
 refine tst_c H (fun b79 H=>?_) (fun b79 H=>?_)
 ·conv=>whnf
  refine ask_c (p_law34_awake_v) H rfl rfl (fun v80 H=>?_);conv=>whnf
  obtain rfl:=Option.some.inj H
  have H:=HQ74
  try dsimp only at H
  exact fb_ H
 conv=>whnf
 refine ixs_c (f:=BrokerStep.v) H (fun _=>rfl) (fun x81 H=>?_);conv=>whnf
 refine ask_c (p_script_Put_v _) H rfl rfl (fun v82 H=>?_);conv=>whnf
 refine ixs_c (f:=BrokerStep.v) H (fun _=>rfl) (fun x83 H=>?_);conv=>whnf
 refine ask_c (p_ref34_Put_v _) H rfl rfl (fun v84 H=>?_);conv=>whnf
 refine Tst.not ?_
 refine tst_d H (fun b85 H=>?_) (fun b85 H=>?_)
 ·conv=>whnf
  iterate 15 (refine Tst.T ?_;conv=>whnf)
  refine FootQ.mk ⟨rfl,?_⟩;conv=>whnf
  refine Tst.T ?_;conv=>whnf
  obtain rfl:=Option.some.inj H
  have H:=HQ74
  try dsimp only at H
  exact fb_ H
 conv=>whnf
 iterate 3 (refine Tst.F ?_;conv=>whnf)
 refine tst_c H (fun b86 H=>?_) (fun b86 H=>?_)
 ·conv=>whnf
  iterate 11 (refine Tst.T ?_;conv=>whnf)
  refine FootQ.mk ⟨rfl,?_⟩;conv=>whnf
  refine Tst.T ?_;conv=>whnf
  obtain rfl:=Option.some.inj H
  have H:=HQ74
  try dsimp only at H
  exact fb_ H
 conv=>whnf
 iterate 2 (refine Tst.F ?_;conv=>whnf)
 refine ixs_c (f:=BrokerStep.v) H (fun _=>rfl) (fun x87 H=>?_);conv=>whnf
 iterate 2 (refine Tst.F ?_;conv=>whnf)
 refine ask_c (p_script_Say_v _) H rfl rfl (fun v88 H=>?_);conv=>whnf
 iterate 3 (refine Tst.F ?_;conv=>whnf)
 refine ixs_c (f:=BrokerStep.v) H (fun _=>rfl) (fun x89 H=>?_);conv=>whnf
 iterate 2 (refine Tst.F ?_;conv=>whnf)
 refine ask_c (p_ref34_Say_v _) H rfl rfl (fun v90 H=>?_);conv=>whnf
 iterate 2 (refine Tst.F ?_;conv=>whnf)
 refine FootQ.mk ⟨rfl,?_⟩;conv=>whnf
 refine Tst.not ?_
 refine tst_d H (fun b91 H=>?_) (fun b91 H=>?_)
 ·conv=>whnf
  obtain rfl:=Option.some.inj H
  have H:=HQ74
  try dsimp only at H
  exact fb_ H
 conv=>whnf
 refine Ari.w ?_;conv=>whnf
 exact again_c [10,11,12,13,51,52,53,54,55,56,57,58,59,60,61,62,63,64,65,66,67,68,69,70,71,72,73,74,75,76,77,78,79,80,81,82,83,84,85,86,87,88,89,90,91,92,93,94,95,96,97,98,99,100,101] n75 1 [] (⟨_,H,rfl,rfl⟩) (Nat.lt_succ_self _) (Nat.zero_le _) rfl (by kernel_rfl) (by kernel_rfl) rfl (wkB_live0 rfl (cellsM_idlt (f:=StanzaStanza.v) (fun _=>rfl) _) rfl trivial)
end Go.Proofs.YtpkodpcfafipdaaGreatDoor

namespace Go.Proofs.YtpkodpcfafipdaaGreatDoor
open Go
theorem returnsInHanded_laid {H:Type} {enc:TypeId × Value→H} {a:Assume} {C:Checked} {os:Os} {f:FuncId} {fn:Func} {s:ChangeSpec} {conds:List PathCond} {apart fresh handsOn again:Bool} {X:World→Array Value→Prop}
  (hX:∀ (w w' : World) (args:Array Value),w.heap=w'.heap→X w args→X w' args)
  (own:ownKnob C.prog.godebug=none) (started:os.Started) (noInit:C.prog.inits.idxOf? f=none) (hfn:C.prog.funcs[f]?=some fn)
  (witness:∃ (w:World) (tape:Tape) (i:Input),w.os=os∧(w.forCall tape i).Shaped C.prog∧i.vars=[]∧Input.okWide C.prog (w.forCall tape i) .any w.heap.size f i ∧
   ((s.pre enc C.prog fn conds apart (w.forCall tape i).memory i.args∧X (w.forCall tape i).memory i.args)∧sizedMet enc C.prog fn (OpenSpec.ofChange s) apart (w.forCall tape i).memory i.args)∧a.holds C.prog (lone (Frame.enter C.prog f i.args .normal) [] (w.forCall tape i)))
  (contract:∀ (W:World) (base:Nat) (args:Array Value) (ds gs:List (DataW H)) (before:List MemPlace),
   (∀ (j:Nat) t v,fn.params[j]?=some t→args[j]?=some v→Value.okWide C.prog W .any base t v) →
   DataW.Whole enc C.prog fn.params.toList s.vars apart W args.toList ds gs before →
   conds.all (PathCond.test C.prog ⟨fn.params.toList,ds,s.plain.varTypes C.prog,gs⟩)=true →
   X W args→W.ShapedOpen C.prog →
   Calls C.prog f args W fun e W'=>∃ v,e=.returned v∧s.post enc C.prog fn apart fresh handsOn again W args v W') :
  ReturnsInHanded a C os f .any (fun w args=>(s.pre enc C.prog fn conds apart w args∧X w args)∧sizedMet enc C.prog fn (OpenSpec.ofChange s) apart w args) (s.post enc C.prog fn apart fresh handsOn again):=by
 refine returnsInHanded_of_calls own started noInit witness ?_
 intro w tape i _ hsh _ hok hpre hholds
 obtain ⟨_,_,_,fn',hfn',_,_,_,_,hval⟩:=hok
 have e:fn'=fn:=Option.some.inj (hfn'.symm.trans hfn)
 subst e
 obtain ⟨⟨⟨ds,gs,before,hw,hc⟩,hx⟩,hz⟩:=hpre
 have hw':=DataW.Whole.of_heap (w':=w.forCall tape i) (by rfl) hw
 refine (contract (w.forCall tape i) w.heap.size i.args ds gs before hval hw' hc (hX _ _ _ (by rfl) hx) hsh).mono fun e W' ⟨v,he,hp⟩=>?_
 subst he
 exact ChangeSpec.post_blind hp
theorem gt_of_laid {laid:List (String × DataW Unit)} {W:World} (h:laidMetH Tryz.prog laid W) (h1:(laid.all fun x=>x.2.handleName?.isNone)=true)
  (h2:laid.filter (fun x=>x.1 == "internal/strconv.uint64pow10")=[("internal/strconv.uint64pow10",Lib.tabData .u64 Lib.pow10Tab)]):GT W:=by
 rw [Go.MakeChecks.laidMetH_plain _ _ _ h1] at h
 have h3:=h.filter (fun x=>x.1 == "internal/strconv.uint64pow10")
 rw [h2] at h3
 have hg:Tryz.prog.globalNamed "internal/strconv.uint64pow10"=some 1:=by kernel_rfl
 have ht:Lib.TabIs Tryz.prog W "internal/strconv.uint64pow10" .u64 Lib.pow10Tab:=Lib.tabIs_of_head (g:=1) (t:=135) (e:=117) (n:=20) hg (by kernel_rfl) (by kernel_rfl) (by kernel_rfl) (by kernel_rfl) (by kernel_rfl) h3
 unfold Lib.TabIs World.var? at ht
 rw [hg,Option.bind_some] at ht
 split at ht
 ·rename_i cs t lh he
  refine ⟨t,lh,he.trans ?_⟩
  rw [Option.some.inj ht];rfl
 ·cases ht
end Go.Proofs.YtpkodpcfafipdaaGreatDoor

namespace Go.Proofs.YtpkodpcfafipdaaGreatDoor
open Go.ChangeShapes Go.WideShapes Go.ChangeAt Go.RowKit Go.Joins Go.Deep
theorem scriptPuts_named:Tryz.pinned.checked.prog.funcNamed Rows.scriptPutsRow.func=some 3:=by kernel_rfl
theorem scriptPuts_closed:joinedFacts Tryz.pinned.checked.prog 3 Tryz.f3 Rows.scriptPutsSpec Rows.scriptPutsRow=true:=by kernel_rfl
end Go.Proofs.YtpkodpcfafipdaaGreatDoor

namespace Go.Proofs.YtpkodpcfafipdaaGreatDoor
open Go.ChangeShapes Go.WideShapes Go.ChangeAt Go.RowKit Go.Joins Go.Deep
theorem scriptPuts_door (os:Os) (args:Array Value):laidMetH Tryz.prog Rows.scriptPutsRow.laid ((World.doorLaid Tryz.prog 400 os).forCall (fun _ _=>0) ⟨#[],args,[]⟩).memory :=
 laidMetH_of_parts3 (fuel:=8) (laidMet_of_run' 8 (by kernel_rfl) (by kernel_rfl)) (by kernel_rfl) (by kernel_rfl)
set_option maxRecDepth 100000 in
theorem scriptPuts_lifted (os:Os) (started:os.Started) (H:Type) (enc:TypeId × Value→H) :
  ReturnsInHanded {} Tryz.checked os 3 .any (fun w args=>(Rows.scriptPutsSpec.pre enc Tryz.prog Tryz.f3 Rows.scriptPutsRow.domain false w args∧laidMetH Tryz.prog Rows.scriptPutsRow.laid w)∧sizedMet enc Tryz.prog Tryz.f3 (OpenSpec.ofChange Rows.scriptPutsSpec) false w args) (Rows.scriptPutsSpec.post enc Tryz.prog Tryz.f3 false true false false):=by
 refine returnsInHanded_laid (C:=Tryz.checked) (X:=fun w _=>laidMetH Tryz.prog Rows.scriptPutsRow.laid w) (fun _ _ _ hh h=>h.of_heap hh) own0 started (by kernel_rfl) Tryz.func3
  (ChangeSpec.witness_shaped (enc:=enc) (C:=Tryz.checked) (os:=os) (X:=fun w _=>laidMetH Tryz.prog Rows.scriptPutsRow.laid w) false (World.doorLaid Tryz.prog 400 os) #[.slice none 0 0,.slice none 0 0,.int .u8 0] 8 rfl (World.shaped_of_RefB (by kernel_rfl) (by kernel_rfl)) (by kernel_rfl) (by kernel_rfl) (by kernel_rfl) (scriptPuts_door os _)) ?_
 intro W base args ds gs before hval0 hW hcnd hL hsh
 have hgt:GT W:=gt_of_laid hL (by kernel_rfl) (by kernel_rfl)
 have hval:∀ (j:Nat) t v,Tryz.f3.params[j]?=some t→args[j]?=some v→Value.okWide Tryz.prog W .any base t v:=hval0
 have hW':=hW
 obtain ⟨p,q,hA0,hV,rfl,hfz,hnd⟩:=hW
 have hA:DataW.TrodAll enc Tryz.prog W 0 (fun _=>true) true Tryz.f3.params.toList args.toList ds p:=hA0
 rw [Tryz.params3] at hA hval
 have hA2:=hA
 obtain ⟨v0,v1,v2,d0,d1,d2,p0,p1,p2,rfl,rfl,hp,h0,h1,h2⟩:=trodAll_three hA
 obtain ⟨rfl,rfl⟩:=trodVars_none hV
 obtain ⟨fu0,hf0⟩:=h0
 obtain ⟨q0,l0,k0,rfl⟩:=okWide_slice Tryz.underlying22 (hval 0 _ v0 rfl rfl)
 obtain ⟨a0,w0,r0⟩:=rd_T22 hf0
 have hx0:Rep (MW W) noBk _ _:=r0.2 0 (by simp [Value.cells]) (by simp)
 obtain ⟨fu1,hf1⟩:=h1
 obtain ⟨q1,l1,k1,rfl⟩:=okWide_slice Tryz.underlying23 (hval 1 _ v1 rfl rfl)
 obtain ⟨a1,w1,r1⟩:=rd_T23 hf1
 have hx1:Rep (MW W) noBk _ _:=r1.2 0 (by simp [Value.cells]) (by simp)
 obtain ⟨fu2,hf2⟩:=h2
 obtain ⟨q2,rfl⟩:=okWide_int Tryz.underlying5 (hval 2 _ v2 rfl rfl)
 obtain ⟨a2,w2,r2⟩:=rd_int Tryz.underlying5 hf2
 have hx2:Rep (MW W) noBk _ _:=r2.2 0 (by simp [Value.cells]) (by simp)
 refine (rep_one (callsO_true (p_law34_ScriptPuts_v a0 a1 a2) (tru_ok (scriptPuts_wf a0 a1 a2 w0 w1 w2))) (maxLen_cell W hsh) (repA3 hx0 hx1 hx2)).mono ?_
 rintro e W' ⟨rfl,bel⟩
 refine ⟨_,rfl,_,_,_,[],p,[],hW',?_,?_,?_,?_,?_⟩
 ·exact trodAll_mk1 (shut_bool Tryz.underlying4 true)
 ·exact trodAll_below laid0 bel (by
   intro t ht
   simp at ht
   rcases ht with rfl | rfl | rfl <;> exact ⟨by kernel_rfl,of_decide_eq_true (by kernel_rfl)⟩) hA2
 ·rfl
 ·exact bel.frame _
 ·exact fun h=>by cases h
theorem scriptPuts_holds:Rows.ScriptPutsSaid :=
 OpenClaim.holds_of_wide 3 Tryz.f3 rfl rfl rfl rfl rfl rfl rfl ⟨rfl,rfl,rfl,rfl,rfl⟩ rfl rfl rfl rfl rfl scriptPuts_named Tryz.func3 scriptPuts_closed
  (of_decide_eq_true (by kernel_rfl)) (by unfold Func.isWrapper;first | (rw [if_pos (by decide +kernel)];kernel_rfl) | (rw [if_neg (by decide +kernel)];exact ⟨rfl,rfl⟩))
  (fun os started H enc _=>scriptPuts_lifted os started H enc)
#print axioms scriptPuts_holds
theorem scriptPuts_card_holds:Rows.ScriptPutsCardSaid :=
 Claim7.holds_tied_plain_at .later [] [.data,.data,.data] true (true, "b34428b0a97d58a873ab92e4dc0e02c775658cf3aefdffac65478ff7e8d23d6a") false
  scriptPuts_holds (fun _ h=>by cases h) (by kernel_rfl) (fun _ h=>by cases h) scriptPuts_row_tie rfl ⟨rfl,rfl⟩ (by kernel_rfl) rfl
  (fun f fn hf hfn=>by
   obtain rfl:f=3:=Option.some.inj ((show Tryz.prog.funcNamed "callboy/callboylaw34.ScriptPuts"=some 3 by kernel_rfl).symm.trans hf) |>.symm
   obtain rfl:fn=Tryz.f3:=(Option.some.inj (Tryz.func3.symm.trans hfn)).symm
   exact ⟨by kernel_rfl,fun j t ht=>by
    rw [Tryz.params3] at ht
    have hm:t ∈ [22,23,5]:=by simpa using Array.mem_of_getElem? ht
    have hall:([22,23,5].all fun u=>!Tryz.prog.wantsStandIn u)=true:=by kernel_rfl
    exact (show Tryz.prog.wantsStandIn t=false by simpa using List.all_eq_true.1 hall t hm)⟩)
  (by kernel_rfl)
#print axioms scriptPuts_card_holds
end Go.Proofs.YtpkodpcfafipdaaGreatDoor

