/- A part of the proof: 5 texts joined. -/
import Derived.Test.YtpmoioopjbfhkaaGreatWaA15
import Derived.Test.YtpmoioopjbfhkaaGreatWaA17
import Derived.Test.YtpmoioopjbfhkaaGreatWaA11
import Derived.KernelRfl
import Derived.Test.YtpmoioopjbfhkaaGreatWaA14
import Derived.Test.YtpmoioopjbfhkaaGreatWaA13
import Derived.Lib.SliceRun
set_option linter.all false
/- That the program's functions yield what the plain ones tell (written by a program of mine). -/
namespace Go.Proofs.YtpmoioopjbfhkaaGreat
open Go.RowKit
set_option maxRecDepth 100000
set_option maxHeartbeats 4000000
def gc244:BCode:=(.seq (.reg 2 [⟨(some 2),.bx (.tmp 0),none,0⟩,⟨(some 4),.al (.agg [(.sl [] true),(.sl [] true),(.lit (.bool false)),(.sl [] true),(.sl [] true),(.lit (.int .i64 0)),(.lit (.int .i64 0))]),none,1⟩] none 0 []) (.seq (.seq (.reg 0 [⟨(some 7),.ld 7 true (.tmp 2),none,0⟩,⟨(some 8),.mv (.tmp 1),none,0⟩,⟨(some 9),.cl 238 [(.tmp 7),(.tmp 8)],none,0⟩,⟨(some 10),.mv (.tmp 9),none,0⟩,⟨(some 11),.fa 3 (.tmp 2),(some (10,false)),0⟩,⟨(some 12),.ld 1 false (.tmp 11),(some (10,false)),0⟩,⟨(some 13),.lens (.tmp 12),(some (10,false)),0⟩,⟨(some 14),.bin .geq (.tmp 13) (.const (.int .i64 64)),(some (10,false)),0⟩,⟨(some 15),.pick (.tmp 10) (.const (.bool true)) (.tmp 14),none,0⟩] none 0 []) (.cond (.tmp 15) (.seq (.reg 0 [⟨(some 16),.ld 7 true (.tmp 2),none,0⟩,⟨none,.st 7 (.tmp 4) (.tmp 16),none,0⟩] none 0 []) .ret) .skip)) (.seq (.reg 0 [⟨(some 5),.mv (.const (.int .i64 0)),none,0⟩] none 0 []) (.seq (.block 0 (.loop (.seq (.seq (.reg 0 [⟨(some 17),.mv (.tmp 5),none,0⟩,⟨(some 18),.fa 3 (.tmp 2),none,0⟩,⟨(some 19),.ld 1 false (.tmp 18),none,0⟩,⟨(some 20),.lens (.tmp 19),none,0⟩,⟨(some 21),.bin .lss (.tmp 17) (.tmp 20),none,0⟩,⟨(some 22),.mv (.tmp 21),none,0⟩,⟨(some 23),.fa 3 (.tmp 2),(some (22,true)),0⟩,⟨(some 24),.ld 1 false (.tmp 23),(some (22,true)),0⟩,⟨(some 25),.mv (.tmp 5),(some (22,true)),0⟩,⟨(some 26),.ixs 1 (.tmp 24) (.tmp 25),(some (22,true)),0⟩,⟨(some 27),.ld 1 false (.tmp 26),(some (22,true)),0⟩,⟨(some 28),.mv (.tmp 1),(some (22,true)),0⟩,⟨(some 29),.bin .lss (.tmp 27) (.tmp 28),(some (22,true)),0⟩,⟨(some 30),.pick (.tmp 22) (.tmp 29) (.const (.bool false)),none,0⟩] none 0 []) (.cond (.tmp 30) .skip (.exit 0))) (.block 1 (.reg 0 [⟨(some 31),.mv (.tmp 5),none,0⟩,⟨(some 32),.bin .add (.tmp 31) (.const (.int .i64 1)),none,0⟩,⟨(some 5),.mv (.tmp 32),none,0⟩] none 0 []))))) (.seq (.reg 0 [⟨(some 6),.mv (.const (.slice none 0 0)),none,0⟩] none 0 []) (.seq (.reg 4 [⟨(some 33),.mv (.tmp 6),none,0⟩,⟨(some 34),.fa 3 (.tmp 2),none,0⟩,⟨(some 35),.ld 1 false (.tmp 34),none,0⟩,⟨(some 36),.mv (.tmp 5),none,0⟩,⟨(some 37),.sls 1 (.tmp 35) none (some (.tmp 36)) none,none,0⟩,⟨(some 38),.ap 1 16 (.tmp 33) (.tmp 37),none,0⟩,⟨(some 39),.mv (.tmp 1),none,1⟩,⟨(some 40),.bs 1 1 [(.lit (.string ⟨#[]⟩))] [(0,(.tmp 39))],none,1⟩,⟨(some 41),.ap 1 16 (.tmp 38) (.tmp 40),none,2⟩,⟨(some 42),.fa 3 (.tmp 2),none,3⟩,⟨(some 43),.ld 1 false (.tmp 42),none,3⟩,⟨(some 44),.mv (.tmp 5),none,3⟩,⟨(some 45),.sls 1 (.tmp 43) (some (.tmp 44)) none none,none,3⟩,⟨(some 46),.ap 1 16 (.tmp 41) (.tmp 45),none,3⟩,⟨(some 47),.fa 3 (.tmp 2),none,4⟩,⟨none,.st 1 (.tmp 47) (.tmp 46),none,4⟩] (some [[],[],[1],[],[3,1,2],[2,1,3,4,0],[],[6],[6,7,0,4,3,1,2,5],[],[9],[],[11,9,10],[10,9,11,12,5,2,1,3,4,0,7,6,8],[13,12,11,10,9,8,7,6,5,4,3,2,1,0],[0,1,2,3,4,5,6,7,8,9,10,11,12,13,14]]) 0 []) (.seq (.reg 0 [⟨(some 48),.ld 7 true (.tmp 2),none,0⟩,⟨none,.st 7 (.tmp 4) (.tmp 48),none,0⟩] none 0 []) .ret)))))))
theorem gc244_ok:compF Tryz.prog Tryz.f244=some (gc244.er,49,[.cell 4 7 true]):=by unfold gc244;kernel_rfl
theorem p_ref35_see_v {u1 u2 u3 u4:Bool} (a0:Ref35State) (a1:ByteArray):CallsO Tryz.prog 244 [.agg [.sl (List.map MailEntry.v a0.Rows) u1,.sl (List.map MailEntry.v a0.Last) u2,.b a0.Anew,.sl (List.map V.s a0.Seen) u3,.sl (List.map Ref35Contact.v a0.List) u4,.i a0.Odd,.i a0.Told],.s a1] Ref35State.v (p_ref35_see a0 a1):=by
 refine callsO_comp mix Tryz.func244 gc244_ok fun r H=>?_
 rw [p_ref35_see] at H
 conv=>whnf
 refine ask_c (p_ref35_seen_v _ _) H rfl rfl (fun v1 H=>?_);conv=>whnf
 refine tst_c H (fun b2 H=>?_) (fun b2 H=>?_)
 ·conv=>whnf
  iterate 5 (refine Tst.T ?_;conv=>whnf)
  refine ⟨Nat.le_of_ble_eq_true rfl,?_⟩;conv=>whnf
  refine finR_c (enc:=Ref35State.v) H ?_;conv=>whnf
  exact ⟨_,.v (fzagg (.cons (.slw) (.cons (.slw) (.cons (.id rfl) (.cons (.slw) (.cons (.slw) (.cons (.id rfl) (.cons (.id rfl) (.nil)))))))) rfl)⟩
 conv=>whnf
 iterate 2 (refine Tst.F ?_;conv=>whnf)
 refine LenQ.M ?_;conv=>whnf
 iterate 2 (refine Tst.F ?_;conv=>whnf)
 refine tst_c H (fun b3 H=>?_) (fun b3 H=>?_)
 ·conv=>whnf
  refine ⟨Nat.le_of_ble_eq_true rfl,?_⟩;conv=>whnf
  refine finR_c (enc:=Ref35State.v) H ?_;conv=>whnf
  exact ⟨_,.v (fzagg (.cons (.slw) (.cons (.slw) (.cons (.id rfl) (.cons (.slw) (.cons (.slw) (.cons (.id rfl) (.cons (.id rfl) (.nil)))))))) rfl)⟩
 conv=>whnf
 obtain ⟨o5,HL6,HQ7⟩:=bind_c H
 refine loop_c [5] [17,18,19,20,21,22,23,24,25,26,27,28,29,30,31,32,11] [17,18,19,20,21,22,23,24,25,26,27,28,29,30,31,32,11] (fun n vals st=>(∃ y9,p_ref35_see_l1  a1 a0 n y9=some o5∧vals=[.i y9]∧st=[.live [.sl (List.map MailEntry.v a0.Rows) u1,.sl (List.map MailEntry.v a0.Last) u2,.b a0.Anew,.sl (List.map V.s a0.Seen) u3,.sl (List.map Ref35Contact.v a0.List) u4,.i a0.Odd,.i a0.Told] 0,.live [.sl (List.map MailEntry.v []) true,.sl (List.map MailEntry.v []) true,.b false,.sl (List.map V.s []) true,.sl (List.map Ref35Contact.v []) true,.i (0:Int),.i (0:Int)] 0])) fuel 2 [] (⟨_,HL6,rfl,rfl⟩) (Nat.zero_le _) rfl (by kernel_rfl) (by kernel_rfl) rfl ⟨⟨rfl,rfl,rfl⟩,⟨⟨rfl,rfl,rfl⟩,trivial⟩⟩ ?_
 rintro (_ | n8) _ _ (⟨y9,H,rfl,rfl⟩)
 ·rw [p_ref35_see_l1] at H;cases H
 rw [p_ref35_see_l1] at H
 conv=>whnf
 refine LenQ.M ?_;conv=>whnf
 refine tst_d H (fun b10 H=>?_) (fun b10 H=>?_)
 ·conv=>whnf
  iterate 8 (refine Tst.F ?_;conv=>whnf)
  obtain rfl:=Option.some.inj H
  have H:=HQ7
  try dsimp only at H
  refine slsH_c (f:=V.s) H (fun _=>rfl) (fun x21 H=>?_);conv=>whnf
  refine appE_c (f:=V.s) H (fun _=>rfl) rfl (.v (srcM (f:=V.s) (fun _=>rfl) _ _)) (by decide) rfl (fun H=>?_) (fun l22 H=>?_)
  ·conv=>whnf
   refine appN_c (f:=V.s) H (fun _=>rfl) (srcM (f:=V.s) (fun _=>rfl) _ _) rfl (.v (srcOwn (f:=V.s) (l:=[a1]) (fun _=>rfl) rfl rfl rfl)) (by decide) rfl (by simp) (fun l26 H=>?_);conv=>whnf
   refine slsE_c (f:=V.s) H (fun _=>rfl) (fun x27 H=>?_);conv=>whnf
   refine appP_c (f:=V.s) H (fun _=>rfl) rfl rfl (.v (srcM (f:=V.s) (fun _=>rfl) _ _)) (by decide) rfl (fun l28 H=>?_) (fun l28 H=>?_)
   ·conv=>whnf
    refine ⟨Nat.le_of_ble_eq_true rfl,?_⟩;conv=>whnf
    refine FootQ.mk ⟨rfl,?_⟩;conv=>whnf
    refine ⟨Nat.le_of_ble_eq_true rfl,?_⟩;conv=>whnf
    refine finR_c (enc:=Ref35State.v) H ?_;conv=>whnf
    exact ⟨_,.v (fzagg (.cons (.slw) (.cons (.slw) (.cons (.id rfl) (.cons (fzown (f:=V.s) (l:=l28) rfl rfl (fun _=>rfl) (fun _=>rfl)) (.cons (.slw) (.cons (.id rfl) (.cons (.id rfl) (.nil)))))))) rfl)⟩
   conv=>whnf
   refine ⟨Nat.le_of_ble_eq_true rfl,?_⟩;conv=>whnf
   refine FootQ.mk ⟨rfl,?_⟩;conv=>whnf
   refine ⟨Nat.le_of_ble_eq_true rfl,?_⟩;conv=>whnf
   refine finR_c (enc:=Ref35State.v) H ?_;conv=>whnf
   exact ⟨_,.v (fzagg (.cons (.slw) (.cons (.slw) (.cons (.id rfl) (.cons (fzown (f:=V.s) (l:=l28) rfl rfl (fun _=>rfl) (fun _=>rfl)) (.cons (.slw) (.cons (.id rfl) (.cons (.id rfl) (.nil)))))))) rfl)⟩
  conv=>whnf
  refine appO_c (f:=V.s) H (fun _=>rfl) rfl (Nat.le_refl _) (.v (srcOwn (f:=V.s) (l:=[a1]) (fun _=>rfl) rfl rfl rfl)) (by decide) rfl (by simp) (fun l23 H=>?_);conv=>whnf
  refine slsE_c (f:=V.s) H (fun _=>rfl) (fun x24 H=>?_);conv=>whnf
  refine appP_c (f:=V.s) H (fun _=>rfl) rfl rfl (.v (srcM (f:=V.s) (fun _=>rfl) _ _)) (by decide) rfl (fun l25 H=>?_) (fun l25 H=>?_)
  ·conv=>whnf
   refine ⟨Nat.le_of_ble_eq_true rfl,?_⟩;conv=>whnf
   refine FootQ.mk ⟨rfl,?_⟩;conv=>whnf
   refine ⟨Nat.le_of_ble_eq_true rfl,?_⟩;conv=>whnf
   refine finR_c (enc:=Ref35State.v) H ?_;conv=>whnf
   exact ⟨_,.v (fzagg (.cons (.slw) (.cons (.slw) (.cons (.id rfl) (.cons (fzown (f:=V.s) (l:=l25) rfl rfl (fun _=>rfl) (fun _=>rfl)) (.cons (.slw) (.cons (.id rfl) (.cons (.id rfl) (.nil)))))))) rfl)⟩
  conv=>whnf
  refine ⟨Nat.le_of_ble_eq_true rfl,?_⟩;conv=>whnf
  refine FootQ.mk ⟨rfl,?_⟩;conv=>whnf
  refine ⟨Nat.le_of_ble_eq_true rfl,?_⟩;conv=>whnf
  refine finR_c (enc:=Ref35State.v) H ?_;conv=>whnf
  exact ⟨_,.v (fzagg (.cons (.slw) (.cons (.slw) (.cons (.id rfl) (.cons (fzown (f:=V.s) (l:=l25) rfl rfl (fun _=>rfl) (fun _=>rfl)) (.cons (.slw) (.cons (.id rfl) (.cons (.id rfl) (.nil)))))))) rfl)⟩
 conv=>whnf
 iterate 3 (refine Tst.T ?_;conv=>whnf)
 refine ixs_c (f:=V.s) H (fun _=>rfl) (fun x11 H=>?_);conv=>whnf
 iterate 4 (refine Tst.T ?_;conv=>whnf)
 refine tst_c H (fun b12 H=>?_) (fun b12 H=>?_)
 ·conv=>whnf
  refine Ari.w ?_;conv=>whnf
  exact again_c [17,18,19,20,21,22,23,24,25,26,27,28,29,30,31,32,11] n8 2 [] (⟨_,H,rfl,rfl⟩) (Nat.lt_succ_self _) (Nat.zero_le _) rfl (by kernel_rfl) (by kernel_rfl) rfl ⟨⟨rfl,rfl,rfl⟩,⟨⟨rfl,rfl,rfl⟩,trivial⟩⟩
 conv=>whnf
 obtain rfl:=Option.some.inj H
 have H:=HQ7
 try dsimp only at H
 refine slsH_c (f:=V.s) H (fun _=>rfl) (fun x13 H=>?_);conv=>whnf
 refine appE_c (f:=V.s) H (fun _=>rfl) rfl (.v (srcM (f:=V.s) (fun _=>rfl) _ _)) (by decide) rfl (fun H=>?_) (fun l14 H=>?_)
 ·conv=>whnf
  refine appN_c (f:=V.s) H (fun _=>rfl) (srcM (f:=V.s) (fun _=>rfl) _ _) rfl (.v (srcOwn (f:=V.s) (l:=[a1]) (fun _=>rfl) rfl rfl rfl)) (by decide) rfl (by simp) (fun l18 H=>?_);conv=>whnf
  refine slsE_c (f:=V.s) H (fun _=>rfl) (fun x19 H=>?_);conv=>whnf
  refine appP_c (f:=V.s) H (fun _=>rfl) rfl rfl (.v (srcM (f:=V.s) (fun _=>rfl) _ _)) (by decide) rfl (fun l20 H=>?_) (fun l20 H=>?_)
  ·conv=>whnf
   refine ⟨Nat.le_of_ble_eq_true rfl,?_⟩;conv=>whnf
   refine FootQ.mk ⟨rfl,?_⟩;conv=>whnf
   refine ⟨Nat.le_of_ble_eq_true rfl,?_⟩;conv=>whnf
   refine finR_c (enc:=Ref35State.v) H ?_;conv=>whnf
   exact ⟨_,.v (fzagg (.cons (.slw) (.cons (.slw) (.cons (.id rfl) (.cons (fzown (f:=V.s) (l:=l20) rfl rfl (fun _=>rfl) (fun _=>rfl)) (.cons (.slw) (.cons (.id rfl) (.cons (.id rfl) (.nil)))))))) rfl)⟩
  conv=>whnf
  refine ⟨Nat.le_of_ble_eq_true rfl,?_⟩;conv=>whnf
  refine FootQ.mk ⟨rfl,?_⟩;conv=>whnf
  refine ⟨Nat.le_of_ble_eq_true rfl,?_⟩;conv=>whnf
  refine finR_c (enc:=Ref35State.v) H ?_;conv=>whnf
  exact ⟨_,.v (fzagg (.cons (.slw) (.cons (.slw) (.cons (.id rfl) (.cons (fzown (f:=V.s) (l:=l20) rfl rfl (fun _=>rfl) (fun _=>rfl)) (.cons (.slw) (.cons (.id rfl) (.cons (.id rfl) (.nil)))))))) rfl)⟩
 conv=>whnf
 refine appO_c (f:=V.s) H (fun _=>rfl) rfl (Nat.le_refl _) (.v (srcOwn (f:=V.s) (l:=[a1]) (fun _=>rfl) rfl rfl rfl)) (by decide) rfl (by simp) (fun l15 H=>?_);conv=>whnf
 refine slsE_c (f:=V.s) H (fun _=>rfl) (fun x16 H=>?_);conv=>whnf
 refine appP_c (f:=V.s) H (fun _=>rfl) rfl rfl (.v (srcM (f:=V.s) (fun _=>rfl) _ _)) (by decide) rfl (fun l17 H=>?_) (fun l17 H=>?_)
 ·conv=>whnf
  refine ⟨Nat.le_of_ble_eq_true rfl,?_⟩;conv=>whnf
  refine FootQ.mk ⟨rfl,?_⟩;conv=>whnf
  refine ⟨Nat.le_of_ble_eq_true rfl,?_⟩;conv=>whnf
  refine finR_c (enc:=Ref35State.v) H ?_;conv=>whnf
  exact ⟨_,.v (fzagg (.cons (.slw) (.cons (.slw) (.cons (.id rfl) (.cons (fzown (f:=V.s) (l:=l17) rfl rfl (fun _=>rfl) (fun _=>rfl)) (.cons (.slw) (.cons (.id rfl) (.cons (.id rfl) (.nil)))))))) rfl)⟩
 conv=>whnf
 refine ⟨Nat.le_of_ble_eq_true rfl,?_⟩;conv=>whnf
 refine FootQ.mk ⟨rfl,?_⟩;conv=>whnf
 refine ⟨Nat.le_of_ble_eq_true rfl,?_⟩;conv=>whnf
 refine finR_c (enc:=Ref35State.v) H ?_;conv=>whnf
 exact ⟨_,.v (fzagg (.cons (.slw) (.cons (.slw) (.cons (.id rfl) (.cons (fzown (f:=V.s) (l:=l17) rfl rfl (fun _=>rfl) (fun _=>rfl)) (.cons (.slw) (.cons (.id rfl) (.cons (.id rfl) (.nil)))))))) rfl)⟩
def gc198:BCode:=(.seq (.reg 3 [⟨(some 2),.bx (.tmp 0),none,0⟩,⟨(some 3),.bx (.tmp 1),none,1⟩,⟨(some 4),.al (.agg [(.sl [] true),(.sl [] true),(.lit (.bool false)),(.sl [] true),(.sl [] true),(.lit (.int .i64 0)),(.lit (.int .i64 0))]),none,2⟩] none 0 []) (.seq (.reg 1 [⟨(some 13),.ld 8 true (.tmp 3),none,0⟩,⟨(some 14),.cl 239 [(.tmp 13)],none,0⟩,⟨(some 12),.mv (.tmp 14),none,0⟩,⟨(some 15),.ex (.tmp 12) 0,none,0⟩,⟨(some 16),.ex (.tmp 12) 1,none,0⟩,⟨(some 17),.ex (.tmp 12) 2,none,0⟩,⟨(some 18),.ex (.tmp 12) 3,none,0⟩,⟨(some 7),.al (.agg [(.lit (.bool false)),(.lit (.int .i64 0)),(.lit (.int .i64 0)),(.lit (.int .i64 0))]),none,0⟩,⟨(some 5),.mv (.tmp 15),none,1⟩,⟨(some 6),.mv (.tmp 16),none,1⟩,⟨none,.st 4 (.tmp 7) (.tmp 17),none,1⟩,⟨(some 8),.mv (.tmp 18),none,1⟩] none 0 []) (.seq (.seq (.reg 0 [⟨(some 19),.mv (.tmp 8),none,0⟩,⟨(some 20),.bin .neq (.tmp 19) (.const (.int .i64 0)),none,0⟩] none 0 []) (.cond (.tmp 20) (.seq (.reg 0 [⟨(some 21),.ld 7 true (.tmp 2),none,0⟩,⟨none,.st 7 (.tmp 4) (.tmp 21),none,0⟩] none 0 []) .ret) .skip)) (.seq (.reg 0 [⟨(some 22),.mv (.tmp 5),none,0⟩,⟨(some 23),.mv (.tmp 6),none,0⟩,⟨(some 24),.cl 240 [(.tmp 22),(.tmp 23)],none,0⟩,⟨(some 9),.mv (.tmp 24),none,0⟩] none 0 []) (.seq (.reg 1 [⟨(some 26),.fa 1 (.tmp 2),none,0⟩,⟨(some 27),.ld 1 false (.tmp 26),none,0⟩,⟨(some 28),.mv (.tmp 9),none,0⟩,⟨(some 29),.cl 241 [(.tmp 27),(.tmp 28)],none,0⟩,⟨(some 25),.mv (.tmp 29),none,0⟩,⟨(some 30),.ex (.tmp 25) 0,none,0⟩,⟨(some 31),.ex (.tmp 25) 1,none,0⟩,⟨(some 10),.al (.agg [(.lit (.bool false)),(.lit (.int .i64 0)),(.lit (.int .i64 0)),(.lit (.int .i64 0))]),none,0⟩,⟨none,.st 4 (.tmp 10) (.tmp 30),none,1⟩,⟨(some 11),.mv (.tmp 31),none,1⟩] none 0 []) (.seq (.seq (.reg 0 [⟨(some 32),.mv (.tmp 11),none,0⟩,⟨(some 33),.mv (.tmp 32),none,0⟩,⟨(some 34),.fa 3 (.tmp 10),(some (33,true)),0⟩,⟨(some 35),.ld 1 false (.tmp 34),(some (33,true)),0⟩,⟨(some 36),.fa 3 (.tmp 7),(some (33,true)),0⟩,⟨(some 37),.ld 1 false (.tmp 36),(some (33,true)),0⟩,⟨(some 38),.bin .gtr (.tmp 35) (.tmp 37),(some (33,true)),0⟩,⟨(some 39),.mv (.tmp 38),(some (33,true)),0⟩,⟨(some 40),.fa 3 (.tmp 10),(some (39,false)),0⟩,⟨(some 41),.ld 1 false (.tmp 40),(some (39,false)),0⟩,⟨(some 42),.fa 3 (.tmp 7),(some (39,false)),0⟩,⟨(some 43),.ld 1 false (.tmp 42),(some (39,false)),0⟩,⟨(some 44),.bin .eql (.tmp 41) (.tmp 43),(some (39,false)),0⟩,⟨(some 45),.mv (.tmp 44),(some (39,false)),0⟩,⟨(some 46),.fa 2 (.tmp 2),(some (45,true)),0⟩,⟨(some 47),.ld 1 false (.tmp 46),(some (45,true)),0⟩,⟨(some 48),.un .not (.tmp 47),(some (45,true)),0⟩,⟨(some 49),.pick (.tmp 45) (.tmp 48) (.const (.bool false)),(some (39,false)),0⟩,⟨(some 50),.pick (.tmp 39) (.const (.bool true)) (.tmp 49),(some (33,true)),0⟩,⟨(some 51),.pick (.tmp 33) (.tmp 50) (.const (.bool false)),none,0⟩] none 0 []) (.cond (.tmp 51) (.reg 0 [⟨(some 52),.fa 5 (.tmp 2),none,0⟩,⟨(some 53),.ld 1 false (.tmp 52),none,0⟩,⟨(some 54),.bin .add (.tmp 53) (.const (.int .i64 1)),none,0⟩,⟨(some 55),.mn false (.const (.int .i64 1099511627776)) (.tmp 54),none,0⟩,⟨(some 56),.fa 5 (.tmp 2),none,0⟩,⟨none,.st 1 (.tmp 56) (.tmp 55),none,0⟩] none 0 []) .skip)) (.seq (.reg 0 [⟨(some 57),.fa 1 (.tmp 2),none,0⟩,⟨(some 58),.ld 1 false (.tmp 57),none,0⟩,⟨(some 59),.mv (.tmp 9),none,0⟩,⟨(some 60),.ld 4 true (.tmp 7),none,0⟩,⟨(some 61),.bd [(.lit (.string ⟨#[]⟩)),(.lit (.bool false)),(.lit (.int .i64 0)),(.lit (.int .i64 0)),(.lit (.int .i64 0))] [(0,1,(.tmp 59)),(1,4,(.tmp 60))],none,0⟩,⟨(some 62),.cl 242 [(.tmp 58),(.tmp 61)],none,0⟩,⟨(some 63),.fa 1 (.tmp 2),none,0⟩,⟨none,.st 1 (.tmp 63) (.tmp 62),none,0⟩] none 0 []) (.seq (.seq (.reg 0 [⟨(some 64),.fa 0 (.tmp 7),none,0⟩,⟨(some 65),.ld 1 false (.tmp 64),none,0⟩] none 0 []) (.cond (.tmp 65) (.reg 0 [⟨(some 66),.fa 0 (.tmp 2),none,0⟩,⟨(some 67),.ld 1 false (.tmp 66),none,0⟩,⟨(some 68),.mv (.tmp 9),none,0⟩,⟨(some 69),.ld 4 true (.tmp 7),none,0⟩,⟨(some 70),.bd [(.lit (.string ⟨#[]⟩)),(.lit (.bool false)),(.lit (.int .i64 0)),(.lit (.int .i64 0)),(.lit (.int .i64 0))] [(0,1,(.tmp 68)),(1,4,(.tmp 69))],none,0⟩,⟨(some 71),.cl 242 [(.tmp 67),(.tmp 70)],none,0⟩,⟨(some 72),.fa 0 (.tmp 2),none,0⟩,⟨none,.st 1 (.tmp 72) (.tmp 71),none,0⟩] none 0 []) (.reg 0 [⟨(some 73),.fa 0 (.tmp 2),none,0⟩,⟨(some 74),.ld 1 false (.tmp 73),none,0⟩,⟨(some 75),.mv (.tmp 9),none,0⟩,⟨(some 76),.cl 243 [(.tmp 74),(.tmp 75)],none,0⟩,⟨(some 77),.fa 0 (.tmp 2),none,0⟩,⟨none,.st 1 (.tmp 77) (.tmp 76),none,0⟩] none 0 []))) (.seq (.seq (.reg 0 [⟨(some 78),.fa 2 (.tmp 2),none,0⟩,⟨(some 79),.ld 1 false (.tmp 78),none,0⟩] none 0 []) (.cond (.tmp 79) (.reg 0 [⟨(some 80),.ld 7 true (.tmp 2),none,0⟩,⟨(some 81),.mv (.tmp 9),none,0⟩,⟨(some 82),.cl 244 [(.tmp 80),(.tmp 81)],none,0⟩,⟨none,.st 7 (.tmp 2) (.tmp 82),none,0⟩] none 0 []) .skip)) (.seq (.reg 0 [⟨(some 83),.ld 7 true (.tmp 2),none,0⟩,⟨none,.st 7 (.tmp 4) (.tmp 83),none,0⟩] none 0 []) .ret))))))))))
theorem gc198_ok:compF Tryz.prog Tryz.f198=some (gc198.er,84,[.cell 4 7 true]):=by unfold gc198;kernel_rfl
theorem p_ref35_row_v {u1 u2 u3 u4:Bool} (a0:Ref35State) (a1:StanzaStanza):CallsO Tryz.prog 198 [.agg [.sl (List.map MailEntry.v a0.Rows) u1,.sl (List.map MailEntry.v a0.Last) u2,.b a0.Anew,.sl (List.map V.s a0.Seen) u3,.sl (List.map Ref35Contact.v a0.List) u4,.i a0.Odd,.i a0.Told],.agg [.y8 a1.Kind,.s a1.User,.s a1.Res,.s a1.Name,.i a1.Show,.i a1.Prio,.i a1.Code,.i a1.N]] Ref35State.v (p_ref35_row a0 a1):=by
 refine callsO_comp mix Tryz.func198 gc198_ok fun r H=>?_
 rw [p_ref35_row] at H
 conv=>whnf
 refine ask_c (p_ref23_Of_v _) H rfl rfl (fun v1 H=>?_);conv=>whnf
 refine ⟨Nat.le_of_ble_eq_true rfl,?_⟩;conv=>whnf
 refine tst_c H (fun b2 H=>?_) (fun b2 H=>?_)
 ·conv=>whnf
  refine ⟨Nat.le_of_ble_eq_true rfl,?_⟩;conv=>whnf
  refine finR_c (enc:=Ref35State.v) H ?_;conv=>whnf
  exact ⟨_,.v (fzagg (.cons (.slw) (.cons (.slw) (.cons (.id rfl) (.cons (.slw) (.cons (.slw) (.cons (.id rfl) (.cons (.id rfl) (.nil)))))))) rfl)⟩
 conv=>whnf
 refine ask_c (p_ref23_Key_v _ _) H rfl rfl (fun v3 H=>?_);conv=>whnf
 refine ask_c (p_ref35_find_v _ _) H rfl rfl (fun v4 H=>?_);conv=>whnf
 refine ⟨Nat.le_of_ble_eq_true rfl,?_⟩;conv=>whnf
 refine tst_d H (fun b5 H=>?_) (fun b5 H=>?_)
 ·conv=>whnf
  iterate 8 (refine Tst.F ?_;conv=>whnf)
  refine ask_c (p_ref35_with_v _ _) H rfl rfl (fun v35 H=>?_);conv=>whnf
  refine ⟨Nat.le_of_ble_eq_true rfl,?_⟩;conv=>whnf
  refine tst_c H (fun b36 H=>?_) (fun b36 H=>?_)
  ·conv=>whnf
   refine ask_c (p_ref35_with_v _ _) H rfl rfl (fun v37 H=>?_);conv=>whnf
   refine ⟨Nat.le_of_ble_eq_true rfl,?_⟩;conv=>whnf
   refine tst_d H (fun b38 H=>?_) (fun b38 H=>?_)
   ·conv=>whnf
    refine ⟨Nat.le_of_ble_eq_true rfl,?_⟩;conv=>whnf
    refine finR_c (enc:=Ref35State.v) H ?_;conv=>whnf
    exact ⟨_,.v (fzagg (.cons (.id rfl) (.cons (.id rfl) (.cons (.id rfl) (.cons (.slw) (.cons (.slw) (.cons (.id rfl) (.cons (.id rfl) (.nil)))))))) rfl)⟩
   conv=>whnf
   refine ask_c (p_ref35_see_v _ _) H rfl rfl (fun v39 H=>?_);conv=>whnf
   refine ⟨Nat.le_of_ble_eq_true rfl,?_⟩;conv=>whnf
   refine ⟨Nat.le_of_ble_eq_true rfl,?_⟩;conv=>whnf
   exact fin0_c (enc:=Ref35State.v) H (.inr rfl) (.cons (.cell rfl rfl (Nat.le_of_ble_eq_true rfl)) (.nil)) rfl rfl
  conv=>whnf
  refine ask_c (p_ref35_without_v _ _) H rfl rfl (fun v40 H=>?_);conv=>whnf
  refine ⟨Nat.le_of_ble_eq_true rfl,?_⟩;conv=>whnf
  refine tst_d H (fun b41 H=>?_) (fun b41 H=>?_)
  ·conv=>whnf
   refine ⟨Nat.le_of_ble_eq_true rfl,?_⟩;conv=>whnf
   refine finR_c (enc:=Ref35State.v) H ?_;conv=>whnf
   exact ⟨_,.v (fzagg (.cons (.id rfl) (.cons (.id rfl) (.cons (.id rfl) (.cons (.slw) (.cons (.slw) (.cons (.id rfl) (.cons (.id rfl) (.nil)))))))) rfl)⟩
  conv=>whnf
  refine ask_c (p_ref35_see_v _ _) H rfl rfl (fun v42 H=>?_);conv=>whnf
  refine ⟨Nat.le_of_ble_eq_true rfl,?_⟩;conv=>whnf
  refine ⟨Nat.le_of_ble_eq_true rfl,?_⟩;conv=>whnf
  exact fin0_c (enc:=Ref35State.v) H (.inr rfl) (.cons (.cell rfl rfl (Nat.le_of_ble_eq_true rfl)) (.nil)) rfl rfl
 conv=>whnf
 iterate 5 (refine Tst.T ?_;conv=>whnf)
 refine tst_c H (fun b6 H=>?_) (fun b6 H=>?_)
 ·conv=>whnf
  iterate 10 (refine Tst.T ?_;conv=>whnf)
  refine Ari.w ?_;conv=>whnf
  refine ⟨Nat.le_of_ble_eq_true rfl,?_⟩;conv=>whnf
  refine ask_c (p_ref35_with_v _ _) H rfl rfl (fun v7 H=>?_);conv=>whnf
  refine ⟨Nat.le_of_ble_eq_true rfl,?_⟩;conv=>whnf
  refine tst_c H (fun b8 H=>?_) (fun b8 H=>?_)
  ·conv=>whnf
   refine ask_c (p_ref35_with_v _ _) H rfl rfl (fun v9 H=>?_);conv=>whnf
   refine ⟨Nat.le_of_ble_eq_true rfl,?_⟩;conv=>whnf
   refine tst_d H (fun b10 H=>?_) (fun b10 H=>?_)
   ·conv=>whnf
    refine ⟨Nat.le_of_ble_eq_true rfl,?_⟩;conv=>whnf
    refine finR_c (enc:=Ref35State.v) H ?_;conv=>whnf
    exact ⟨_,.v (fzagg (.cons (.id rfl) (.cons (.id rfl) (.cons (.id rfl) (.cons (.slw) (.cons (.slw) (.cons (.id rfl) (.cons (.id rfl) (.nil)))))))) rfl)⟩
   conv=>whnf
   refine ask_c (p_ref35_see_v _ _) H rfl rfl (fun v11 H=>?_);conv=>whnf
   refine ⟨Nat.le_of_ble_eq_true rfl,?_⟩;conv=>whnf
   refine ⟨Nat.le_of_ble_eq_true rfl,?_⟩;conv=>whnf
   exact fin0_c (enc:=Ref35State.v) H (.inr rfl) (.cons (.cell rfl rfl (Nat.le_of_ble_eq_true rfl)) (.nil)) rfl rfl
  conv=>whnf
  refine ask_c (p_ref35_without_v _ _) H rfl rfl (fun v12 H=>?_);conv=>whnf
  refine ⟨Nat.le_of_ble_eq_true rfl,?_⟩;conv=>whnf
  refine tst_d H (fun b13 H=>?_) (fun b13 H=>?_)
  ·conv=>whnf
   refine ⟨Nat.le_of_ble_eq_true rfl,?_⟩;conv=>whnf
   refine finR_c (enc:=Ref35State.v) H ?_;conv=>whnf
   exact ⟨_,.v (fzagg (.cons (.id rfl) (.cons (.id rfl) (.cons (.id rfl) (.cons (.slw) (.cons (.slw) (.cons (.id rfl) (.cons (.id rfl) (.nil)))))))) rfl)⟩
  conv=>whnf
  refine ask_c (p_ref35_see_v _ _) H rfl rfl (fun v14 H=>?_);conv=>whnf
  refine ⟨Nat.le_of_ble_eq_true rfl,?_⟩;conv=>whnf
  refine ⟨Nat.le_of_ble_eq_true rfl,?_⟩;conv=>whnf
  exact fin0_c (enc:=Ref35State.v) H (.inr rfl) (.cons (.cell rfl rfl (Nat.le_of_ble_eq_true rfl)) (.nil)) rfl rfl
 conv=>whnf
 iterate 5 (refine Tst.F ?_;conv=>whnf)
 refine tst_d H (fun b15 H=>?_) (fun b15 H=>?_)
 ·conv=>whnf
  iterate 4 (refine Tst.F ?_;conv=>whnf)
  refine Tst.T ?_;conv=>whnf
  refine Tst.F ?_;conv=>whnf
  refine Tst.T ?_;conv=>whnf
  refine Tst.F ?_;conv=>whnf
  refine ask_c (p_ref35_with_v _ _) H rfl rfl (fun v27 H=>?_);conv=>whnf
  refine ⟨Nat.le_of_ble_eq_true rfl,?_⟩;conv=>whnf
  refine tst_c H (fun b28 H=>?_) (fun b28 H=>?_)
  ·conv=>whnf
   refine ask_c (p_ref35_with_v _ _) H rfl rfl (fun v29 H=>?_);conv=>whnf
   refine ⟨Nat.le_of_ble_eq_true rfl,?_⟩;conv=>whnf
   refine tst_d H (fun b30 H=>?_) (fun b30 H=>?_)
   ·conv=>whnf
    refine ⟨Nat.le_of_ble_eq_true rfl,?_⟩;conv=>whnf
    refine finR_c (enc:=Ref35State.v) H ?_;conv=>whnf
    exact ⟨_,.v (fzagg (.cons (.id rfl) (.cons (.id rfl) (.cons (.id rfl) (.cons (.slw) (.cons (.slw) (.cons (.id rfl) (.cons (.id rfl) (.nil)))))))) rfl)⟩
   conv=>whnf
   refine ask_c (p_ref35_see_v _ _) H rfl rfl (fun v31 H=>?_);conv=>whnf
   refine ⟨Nat.le_of_ble_eq_true rfl,?_⟩;conv=>whnf
   refine ⟨Nat.le_of_ble_eq_true rfl,?_⟩;conv=>whnf
   exact fin0_c (enc:=Ref35State.v) H (.inr rfl) (.cons (.cell rfl rfl (Nat.le_of_ble_eq_true rfl)) (.nil)) rfl rfl
  conv=>whnf
  refine ask_c (p_ref35_without_v _ _) H rfl rfl (fun v32 H=>?_);conv=>whnf
  refine ⟨Nat.le_of_ble_eq_true rfl,?_⟩;conv=>whnf
  refine tst_d H (fun b33 H=>?_) (fun b33 H=>?_)
  ·conv=>whnf
   refine ⟨Nat.le_of_ble_eq_true rfl,?_⟩;conv=>whnf
   refine finR_c (enc:=Ref35State.v) H ?_;conv=>whnf
   exact ⟨_,.v (fzagg (.cons (.id rfl) (.cons (.id rfl) (.cons (.id rfl) (.cons (.slw) (.cons (.slw) (.cons (.id rfl) (.cons (.id rfl) (.nil)))))))) rfl)⟩
  conv=>whnf
  refine ask_c (p_ref35_see_v _ _) H rfl rfl (fun v34 H=>?_);conv=>whnf
  refine ⟨Nat.le_of_ble_eq_true rfl,?_⟩;conv=>whnf
  refine ⟨Nat.le_of_ble_eq_true rfl,?_⟩;conv=>whnf
  exact fin0_c (enc:=Ref35State.v) H (.inr rfl) (.cons (.cell rfl rfl (Nat.le_of_ble_eq_true rfl)) (.nil)) rfl rfl
 conv=>whnf
 iterate 2 (refine Tst.T ?_;conv=>whnf)
 refine Tst.F ?_;conv=>whnf
 iterate 2 (refine Tst.T ?_;conv=>whnf)
 refine Tst.F ?_;conv=>whnf
 refine Tst.T ?_;conv=>whnf
 refine Tst.not ?_
 refine tst_c H (fun b16 H=>?_) (fun b16 H=>?_)
 ·conv=>whnf
  refine ask_c (p_ref35_with_v _ _) H rfl rfl (fun v17 H=>?_);conv=>whnf
  refine ⟨Nat.le_of_ble_eq_true rfl,?_⟩;conv=>whnf
  refine tst_c H (fun b18 H=>?_) (fun b18 H=>?_)
  ·conv=>whnf
   refine ask_c (p_ref35_with_v _ _) H rfl rfl (fun v19 H=>?_);conv=>whnf
   refine ⟨Nat.le_of_ble_eq_true rfl,?_⟩;conv=>whnf
   refine Tst.isT b16 ?_;conv=>whnf
   refine ask_c (p_ref35_see_v _ _) H rfl rfl (fun v20 H=>?_);conv=>whnf
   refine ⟨Nat.le_of_ble_eq_true rfl,?_⟩;conv=>whnf
   refine ⟨Nat.le_of_ble_eq_true rfl,?_⟩;conv=>whnf
   exact fin0_c (enc:=Ref35State.v) H (.inr rfl) (.cons (.cell rfl rfl (Nat.le_of_ble_eq_true rfl)) (.nil)) rfl rfl
  conv=>whnf
  refine ask_c (p_ref35_without_v _ _) H rfl rfl (fun v21 H=>?_);conv=>whnf
  refine ⟨Nat.le_of_ble_eq_true rfl,?_⟩;conv=>whnf
  refine Tst.isT b16 ?_;conv=>whnf
  refine ask_c (p_ref35_see_v _ _) H rfl rfl (fun v22 H=>?_);conv=>whnf
  refine ⟨Nat.le_of_ble_eq_true rfl,?_⟩;conv=>whnf
  refine ⟨Nat.le_of_ble_eq_true rfl,?_⟩;conv=>whnf
  exact fin0_c (enc:=Ref35State.v) H (.inr rfl) (.cons (.cell rfl rfl (Nat.le_of_ble_eq_true rfl)) (.nil)) rfl rfl
 conv=>whnf
 refine Ari.w ?_;conv=>whnf
 refine ⟨Nat.le_of_ble_eq_true rfl,?_⟩;conv=>whnf
 refine ask_c (p_ref35_with_v _ _) H rfl rfl (fun v23 H=>?_);conv=>whnf
 refine ⟨Nat.le_of_ble_eq_true rfl,?_⟩;conv=>whnf
 refine tst_c H (fun b24 H=>?_) (fun b24 H=>?_)
 ·conv=>whnf
  refine ask_c (p_ref35_with_v _ _) H rfl rfl (fun v25 H=>?_);conv=>whnf
  refine ⟨Nat.le_of_ble_eq_true rfl,?_⟩;conv=>whnf
  refine Tst.isF b16 ?_;conv=>whnf
  refine ⟨Nat.le_of_ble_eq_true rfl,?_⟩;conv=>whnf
  refine finR_c (enc:=Ref35State.v) H ?_;conv=>whnf
  exact ⟨_,.v (fzagg (.cons (.id rfl) (.cons (.id rfl) (.cons (.id rfl) (.cons (.slw) (.cons (.slw) (.cons (.id rfl) (.cons (.id rfl) (.nil)))))))) rfl)⟩
 conv=>whnf
 refine ask_c (p_ref35_without_v _ _) H rfl rfl (fun v26 H=>?_);conv=>whnf
 refine ⟨Nat.le_of_ble_eq_true rfl,?_⟩;conv=>whnf
 refine Tst.isF b16 ?_;conv=>whnf
 refine ⟨Nat.le_of_ble_eq_true rfl,?_⟩;conv=>whnf
 refine finR_c (enc:=Ref35State.v) H ?_;conv=>whnf
 exact ⟨_,.v (fzagg (.cons (.id rfl) (.cons (.id rfl) (.cons (.id rfl) (.cons (.slw) (.cons (.slw) (.cons (.id rfl) (.cons (.id rfl) (.nil)))))))) rfl)⟩
end Go.Proofs.YtpmoioopjbfhkaaGreat

/- That the program's functions yield what the plain ones tell (written by a program of mine). -/
namespace Go.Proofs.YtpmoioopjbfhkaaGreat
open Go.RowKit
set_option maxRecDepth 100000
set_option maxHeartbeats 4000000
def gc199:BCode:=(.seq (.reg 3 [⟨(some 2),.bx (.tmp 0),none,0⟩,⟨(some 3),.bx (.tmp 1),none,1⟩,⟨(some 4),.al (.agg [(.sl [] true),(.sl [] true),(.lit (.bool false)),(.sl [] true),(.sl [] true),(.lit (.int .i64 0)),(.lit (.int .i64 0))]),none,2⟩] none 0 []) (.seq (.reg 0 [⟨(some 5),.mv (.const (.slice none 0 0)),none,0⟩] none 0 []) (.seq (.reg 0 [⟨(some 6),.mv (.const (.bool false)),none,0⟩] none 0 []) (.seq (.seq (.reg 0 [⟨(some 7),.mv (.const (.int .i64 0)),none,0⟩] none 0 []) (.block 0 (.loop (.seq (.seq (.reg 0 [⟨(some 10),.mv (.tmp 7),none,0⟩,⟨(some 11),.fa 4 (.tmp 2),none,0⟩,⟨(some 12),.ld 1 false (.tmp 11),none,0⟩,⟨(some 13),.lens (.tmp 12),none,0⟩,⟨(some 14),.bin .lss (.tmp 10) (.tmp 13),none,0⟩] none 0 []) (.cond (.tmp 14) .skip (.exit 0))) (.seq (.block 1 (.seq (.reg 0 [⟨(some 17),.fa 4 (.tmp 2),none,0⟩,⟨(some 18),.ld 1 false (.tmp 17),none,0⟩,⟨(some 19),.mv (.tmp 7),none,0⟩,⟨(some 20),.ixs 4 (.tmp 18) (.tmp 19),none,0⟩,⟨(some 21),.fa 0 (.tmp 20),none,0⟩,⟨(some 22),.ld 1 false (.tmp 21),none,0⟩,⟨(some 23),.fa 1 (.tmp 3),none,0⟩,⟨(some 24),.ld 1 false (.tmp 23),none,0⟩,⟨(some 25),.bin .eql (.tmp 22) (.tmp 24),none,0⟩] (some [[],[0],[],[2,0,1],[1,0,2,3],[3,2,0,1,4],[],[6],[6,7,4,1,0,2,3,5]]) 0 []) (.cond (.tmp 25) (.reg 0 [⟨(some 6),.mv (.const (.bool true)),none,0⟩] none 0 []) (.reg 2 [⟨(some 26),.mv (.tmp 5),none,0⟩,⟨(some 27),.fa 4 (.tmp 2),none,0⟩,⟨(some 28),.ld 1 false (.tmp 27),none,0⟩,⟨(some 29),.mv (.tmp 7),none,0⟩,⟨(some 30),.ixs 4 (.tmp 28) (.tmp 29),none,0⟩,⟨(some 31),.ld 4 true (.tmp 30),none,0⟩,⟨(some 32),.bs 4 1 [(.lit (.string ⟨#[]⟩)),(.lit (.string ⟨#[]⟩)),(.lit (.int .i64 0)),(.lit (.int .i64 0))] [(0,(.tmp 31))],none,0⟩,⟨(some 33),.ap 4 48 (.tmp 26) (.tmp 32),none,1⟩,⟨(some 5),.mv (.tmp 33),none,2⟩] none 0 [])))) (.reg 0 [⟨(some 15),.mv (.tmp 7),none,0⟩,⟨(some 16),.bin .add (.tmp 15) (.const (.int .i64 1)),none,0⟩,⟨(some 7),.mv (.tmp 16),none,0⟩] none 0 [])))))) (.seq (.join (.reg 0 [⟨(some 34),.fa 0 (.tmp 3),none,0⟩,⟨(some 35),.ld 1 false (.tmp 34),none,0⟩,⟨(some 36),.bin .eql (.tmp 35) (.const (.int .u8 38)),none,0⟩,⟨(some 37),.mv (.tmp 36),none,0⟩,⟨(some 38),.mv (.tmp 6),(some (37,true)),0⟩,⟨(some 39),.mv (.tmp 38),(some (37,true)),0⟩,⟨(some 40),.fa 4 (.tmp 2),(some (39,false)),0⟩,⟨(some 41),.ld 1 false (.tmp 40),(some (39,false)),0⟩,⟨(some 42),.lens (.tmp 41),(some (39,false)),0⟩,⟨(some 43),.bin .lss (.tmp 42) (.const (.int .i64 64)),(some (39,false)),0⟩,⟨(some 44),.pick (.tmp 39) (.const (.bool true)) (.tmp 43),(some (37,true)),0⟩,⟨(some 45),.pick (.tmp 37) (.tmp 44) (.const (.bool false)),none,0⟩] none 0 []) (.cond (.tmp 45) (.seq (.reg 0 [⟨(some 8),.mv (.const (.int .i64 0)),none,0⟩] none 0 []) (.seq (.block 2 (.loop (.seq (.seq (.reg 0 [⟨(some 46),.mv (.tmp 8),none,0⟩,⟨(some 47),.mv (.tmp 5),none,0⟩,⟨(some 48),.lens (.tmp 47),none,0⟩,⟨(some 49),.bin .lss (.tmp 46) (.tmp 48),none,0⟩,⟨(some 50),.mv (.tmp 49),none,0⟩,⟨(some 51),.mv (.tmp 5),(some (50,true)),0⟩,⟨(some 52),.mv (.tmp 8),(some (50,true)),0⟩,⟨(some 53),.ixs 4 (.tmp 51) (.tmp 52),(some (50,true)),0⟩,⟨(some 54),.fa 0 (.tmp 53),(some (50,true)),0⟩,⟨(some 55),.ld 1 false (.tmp 54),(some (50,true)),0⟩,⟨(some 56),.fa 1 (.tmp 3),(some (50,true)),0⟩,⟨(some 57),.ld 1 false (.tmp 56),(some (50,true)),0⟩,⟨(some 58),.bin .lss (.tmp 55) (.tmp 57),(some (50,true)),0⟩,⟨(some 59),.pick (.tmp 50) (.tmp 58) (.const (.bool false)),none,0⟩] (some [[],[],[1],[1,2,0],[0,2,1,3],[3,1,2,0,4],[3,1,2,0,4],[6,4,0,2,1,3,5],[5,3,1,2,0,4,6,7],[7,6,4,0,2,1,3,5,8],[3,1,2,0,4],[4,0,2,1,3,10],[10,11,8,5,3,1,2,0,4,6,7,9],[9,7,6,5,8,11,10,12,3,1,2,0,4]]) 0 []) (.cond (.tmp 59) .skip (.exit 2))) (.block 3 (.reg 0 [⟨(some 60),.mv (.tmp 8),none,0⟩,⟨(some 61),.bin .add (.tmp 60) (.const (.int .i64 1)),none,0⟩,⟨(some 8),.mv (.tmp 61),none,0⟩] none 0 []))))) (.seq (.reg 0 [⟨(some 9),.mv (.const (.slice none 0 0)),none,0⟩] none 0 []) (.reg 4 [⟨(some 62),.mv (.tmp 9),none,0⟩,⟨(some 63),.mv (.tmp 5),none,0⟩,⟨(some 64),.mv (.tmp 8),none,0⟩,⟨(some 65),.sls 4 (.tmp 63) none (some (.tmp 64)) none,none,0⟩,⟨(some 66),.ap 4 48 (.tmp 62) (.tmp 65),none,0⟩,⟨(some 67),.fa 1 (.tmp 3),none,1⟩,⟨(some 68),.ld 1 false (.tmp 67),none,1⟩,⟨(some 69),.fa 3 (.tmp 3),none,1⟩,⟨(some 70),.ld 1 false (.tmp 69),none,1⟩,⟨(some 71),.fa 4 (.tmp 3),none,1⟩,⟨(some 72),.ld 1 false (.tmp 71),none,1⟩,⟨(some 73),.fa 7 (.tmp 3),none,1⟩,⟨(some 74),.ld 1 false (.tmp 73),none,1⟩,⟨(some 75),.bd [(.lit (.string ⟨#[]⟩)),(.lit (.string ⟨#[]⟩)),(.lit (.int .i64 0)),(.lit (.int .i64 0))] [(0,1,(.tmp 68)),(1,1,(.tmp 70)),(2,1,(.tmp 72)),(3,1,(.tmp 74))],none,1⟩,⟨(some 76),.bs 4 1 [(.lit (.string ⟨#[]⟩)),(.lit (.string ⟨#[]⟩)),(.lit (.int .i64 0)),(.lit (.int .i64 0))] [(0,(.tmp 75))],none,1⟩,⟨(some 77),.ap 4 48 (.tmp 66) (.tmp 76),none,2⟩,⟨(some 78),.mv (.tmp 5),none,3⟩,⟨(some 79),.mv (.tmp 8),none,3⟩,⟨(some 80),.sls 4 (.tmp 78) (some (.tmp 79)) none none,none,3⟩,⟨(some 81),.ap 4 48 (.tmp 77) (.tmp 80),none,3⟩,⟨(some 5),.mv (.tmp 81),none,4⟩] (some [[],[],[],[2,1],[1,2,3,0],[],[5],[],[7],[],[9],[],[11],[11,12,9,10,7,8,5,6],[6,5,8,7,10,9,12,11,13],[13,11,12,9,10,7,8,5,6,14,0,3,2,1,4],[],[],[17,16],[16,17,18,4,1,2,3,0,14,6,5,8,7,10,9,12,11,13,15],[15,13,11,12,9,10,7,8,5,6,14,0,3,2,1,4,18,17,16,19]]) 0 [])))) .skip)) (.seq (.reg 0 [⟨(some 82),.mv (.tmp 5),none,0⟩,⟨(some 83),.fa 4 (.tmp 2),none,0⟩,⟨none,.st 1 (.tmp 83) (.tmp 82),none,0⟩] none 0 []) (.seq (.reg 0 [⟨(some 84),.ld 7 true (.tmp 2),none,0⟩,⟨none,.st 7 (.tmp 4) (.tmp 84),none,0⟩] none 0 []) .ret)))))))
theorem gc199_ok:compF Tryz.prog Tryz.f199=some (gc199.er,85,[.cell 4 7 true]):=by unfold gc199;kernel_rfl
theorem p_ref35_list_v {u1 u2 u3 u4:Bool} (a0:Ref35State) (a1:StanzaStanza):CallsO Tryz.prog 199 [.agg [.sl (List.map MailEntry.v a0.Rows) u1,.sl (List.map MailEntry.v a0.Last) u2,.b a0.Anew,.sl (List.map V.s a0.Seen) u3,.sl (List.map Ref35Contact.v a0.List) u4,.i a0.Odd,.i a0.Told],.agg [.y8 a1.Kind,.s a1.User,.s a1.Res,.s a1.Name,.i a1.Show,.i a1.Prio,.i a1.Code,.i a1.N]] Ref35State.v (p_ref35_list a0 a1):=by
 refine callsO_comp mix Tryz.func199 gc199_ok fun r H=>?_
 rw [p_ref35_list] at H
 conv=>whnf
 obtain ⟨o2,HL3,HQ4⟩:=bind_c H
 refine loop_c [5,6,7] [10,11,12,13,14,15,16,17,18,19,20,21,22,23,24,25,26,27,28,29,30,31,32,33] [10,11,12,13,14,15,16,17,18,19,20,21,22,23,24,25,26,27,28,29,30,31,32,33] (fun n vals st=>(∃ y6 y7,p_ref35_list_l1  a0 a1 n [] y6 y7=some o2∧vals=[.sl (List.map Ref35Contact.v []) true,.b y6,.i y7]∧st=[.live [.sl (List.map MailEntry.v a0.Rows) u1,.sl (List.map MailEntry.v a0.Last) u2,.b a0.Anew,.sl (List.map V.s a0.Seen) u3,.sl (List.map Ref35Contact.v a0.List) u4,.i a0.Odd,.i a0.Told] 0,.live [.y8 a1.Kind,.s a1.User,.s a1.Res,.s a1.Name,.i a1.Show,.i a1.Prio,.i a1.Code,.i a1.N] 0,.live [.sl (List.map MailEntry.v []) true,.sl (List.map MailEntry.v []) true,.b false,.sl (List.map V.s []) true,.sl (List.map Ref35Contact.v []) true,.i (0:Int),.i (0:Int)] 0])∨(∃ y13 y14 y15,p_ref35_list_l1  a0 a1 n y13 y14 y15=some o2∧vals=[.osl 3 0 (List.length y13) 4 false,.b y14,.i y15]∧st=[.live [.sl (List.map MailEntry.v a0.Rows) u1,.sl (List.map MailEntry.v a0.Last) u2,.b a0.Anew,.sl (List.map V.s a0.Seen) u3,.sl (List.map Ref35Contact.v a0.List) u4,.i a0.Odd,.i a0.Told] 0,.live [.y8 a1.Kind,.s a1.User,.s a1.Res,.s a1.Name,.i a1.Show,.i a1.Prio,.i a1.Code,.i a1.N] 0,.live [.sl (List.map MailEntry.v []) true,.sl (List.map MailEntry.v []) true,.b false,.sl (List.map V.s []) true,.sl (List.map Ref35Contact.v []) true,.i (0:Int),.i (0:Int)] 0,.live (cellsM Ref35Contact.v y13) (cellsM Ref35Contact.v y13).length])) fuel 3 [] (.inl (⟨_,_,HL3,rfl,rfl⟩)) (Nat.zero_le _) rfl (by kernel_rfl) (by kernel_rfl) rfl ⟨⟨rfl,rfl,rfl⟩,⟨⟨rfl,rfl,rfl⟩,⟨⟨rfl,rfl,rfl⟩,trivial⟩⟩⟩ ?_
 rintro (_ | n5) _ _ (⟨y6,y7,H,rfl,rfl⟩ | ⟨y13,y14,y15,H,rfl,rfl⟩)
 ·rw [p_ref35_list_l1] at H;cases H
 ·rw [p_ref35_list_l1] at H;cases H
 ·rw [p_ref35_list_l1] at H
  conv=>whnf
  refine LenQ.M ?_;conv=>whnf
  refine tst_c H (fun b8 H=>?_) (fun b8 H=>?_)
  ·conv=>whnf
   refine ixs_c (f:=Ref35Contact.v) H (fun _=>rfl) (fun x9 H=>?_);conv=>whnf
   refine ⟨Nat.le_of_ble_eq_true rfl,?_⟩;conv=>whnf
   refine FootQ.mk ⟨rfl,?_⟩;conv=>whnf
   refine tst_c H (fun b10 H=>?_) (fun b10 H=>?_)
   ·conv=>whnf
    refine Ari.w ?_;conv=>whnf
    exact again_c [10,11,12,13,14,15,16,17,18,19,20,21,22,23,24,25,26,27,28,29,30,31,32,33] n5 3 [] (.inl (⟨_,_,H,rfl,rfl⟩)) (Nat.lt_succ_self _) (Nat.zero_le _) rfl (by kernel_rfl) (by kernel_rfl) rfl ⟨⟨rfl,rfl,rfl⟩,⟨⟨rfl,rfl,rfl⟩,⟨⟨rfl,rfl,rfl⟩,trivial⟩⟩⟩
   conv=>whnf
   refine ixs_c (f:=Ref35Contact.v) H (fun _=>rfl) (fun x11 H=>?_);conv=>whnf
   refine appN_c (f:=Ref35Contact.v) H (fun _=>rfl) (srcM (f:=Ref35Contact.v) (fun _=>rfl) _ _) rfl (.v (srcOwn (f:=Ref35Contact.v) (l:=[x11]) (fun _=>rfl) rfl rfl rfl)) (by decide) rfl (by simp) (fun l12 H=>?_);conv=>whnf
   refine Ari.w ?_;conv=>whnf
   exact again_c [10,11,12,13,14,15,16,17,18,19,20,21,22,23,24,25,26,27,28,29,30,31,32,33] n5 4 [0,1,2,4] (.inr (⟨_,_,_,H,rfl,rfl⟩)) (Nat.lt_succ_self _) (Nat.zero_le _) rfl (by kernel_rfl) (by kernel_rfl) rfl ⟨⟨rfl,rfl,rfl⟩,⟨⟨rfl,rfl,rfl⟩,⟨⟨rfl,rfl,rfl⟩,wkB_live0 rfl (cellsM_idlt (f:=Ref35Contact.v) (fun _=>rfl) _) rfl trivial⟩⟩⟩
  conv=>whnf
  obtain rfl:=Option.some.inj H
  have H:=HQ4
  try dsimp only at H
  obtain ⟨K16,hK17,o18,HL19,HQ20⟩:=join0_c H
  refine join_c [45,2,3,4] [34,35,36,37,38,39,40,41,42,43,44,11] (fun vals st=>(∃ y24,K16 y24=some r∧vals=[.b y24,.ptr 0 0,.ptr 1 0,.ptr 2 0]∧st=[.live [.sl (List.map MailEntry.v a0.Rows) u1,.sl (List.map MailEntry.v a0.Last) u2,.b a0.Anew,.sl (List.map V.s a0.Seen) u3,.sl (List.map Ref35Contact.v a0.List) u4,.i a0.Odd,.i a0.Told] 0,.live [.y8 a1.Kind,.s a1.User,.s a1.Res,.s a1.Name,.i a1.Show,.i a1.Prio,.i a1.Code,.i a1.N] 0,.live [.sl (List.map MailEntry.v []) true,.sl (List.map MailEntry.v []) true,.b false,.sl (List.map V.s []) true,.sl (List.map Ref35Contact.v []) true,.i (0:Int),.i (0:Int)] 0])) ?_ ?_
  ·have H:=HL19
   conv=>whnf
   refine tst_d H (fun b22 H=>?_) (fun b22 H=>?_)
   ·conv=>whnf
    iterate 3 (refine Tst.F ?_;conv=>whnf)
    obtain rfl:=Option.some.inj H
    exact arrive_c [34,35,36,37,38,39,40,41,42,43,44,11] 3 [] (⟨_,HQ20,rfl,rfl⟩) (Nat.zero_le _) rfl (by kernel_rfl) (by kernel_rfl) rfl ⟨⟨rfl,rfl,rfl⟩,⟨⟨rfl,rfl,rfl⟩,⟨⟨rfl,rfl,rfl⟩,trivial⟩⟩⟩
   conv=>whnf
   refine Tst.T ?_;conv=>whnf
   refine tst_c H (fun b23 H=>?_) (fun b23 H=>?_)
   ·conv=>whnf
    iterate 6 (refine Tst.T ?_;conv=>whnf)
    obtain rfl:=Option.some.inj H
    exact arrive_c [34,35,36,37,38,39,40,41,42,43,44,11] 3 [] (⟨_,HQ20,rfl,rfl⟩) (Nat.zero_le _) rfl (by kernel_rfl) (by kernel_rfl) rfl ⟨⟨rfl,rfl,rfl⟩,⟨⟨rfl,rfl,rfl⟩,⟨⟨rfl,rfl,rfl⟩,trivial⟩⟩⟩
   conv=>whnf
   iterate 2 (refine Tst.F ?_;conv=>whnf)
   refine LenQ.M ?_;conv=>whnf
   refine Tst.F ?_;conv=>whnf
   refine Tst.T ?_;conv=>whnf
   refine Tst.F ?_;conv=>whnf
   refine Tst.T ?_;conv=>whnf
   obtain rfl:=Option.some.inj H
   exact arrive_c [34,35,36,37,38,39,40,41,42,43,44,11] 3 [] (⟨_,HQ20,rfl,rfl⟩) (Nat.zero_le _) rfl (by kernel_rfl) (by kernel_rfl) rfl ⟨⟨rfl,rfl,rfl⟩,⟨⟨rfl,rfl,rfl⟩,⟨⟨rfl,rfl,rfl⟩,trivial⟩⟩⟩
  rintro _ _ (⟨y24,H,rfl,rfl⟩)
  rw [hK17] at H
  try dsimp only at H
  conv=>whnf
  refine tst_d H (fun b25 H=>?_) (fun b25 H=>?_)
  ·conv=>whnf
   refine ⟨Nat.le_of_ble_eq_true rfl,?_⟩;conv=>whnf
   refine ⟨Nat.le_of_ble_eq_true rfl,?_⟩;conv=>whnf
   refine finR_c (enc:=Ref35State.v) H ?_;conv=>whnf
   exact ⟨_,.v (fzagg (.cons (.slw) (.cons (.slw) (.cons (.id rfl) (.cons (.slw) (.cons (.slw) (.cons (.id rfl) (.cons (.id rfl) (.nil)))))))) rfl)⟩
  conv=>whnf
  obtain ⟨o27,HL28,HQ29⟩:=bind_c H
  refine loop_c [8] [46,47,48,49,50,51,52,53,54,55,56,57,58,59,60,61] [46,47,48,49,50,51,52,53,54,55,56,57,58,59,60,61] (fun n vals st=>(∃ y31,p_ref35_list_l2  [] a1 n y31=some o27∧vals=[.i y31]∧st=[.live [.sl (List.map MailEntry.v a0.Rows) u1,.sl (List.map MailEntry.v a0.Last) u2,.b a0.Anew,.sl (List.map V.s a0.Seen) u3,.sl (List.map Ref35Contact.v a0.List) u4,.i a0.Odd,.i a0.Told] 0,.live [.y8 a1.Kind,.s a1.User,.s a1.Res,.s a1.Name,.i a1.Show,.i a1.Prio,.i a1.Code,.i a1.N] 0,.live [.sl (List.map MailEntry.v []) true,.sl (List.map MailEntry.v []) true,.b false,.sl (List.map V.s []) true,.sl (List.map Ref35Contact.v []) true,.i (0:Int),.i (0:Int)] 0])) fuel 3 [] (⟨_,HL28,rfl,rfl⟩) (Nat.zero_le _) rfl (by kernel_rfl) (by kernel_rfl) rfl ⟨⟨rfl,rfl,rfl⟩,⟨⟨rfl,rfl,rfl⟩,⟨⟨rfl,rfl,rfl⟩,trivial⟩⟩⟩ ?_
  rintro (_ | n30) _ _ (⟨y31,H,rfl,rfl⟩)
  ·rw [p_ref35_list_l2] at H;cases H
  rw [p_ref35_list_l2] at H
  conv=>whnf
  refine LenQ.ok ?_;conv=>whnf
  refine tst_c H (fun b32 H=>?_) (fun b32 H=>?_)
  ·conv=>whnf
   iterate 2 (refine Tst.T ?_;conv=>whnf)
   exact nil_at H
  conv=>whnf
  iterate 8 (refine Tst.F ?_;conv=>whnf)
  refine FootQ.mk ⟨rfl,?_⟩;conv=>whnf
  refine Tst.F ?_;conv=>whnf
  obtain rfl:=Option.some.inj H
  have H:=HQ29
  try dsimp only at H
  refine slsH_c (f:=Ref35Contact.v) H (fun _=>rfl) (fun x33 H=>?_);conv=>whnf
  refine appE_c (f:=Ref35Contact.v) H (fun _=>rfl) rfl (.v (srcM (f:=Ref35Contact.v) (fun _=>rfl) _ _)) (by decide) rfl (fun H=>?_) (fun l34 H=>?_)
  ·conv=>whnf
   refine appN_c (f:=Ref35Contact.v) H (fun _=>rfl) (srcM (f:=Ref35Contact.v) (fun _=>rfl) _ _) rfl (.v (srcOwn (f:=Ref35Contact.v) (l:=[(Ref35Contact.mk a1.User a1.Name a1.Show a1.N)]) (fun _=>rfl) rfl rfl rfl)) (by decide) rfl (by simp) (fun l38 H=>?_);conv=>whnf
   refine slsE_c (f:=Ref35Contact.v) H (fun _=>rfl) (fun x39 H=>?_);conv=>whnf
   refine appP_c (f:=Ref35Contact.v) H (fun _=>rfl) rfl rfl (.v (srcM (f:=Ref35Contact.v) (fun _=>rfl) _ _)) (by decide) rfl (fun l40 H=>?_) (fun l40 H=>?_)
   ·conv=>whnf
    refine FootQ.mk ⟨rfl,?_⟩;conv=>whnf
    refine ⟨Nat.le_of_ble_eq_true rfl,?_⟩;conv=>whnf
    refine ⟨Nat.le_of_ble_eq_true rfl,?_⟩;conv=>whnf
    refine finR_c (enc:=Ref35State.v) H ?_;conv=>whnf
    exact ⟨_,.v (fzagg (.cons (.slw) (.cons (.slw) (.cons (.id rfl) (.cons (.slw) (.cons (fzown (f:=Ref35Contact.v) (l:=l40) rfl rfl (fun _=>rfl) (fun _=>rfl)) (.cons (.id rfl) (.cons (.id rfl) (.nil)))))))) rfl)⟩
   conv=>whnf
   refine FootQ.mk ⟨rfl,?_⟩;conv=>whnf
   refine ⟨Nat.le_of_ble_eq_true rfl,?_⟩;conv=>whnf
   refine ⟨Nat.le_of_ble_eq_true rfl,?_⟩;conv=>whnf
   refine finR_c (enc:=Ref35State.v) H ?_;conv=>whnf
   exact ⟨_,.v (fzagg (.cons (.slw) (.cons (.slw) (.cons (.id rfl) (.cons (.slw) (.cons (fzown (f:=Ref35Contact.v) (l:=l40) rfl rfl (fun _=>rfl) (fun _=>rfl)) (.cons (.id rfl) (.cons (.id rfl) (.nil)))))))) rfl)⟩
  conv=>whnf
  refine appO_c (f:=Ref35Contact.v) H (fun _=>rfl) rfl (Nat.le_refl _) (.v (srcOwn (f:=Ref35Contact.v) (l:=[(Ref35Contact.mk a1.User a1.Name a1.Show a1.N)]) (fun _=>rfl) rfl rfl rfl)) (by decide) rfl (by simp) (fun l35 H=>?_);conv=>whnf
  refine slsE_c (f:=Ref35Contact.v) H (fun _=>rfl) (fun x36 H=>?_);conv=>whnf
  refine appP_c (f:=Ref35Contact.v) H (fun _=>rfl) rfl rfl (.v (srcM (f:=Ref35Contact.v) (fun _=>rfl) _ _)) (by decide) rfl (fun l37 H=>?_) (fun l37 H=>?_)
  ·conv=>whnf
   refine FootQ.mk ⟨rfl,?_⟩;conv=>whnf
   refine ⟨Nat.le_of_ble_eq_true rfl,?_⟩;conv=>whnf
   refine ⟨Nat.le_of_ble_eq_true rfl,?_⟩;conv=>whnf
   refine finR_c (enc:=Ref35State.v) H ?_;conv=>whnf
   exact ⟨_,.v (fzagg (.cons (.slw) (.cons (.slw) (.cons (.id rfl) (.cons (.slw) (.cons (fzown (f:=Ref35Contact.v) (l:=l37) rfl rfl (fun _=>rfl) (fun _=>rfl)) (.cons (.id rfl) (.cons (.id rfl) (.nil)))))))) rfl)⟩
  conv=>whnf
  refine FootQ.mk ⟨rfl,?_⟩;conv=>whnf
  refine ⟨Nat.le_of_ble_eq_true rfl,?_⟩;conv=>whnf
  refine ⟨Nat.le_of_ble_eq_true rfl,?_⟩;conv=>whnf
  refine finR_c (enc:=Ref35State.v) H ?_;conv=>whnf
  exact ⟨_,.v (fzagg (.cons (.slw) (.cons (.slw) (.cons (.id rfl) (.cons (.slw) (.cons (fzown (f:=Ref35Contact.v) (l:=l37) rfl rfl (fun _=>rfl) (fun _=>rfl)) (.cons (.id rfl) (.cons (.id rfl) (.nil)))))))) rfl)⟩
 rw [p_ref35_list_l1] at H
 conv=>whnf
 refine LenQ.M ?_;conv=>whnf
 refine tst_c H (fun b41 H=>?_) (fun b41 H=>?_)
 ·conv=>whnf
  refine ixs_c (f:=Ref35Contact.v) H (fun _=>rfl) (fun x42 H=>?_);conv=>whnf
  refine ⟨Nat.le_of_ble_eq_true rfl,?_⟩;conv=>whnf
  refine FootQ.mk ⟨rfl,?_⟩;conv=>whnf
  refine tst_c H (fun b43 H=>?_) (fun b43 H=>?_)
  ·conv=>whnf
   refine Ari.w ?_;conv=>whnf
   exact again_c [10,11,12,13,14,15,16,17,18,19,20,21,22,23,24,25,26,27,28,29,30,31,32,33] n5 4 [] (.inr (⟨_,_,_,H,rfl,rfl⟩)) (Nat.lt_succ_self _) (Nat.zero_le _) rfl (by kernel_rfl) (by kernel_rfl) rfl ⟨⟨rfl,rfl,rfl⟩,⟨⟨rfl,rfl,rfl⟩,⟨⟨rfl,rfl,rfl⟩,wkB_live0 rfl (cellsM_idlt (f:=Ref35Contact.v) (fun _=>rfl) _) rfl trivial⟩⟩⟩
  conv=>whnf
  refine ixs_c (f:=Ref35Contact.v) H (fun _=>rfl) (fun x44 H=>?_);conv=>whnf
  refine appO_c (f:=Ref35Contact.v) H (fun _=>rfl) rfl (Nat.le_refl _) (.v (srcOwn (f:=Ref35Contact.v) (l:=[x44]) (fun _=>rfl) rfl rfl rfl)) (by decide) rfl (by simp) (fun l45 H=>?_);conv=>whnf
  refine Ari.w ?_;conv=>whnf
  exact again_c [10,11,12,13,14,15,16,17,18,19,20,21,22,23,24,25,26,27,28,29,30,31,32,33] n5 4 [0,1,2,5] (.inr (⟨_,_,_,H,rfl,rfl⟩)) (Nat.lt_succ_self _) (Nat.zero_le _) rfl (by kernel_rfl) (by kernel_rfl) rfl ⟨⟨rfl,rfl,rfl⟩,⟨⟨rfl,rfl,rfl⟩,⟨⟨rfl,rfl,rfl⟩,wkB_live0 rfl (cellsM_idlt (f:=Ref35Contact.v) (fun _=>rfl) _) rfl trivial⟩⟩⟩
 conv=>whnf
 obtain rfl:=Option.some.inj H
 have H:=HQ4
 try dsimp only at H
 obtain ⟨K46,hK47,o48,HL49,HQ50⟩:=join0_c H
 refine join_c [45,2,3,4,5] [34,35,36,37,38,39,40,41,42,43,44,11] (fun vals st=>(∃ y54,K46 y54=some r∧vals=[.b y54,.ptr 0 0,.ptr 1 0,.ptr 2 0,.osl 3 0 (List.length y13) 4 false]∧st=[.live [.sl (List.map MailEntry.v a0.Rows) u1,.sl (List.map MailEntry.v a0.Last) u2,.b a0.Anew,.sl (List.map V.s a0.Seen) u3,.sl (List.map Ref35Contact.v a0.List) u4,.i a0.Odd,.i a0.Told] 0,.live [.y8 a1.Kind,.s a1.User,.s a1.Res,.s a1.Name,.i a1.Show,.i a1.Prio,.i a1.Code,.i a1.N] 0,.live [.sl (List.map MailEntry.v []) true,.sl (List.map MailEntry.v []) true,.b false,.sl (List.map V.s []) true,.sl (List.map Ref35Contact.v []) true,.i (0:Int),.i (0:Int)] 0,.live (cellsM Ref35Contact.v y13) (cellsM Ref35Contact.v y13).length])) ?_ ?_
 ·have H:=HL49
  conv=>whnf
  refine tst_d H (fun b52 H=>?_) (fun b52 H=>?_)
  ·conv=>whnf
   iterate 3 (refine Tst.F ?_;conv=>whnf)
   obtain rfl:=Option.some.inj H
   exact arrive_c [34,35,36,37,38,39,40,41,42,43,44,11] 4 [] (⟨_,HQ50,rfl,rfl⟩) (Nat.zero_le _) rfl (by kernel_rfl) (by kernel_rfl) rfl ⟨⟨rfl,rfl,rfl⟩,⟨⟨rfl,rfl,rfl⟩,⟨⟨rfl,rfl,rfl⟩,wkB_live0 rfl (cellsM_idlt (f:=Ref35Contact.v) (fun _=>rfl) _) rfl trivial⟩⟩⟩
  conv=>whnf
  refine Tst.T ?_;conv=>whnf
  refine tst_c H (fun b53 H=>?_) (fun b53 H=>?_)
  ·conv=>whnf
   iterate 6 (refine Tst.T ?_;conv=>whnf)
   obtain rfl:=Option.some.inj H
   exact arrive_c [34,35,36,37,38,39,40,41,42,43,44,11] 4 [] (⟨_,HQ50,rfl,rfl⟩) (Nat.zero_le _) rfl (by kernel_rfl) (by kernel_rfl) rfl ⟨⟨rfl,rfl,rfl⟩,⟨⟨rfl,rfl,rfl⟩,⟨⟨rfl,rfl,rfl⟩,wkB_live0 rfl (cellsM_idlt (f:=Ref35Contact.v) (fun _=>rfl) _) rfl trivial⟩⟩⟩
  conv=>whnf
  iterate 2 (refine Tst.F ?_;conv=>whnf)
  refine LenQ.M ?_;conv=>whnf
  refine Tst.F ?_;conv=>whnf
  refine Tst.T ?_;conv=>whnf
  refine Tst.F ?_;conv=>whnf
  refine Tst.T ?_;conv=>whnf
  obtain rfl:=Option.some.inj H
  exact arrive_c [34,35,36,37,38,39,40,41,42,43,44,11] 4 [] (⟨_,HQ50,rfl,rfl⟩) (Nat.zero_le _) rfl (by kernel_rfl) (by kernel_rfl) rfl ⟨⟨rfl,rfl,rfl⟩,⟨⟨rfl,rfl,rfl⟩,⟨⟨rfl,rfl,rfl⟩,wkB_live0 rfl (cellsM_idlt (f:=Ref35Contact.v) (fun _=>rfl) _) rfl trivial⟩⟩⟩
 rintro _ _ (⟨y54,H,rfl,rfl⟩)
 rw [hK47] at H
 try dsimp only at H
 conv=>whnf
 refine tst_d H (fun b55 H=>?_) (fun b55 H=>?_)
 ·conv=>whnf
  refine ⟨Nat.le_of_ble_eq_true rfl,?_⟩;conv=>whnf
  refine ⟨Nat.le_of_ble_eq_true rfl,?_⟩;conv=>whnf
  refine finR_c (enc:=Ref35State.v) H ?_;conv=>whnf
  exact ⟨_,.v (fzagg (.cons (.slw) (.cons (.slw) (.cons (.id rfl) (.cons (.slw) (.cons (fzown (f:=Ref35Contact.v) (l:=y13) rfl rfl (fun _=>rfl) (fun _=>rfl)) (.cons (.id rfl) (.cons (.id rfl) (.nil)))))))) rfl)⟩
 conv=>whnf
 obtain ⟨o57,HL58,HQ59⟩:=bind_c H
 refine loop_c [8] [46,47,48,49,50,51,52,53,54,55,56,57,58,59,60,61] [46,47,48,49,50,51,52,53,54,55,56,57,58,59,60,61] (fun n vals st=>(∃ y61,p_ref35_list_l2  y13 a1 n y61=some o57∧vals=[.i y61]∧st=[.live [.sl (List.map MailEntry.v a0.Rows) u1,.sl (List.map MailEntry.v a0.Last) u2,.b a0.Anew,.sl (List.map V.s a0.Seen) u3,.sl (List.map Ref35Contact.v a0.List) u4,.i a0.Odd,.i a0.Told] 0,.live [.y8 a1.Kind,.s a1.User,.s a1.Res,.s a1.Name,.i a1.Show,.i a1.Prio,.i a1.Code,.i a1.N] 0,.live [.sl (List.map MailEntry.v []) true,.sl (List.map MailEntry.v []) true,.b false,.sl (List.map V.s []) true,.sl (List.map Ref35Contact.v []) true,.i (0:Int),.i (0:Int)] 0,.live (cellsM Ref35Contact.v y13) (cellsM Ref35Contact.v y13).length])) fuel 4 [] (⟨_,HL58,rfl,rfl⟩) (Nat.zero_le _) rfl (by kernel_rfl) (by kernel_rfl) rfl ⟨⟨rfl,rfl,rfl⟩,⟨⟨rfl,rfl,rfl⟩,⟨⟨rfl,rfl,rfl⟩,wkB_live0 rfl (cellsM_idlt (f:=Ref35Contact.v) (fun _=>rfl) _) rfl trivial⟩⟩⟩ ?_
 rintro (_ | n60) _ _ (⟨y61,H,rfl,rfl⟩)
 ·rw [p_ref35_list_l2] at H;cases H
 rw [p_ref35_list_l2] at H
 conv=>whnf
 refine tst_d H (fun b62 H=>?_) (fun b62 H=>?_)
 ·conv=>whnf
  iterate 8 (refine Tst.F ?_;conv=>whnf)
  refine FootQ.mk ⟨rfl,?_⟩;conv=>whnf
  refine Tst.F ?_;conv=>whnf
  obtain rfl:=Option.some.inj H
  have H:=HQ59
  try dsimp only at H
  refine ⟨rfl,?_⟩;conv=>whnf
  refine slP_c (l:=y13) H rfl (fun x85 a86 h87 h88 H=>?_);conv=>whnf
  refine appE_c (f:=Ref35Contact.v) H (fun _=>rfl) rfl (.v (srcTake (f:=Ref35Contact.v) (fun _=>rfl) rfl rfl h87 h88)) (by decide) rfl (fun H=>?_) (fun l89 H=>?_)
  ·conv=>whnf
   refine appN_c (f:=Ref35Contact.v) H (fun _=>rfl) (srcM (f:=Ref35Contact.v) (fun _=>rfl) _ _) rfl (.v (srcOwn (f:=Ref35Contact.v) (l:=[(Ref35Contact.mk a1.User a1.Name a1.Show a1.N)]) (fun _=>rfl) rfl rfl rfl)) (by decide) rfl (by simp) (fun l97 H=>?_);conv=>whnf
   refine ⟨rfl,?_⟩;conv=>whnf
   refine slE_c (l:=y13) H rfl (fun x98 a99 h100 h101 H=>?_) (fun H=>?_)
   ·conv=>whnf
    refine appP_c (f:=Ref35Contact.v) H (fun _=>rfl) rfl rfl (.v (srcDrop (f:=Ref35Contact.v) (fun _=>rfl) rfl rfl h100 h101)) (by decide) rfl (fun l102 H=>?_) (fun l102 H=>?_)
    ·conv=>whnf
     refine FootQ.mk ⟨rfl,?_⟩;conv=>whnf
     refine ⟨Nat.le_of_ble_eq_true rfl,?_⟩;conv=>whnf
     refine ⟨Nat.le_of_ble_eq_true rfl,?_⟩;conv=>whnf
     refine finR_c (enc:=Ref35State.v) H ?_;conv=>whnf
     exact ⟨_,.v (fzagg (.cons (.slw) (.cons (.slw) (.cons (.id rfl) (.cons (.slw) (.cons (fzown (f:=Ref35Contact.v) (l:=l102) rfl rfl (fun _=>rfl) (fun _=>rfl)) (.cons (.id rfl) (.cons (.id rfl) (.nil)))))))) rfl)⟩
    conv=>whnf
    refine FootQ.mk ⟨rfl,?_⟩;conv=>whnf
    refine ⟨Nat.le_of_ble_eq_true rfl,?_⟩;conv=>whnf
    refine ⟨Nat.le_of_ble_eq_true rfl,?_⟩;conv=>whnf
    refine finR_c (enc:=Ref35State.v) H ?_;conv=>whnf
    exact ⟨_,.v (fzagg (.cons (.slw) (.cons (.slw) (.cons (.id rfl) (.cons (.slw) (.cons (fzown (f:=Ref35Contact.v) (l:=l102) rfl rfl (fun _=>rfl) (fun _=>rfl)) (.cons (.id rfl) (.cons (.id rfl) (.nil)))))))) rfl)⟩
   conv=>whnf
   refine appP_c (f:=Ref35Contact.v) H (fun _=>rfl) rfl rfl (.v (srcM (f:=Ref35Contact.v) (fun _=>rfl) [] false)) (by decide) rfl (fun l103 H=>?_) (fun l103 H=>?_)
   ·conv=>whnf
    refine FootQ.mk ⟨rfl,?_⟩;conv=>whnf
    refine ⟨Nat.le_of_ble_eq_true rfl,?_⟩;conv=>whnf
    refine ⟨Nat.le_of_ble_eq_true rfl,?_⟩;conv=>whnf
    refine finR_c (enc:=Ref35State.v) H ?_;conv=>whnf
    exact ⟨_,.v (fzagg (.cons (.slw) (.cons (.slw) (.cons (.id rfl) (.cons (.slw) (.cons (fzown (f:=Ref35Contact.v) (l:=l103) rfl rfl (fun _=>rfl) (fun _=>rfl)) (.cons (.id rfl) (.cons (.id rfl) (.nil)))))))) rfl)⟩
   conv=>whnf
   refine FootQ.mk ⟨rfl,?_⟩;conv=>whnf
   refine ⟨Nat.le_of_ble_eq_true rfl,?_⟩;conv=>whnf
   refine ⟨Nat.le_of_ble_eq_true rfl,?_⟩;conv=>whnf
   refine finR_c (enc:=Ref35State.v) H ?_;conv=>whnf
   exact ⟨_,.v (fzagg (.cons (.slw) (.cons (.slw) (.cons (.id rfl) (.cons (.slw) (.cons (fzown (f:=Ref35Contact.v) (l:=l103) rfl rfl (fun _=>rfl) (fun _=>rfl)) (.cons (.id rfl) (.cons (.id rfl) (.nil)))))))) rfl)⟩
  conv=>whnf
  refine appO_c (f:=Ref35Contact.v) H (fun _=>rfl) rfl (Nat.le_refl _) (.v (srcOwn (f:=Ref35Contact.v) (l:=[(Ref35Contact.mk a1.User a1.Name a1.Show a1.N)]) (fun _=>rfl) rfl rfl rfl)) (by decide) rfl (by simp) (fun l90 H=>?_);conv=>whnf
  refine ⟨rfl,?_⟩;conv=>whnf
  refine slE_c (l:=y13) H rfl (fun x91 a92 h93 h94 H=>?_) (fun H=>?_)
  ·conv=>whnf
   refine appP_c (f:=Ref35Contact.v) H (fun _=>rfl) rfl rfl (.v (srcDrop (f:=Ref35Contact.v) (fun _=>rfl) rfl rfl h93 h94)) (by decide) rfl (fun l95 H=>?_) (fun l95 H=>?_)
   ·conv=>whnf
    refine FootQ.mk ⟨rfl,?_⟩;conv=>whnf
    refine ⟨Nat.le_of_ble_eq_true rfl,?_⟩;conv=>whnf
    refine ⟨Nat.le_of_ble_eq_true rfl,?_⟩;conv=>whnf
    refine finR_c (enc:=Ref35State.v) H ?_;conv=>whnf
    exact ⟨_,.v (fzagg (.cons (.slw) (.cons (.slw) (.cons (.id rfl) (.cons (.slw) (.cons (fzown (f:=Ref35Contact.v) (l:=l95) rfl rfl (fun _=>rfl) (fun _=>rfl)) (.cons (.id rfl) (.cons (.id rfl) (.nil)))))))) rfl)⟩
   conv=>whnf
   refine FootQ.mk ⟨rfl,?_⟩;conv=>whnf
   refine ⟨Nat.le_of_ble_eq_true rfl,?_⟩;conv=>whnf
   refine ⟨Nat.le_of_ble_eq_true rfl,?_⟩;conv=>whnf
   refine finR_c (enc:=Ref35State.v) H ?_;conv=>whnf
   exact ⟨_,.v (fzagg (.cons (.slw) (.cons (.slw) (.cons (.id rfl) (.cons (.slw) (.cons (fzown (f:=Ref35Contact.v) (l:=l95) rfl rfl (fun _=>rfl) (fun _=>rfl)) (.cons (.id rfl) (.cons (.id rfl) (.nil)))))))) rfl)⟩
  conv=>whnf
  refine appP_c (f:=Ref35Contact.v) H (fun _=>rfl) rfl rfl (.v (srcM (f:=Ref35Contact.v) (fun _=>rfl) [] false)) (by decide) rfl (fun l96 H=>?_) (fun l96 H=>?_)
  ·conv=>whnf
   refine FootQ.mk ⟨rfl,?_⟩;conv=>whnf
   refine ⟨Nat.le_of_ble_eq_true rfl,?_⟩;conv=>whnf
   refine ⟨Nat.le_of_ble_eq_true rfl,?_⟩;conv=>whnf
   refine finR_c (enc:=Ref35State.v) H ?_;conv=>whnf
   exact ⟨_,.v (fzagg (.cons (.slw) (.cons (.slw) (.cons (.id rfl) (.cons (.slw) (.cons (fzown (f:=Ref35Contact.v) (l:=l96) rfl rfl (fun _=>rfl) (fun _=>rfl)) (.cons (.id rfl) (.cons (.id rfl) (.nil)))))))) rfl)⟩
  conv=>whnf
  refine FootQ.mk ⟨rfl,?_⟩;conv=>whnf
  refine ⟨Nat.le_of_ble_eq_true rfl,?_⟩;conv=>whnf
  refine ⟨Nat.le_of_ble_eq_true rfl,?_⟩;conv=>whnf
  refine finR_c (enc:=Ref35State.v) H ?_;conv=>whnf
  exact ⟨_,.v (fzagg (.cons (.slw) (.cons (.slw) (.cons (.id rfl) (.cons (.slw) (.cons (fzown (f:=Ref35Contact.v) (l:=l96) rfl rfl (fun _=>rfl) (fun _=>rfl)) (.cons (.id rfl) (.cons (.id rfl) (.nil)))))))) rfl)⟩
 conv=>whnf
 iterate 2 (refine Tst.T ?_;conv=>whnf)
 refine ⟨rfl,ixo_c H (fun x63 h64 H=>?_)⟩;conv=>whnf
 iterate 2 (refine Tst.T ?_;conv=>whnf)
 refine ldo_c (f:=Ref35Contact.v) (es:=4) h64 (fun _=>rfl) 0 (by omega) (by decide) ?_;conv=>whnf
 iterate 4 (refine Tst.T ?_;conv=>whnf)
 refine FootQ.mk ⟨rfl,?_⟩;conv=>whnf
 refine tst_c H (fun b65 H=>?_) (fun b65 H=>?_)
 ·conv=>whnf
  refine Ari.w ?_;conv=>whnf
  exact again_c [46,47,48,49,50,51,52,53,54,55,56,57,58,59,60,61] n60 4 [] (⟨_,H,rfl,rfl⟩) (Nat.lt_succ_self _) (Nat.zero_le _) rfl (by kernel_rfl) (by kernel_rfl) rfl ⟨⟨rfl,rfl,rfl⟩,⟨⟨rfl,rfl,rfl⟩,⟨⟨rfl,rfl,rfl⟩,wkB_live0 rfl (cellsM_idlt (f:=Ref35Contact.v) (fun _=>rfl) _) rfl trivial⟩⟩⟩
 conv=>whnf
 obtain rfl:=Option.some.inj H
 have H:=HQ59
 try dsimp only at H
 refine ⟨rfl,?_⟩;conv=>whnf
 refine slP_c (l:=y13) H rfl (fun x66 a67 h68 h69 H=>?_);conv=>whnf
 refine appE_c (f:=Ref35Contact.v) H (fun _=>rfl) rfl (.v (srcTake (f:=Ref35Contact.v) (fun _=>rfl) rfl rfl h68 h69)) (by decide) rfl (fun H=>?_) (fun l70 H=>?_)
 ·conv=>whnf
  refine appN_c (f:=Ref35Contact.v) H (fun _=>rfl) (srcM (f:=Ref35Contact.v) (fun _=>rfl) _ _) rfl (.v (srcOwn (f:=Ref35Contact.v) (l:=[(Ref35Contact.mk a1.User a1.Name a1.Show a1.N)]) (fun _=>rfl) rfl rfl rfl)) (by decide) rfl (by simp) (fun l78 H=>?_);conv=>whnf
  refine ⟨rfl,?_⟩;conv=>whnf
  refine slE_c (l:=y13) H rfl (fun x79 a80 h81 h82 H=>?_) (fun H=>?_)
  ·conv=>whnf
   refine appP_c (f:=Ref35Contact.v) H (fun _=>rfl) rfl rfl (.v (srcDrop (f:=Ref35Contact.v) (fun _=>rfl) rfl rfl h81 h82)) (by decide) rfl (fun l83 H=>?_) (fun l83 H=>?_)
   ·conv=>whnf
    refine FootQ.mk ⟨rfl,?_⟩;conv=>whnf
    refine ⟨Nat.le_of_ble_eq_true rfl,?_⟩;conv=>whnf
    refine ⟨Nat.le_of_ble_eq_true rfl,?_⟩;conv=>whnf
    refine finR_c (enc:=Ref35State.v) H ?_;conv=>whnf
    exact ⟨_,.v (fzagg (.cons (.slw) (.cons (.slw) (.cons (.id rfl) (.cons (.slw) (.cons (fzown (f:=Ref35Contact.v) (l:=l83) rfl rfl (fun _=>rfl) (fun _=>rfl)) (.cons (.id rfl) (.cons (.id rfl) (.nil)))))))) rfl)⟩
   conv=>whnf
   refine FootQ.mk ⟨rfl,?_⟩;conv=>whnf
   refine ⟨Nat.le_of_ble_eq_true rfl,?_⟩;conv=>whnf
   refine ⟨Nat.le_of_ble_eq_true rfl,?_⟩;conv=>whnf
   refine finR_c (enc:=Ref35State.v) H ?_;conv=>whnf
   exact ⟨_,.v (fzagg (.cons (.slw) (.cons (.slw) (.cons (.id rfl) (.cons (.slw) (.cons (fzown (f:=Ref35Contact.v) (l:=l83) rfl rfl (fun _=>rfl) (fun _=>rfl)) (.cons (.id rfl) (.cons (.id rfl) (.nil)))))))) rfl)⟩
  conv=>whnf
  refine appP_c (f:=Ref35Contact.v) H (fun _=>rfl) rfl rfl (.v (srcM (f:=Ref35Contact.v) (fun _=>rfl) [] false)) (by decide) rfl (fun l84 H=>?_) (fun l84 H=>?_)
  ·conv=>whnf
   refine FootQ.mk ⟨rfl,?_⟩;conv=>whnf
   refine ⟨Nat.le_of_ble_eq_true rfl,?_⟩;conv=>whnf
   refine ⟨Nat.le_of_ble_eq_true rfl,?_⟩;conv=>whnf
   refine finR_c (enc:=Ref35State.v) H ?_;conv=>whnf
   exact ⟨_,.v (fzagg (.cons (.slw) (.cons (.slw) (.cons (.id rfl) (.cons (.slw) (.cons (fzown (f:=Ref35Contact.v) (l:=l84) rfl rfl (fun _=>rfl) (fun _=>rfl)) (.cons (.id rfl) (.cons (.id rfl) (.nil)))))))) rfl)⟩
  conv=>whnf
  refine FootQ.mk ⟨rfl,?_⟩;conv=>whnf
  refine ⟨Nat.le_of_ble_eq_true rfl,?_⟩;conv=>whnf
  refine ⟨Nat.le_of_ble_eq_true rfl,?_⟩;conv=>whnf
  refine finR_c (enc:=Ref35State.v) H ?_;conv=>whnf
  exact ⟨_,.v (fzagg (.cons (.slw) (.cons (.slw) (.cons (.id rfl) (.cons (.slw) (.cons (fzown (f:=Ref35Contact.v) (l:=l84) rfl rfl (fun _=>rfl) (fun _=>rfl)) (.cons (.id rfl) (.cons (.id rfl) (.nil)))))))) rfl)⟩
 conv=>whnf
 refine appO_c (f:=Ref35Contact.v) H (fun _=>rfl) rfl (Nat.le_refl _) (.v (srcOwn (f:=Ref35Contact.v) (l:=[(Ref35Contact.mk a1.User a1.Name a1.Show a1.N)]) (fun _=>rfl) rfl rfl rfl)) (by decide) rfl (by simp) (fun l71 H=>?_);conv=>whnf
 refine ⟨rfl,?_⟩;conv=>whnf
 refine slE_c (l:=y13) H rfl (fun x72 a73 h74 h75 H=>?_) (fun H=>?_)
 ·conv=>whnf
  refine appP_c (f:=Ref35Contact.v) H (fun _=>rfl) rfl rfl (.v (srcDrop (f:=Ref35Contact.v) (fun _=>rfl) rfl rfl h74 h75)) (by decide) rfl (fun l76 H=>?_) (fun l76 H=>?_)
  ·conv=>whnf
   refine FootQ.mk ⟨rfl,?_⟩;conv=>whnf
   refine ⟨Nat.le_of_ble_eq_true rfl,?_⟩;conv=>whnf
   refine ⟨Nat.le_of_ble_eq_true rfl,?_⟩;conv=>whnf
   refine finR_c (enc:=Ref35State.v) H ?_;conv=>whnf
   exact ⟨_,.v (fzagg (.cons (.slw) (.cons (.slw) (.cons (.id rfl) (.cons (.slw) (.cons (fzown (f:=Ref35Contact.v) (l:=l76) rfl rfl (fun _=>rfl) (fun _=>rfl)) (.cons (.id rfl) (.cons (.id rfl) (.nil)))))))) rfl)⟩
  conv=>whnf
  refine FootQ.mk ⟨rfl,?_⟩;conv=>whnf
  refine ⟨Nat.le_of_ble_eq_true rfl,?_⟩;conv=>whnf
  refine ⟨Nat.le_of_ble_eq_true rfl,?_⟩;conv=>whnf
  refine finR_c (enc:=Ref35State.v) H ?_;conv=>whnf
  exact ⟨_,.v (fzagg (.cons (.slw) (.cons (.slw) (.cons (.id rfl) (.cons (.slw) (.cons (fzown (f:=Ref35Contact.v) (l:=l76) rfl rfl (fun _=>rfl) (fun _=>rfl)) (.cons (.id rfl) (.cons (.id rfl) (.nil)))))))) rfl)⟩
 conv=>whnf
 refine appP_c (f:=Ref35Contact.v) H (fun _=>rfl) rfl rfl (.v (srcM (f:=Ref35Contact.v) (fun _=>rfl) [] false)) (by decide) rfl (fun l77 H=>?_) (fun l77 H=>?_)
 ·conv=>whnf
  refine FootQ.mk ⟨rfl,?_⟩;conv=>whnf
  refine ⟨Nat.le_of_ble_eq_true rfl,?_⟩;conv=>whnf
  refine ⟨Nat.le_of_ble_eq_true rfl,?_⟩;conv=>whnf
  refine finR_c (enc:=Ref35State.v) H ?_;conv=>whnf
  exact ⟨_,.v (fzagg (.cons (.slw) (.cons (.slw) (.cons (.id rfl) (.cons (.slw) (.cons (fzown (f:=Ref35Contact.v) (l:=l77) rfl rfl (fun _=>rfl) (fun _=>rfl)) (.cons (.id rfl) (.cons (.id rfl) (.nil)))))))) rfl)⟩
 conv=>whnf
 refine FootQ.mk ⟨rfl,?_⟩;conv=>whnf
 refine ⟨Nat.le_of_ble_eq_true rfl,?_⟩;conv=>whnf
 refine ⟨Nat.le_of_ble_eq_true rfl,?_⟩;conv=>whnf
 refine finR_c (enc:=Ref35State.v) H ?_;conv=>whnf
 exact ⟨_,.v (fzagg (.cons (.slw) (.cons (.slw) (.cons (.id rfl) (.cons (.slw) (.cons (fzown (f:=Ref35Contact.v) (l:=l77) rfl rfl (fun _=>rfl) (fun _=>rfl)) (.cons (.id rfl) (.cons (.id rfl) (.nil)))))))) rfl)⟩
end Go.Proofs.YtpmoioopjbfhkaaGreat

/- That the program's functions yield what the plain ones tell (written by a program of mine). -/
namespace Go.Proofs.YtpmoioopjbfhkaaGreat
open Go.RowKit
set_option maxRecDepth 100000
set_option maxHeartbeats 4000000
def gc183:BCode:=(.seq (.reg 0 [⟨(some 4),.mv (.const (.int .i64 0)),none,0⟩] none 0 []) (.seq (.seq (.reg 0 [⟨(some 6),.mv (.tmp 0),none,0⟩,⟨(some 7),.lens (.tmp 6),none,0⟩,⟨(some 8),.mv (.const (.int .i64 0)),none,0⟩] none 0 []) (.block 0 (.loop (.seq (.reg 0 [⟨(some 9),.bin .lss (.tmp 8) (.tmp 7),none,0⟩] none 0 []) (.seq (.cond (.tmp 9) .skip (.exit 0)) (.seq (.block 1 (.seq (.reg 0 [⟨(some 10),.mv (.tmp 8),none,0⟩,⟨(some 5),.mv (.tmp 10),none,0⟩] none 0 []) (.seq (.reg 0 [⟨(some 11),.mv (.tmp 1),none,0⟩,⟨(some 12),.mv (.tmp 0),none,0⟩,⟨(some 13),.mv (.tmp 5),none,0⟩,⟨(some 14),.ixs 5 (.tmp 12) (.tmp 13),none,0⟩,⟨(some 15),.ld 5 true (.tmp 14),none,0⟩,⟨(some 16),.cv (.tmp 11) [(.tmp 15)],none,0⟩] none 0 []) (.cond (.tmp 16) (.seq (.reg 0 [⟨(some 17),.mv (.tmp 5),none,0⟩,⟨(some 4),.mv (.tmp 17),none,0⟩] none 0 []) .ret) .skip)))) (.reg 0 [⟨(some 18),.bin .add (.tmp 8) (.const (.int .i64 1)),none,0⟩,⟨(some 8),.mv (.tmp 18),none,0⟩] none 0 []))))))) (.seq (.reg 0 [⟨(some 4),.mv (.const (.int .i64 (-1))),none,0⟩] none 0 []) .ret)))
theorem gc183_ok:compF Tryz.prog Tryz.f183=some (gc183.er,19,[.tmp 4]):=by unfold gc183;kernel_rfl
theorem p_slices_IndexFunc_view_Row_v {u1:Bool} (a0:List MailEntry) (a1:MailEntry→Option Bool) {a1_g:Nat} {a1_k:List V} (a1_h:Clo1 Tryz.prog a1_g a1_k MailEntry.v V.b a1):CallsO Tryz.prog 183 [.sl (List.map MailEntry.v a0) u1,.clo (.func a1_g) a1_k] V.i (p_slices_IndexFunc_view_Row a0 a1):=by
 refine callsO_comp mix Tryz.func183 gc183_ok fun r H=>?_
 rw [p_slices_IndexFunc_view_Row] at H
 conv=>whnf
 refine LenQ.M ?_;conv=>whnf
 obtain ⟨o2,HL3,HQ4⟩:=bind_c H
 refine loop_c [4,8] [5,9,10,11,12,13,14,15,16,17,18] [5,9,10,11,12,13,14,15,16,17,18] (fun n vals st=>(∃ y6,p_slices_IndexFunc_view_Row_l1  a1 a0 (a0.length:Int) n y6=some o2∧vals=[.i (0:Int),.i y6]∧st=[])) fuel 0 [] (⟨_,HL3,rfl,rfl⟩) (Nat.zero_le _) rfl (by simp only [maskF,setF,List.set_cons_zero,List.set_cons_succ,V.ren.renL,V.ren,renL_id _ a1_h.own] <;> rfl) (by simp only [maskF,setF,List.set_cons_zero,List.set_cons_succ,V.idlt.belowL,V.idlt,fun n=>idltL_up (n:=n) _ a1_h.own] <;> rfl) rfl trivial ?_
 rintro (_ | n5) _ _ (⟨y6,H,rfl,rfl⟩)
 ·rw [p_slices_IndexFunc_view_Row_l1] at H;cases H
 rw [p_slices_IndexFunc_view_Row_l1] at H
 conv=>whnf
 refine tst_d H (fun b7 H=>?_) (fun b7 H=>?_)
 ·conv=>whnf
  obtain rfl:=Option.some.inj H
  have H:=HQ4
  try dsimp only at H
  exact fi_ H
 conv=>whnf
 refine ixs_c (f:=MailEntry.v) H (fun _=>rfl) (fun x8 H=>?_);conv=>whnf
 refine askC_c a1_h H (.cons (fzagg (.cons (.id rfl) (.cons (.id rfl) (.cons (.id rfl) (.cons (.id rfl) (.cons (.id rfl) (.nil)))))) rfl) (.nil)) (fun v9 H=>?_);conv=>whnf
 refine tst_c H (fun b10 H=>?_) (fun b10 H=>?_)
 ·conv=>whnf
  obtain rfl:=Option.some.inj H
  have H:=HQ4
  try dsimp only at H
  exact fi_ H
 conv=>whnf
 refine Ari.w ?_;conv=>whnf
 exact again_c [5,9,10,11,12,13,14,15,16,17,18] n5 0 [] (⟨_,H,rfl,rfl⟩) (Nat.lt_succ_self _) (Nat.zero_le _) rfl (by simp only [maskF,setF,List.set_cons_zero,List.set_cons_succ,V.ren.renL,V.ren,renL_id _ a1_h.own] <;> rfl) (by simp only [maskF,setF,List.set_cons_zero,List.set_cons_succ,V.idlt.belowL,V.idlt,fun n=>idltL_up (n:=n) _ a1_h.own] <;> rfl) rfl trivial
def gc274:BCode:=(.seq (.reg 0 [⟨(some 4),.mv (.const (.int .i64 0)),none,0⟩] none 0 []) (.seq (.seq (.reg 0 [⟨(some 6),.mv (.tmp 0),none,0⟩,⟨(some 7),.lens (.tmp 6),none,0⟩,⟨(some 8),.mv (.const (.int .i64 0)),none,0⟩] none 0 []) (.block 0 (.loop (.seq (.reg 0 [⟨(some 9),.bin .lss (.tmp 8) (.tmp 7),none,0⟩] none 0 []) (.seq (.cond (.tmp 9) .skip (.exit 0)) (.seq (.block 1 (.seq (.reg 0 [⟨(some 10),.mv (.tmp 8),none,0⟩,⟨(some 5),.mv (.tmp 10),none,0⟩] none 0 []) (.seq (.reg 0 [⟨(some 11),.mv (.tmp 1),none,0⟩,⟨(some 12),.mv (.tmp 0),none,0⟩,⟨(some 13),.mv (.tmp 5),none,0⟩,⟨(some 14),.ixs 4 (.tmp 12) (.tmp 13),none,0⟩,⟨(some 15),.ld 4 true (.tmp 14),none,0⟩,⟨(some 16),.cv (.tmp 11) [(.tmp 15)],none,0⟩] none 0 []) (.cond (.tmp 16) (.seq (.reg 0 [⟨(some 17),.mv (.tmp 5),none,0⟩,⟨(some 4),.mv (.tmp 17),none,0⟩] none 0 []) .ret) .skip)))) (.reg 0 [⟨(some 18),.bin .add (.tmp 8) (.const (.int .i64 1)),none,0⟩,⟨(some 8),.mv (.tmp 18),none,0⟩] none 0 []))))))) (.seq (.reg 0 [⟨(some 4),.mv (.const (.int .i64 (-1))),none,0⟩] none 0 []) .ret)))
theorem gc274_ok:compF Tryz.prog Tryz.f274=some (gc274.er,19,[.tmp 4]):=by unfold gc274;kernel_rfl
theorem p_slices_IndexFunc_view_Contact_v {u1:Bool} (a0:List Ref35Contact) (a1:Ref35Contact→Option Bool) {a1_g:Nat} {a1_k:List V} (a1_h:Clo1 Tryz.prog a1_g a1_k Ref35Contact.v V.b a1):CallsO Tryz.prog 274 [.sl (List.map Ref35Contact.v a0) u1,.clo (.func a1_g) a1_k] V.i (p_slices_IndexFunc_view_Contact a0 a1):=by
 refine callsO_comp mix Tryz.func274 gc274_ok fun r H=>?_
 rw [p_slices_IndexFunc_view_Contact] at H
 conv=>whnf
 refine LenQ.M ?_;conv=>whnf
 obtain ⟨o2,HL3,HQ4⟩:=bind_c H
 refine loop_c [4,8] [5,9,10,11,12,13,14,15,16,17,18] [5,9,10,11,12,13,14,15,16,17,18] (fun n vals st=>(∃ y6,p_slices_IndexFunc_view_Contact_l1  a1 a0 (a0.length:Int) n y6=some o2∧vals=[.i (0:Int),.i y6]∧st=[])) fuel 0 [] (⟨_,HL3,rfl,rfl⟩) (Nat.zero_le _) rfl (by simp only [maskF,setF,List.set_cons_zero,List.set_cons_succ,V.ren.renL,V.ren,renL_id _ a1_h.own] <;> rfl) (by simp only [maskF,setF,List.set_cons_zero,List.set_cons_succ,V.idlt.belowL,V.idlt,fun n=>idltL_up (n:=n) _ a1_h.own] <;> rfl) rfl trivial ?_
 rintro (_ | n5) _ _ (⟨y6,H,rfl,rfl⟩)
 ·rw [p_slices_IndexFunc_view_Contact_l1] at H;cases H
 rw [p_slices_IndexFunc_view_Contact_l1] at H
 conv=>whnf
 refine tst_d H (fun b7 H=>?_) (fun b7 H=>?_)
 ·conv=>whnf
  obtain rfl:=Option.some.inj H
  have H:=HQ4
  try dsimp only at H
  exact fi_ H
 conv=>whnf
 refine ixs_c (f:=Ref35Contact.v) H (fun _=>rfl) (fun x8 H=>?_);conv=>whnf
 refine askC_c a1_h H (.cons (fzagg (.cons (.id rfl) (.cons (.id rfl) (.cons (.id rfl) (.cons (.id rfl) (.nil))))) rfl) (.nil)) (fun v9 H=>?_);conv=>whnf
 refine tst_c H (fun b10 H=>?_) (fun b10 H=>?_)
 ·conv=>whnf
  obtain rfl:=Option.some.inj H
  have H:=HQ4
  try dsimp only at H
  exact fi_ H
 conv=>whnf
 refine Ari.w ?_;conv=>whnf
 exact again_c [5,9,10,11,12,13,14,15,16,17,18] n5 0 [] (⟨_,H,rfl,rfl⟩) (Nat.lt_succ_self _) (Nat.zero_le _) rfl (by simp only [maskF,setF,List.set_cons_zero,List.set_cons_succ,V.ren.renL,V.ren,renL_id _ a1_h.own] <;> rfl) (by simp only [maskF,setF,List.set_cons_zero,List.set_cons_succ,V.idlt.belowL,V.idlt,fun n=>idltL_up (n:=n) _ a1_h.own] <;> rfl) rfl trivial
end Go.Proofs.YtpmoioopjbfhkaaGreat

/- slices.DeleteFunc at function 234. -/
namespace Go.Proofs.YtpmoioopjbfhkaaGreat
open Go.RowKit
set_option maxRecDepth 100000
set_option maxHeartbeats 4000000
def dc234:BCode:=(.seq (.reg 0 [⟨(some 4),.mv (.const (.slice none 0 0)),none,0⟩] none 0 []) (.seq (.reg 0 [⟨(some 8),.mv (.tmp 0),none,0⟩,⟨(some 9),.mv (.tmp 1),none,0⟩,⟨(some 10),.cl 274 [(.tmp 8),(.tmp 9)],none,0⟩,⟨(some 5),.mv (.tmp 10),none,0⟩] none 0 []) (.seq (.seq (.reg 0 [⟨(some 11),.mv (.tmp 5),none,0⟩,⟨(some 12),.bin .eql (.tmp 11) (.const (.int .i64 (-1))),none,0⟩] none 0 []) (.cond (.tmp 12) (.seq (.reg 0 [⟨(some 13),.mv (.tmp 0),none,0⟩,⟨(some 4),.mv (.tmp 13),none,0⟩] none 0 []) .ret) .skip)) (.seq (.seq (.reg 0 [⟨(some 14),.mv (.tmp 5),none,0⟩,⟨(some 15),.bin .add (.tmp 14) (.const (.int .i64 1)),none,0⟩,⟨(some 6),.mv (.tmp 15),none,0⟩] none 0 []) (.block 0 (.loop (.seq (.seq (.reg 0 [⟨(some 16),.mv (.tmp 6),none,0⟩,⟨(some 17),.mv (.tmp 0),none,0⟩,⟨(some 18),.lens (.tmp 17),none,0⟩,⟨(some 19),.bin .lss (.tmp 16) (.tmp 18),none,0⟩] none 0 []) (.cond (.tmp 19) .skip (.exit 0))) (.seq (.block 1 (.seq (.reg 1 [⟨(some 22),.mv (.tmp 0),none,0⟩,⟨(some 23),.mv (.tmp 6),none,0⟩,⟨(some 24),.ixs 4 (.tmp 22) (.tmp 23),none,0⟩,⟨(some 25),.ld 4 true (.tmp 24),none,0⟩,⟨(some 7),.al (.agg [(.lit (.string ⟨#[]⟩)),(.lit (.string ⟨#[]⟩)),(.lit (.int .i64 0)),(.lit (.int .i64 0))]),none,0⟩,⟨none,.st 4 (.tmp 7) (.tmp 25),none,1⟩] none 0 []) (.seq (.reg 0 [⟨(some 26),.mv (.tmp 1),none,0⟩,⟨(some 27),.ld 4 true (.tmp 7),none,0⟩,⟨(some 28),.cv (.tmp 26) [(.tmp 27)],none,0⟩,⟨(some 29),.un .not (.tmp 28),none,0⟩] none 0 []) (.cond (.tmp 29) (.seq (.reg 0 [⟨(some 30),.mv (.tmp 0),none,0⟩,⟨(some 31),.mv (.tmp 5),none,0⟩,⟨(some 32),.ld 4 true (.tmp 7),none,0⟩,⟨(some 33),.ixs 4 (.tmp 30) (.tmp 31),none,0⟩,⟨none,.st 4 (.tmp 33) (.tmp 32),none,0⟩] none 0 []) (.reg 0 [⟨(some 34),.mv (.tmp 5),none,0⟩,⟨(some 35),.bin .add (.tmp 34) (.const (.int .i64 1)),none,0⟩,⟨(some 5),.mv (.tmp 35),none,0⟩] none 0 [])) .skip)))) (.reg 0 [⟨(some 20),.mv (.tmp 6),none,0⟩,⟨(some 21),.bin .add (.tmp 20) (.const (.int .i64 1)),none,0⟩,⟨(some 6),.mv (.tmp 21),none,0⟩] none 0 [])))))) (.seq (.reg 0 [⟨(some 36),.mv (.tmp 0),none,0⟩,⟨(some 37),.mv (.tmp 5),none,0⟩,⟨(some 38),.sls 4 (.tmp 36) (some (.tmp 37)) none none,none,0⟩,⟨none,.clr 4 (.tmp 38),none,0⟩] none 0 []) (.seq (.reg 0 [⟨(some 39),.mv (.tmp 0),none,0⟩,⟨(some 40),.mv (.tmp 5),none,0⟩,⟨(some 41),.sls 4 (.tmp 39) none (some (.tmp 40)) none,none,0⟩,⟨(some 4),.mv (.tmp 41),none,0⟩] none 0 []) .ret))))))
theorem dc234_ok:compF Tryz.prog Tryz.f234=some (dc234.er,42,[.tmp 4]):=by unfold dc234;kernel_rfl
theorem dfi234 (fn:Ref35Contact→Option Bool) (p:Ref35Contact→Bool) (rows:List Ref35Contact) (hn:rows.length≤1000000) (hf:∀ x ∈ rows,fn x=some (p x)):∀ (n k F:Nat),k + n=rows.length→n < F →
  p_slices_IndexFunc_view_Contact_l1 fn rows rows.length F k=some (if (rows.drop k).any p=true then .inl ((k + (rows.drop k).findIdx p:Nat):Int) else .inr (rows.length:Int))
 | 0,k,F + 1,hk,hF=>by
  have e:rows.drop k=[]:=List.drop_of_length_le (by omega)
  have:k=rows.length:=by omega
  rw [p_slices_IndexFunc_view_Contact_l1,lt_ff (by omega),e,this];rfl
 | n + 1,k,F + 1,hk,hF=>by
  have hlt:k < rows.length:=by omega
  rw [p_slices_IndexFunc_view_Contact_l1,lt_tt hlt,at_lt hlt,drop_at hlt]
  simp only [cond_true,Option.bind_some,hf _ (List.getElem_mem hlt)]
  cases hp:p rows[k] with
  | true=>rw [List.any_cons,hp,List.findIdx_cons,hp];rfl
  | false =>
   simp only [cond_false]
   rw [w64_succ (by omega),dfi234 fn p rows hn hf n (k + 1) F (by omega) (by omega)]
   simp only [List.any_cons,hp,Bool.false_or,List.findIdx_cons,cond_false]
   split
   ·congr 3;omega
   ·rfl
theorem dfx234 {fn:Ref35Contact→Option Bool} (p:Ref35Contact→Bool) {rows:List Ref35Contact} (hn:rows.length≤1000000) (hf:∀ x ∈ rows,fn x=some (p x)):p_slices_IndexFunc_view_Contact rows fn=some (if rows.any p=true then (rows.findIdx p:Int) else -1):=by
 unfold p_slices_IndexFunc_view_Contact
 have:=dfi234 fn p rows hn hf rows.length 0 fuel (by omega) (by have:=fuel_pos;omega)
 rw [show ((0:Int))=((0:Nat):Int) from rfl,this,List.drop_zero]
 cases rows.any p <;> simp
theorem dfS234 (l:List Ref35Contact) {g:Nat} {caps:List V} {fn:Ref35Contact→Option Bool} (hc:Clo1 Tryz.prog g caps Ref35Contact.v V.b fn) (p:Ref35Contact→Bool) (hn:l.length≤1000000) (hf:∀ x ∈ l,fn x=some (p x)) :
  CallsS Tryz.prog 234 [.osl 0 0 l.length 4 false,.clo (.func g) caps] [.live (cellsM Ref35Contact.v l) 0] (.osl 0 0 (l.filter fun x=>!p x).length 4 false) [.live (cellsM Ref35Contact.v (l.filter fun x=>!p x)) 0]:=by
 refine callsR_c (n0:=1) mix Tryz.func234 dc234_ok rfl ?_
 conv=>whnf
 refine askT_c (X:=some) (r:=if l.any p=true then (l.findIdx p:Int) else -1) [0] (p_slices_IndexFunc_view_Contact_v l fn hc) (by rw [dfx234 p hn hf];rfl) (.cons (.c (fzown (f:=Ref35Contact.v) (l:=l) rfl rfl (fun _=>rfl) (fun _=>rfl))) (.cons (.c (.id (by exact hc.own))) .nil)) (fun _=>rfl) (fun x H=>?_)
 obtain rfl:=Option.some.inj H
 conv=>whnf
 by_cases hany:l.any p=true
 ·rw [if_pos hany]
  have hk0:l.findIdx p < l.length:=List.findIdx_lt_length_of_exists (by simpa using hany)
  refine Tst.isF (beq_eq_false_iff_ne.2 (by omega)) ?_;conv=>whnf
  refine Ari.w ?_;conv=>whnf
  have hw:IntKind.i64.wrap ((l.findIdx p:Int) + 1)=((l.findIdx p + 1:Nat):Int):=w64_succ (by omega)
  rw [hw]
  refine loop_c [5,6] [7,16,17,18,19,20,21,22,23,24,25,26,27,28,29,30,31,32,33,34,35] [7,16,17,18,19,20,21,22,23,24,25,26,27,28,29,30,31,32,33,34,35] (fun n vals st=>∃ (i j:Nat) (y:List Ref35Contact),vals=[.i i,.i j]∧st=[.live (cellsM Ref35Contact.v y) 0]∧y.length=l.length∧i < j∧j≤l.length∧y.drop j=l.drop j∧y.take i=(l.take j).filter (fun x=>!p x)∧i≤l.length∧n=l.length - j) (l.length - (l.findIdx p + 1)) 1 [] ⟨l.findIdx p,l.findIdx p + 1,l,rfl,rfl,rfl,by omega,by omega,rfl,df_start hk0,by omega,rfl⟩ (Nat.le_refl _) rfl
   (by simp only [maskF,setF,List.set_cons_zero,List.set_cons_succ,V.ren.renL,V.ren,renL_id _ hc.own] <;> rfl) (by simp only [maskF,setF,List.set_cons_zero,List.set_cons_succ,V.idlt.belowL,V.idlt,fun n=>idltL_up (n:=n) _ hc.own] <;> rfl) rfl (wkB_live0 rfl (cellsM_idlt (f:=Ref35Contact.v) (fun _=>rfl) _) rfl trivial) ?_
  rintro n _ _ ⟨i,j,y,rfl,rfl,hyl,hij,hjl,hyd,hyt,hil,rfl⟩
  conv=>whnf
  by_cases hj:j < l.length
  ·refine Tst.isT (lt_tt hj) ?_;conv=>whnf
   have hmem:l[j] ∈ l:=List.getElem_mem hj
   have hx:y[(j:Int).toNat]?=some l[j]:=by
    rw [Int.toNat_natCast]
    have h1:(y.drop j)[0]?=(l.drop j)[0]?:=by rw [hyd]
    rw [List.getElem?_drop,List.getElem?_drop,Nat.add_zero] at h1
    rw [h1,List.getElem?_eq_getElem hj]
   refine ⟨rfl,⟨Int.natCast_nonneg _,by rw [Int.toNat_natCast];exact hj,?_⟩⟩;conv=>whnf
   refine ldo_c (f:=Ref35Contact.v) (es:=4) hx (fun _=>rfl) 0 (by omega) (by decide) ?_;conv=>whnf
   refine ⟨Nat.le_of_ble_eq_true rfl,?_⟩;conv=>whnf
   refine askC_c (X:=some) (r:=p l[j]) (a:=l[j]) hc (by rw [hf _ hmem];rfl) (fza_ids rfl) (fun v H=>?_)
   obtain rfl:=Option.some.inj H
   conv=>whnf
   have hw1:IntKind.i64.wrap ((j:Int) + 1)=((j + 1:Nat):Int):=w64_succ (by omega)
   have hw2:IntKind.i64.wrap ((i:Int) + 1)=((i + 1:Nat):Int):=w64_succ (by omega)
   cases hp:p l[j] with
   | false =>
    refine Tst.isT rfl ?_;conv=>whnf
    refine ⟨rfl,⟨Int.natCast_nonneg _,by rw [Int.toNat_natCast];omega,?_⟩⟩;conv=>whnf
    refine ⟨Nat.zero_le _,sto_c (f:=Ref35Contact.v) (l:=y) (n:=i) (es:=4) (x:=y[i]'(by omega)) (List.getElem?_eq_getElem (by omega)) (x':=l[j]) (fun _=>rfl) 0 (by rw [Int.toNat_natCast];omega) (Nat.le_of_ble_eq_true rfl) (by rfl) ?_⟩;conv=>whnf
    refine Ari.w ?_;conv=>whnf
    refine Ari.w ?_;conv=>whnf
    rw [hw1,hw2]
    have hd:=df_keep hyl hij hj hyd hyt hp
    exact again_c [7,16,17,18,19,20,21,22,23,24,25,26,27,28,29,30,31,32,33,34,35] (l.length - (j + 1)) 1 [] ⟨i + 1,j + 1,y.set i l[j],rfl,rfl,by rw [List.length_set];exact hyl,by omega,by omega,hd.1,hd.2,by omega,rfl⟩ (by omega) (Nat.le_refl _) rfl
     (by simp only [maskF,setF,List.set_cons_zero,List.set_cons_succ,V.ren.renL,V.ren,renL_id _ hc.own] <;> rfl) (by simp only [maskF,setF,List.set_cons_zero,List.set_cons_succ,V.idlt.belowL,V.idlt,fun n=>idltL_up (n:=n) _ hc.own] <;> rfl) rfl (wkB_live0 rfl (cellsM_idlt (f:=Ref35Contact.v) (fun _=>rfl) _) rfl trivial)
   | true =>
    refine Tst.isF rfl ?_;conv=>whnf
    refine Ari.w ?_;conv=>whnf
    rw [hw1]
    have hd:=df_skip hj hyd hyt hp
    exact again_c [7,16,17,18,19,20,21,22,23,24,25,26,27,28,29,30,31,32,33,34,35] (l.length - (j + 1)) 1 [] ⟨i,j + 1,y,rfl,rfl,hyl,by omega,by omega,hd.1,hd.2,hil,rfl⟩ (by omega) (Nat.le_refl _) rfl
     (by simp only [maskF,setF,List.set_cons_zero,List.set_cons_succ,V.ren.renL,V.ren,renL_id _ hc.own] <;> rfl) (by simp only [maskF,setF,List.set_cons_zero,List.set_cons_succ,V.idlt.belowL,V.idlt,fun n=>idltL_up (n:=n) _ hc.own] <;> rfl) rfl (wkB_live0 rfl (cellsM_idlt (f:=Ref35Contact.v) (fun _=>rfl) _) rfl trivial)
  ·refine Tst.isF (lt_ff (by omega)) ?_;conv=>whnf
   have hjl' : j=l.length:=by omega
   subst hjl'
   rw [List.take_length] at hyt
   have hfl:(l.filter fun x=>!p x).length=i:=by rw [← hyt,List.length_take];omega
   refine ⟨rfl,sloT_c i rfl (by omega) ?_⟩;conv=>whnf
   refine ⟨rfl,clr_c (cs':=cellsM Ref35Contact.v (l.filter fun x=>!p x)) (Nat.zero_le _) (by rw [cellsM_len (f:=Ref35Contact.v) (es:=4) (fun _=>rfl),hyl];exact (Nat.zero_add _).symm ▸ Nat.mul_le_mul_right _ (by omega)) (by omega) (by rw [Nat.zero_add,← hyt];exact (cellsM_take (f:=Ref35Contact.v) (es:=4) (fun _=>rfl) y i (by omega)).1.symm) ?_⟩;conv=>whnf
   refine ⟨rfl,sloP_c i rfl (by omega) ?_⟩;conv=>whnf
   rw [hfl]
   exact ⟨f_R0 (.inr rfl) (.cons (.tmp rfl) .nil) rfl rfl rfl rfl ⟨idltL_up _ (cellsM_idlt (f:=Ref35Contact.v) (fun _=>rfl) _),trivial⟩⟩
 ·rw [if_neg hany]
  refine Tst.isT rfl ?_;conv=>whnf
  have hfe:(l.filter fun x=>!p x)=l:=List.filter_eq_self.2 fun x hx=>by
   have:=fun h=>hany (List.any_eq_true.2 ⟨x,hx,h⟩)
   simpa using this
  rw [hfe]
  exact ⟨f_R0 (.inr rfl) (.cons (.tmp rfl) .nil) rfl rfl rfl rfl ⟨idltL_up _ (cellsM_idlt (f:=Ref35Contact.v) (fun _=>rfl) _),trivial⟩⟩
theorem delF234_v:DelFSaid Tryz.prog 234 Ref35Contact.v 4:=fun l _ _ _ hc p hn hf=>dfS234 l hc p hn hf
theorem delF234_n:DelFNil Tryz.prog 234 Ref35Contact.v:=fun {g} {caps} {fn} hc=>by
 refine callsO_comp mix Tryz.func234 dc234_ok (fun r H0=>?_)
 conv=>whnf
 refine askF_c (X:=some) (r:=(-1:Int)) (p_slices_IndexFunc_view_Contact_v [] fn hc) (by rfl) (.cons (.c .slw) (.cons (.c (.id (by exact hc.own))) .nil)) (fun x H=>?_)
 obtain rfl:=Option.some.inj H
 conv=>whnf
 refine Tst.isT rfl ?_;conv=>whnf
 exact fin0_c (enc:=fun _:Unit=>V.sl [] true) H0 (.inr rfl) (.cons (.tmp rfl) .nil) rfl rfl
end Go.Proofs.YtpmoioopjbfhkaaGreat

/- slices.Clone at function 232. -/
namespace Go.Proofs.YtpmoioopjbfhkaaGreat
open Go.RowKit Go.Lib
set_option maxHeartbeats 4000000
set_option maxRecDepth 100000
theorem cloS232 (A:Addr) (n c:Nat) (cs:List Value) (w:World) (hn:0 < n) (hbig:n≤1000000) (hcl:cs.length=n * 4) (hcs:∀ j v,cs[j]?=some v→w.cell? (A.add j)=some v) (h1:∀ v ∈ cs,v.oneCell'=true) :
  Calls Tryz.prog 232 #[.slice (some A) n c] w fun e w'=>∃ ZS:Array Value,e=.returned (.slice (some ⟨w.heap.size + 1,0,none⟩) n (grownCap (w.alloc (.cells #[] 211)) n 0 211))∧w'=(w.alloc (.cells #[] 211)).drew.alloc (.cells (cs.toArray++ZS) 211)∧grownCap (w.alloc (.cells #[] 211)) n 0 211 * 4≤(cs.toArray++ZS).size:=by
 have tS:Tryz.prog.underlying 84=some (.slice 211):=by kernel_rfl
 have uS:=run_underlying tS
 have qS:∀ (w:World) (a:Option Addr) (n c n' c' : Nat),(binOp .eql 84 (.slice a n c) (.slice none n' c')).run Tryz.prog w=.ok (.bool a.isNone) w:=fun w a n c n' c'=>Lib.run_eql_slice_nil w _ _ a n c n' c' tS
 have mixed:Tryz.prog.follows .mixedOrders=true:=mix
 obtain ⟨i0,z,hi0,hzs,hz0,hzc,hzb⟩:=infB_ok (P:=Tryz.prog) (e:=211) (es:=4) (by kernel_rfl)
 have hsrc:Src Tryz.prog i0.size 84 (.slice (some A) n c) n cs (w.alloc (.cells #[] 211)):=by
  rw [hzs]
  exact Src.ofSlice _ tS A n c cs (by omega) (fun j u hj=>Lib.cell?_alloc_some _ (hcs j u hj)) h1
 have hold:(Builtin.firstCells i0.size 0 (.slice (some ⟨w.heap.size,0,none⟩) 0 0)).run Tryz.prog (w.alloc (.cells #[] 211)).drew=.ok ([]:List Value).toArray (w.alloc (.cells #[] 211)).drew:=by
  rw [hzs]
  exact run_firstCells_some _ 4 0 ⟨w.heap.size,0,none⟩ 0 0 [] (by simp) (fun j v hj=>by simp at hj)
 have hrun:∀ ty,(Builtin.append_ #[84,84] ty #[.slice (some ⟨w.heap.size,0,none⟩) 0 0,.slice (some A) n c]).run Tryz.prog (w.alloc (.cells #[] 211))=_:=fun ty =>
  run_append_grow_src (w.alloc (.cells #[] 211)) 84 84 ty 211 i0 z tS hi0 hz0 (some ⟨w.heap.size,0,none⟩) 0 0 [] hold _ n cs hsrc (by omega) (by omega) (growslice_fits (by omega) (grown_bound (by omega) hzb))
 simp only [Nat.zero_add,List.nil_append,World.size_alloc] at hrun
 have hge:=grownCap_ge (w.alloc (.cells #[] 211)) n 0 211
 have hsz:grownCap (w.alloc (.cells #[] 211)) n 0 211 * 4≤(cs.toArray++Builtin.zeroCells z.cells (grownCap (w.alloc (.cells #[] 211)) n 0 211 - n)).size:=by
  simp only [Array.size_append,size_zeroCells,hzc,List.size_toArray,hcl]
  omega
 obtain ⟨ZS,hrun,hsz⟩ : ∃ ZS:Array Value,(∀ ty,(Builtin.append_ #[84,84] ty #[.slice (some ⟨w.heap.size,0,none⟩) 0 0,.slice (some A) n c]).run Tryz.prog (w.alloc (.cells #[] 211))=.ok (.slice (some ⟨w.heap.size + 1,0,none⟩) n (grownCap (w.alloc (.cells #[] 211)) n 0 211)) ((w.alloc (.cells #[] 211)).drew.alloc (.cells (cs.toArray++ZS) 211)))∧grownCap (w.alloc (.cells #[] 211)) n 0 211 * 4≤(cs.toArray++ZS).size:=⟨_,hrun,hsz⟩
 have main:Calls Tryz.prog 232 #[.slice (some A) n c] w fun e w'=>e=.returned (.slice (some ⟨w.heap.size + 1,0,none⟩) n (grownCap (w.alloc (.cells #[] 211)) n 0 211))∧w'=(w.alloc (.cells #[] 211)).drew.alloc (.cells (cs.toArray++ZS) 211):=by
  clear hsz hold hsrc hz0 hcs
  go_enter Tryz.func232,Tryz.ntmps232
  go_wp2_with (at_builtin;refine Lib.wpList_append_run _ rfl _ _ _ _ rfl _ _ rfl rfl _ _ (hrun _) ?_)
  go_ret
  exact ⟨rfl,rfl⟩
 refine main.mono ?_
 rintro e w' ⟨rfl,rfl⟩
 exact ⟨ZS,rfl,rfl,hsz⟩
theorem cloZ232 (A:Addr) (c:Nat) (w:World):Calls Tryz.prog 232 #[.slice (some A) 0 c] w fun e w'=>e=.returned (.slice (some ⟨w.heap.size,0,none⟩) 0 0)∧∃ q,w'=(w.alloc (.cells #[] 211)).drewN q:=by
 have tS:Tryz.prog.underlying 84=some (.slice 211):=by kernel_rfl
 have uS:=run_underlying tS
 have qS:∀ (w:World) (a:Option Addr) (n c n' c' : Nat),(binOp .eql 84 (.slice a n c) (.slice none n' c')).run Tryz.prog w=.ok (.bool a.isNone) w:=fun w a n c n' c'=>Lib.run_eql_slice_nil w _ _ a n c n' c' tS
 have mixed:Tryz.prog.follows .mixedOrders=true:=mix
 obtain ⟨i0,z,hi0,hzs,hz0,hzc,hzb⟩:=infB_ok (P:=Tryz.prog) (e:=211) (es:=4) (by kernel_rfl)
 have hsz:(Tryz.prog.info? 211).map (·.size)=some 4:=by rw [hi0];simp [hzs]
 have hrun:∀ ty,(Builtin.append_ #[84,84] ty #[.slice (some ⟨w.heap.size,0,none⟩) 0 0,.slice (some A) 0 c]).run Tryz.prog (w.alloc (.cells #[] 211))=.ok (.slice (some ⟨w.heap.size,0,none⟩) 0 0) (w.alloc (.cells #[] 211)):=fun ty=>by
  have hl:∀ (x:Addr) (W:World),(loadCells x 0).run Tryz.prog W=.ok #[] W:=fun x W=>by simpa using run_loadCells_list (P:=Tryz.prog) W x [] (by simp)
  simp [Builtin.append_,uS,Builtin.lenOf,Builtin.firstCells,sizeOf,typeInfo,hi0,hl,storeCells]
 have main:Calls Tryz.prog 232 #[.slice (some A) 0 c] w fun e w'=>e=.returned (.slice (some ⟨w.heap.size,0,none⟩) 0 0)∧w'=w.alloc (.cells #[] 211):=by
  go_enter Tryz.func232,Tryz.ntmps232
  go_wp2_with (at_builtin;refine Lib.wpList_append_run _ rfl _ _ _ _ rfl _ _ rfl rfl _ _ (hrun _) ?_)
  go_ret
  exact ⟨rfl,rfl⟩
 refine main.mono ?_
 rintro e w' ⟨rfl,rfl⟩
 exact ⟨rfl,0,rfl⟩
theorem cloN232 (n c:Nat) (w:World):Calls Tryz.prog 232 #[.slice none n c] w fun e w'=>e=.returned (.slice none 0 0)∧w'=w:=by
 have tS:Tryz.prog.underlying 84=some (.slice 211):=by kernel_rfl
 have uS:=run_underlying tS
 have qS:∀ (w:World) (a:Option Addr) (n c n' c' : Nat),(binOp .eql 84 (.slice a n c) (.slice none n' c')).run Tryz.prog w=.ok (.bool a.isNone) w:=fun w a n c n' c'=>Lib.run_eql_slice_nil w _ _ a n c n' c' tS
 have mixed:Tryz.prog.follows .mixedOrders=true:=mix
 go_enter Tryz.func232,Tryz.ntmps232
 go_wp2
 go_ret
 exact ⟨rfl,rfl⟩
theorem cloR232_v:CloRoads Tryz.prog 232 4 211:=⟨cloS232,cloZ232,cloN232⟩
end Go.Proofs.YtpmoioopjbfhkaaGreat

