/- DeframeEncodes: for every input the call returns true, and its arguments read as they did. -/
import Derived.Test.YtmmmcpeickfolaaGreatZdA26
import Derived.Test.YtmmmcpeickfolaaGreatZdA27
import Derived.Test.YtmmmcpeickfolaaGreatZdA28
import Derived.Test.YtmmmcpeickfolaaGreatZdA18
import Derived.Test.YtmmmcpeickfolaaGreatZdA14
import Derived.KernelRfl
import Derived.Test.YtmmmcpeickfolaaGreatZdA15
import Derived.Test.YtmmmcpeickfolaaGreatRows
set_option linter.all false
namespace Go.Proofs.YtmmmcpeickfolaaGreat
open Go.RowKit
set_option maxRecDepth 100000
set_option maxHeartbeats 4000000
def gc101:BCode:=(.seq (R_ 1 [O_ 2 (.bx (t_ 0)) 0,O_ 4 (.mv (.const (.slice none 0 0))) 1]) (.seq (R_ 0 [O_ 5 (.mv (.const (.slice none 0 0))) 0]) (.seq (.seq (R_ 0 [O_ 6 (.mv (t_ 1)) 0]) (.block 0 (.seq (R_ 0 [O_ 14 (.bin .eql (t_ 6) (.const (.int .u8 117))) 0,O_ 13 (.mv (t_ 14)) 0]) (.cond (t_ 13) (R_ 0 [O_ 16 (.fa 1 (t_ 2)) 0,O_ 17 (.ld 1 false (t_ 16)) 0,O_ 18 (.cl 154 [(t_ 17),(i_ 33)]) 0,O_ 15 (.mv (t_ 18)) 0,O_ 19 (.ex (t_ 15) 0) 0,O_ 20 (.ex (t_ 15) 1) 0,O_ 5 (.mv (t_ 19)) 0]) (.seq (R_ 0 [O_ 22 (.bin .eql (t_ 6) (.const (.int .u8 114))) 0,O_ 21 (.mv (t_ 22)) 0]) (.cond (t_ 21) (R_ 0 [O_ 24 (.fa 2 (t_ 2)) 0,O_ 25 (.ld 1 false (t_ 24)) 0,O_ 26 (.cl 154 [(t_ 25),(i_ 12)]) 0,O_ 23 (.mv (t_ 26)) 0,O_ 27 (.ex (t_ 23) 0) 0,O_ 28 (.ex (t_ 23) 1) 0,O_ 5 (.mv (t_ 27)) 0]) (.seq (R_ 0 [O_ 30 (.bin .eql (t_ 6) (.const (.int .u8 109))) 0,O_ 29 (.mv (t_ 30)) 0]) (.cond (t_ 29) (R_ 0 [O_ 32 (.fa 3 (t_ 2)) 0,O_ 33 (.ld 1 false (t_ 32)) 0,O_ 34 (.cl 154 [(t_ 33),(i_ 24)]) 0,O_ 31 (.mv (t_ 34)) 0,O_ 35 (.ex (t_ 31) 0) 0,O_ 36 (.ex (t_ 31) 1) 0,O_ 5 (.mv (t_ 35)) 0]) (.seq (R_ 0 [O_ 38 (.bin .eql (t_ 6) (.const (.int .u8 115))) 0,O_ 37 (.mv (t_ 38)) 0]) (.cond (t_ 37) (R_ 0 [O_ 40 (.fa 4 (t_ 2)) 0,O_ 41 (.ld 1 false (t_ 40)) 0,O_ 42 (.cl 155 [(t_ 41),(i_ 1)]) 0,O_ 39 (.mv (t_ 42)) 0,O_ 43 (.ex (t_ 39) 0) 0,O_ 44 (.ex (t_ 39) 1) 0,O_ 5 (.mv (t_ 43)) 0]) (.seq (R_ 0 [O_ 46 (.bin .eql (t_ 6) (.const (.int .u8 112))) 0,O_ 45 (.mv (t_ 46)) 0]) (.cond (t_ 45) (R_ 0 [O_ 48 (.fa 5 (t_ 2)) 0,O_ 49 (.ld 1 false (t_ 48)) 0,O_ 50 (.bin .add (t_ 49) (i_ 128)) 0,O_ 51 (.cl 155 [(t_ 50),(i_ 1)]) 0,O_ 47 (.mv (t_ 51)) 0,O_ 52 (.ex (t_ 47) 0) 0,O_ 53 (.ex (t_ 47) 1) 0,O_ 5 (.mv (t_ 52)) 0]) (.seq (R_ 0 [O_ 55 (.bin .eql (t_ 6) (.const (.int .u8 99))) 0,O_ 54 (.mv (t_ 55)) 0]) (.cond (t_ 54) (R_ 0 [O_ 57 (.fa 6 (t_ 2)) 0,O_ 58 (.ld 1 false (t_ 57)) 0,O_ 59 (.cl 155 [(t_ 58),(i_ 1)]) 0,O_ 56 (.mv (t_ 59)) 0,O_ 60 (.ex (t_ 56) 0) 0,O_ 61 (.ex (t_ 56) 1) 0,O_ 5 (.mv (t_ 60)) 0]) (R_ 0 [O_ 8 (.fa 7 (t_ 2)) 0,O_ 9 (.ld 1 false (t_ 8)) 0,O_ 10 (.cl 155 [(t_ 9),(i_ 6)]) 0,O_ 7 (.mv (t_ 10)) 0,O_ 11 (.ex (t_ 7) 0) 0,O_ 12 (.ex (t_ 7) 1) 0,O_ 5 (.mv (t_ 11)) 0]))))))))))))))) (.seq (R_ 0 [O_ 62 (.mv (t_ 5)) 0,O_ 4 (.mv (t_ 62)) 0]) .ret))))
theorem gc101_ok:compF Tryz.prog Tryz.f101=some (gc101.er,63,[.tmp 4]):=by unfold gc101;kernel_rfl
theorem p_ref10_field_v (a0:StanzaStanza) (a1:Int):CallsO Tryz.prog 101 [.agg [.y8 a0.Kind,.s a0.User,.s a0.Res,.s a0.Name,.i a0.Show,.i a0.Prio,.i a0.Code,.i a0.N],.y8 a1] (fun l:List Int=>V.sl (l.map V.y8) false) (p_ref10_field a0 a1):=by
 refine callsO_comp mix Tryz.func101 gc101_ok fun r H=>?_
 rw [p_ref10_field] at H
 conv=>whnf
 refine tst_c H (fun b1 H=>?_) (fun b1 H=>?_)
 ·conv=>whnf
  refine ask_c (p_ref01_Say_v _ _) H rfl rfl (fun v2 H=>?_);conv=>whnf
  exact fin0_c (enc:=(fun l:List Int=>V.sl (l.map V.y8) false)) H (.inr rfl) (.cons (.tmp rfl) (.nil)) rfl rfl
 conv=>whnf
 refine tst_c H (fun b3 H=>?_) (fun b3 H=>?_)
 ·conv=>whnf
  refine ask_c (p_ref01_Say_v _ _) H rfl rfl (fun v4 H=>?_);conv=>whnf
  exact fin0_c (enc:=(fun l:List Int=>V.sl (l.map V.y8) false)) H (.inr rfl) (.cons (.tmp rfl) (.nil)) rfl rfl
 conv=>whnf
 refine tst_c H (fun b5 H=>?_) (fun b5 H=>?_)
 ·conv=>whnf
  refine ask_c (p_ref01_Say_v _ _) H rfl rfl (fun v6 H=>?_);conv=>whnf
  exact fin0_c (enc:=(fun l:List Int=>V.sl (l.map V.y8) false)) H (.inr rfl) (.cons (.tmp rfl) (.nil)) rfl rfl
 conv=>whnf
 refine tst_c H (fun b7 H=>?_) (fun b7 H=>?_)
 ·conv=>whnf
  refine ask_c (p_ref01_Lay_v _ _) H rfl rfl (fun v8 H=>?_);conv=>whnf
  exact fin0_c (enc:=(fun l:List Int=>V.sl (l.map V.y8) false)) H (.inr rfl) (.cons (.tmp rfl) (.nil)) rfl rfl
 conv=>whnf
 refine tst_c H (fun b9 H=>?_) (fun b9 H=>?_)
 ·conv=>whnf
  refine Ari.w ?_;conv=>whnf
  refine ask_c (p_ref01_Lay_v _ _) H rfl rfl (fun v10 H=>?_);conv=>whnf
  exact fin0_c (enc:=(fun l:List Int=>V.sl (l.map V.y8) false)) H (.inr rfl) (.cons (.tmp rfl) (.nil)) rfl rfl
 conv=>whnf
 refine tst_c H (fun b11 H=>?_) (fun b11 H=>?_)
 ·conv=>whnf
  refine ask_c (p_ref01_Lay_v _ _) H rfl rfl (fun v12 H=>?_);conv=>whnf
  exact fin0_c (enc:=(fun l:List Int=>V.sl (l.map V.y8) false)) H (.inr rfl) (.cons (.tmp rfl) (.nil)) rfl rfl
 conv=>whnf
 refine ask_c (p_ref01_Lay_v _ _) H rfl rfl (fun v13 H=>?_);conv=>whnf
 exact fin0_c (enc:=(fun l:List Int=>V.sl (l.map V.y8) false)) H (.inr rfl) (.cons (.tmp rfl) (.nil)) rfl rfl
def gc53:BCode:=(.seq (R_ 1 [O_ 1 (.bx (t_ 0)) 0,O_ 2 (.mv (.const (.string ⟨#[]⟩))) 1,O_ 3 (.mv (i_ 0)) 1]) (.seq (R_ 0 [O_ 8 (.ld 8 true (t_ 1)) 0,O_ 9 (.cl 99 [(t_ 8)]) 0,O_ 4 (.mv (t_ 9)) 0]) (.seq (.seq (R_ 0 [O_ 10 (.mv (t_ 4)) 0,O_ 11 (.bin .neq (t_ 10) (i_ 0)) 0]) (.cond (t_ 11) (.seq (R_ 0 [O_ 12 (.mv (t_ 4)) 0,O_ 2 (.mv (.const (.string ⟨#[]⟩))) 0,O_ 3 (.mv (t_ 12)) 0]) .ret) .skip)) (.seq (R_ 1 [O_ 13 (.fa 0 (t_ 1)) 0,O_ 14 (.ld 1 false (t_ 13)) 0,O_ 15 (.bs 1 1 [(.lit (.int .u8 0))] [(0,(t_ 14))]) 0,O_ 5 (.mv (t_ 15)) 1]) (.seq (R_ 0 [O_ 16 (.fa 0 (t_ 1)) 0,O_ 17 (.ld 1 false (t_ 16)) 0,O_ 18 (.cl 100 [(t_ 17)]) 0,O_ 6 (.mv (t_ 18)) 0]) (.seq (.seq (R_ 0 [O_ 7 (.mv (i_ 0)) 0]) (.block 0 (.loop (.seq (.seq (R_ 0 [O_ 19 (.mv (t_ 7)) 0,O_ 20 (.mv (t_ 6)) 0,O_ 21 (.lent (t_ 20)) 0,O_ 22 (.bin .lss (t_ 19) (t_ 21)) 0]) (.cond (t_ 22) .skip (.exit 0))) (.seq (.block 1 (.reg 1 [O_ 25 (.mv (t_ 5)) 0,O_ 26 (.ld 8 true (t_ 1)) 0,O_ 27 (.mv (t_ 6)) 0,O_ 28 (.mv (t_ 7)) 0,O_ 29 (.ixt (t_ 27) (t_ 28)) 0,O_ 30 (.cl 101 [(t_ 26),(t_ 29)]) 0,O_ 31 (.ap 1 1 (t_ 25) (t_ 30)) 0,O_ 5 (.mv (t_ 31)) 1] (some [[],[],[],[],[3,2],[2,3,4,1],[1,4,3,2,5,0],[0,5,2,3,4,1,6]]) 0 [])) (R_ 0 [O_ 23 (.mv (t_ 7)) 0,O_ 24 (.bin .add (t_ 23) (i_ 1)) 0,O_ 7 (.mv (t_ 24)) 0])))))) (.seq (R_ 0 [O_ 32 (.mv (t_ 5)) 0,O_ 33 (.b2s (t_ 32)) 0,O_ 2 (.mv (t_ 33)) 0,O_ 3 (.mv (i_ 0)) 0]) .ret)))))))
theorem gc53_ok:compF Tryz.prog Tryz.f53=some (gc53.er,34,[.tmp 2,.tmp 3]):=by unfold gc53;kernel_rfl
theorem p_ref10_Put_v (a0:StanzaStanza):CallsO Tryz.prog 53 [.agg [.y8 a0.Kind,.s a0.User,.s a0.Res,.s a0.Name,.i a0.Show,.i a0.Prio,.i a0.Code,.i a0.N]] (fun r:ByteArray × Int=>.tup [V.s r.1,V.i r.2]) (p_ref10_Put a0):=by
 refine callsO_comp mix Tryz.func53 gc53_ok fun r H=>?_
 rw [p_ref10_Put] at H
 conv=>whnf
 refine ask_c (p_ref10_Check_v _) H rfl rfl (fun v1 H=>?_);conv=>whnf
 refine tst_c H (fun b2 H=>?_) (fun b2 H=>?_)
 ·conv=>whnf
  exact fin0_c (enc:=(fun r:ByteArray × Int=>.tup [V.s r.1,V.i r.2])) H (.inr rfl) (.cons (.tmp rfl) (.cons (.tmp rfl) (.nil))) rfl rfl
 conv=>whnf
 refine ask_c (p_ref10_Has_v _) H rfl rfl (fun v3 H=>?_);conv=>whnf
 obtain ⟨o5,HL6,HQ7⟩:=bind_c H
 refine loop_c [5,7] [19,20,21,22,23,24,25,26,27,28,29,30,31,13,15,16] [19,20,21,22,23,24,25,26,27,28,29,30,31,13,15,16] (fun n vals st=>(∃ y9 y10,p_ref10_Put_l1  v3 a0 n y9 y10=some o5∧vals=[.osl 1 0 (List.length y9) 1 true,.i y10]∧st=[.live [.y8 a0.Kind,.s a0.User,.s a0.Res,.s a0.Name,.i a0.Show,.i a0.Prio,.i a0.Code,.i a0.N] 0,.live (cellsM V.y8 y9) (cellsM V.y8 y9).length])∨(∃ y15 y16,p_ref10_Put_l1  v3 a0 n y15 y16=some o5∧vals=[.osl 1 0 (List.length y15) 1 false,.i y16]∧st=[.live [.y8 a0.Kind,.s a0.User,.s a0.Res,.s a0.Name,.i a0.Show,.i a0.Prio,.i a0.Code,.i a0.N] 0,.live (cellsM V.y8 y15) (cellsM V.y8 y15).length])) fuel 2 [] (.inl (⟨_,_,HL6,rfl,rfl⟩)) (Nat.zero_le _) rfl (by kernel_rfl) (by kernel_rfl) rfl ⟨⟨rfl,rfl,rfl⟩,wkB_live0 rfl (cellsM_idlt (f:=V.y8) (fun _=>rfl) _) rfl trivial⟩ ?_
 rintro (_ | n8) _ _ (⟨y9,y10,H,rfl,rfl⟩ | ⟨y15,y16,H,rfl,rfl⟩)
 ·rw [p_ref10_Put_l1] at H;cases H
 ·rw [p_ref10_Put_l1] at H;cases H
 ·rw [p_ref10_Put_l1] at H
  conv=>whnf
  refine tst_d H (fun b11 H=>?_) (fun b11 H=>?_)
  ·conv=>whnf
   obtain rfl:=Option.some.inj H
   have H:=HQ7
   try dsimp only at H
   refine b2sO_c H rfl rfl rfl (fun s17 H=>?_);conv=>whnf
   exact fin0_c (enc:=(fun r:ByteArray × Int=>.tup [V.s r.1,V.i r.2])) H (.inr rfl) (.cons (.tmp rfl) (.cons (.tmp rfl) (.nil))) rfl rfl
  conv=>whnf
  refine ixt_c H (fun c12 H=>?_);conv=>whnf
  refine ask_c (p_ref10_field_v _ _) H rfl rfl (fun v13 H=>?_);conv=>whnf
  refine appD_c (f:=V.y8) H (fun _=>rfl) rfl rfl rfl rfl (.v (srcM (f:=V.y8) (fun _=>rfl) _ _)) (by decide) rfl (fun l14 H=>?_) (fun l14 H=>?_)
  ·conv=>whnf
   refine FootQ.mk ⟨rfl,?_⟩;conv=>whnf
   refine Ari.w ?_;conv=>whnf
   exact again_c [19,20,21,22,23,24,25,26,27,28,29,30,31,13,15,16] n8 2 [] (.inl (⟨_,_,H,rfl,rfl⟩)) (Nat.lt_succ_self _) (Nat.zero_le _) rfl (by kernel_rfl) (by kernel_rfl) rfl ⟨⟨rfl,rfl,rfl⟩,wkB_live0 rfl (cellsM_idlt (f:=V.y8) (fun _=>rfl) _) rfl trivial⟩
  conv=>whnf
  refine FootQ.mk ⟨rfl,?_⟩;conv=>whnf
  refine Ari.w ?_;conv=>whnf
  exact again_c [19,20,21,22,23,24,25,26,27,28,29,30,31,13,15,16] n8 2 [0,2] (.inr (⟨_,_,H,rfl,rfl⟩)) (Nat.lt_succ_self _) (Nat.zero_le _) rfl (by kernel_rfl) (by kernel_rfl) rfl ⟨⟨rfl,rfl,rfl⟩,wkB_live0 rfl (cellsM_idlt (f:=V.y8) (fun _=>rfl) _) rfl trivial⟩
 rw [p_ref10_Put_l1] at H
 conv=>whnf
 refine tst_d H (fun b18 H=>?_) (fun b18 H=>?_)
 ·conv=>whnf
  obtain rfl:=Option.some.inj H
  have H:=HQ7
  try dsimp only at H
  refine b2sO_c H rfl rfl rfl (fun s22 H=>?_);conv=>whnf
  exact fin0_c (enc:=(fun r:ByteArray × Int=>.tup [V.s r.1,V.i r.2])) H (.inr rfl) (.cons (.tmp rfl) (.cons (.tmp rfl) (.nil))) rfl rfl
 conv=>whnf
 refine ixt_c H (fun c19 H=>?_);conv=>whnf
 refine ask_c (p_ref10_field_v _ _) H rfl rfl (fun v20 H=>?_);conv=>whnf
 refine appP_c (f:=V.y8) H (fun _=>rfl) rfl rfl (.v (srcM (f:=V.y8) (fun _=>rfl) _ _)) (by decide) rfl (fun l21 H=>?_) (fun l21 H=>?_)
 ·conv=>whnf
  refine FootQ.mk ⟨rfl,?_⟩;conv=>whnf
  refine Ari.w ?_;conv=>whnf
  exact again_c [19,20,21,22,23,24,25,26,27,28,29,30,31,13,15,16] n8 2 [] (.inr (⟨_,_,H,rfl,rfl⟩)) (Nat.lt_succ_self _) (Nat.zero_le _) rfl (by kernel_rfl) (by kernel_rfl) rfl ⟨⟨rfl,rfl,rfl⟩,wkB_live0 rfl (cellsM_idlt (f:=V.y8) (fun _=>rfl) _) rfl trivial⟩
 conv=>whnf
 refine FootQ.mk ⟨rfl,?_⟩;conv=>whnf
 refine Ari.w ?_;conv=>whnf
 exact again_c [19,20,21,22,23,24,25,26,27,28,29,30,31,13,15,16] n8 2 [0,2] (.inr (⟨_,_,H,rfl,rfl⟩)) (Nat.lt_succ_self _) (Nat.zero_le _) rfl (by kernel_rfl) (by kernel_rfl) rfl ⟨⟨rfl,rfl,rfl⟩,wkB_live0 rfl (cellsM_idlt (f:=V.y8) (fun _=>rfl) _) rfl trivial⟩
def gc64:BCode:=(.seq (R_ 0 [O_ 2 (.mv (.const (.string ⟨#[]⟩))) 0,O_ 3 (.mv (i_ 0)) 0]) (.seq (.block 0 (.seq (R_ 0 [O_ 5 (.mv (t_ 0)) 0,O_ 6 (.bin .eql (t_ 5) (.const (.string ⟨#[]⟩))) 0,O_ 4 (.mv (t_ 6)) 0]) (.cond (t_ 4) (.seq (R_ 0 [O_ 2 (.mv (.const (.string ⟨#[]⟩))) 0,O_ 3 (.mv (i_ 4)) 0]) .ret) (.seq (R_ 0 [O_ 8 (.mv (t_ 0)) 0,O_ 9 (.lent (t_ 8)) 0,O_ 10 (.bin .gtr (t_ 9) (i_ 128)) 0,O_ 7 (.mv (t_ 10)) 0]) (.cond (t_ 7) (.seq (R_ 0 [O_ 2 (.mv (.const (.string ⟨#[]⟩))) 0,O_ 3 (.mv (i_ 5)) 0]) .ret) .skip))))) (.seq (R_ 1 [O_ 11 (.mv (t_ 0)) 0,O_ 12 (.lent (t_ 11)) 0,O_ 13 (.bin .quo (t_ 12) (i_ 256)) 0,O_ 14 (.cvi .u8 (t_ 13)) 0,O_ 15 (.mv (t_ 0)) 0,O_ 16 (.lent (t_ 15)) 0,O_ 17 (.bin .rem (t_ 16) (i_ 256)) 0,O_ 18 (.cvi .u8 (t_ 17)) 0,O_ 19 (.bs 1 2 [(.lit (.int .u8 0)),(.lit (.int .u8 0))] [(0,(t_ 14)),(1,(t_ 18))]) 0,O_ 20 (.b2s (t_ 19)) 1,O_ 21 (.mv (t_ 0)) 1,O_ 22 (.bin .add (t_ 20) (t_ 21)) 1,O_ 2 (.mv (t_ 22)) 1,O_ 3 (.mv (i_ 0)) 1]) .ret)))
theorem gc64_ok:compF Tryz.prog Tryz.f64=some (gc64.er,23,[.tmp 2,.tmp 3]):=by unfold gc64;kernel_rfl
theorem p_ref11_Put_v (a0:ByteArray):CallsO Tryz.prog 64 [.s a0] (fun r:ByteArray × Int=>.tup [V.s r.1,V.i r.2]) (p_ref11_Put a0):=by
 refine callsO_comp mix Tryz.func64 gc64_ok fun r H=>?_
 rw [p_ref11_Put] at H
 conv=>whnf
 refine tst_c H (fun b1 H=>?_) (fun b1 H=>?_)
 ·conv=>whnf
  exact fin0_c (enc:=(fun r:ByteArray × Int=>.tup [V.s r.1,V.i r.2])) H (.inr rfl) (.cons (.tmp rfl) (.cons (.tmp rfl) (.nil))) rfl rfl
 conv=>whnf
 refine tst_c H (fun b2 H=>?_) (fun b2 H=>?_)
 ·conv=>whnf
  exact fin0_c (enc:=(fun r:ByteArray × Int=>.tup [V.s r.1,V.i r.2])) H (.inr rfl) (.cons (.tmp rfl) (.cons (.tmp rfl) (.nil))) rfl rfl
 conv=>whnf
 refine ⟨by decide,Ari.w ?_⟩;conv=>whnf
 refine Ari.w ?_;conv=>whnf
 refine ⟨by decide,?_⟩;conv=>whnf
 refine Ari.w ?_;conv=>whnf
 refine b2sO_c H rfl rfl rfl (fun s3 H=>?_);conv=>whnf
 refine cat_c H (fun s4 H=>?_);conv=>whnf
 exact fin0_c (enc:=(fun r:ByteArray × Int=>.tup [V.s r.1,V.i r.2])) H (.inr rfl) (.cons (.tmp rfl) (.cons (.tmp rfl) (.nil))) rfl rfl
def gc40:BCode:=(.seq (R_ 0 [O_ 2 (.mv (.const (.string ⟨#[]⟩))) 0,O_ 3 (.mv (i_ 0)) 0]) (.seq (R_ 0 [O_ 4 (.mv (.const (.string ⟨#[]⟩))) 0]) (.seq (.seq (R_ 0 [O_ 5 (.mv (i_ 0)) 0]) (.block 0 (.loop (.seq (.seq (R_ 0 [O_ 9 (.mv (t_ 5)) 0,O_ 10 (.mv (t_ 0)) 0,O_ 11 (.lens (t_ 10)) 0,O_ 12 (.bin .lss (t_ 9) (t_ 11)) 0]) (.cond (t_ 12) .skip (.exit 0))) (.seq (.block 1 (.seq (R_ 0 [O_ 16 (.mv (t_ 0)) 0,O_ 17 (.mv (t_ 5)) 0,O_ 18 (.ixs 8 (t_ 16) (t_ 17)) 0,O_ 19 (.ld 8 true (t_ 18)) 0,O_ 20 (.cl 53 [(t_ 19)]) 0,O_ 15 (.mv (t_ 20)) 0,O_ 21 (.ex (t_ 15) 0) 0,O_ 22 (.ex (t_ 15) 1) 0,O_ 6 (.mv (t_ 21)) 0,O_ 7 (.mv (t_ 22)) 0]) (.seq (.seq (R_ 0 [O_ 23 (.mv (t_ 7)) 0,O_ 24 (.bin .neq (t_ 23) (i_ 0)) 0]) (.cond (t_ 24) (.seq (R_ 0 [O_ 25 (.mv (t_ 7)) 0,O_ 2 (.mv (.const (.string ⟨#[]⟩))) 0,O_ 3 (.mv (t_ 25)) 0]) .ret) .skip)) (.seq (R_ 0 [O_ 27 (.mv (t_ 6)) 0,O_ 28 (.cl 64 [(t_ 27)]) 0,O_ 26 (.mv (t_ 28)) 0,O_ 29 (.ex (t_ 26) 0) 0,O_ 30 (.ex (t_ 26) 1) 0,O_ 8 (.mv (t_ 29)) 0,O_ 7 (.mv (t_ 30)) 0]) (.seq (.seq (R_ 0 [O_ 31 (.mv (t_ 7)) 0,O_ 32 (.bin .neq (t_ 31) (i_ 0)) 0]) (.cond (t_ 32) (.seq (R_ 0 [O_ 33 (.mv (t_ 7)) 0,O_ 2 (.mv (.const (.string ⟨#[]⟩))) 0,O_ 3 (.mv (t_ 33)) 0]) .ret) .skip)) (R_ 0 [O_ 34 (.mv (t_ 4)) 0,O_ 35 (.mv (t_ 8)) 0,O_ 36 (.bin .add (t_ 34) (t_ 35)) 0,O_ 4 (.mv (t_ 36)) 0])))))) (R_ 0 [O_ 13 (.mv (t_ 5)) 0,O_ 14 (.bin .add (t_ 13) (i_ 1)) 0,O_ 5 (.mv (t_ 14)) 0])))))) (.seq (R_ 0 [O_ 37 (.mv (t_ 4)) 0,O_ 2 (.mv (t_ 37)) 0,O_ 3 (.mv (i_ 0)) 0]) .ret))))
theorem gc40_ok:compF Tryz.prog Tryz.f40=some (gc40.er,38,[.tmp 2,.tmp 3]):=by unfold gc40;kernel_rfl
theorem p_ref12_Encode_v {u1:Bool} (a0:List StanzaStanza):CallsO Tryz.prog 40 [.sl (List.map StanzaStanza.v a0) u1] (fun r:ByteArray × Int=>.tup [V.s r.1,V.i r.2]) (p_ref12_Encode a0):=by
 refine callsO_comp mix Tryz.func40 gc40_ok fun r H=>?_
 rw [p_ref12_Encode] at H
 conv=>whnf
 obtain ⟨o2,HL3,HQ4⟩:=bind_c H
 refine loop_c [2,3,4,5] [6,7,8,9,10,11,12,13,14,15,16,17,18,19,20,21,22,23,24,25,26,27,28,29,30,31,32,33,34,35,36] [6,7,8,9,10,11,12,13,14,15,16,17,18,19,20,21,22,23,24,25,26,27,28,29,30,31,32,33,34,35,36] (fun n vals st=>(∃ y6 y7,p_ref12_Encode_l1  a0 n y6 y7=some o2∧vals=[.s (⟨#[]⟩ : ByteArray),.i (0:Int),.s y6,.i y7]∧st=[])) fuel 0 [] (⟨_,_,HL3,rfl,rfl⟩) (Nat.zero_le _) rfl (by kernel_rfl) (by kernel_rfl) rfl trivial ?_
 rintro (_ | n5) _ _ (⟨y6,y7,H,rfl,rfl⟩)
 ·rw [p_ref12_Encode_l1] at H;cases H
 rw [p_ref12_Encode_l1] at H
 conv=>whnf
 refine LenQ.M ?_;conv=>whnf
 refine tst_d H (fun b8 H=>?_) (fun b8 H=>?_)
 ·conv=>whnf
  obtain rfl:=Option.some.inj H
  have H:=HQ4
  try dsimp only at H
  exact fin0_c (enc:=(fun r:ByteArray × Int=>.tup [V.s r.1,V.i r.2])) H (.inr rfl) (.cons (.tmp rfl) (.cons (.tmp rfl) (.nil))) rfl rfl
 conv=>whnf
 refine ixs_c (f:=StanzaStanza.v) H (fun _=>rfl) (fun x9 H=>?_);conv=>whnf
 refine ask_c (p_ref10_Put_v _) H rfl rfl (fun v10 H=>?_);conv=>whnf
 refine tst_c H (fun b11 H=>?_) (fun b11 H=>?_)
 ·conv=>whnf
  obtain rfl:=Option.some.inj H
  have H:=HQ4
  try dsimp only at H
  exact fin0_c (enc:=(fun r:ByteArray × Int=>.tup [V.s r.1,V.i r.2])) H (.inr rfl) (.cons (.tmp rfl) (.cons (.tmp rfl) (.nil))) rfl rfl
 conv=>whnf
 refine ask_c (p_ref11_Put_v _) H rfl rfl (fun v12 H=>?_);conv=>whnf
 refine tst_c H (fun b13 H=>?_) (fun b13 H=>?_)
 ·conv=>whnf
  obtain rfl:=Option.some.inj H
  have H:=HQ4
  try dsimp only at H
  exact fin0_c (enc:=(fun r:ByteArray × Int=>.tup [V.s r.1,V.i r.2])) H (.inr rfl) (.cons (.tmp rfl) (.cons (.tmp rfl) (.nil))) rfl rfl
 conv=>whnf
 refine cat_c H (fun s14 H=>?_);conv=>whnf
 refine Ari.w ?_;conv=>whnf
 exact again_c [6,7,8,9,10,11,12,13,14,15,16,17,18,19,20,21,22,23,24,25,26,27,28,29,30,31,32,33,34,35,36] n5 0 [] (⟨_,_,H,rfl,rfl⟩) (Nat.lt_succ_self _) (Nat.zero_le _) rfl (by kernel_rfl) (by kernel_rfl) rfl trivial
def gc7:BCode:=(.seq (R_ 0 [O_ 2 (.mv (b_ false)) 0]) (.seq (.seq (R_ 0 [O_ 9 (.mv (t_ 0)) 0,O_ 10 (.lens (t_ 9)) 0,O_ 11 (.bin .gtr (t_ 10) (i_ 12)) 0]) (.cond (t_ 11) (.seq (R_ 0 [O_ 12 (.cl 25 []) 0,O_ 2 (.mv (t_ 12)) 0]) .ret) .skip)) (.seq (R_ 0 [O_ 3 (.mv (.const (.slice none 0 0))) 0]) (.seq (.seq (R_ 0 [O_ 4 (.mv (i_ 0)) 0]) (.block 0 (.loop (.seq (.seq (R_ 0 [O_ 13 (.mv (t_ 4)) 0,O_ 14 (.mv (t_ 0)) 0,O_ 15 (.lens (t_ 14)) 0,O_ 16 (.bin .lss (t_ 13) (t_ 15)) 0]) (.cond (t_ 16) .skip (.exit 0))) (.seq (.block 1 (.seq (.seq (R_ 0 [O_ 19 (.mv (t_ 0)) 0,O_ 20 (.mv (t_ 4)) 0,O_ 21 (.ixs 8 (t_ 19) (t_ 20)) 0,O_ 22 (.ld 8 true (t_ 21)) 0,O_ 23 (.cl 38 [(t_ 22)]) 0,O_ 24 (.un .not (t_ 23)) 0]) (.cond (t_ 24) (.seq (R_ 0 [O_ 25 (.cl 25 []) 0,O_ 2 (.mv (t_ 25)) 0]) .ret) .skip)) (R_ 2 [O_ 26 (.mv (t_ 3)) 0,O_ 27 (.mv (t_ 0)) 0,O_ 28 (.mv (t_ 4)) 0,O_ 29 (.ixs 8 (t_ 27) (t_ 28)) 0,O_ 30 (.ld 8 true (t_ 29)) 0,O_ 31 (.bs 8 1 [(.lit (.int .u8 0)),(.lit (.string ⟨#[]⟩)),(.lit (.string ⟨#[]⟩)),(.lit (.string ⟨#[]⟩)),(.lit (.int .i64 0)),(.lit (.int .i64 0)),(.lit (.int .i64 0)),(.lit (.int .i64 0))] [(0,(t_ 30))]) 0,O_ 32 (.ap 8 88 (t_ 26) (t_ 31)) 1,O_ 3 (.mv (t_ 32)) 2]))) (R_ 0 [O_ 17 (.mv (t_ 4)) 0,O_ 18 (.bin .add (t_ 17) (i_ 1)) 0,O_ 4 (.mv (t_ 18)) 0])))))) (.seq (R_ 0 [O_ 34 (.mv (t_ 3)) 0,O_ 35 (.cl 39 [(t_ 34)]) 0,O_ 33 (.mv (t_ 35)) 0,O_ 36 (.ex (t_ 33) 0) 0,O_ 37 (.ex (t_ 33) 1) 0,O_ 5 (.mv (t_ 36)) 0,O_ 6 (.mv (t_ 37)) 0]) (.seq (R_ 0 [O_ 39 (.mv (t_ 0)) 0,O_ 40 (.cl 40 [(t_ 39)]) 0,O_ 38 (.mv (t_ 40)) 0,O_ 41 (.ex (t_ 38) 0) 0,O_ 42 (.ex (t_ 38) 1) 0,O_ 7 (.mv (t_ 41)) 0,O_ 8 (.mv (t_ 42)) 0]) (.seq (R_ 0 [O_ 43 (.mv (t_ 5)) 0,O_ 44 (.mv (t_ 7)) 0,O_ 45 (.bin .eql (t_ 43) (t_ 44)) 0,O_ 46 (.mv (t_ 45)) 0,⟨(some 47),.mv (t_ 6),(some (46,true)),0⟩,⟨(some 48),.mv (t_ 8),(some (46,true)),0⟩,⟨(some 49),.bin .eql (t_ 47) (t_ 48),(some (46,true)),0⟩,O_ 50 (.pick (t_ 46) (t_ 49) (b_ false)) 0,O_ 51 (.mv (t_ 50)) 0,⟨(some 52),.cl 25 [],(some (51,true)),0⟩,O_ 53 (.pick (t_ 51) (t_ 52) (b_ false)) 0,O_ 2 (.mv (t_ 53)) 0]) .ret)))))))
theorem gc7_ok:compF Tryz.prog Tryz.f7=some (gc7.er,54,[.tmp 2]):=by unfold gc7;kernel_rfl
theorem p_law12_DeframeEncodes_v {u1:Bool} (a0:List StanzaStanza):CallsO Tryz.prog 7 [.sl (List.map StanzaStanza.v a0) u1] V.b (tru? (p_law12_DeframeEncodes a0)):=by
 refine callsO_comp mix Tryz.func7 gc7_ok fun r H=>?_
 have H1:=tru_of H
 clear H
 obtain ⟨rfl,H⟩:=H1
 rw [p_law12_DeframeEncodes] at H
 conv=>whnf
 refine LenQ.M ?_;conv=>whnf
 refine tst_c H (fun b1 H=>?_) (fun b1 H=>?_)
 ·conv=>whnf
  refine ask_c (p_law12_awake_v) H rfl rfl (fun v2 H=>?_);conv=>whnf
  exact fb_ H
 conv=>whnf
 obtain ⟨o4,HL5,HQ6⟩:=bind_c H
 refine loop_c [2,3,4] [13,14,15,16,17,18,19,20,21,22,23,24,25,26,27,28,29,30,31,32] [13,14,15,16,17,18,19,20,21,22,23,24,25,26,27,28,29,30,31,32] (fun n vals st=>(∃ y8,p_law12_DeframeEncodes_l1  a0 n [] y8=some o4∧vals=[.b false,.sl (List.map StanzaStanza.v []) true,.i y8]∧st=[])∨(∃ y15 y16,p_law12_DeframeEncodes_l1  a0 n y15 y16=some o4∧vals=[.b false,.osl 0 0 (List.length y15) 8 false,.i y16]∧st=[.live (cellsM StanzaStanza.v y15) (cellsM StanzaStanza.v y15).length])) fuel 0 [] (.inl (⟨_,HL5,rfl,rfl⟩)) (Nat.zero_le _) rfl (by kernel_rfl) (by kernel_rfl) rfl trivial ?_
 rintro (_ | n7) _ _ (⟨y8,H,rfl,rfl⟩ | ⟨y15,y16,H,rfl,rfl⟩)
 ·rw [p_law12_DeframeEncodes_l1] at H;cases H
 ·rw [p_law12_DeframeEncodes_l1] at H;cases H
 ·rw [p_law12_DeframeEncodes_l1] at H
  conv=>whnf
  refine LenQ.M ?_;conv=>whnf
  refine tst_d H (fun b9 H=>?_) (fun b9 H=>?_)
  ·conv=>whnf
   obtain rfl:=Option.some.inj H
   have H:=HQ6
   try dsimp only at H
   refine ask_c (p_deframe_Encode_v _) H rfl rfl (fun v18 H=>?_);conv=>whnf
   refine ask_c (p_ref12_Encode_v _) H rfl rfl (fun v19 H=>?_);conv=>whnf
   refine tstT_c H (fun b20 H=>?_);conv=>whnf
   iterate 3 (refine Tst.T ?_;conv=>whnf)
   refine tstT_c H (fun b21 H=>?_);conv=>whnf
   refine ask_c (p_law12_awake_v) H rfl rfl (fun v22 H=>?_);conv=>whnf
   refine Tst.T ?_;conv=>whnf
   exact fb_ H
  conv=>whnf
  refine ixs_c (f:=StanzaStanza.v) H (fun _=>rfl) (fun x10 H=>?_);conv=>whnf
  refine ask_c (p_ref10_Light_v _) H rfl rfl (fun v11 H=>?_);conv=>whnf
  refine Tst.not ?_
  refine tst_d H (fun b12 H=>?_) (fun b12 H=>?_)
  ·conv=>whnf
   refine ask_c (p_law12_awake_v) H rfl rfl (fun v17 H=>?_);conv=>whnf
   obtain rfl:=Option.some.inj H
   have H:=HQ6
   try dsimp only at H
   exact fb_ H
  conv=>whnf
  refine ixs_c (f:=StanzaStanza.v) H (fun _=>rfl) (fun x13 H=>?_);conv=>whnf
  refine appN_c (f:=StanzaStanza.v) H (fun _=>rfl) (srcM (f:=StanzaStanza.v) (fun _=>rfl) [] true) rfl (.v (srcOwn (f:=StanzaStanza.v) (l:=[x13]) (fun _=>rfl) rfl rfl rfl)) (by decide) rfl (by simp) (fun l14 H=>?_);conv=>whnf
  refine Ari.w ?_;conv=>whnf
  exact again_c [13,14,15,16,17,18,19,20,21,22,23,24,25,26,27,28,29,30,31,32] n7 1 [1] (.inr (⟨_,_,H,rfl,rfl⟩)) (Nat.lt_succ_self _) (Nat.zero_le _) rfl (by kernel_rfl) (by kernel_rfl) rfl (wkB_live0 rfl (cellsM_idlt (f:=StanzaStanza.v) (fun _=>rfl) _) rfl trivial)
 rw [p_law12_DeframeEncodes_l1] at H
 conv=>whnf
 refine LenQ.M ?_;conv=>whnf
 refine tst_d H (fun b23 H=>?_) (fun b23 H=>?_)
 ·conv=>whnf
  obtain rfl:=Option.some.inj H
  have H:=HQ6
  try dsimp only at H
  refine askF_c (p_deframe_Encode_v _) H (.cons (.c (fzown (f:=StanzaStanza.v) (l:=y15) rfl rfl (fun _=>rfl) (fun _=>rfl))) (.nil)) (fun v30 H=>?_);conv=>whnf
  refine ask_c (p_ref12_Encode_v _) H rfl rfl (fun v31 H=>?_);conv=>whnf
  refine tstT_c H (fun b32 H=>?_);conv=>whnf
  iterate 3 (refine Tst.T ?_;conv=>whnf)
  refine tstT_c H (fun b33 H=>?_);conv=>whnf
  refine ask_c (p_law12_awake_v) H rfl rfl (fun v34 H=>?_);conv=>whnf
  refine Tst.T ?_;conv=>whnf
  exact fb_ H
 conv=>whnf
 refine ixs_c (f:=StanzaStanza.v) H (fun _=>rfl) (fun x24 H=>?_);conv=>whnf
 refine ask_c (p_ref10_Light_v _) H rfl rfl (fun v25 H=>?_);conv=>whnf
 refine Tst.not ?_
 refine tst_d H (fun b26 H=>?_) (fun b26 H=>?_)
 ·conv=>whnf
  refine ask_c (p_law12_awake_v) H rfl rfl (fun v29 H=>?_);conv=>whnf
  obtain rfl:=Option.some.inj H
  have H:=HQ6
  try dsimp only at H
  exact fb_ H
 conv=>whnf
 refine ixs_c (f:=StanzaStanza.v) H (fun _=>rfl) (fun x27 H=>?_);conv=>whnf
 refine appO_c (f:=StanzaStanza.v) H (fun _=>rfl) rfl (Nat.le_refl _) (.v (srcOwn (f:=StanzaStanza.v) (l:=[x27]) (fun _=>rfl) rfl rfl rfl)) (by decide) rfl (by simp) (fun l28 H=>?_);conv=>whnf
 refine Ari.w ?_;conv=>whnf
 exact again_c [13,14,15,16,17,18,19,20,21,22,23,24,25,26,27,28,29,30,31,32] n7 1 [2] (.inr (⟨_,_,H,rfl,rfl⟩)) (Nat.lt_succ_self _) (Nat.zero_le _) rfl (by kernel_rfl) (by kernel_rfl) rfl (wkB_live0 rfl (cellsM_idlt (f:=StanzaStanza.v) (fun _=>rfl) _) rfl trivial)
end Go.Proofs.YtmmmcpeickfolaaGreat

namespace Go.Proofs.YtmmmcpeickfolaaGreat
open Go.ChangeShapes Go.WideShapes Go.ChangeAt Go.RowKit Go.Joins Go.Deep
theorem deframeEncodes_named:Tryz.pinned.checked.prog.funcNamed Rows.deframeEncodesRow.func=some 7:=by kernel_rfl
theorem deframeEncodes_closed:joinedFacts Tryz.pinned.checked.prog 7 Tryz.f7 Rows.deframeEncodesSpec Rows.deframeEncodesRow=true:=by kernel_rfl
end Go.Proofs.YtmmmcpeickfolaaGreat

namespace Go.Proofs.YtmmmcpeickfolaaGreat
open Go.ChangeShapes Go.WideShapes Go.ChangeAt Go.RowKit Go.Joins Go.Deep
set_option maxRecDepth 100000 in
theorem deframeEncodes_lifted (os:Os) (started:os.Started) (H:Type) (enc:TypeId × Value→H) :
  ReturnsInHanded {} Tryz.checked os 7 .any (Rows.deframeEncodesSpec.pre6 enc Tryz.prog Tryz.f7 Rows.deframeEncodesRow.domain false) (Rows.deframeEncodesSpec.post enc Tryz.prog Tryz.f7 false true false false):=by
 refine returnsInHanded_of_change_shaped (C:=Tryz.checked) own0 started (by kernel_rfl) Tryz.func7
  (ChangeSpec.witness6 (enc:=enc) (C:=Tryz.checked) false ⟨#[],#[.slice none 0 0],[]⟩ 8 (by kernel_rfl) (by kernel_rfl) (by kernel_rfl) (by kernel_rfl)) ?_
 intro W base args ds gs before hval0 hW hcnd _ hsh _
 have hval:∀ (j:Nat) t v,Tryz.f7.params[j]?=some t→args[j]?=some v→Value.okWide Tryz.prog W .any base t v:=hval0
 have hW':=hW
 obtain ⟨p,q,hA0,hV,rfl,hfz,hnd⟩:=hW
 have hA:DataW.TrodAll enc Tryz.prog W 0 (fun _=>true) true Tryz.f7.params.toList args.toList ds p:=hA0
 rw [Tryz.params7] at hA hval
 have hA2:=hA
 obtain ⟨v0,d0,rfl,rfl,h0⟩:=trodAll_one hA
 obtain ⟨rfl,rfl⟩:=trodVars_none hV
 obtain ⟨fu0,hf0⟩:=h0
 obtain ⟨q0,l0,k0,rfl⟩:=okWide_slice Tryz.underlying81 (hval 0 _ v0 rfl rfl)
 obtain ⟨a0,w0,r0⟩:=rd_T81 hf0
 have hx0:Rep (MW W) noBk _ _:=r0.2 0 (by simp [Value.cells]) (by simp)
 refine (rep_one (callsO_true (p_law12_DeframeEncodes_v a0) (tru_ok (deframeEncodes_all a0 w0))) (maxLen_cell W hsh) (repAr1 hx0)).mono ?_
 rintro e W' ⟨rfl,bel⟩
 refine ⟨_,rfl,_,_,_,[],p,[],hW',?_,?_,?_,?_,?_⟩
 ·exact trodAll_mk1 (shut_bool Tryz.underlying4 true)
 ·exact trodAll_below laid0 bel (by
   intro t ht
   simp at ht
   rcases ht with rfl <;> exact ⟨by kernel_rfl,of_decide_eq_true (by kernel_rfl)⟩) hA2
 ·rfl
 ·exact bel.frame _
 ·exact fun h=>by cases h
theorem deframeEncodes_holds:Rows.DeframeEncodesSaid :=
 OpenClaim.holds_of_wide 7 Tryz.f7 rfl rfl rfl rfl rfl rfl rfl ⟨rfl,rfl,rfl,rfl,rfl⟩ rfl rfl rfl rfl rfl deframeEncodes_named Tryz.func7 deframeEncodes_closed
  (of_decide_eq_true (by kernel_rfl)) (by unfold Func.isWrapper;first | (rw [if_pos (by decide +kernel)];kernel_rfl) | (rw [if_neg (by decide +kernel)];exact ⟨rfl,rfl⟩))
  (fun os started H enc _=>deframeEncodes_lifted os started H enc)
#print axioms deframeEncodes_holds
end Go.Proofs.YtmmmcpeickfolaaGreat

