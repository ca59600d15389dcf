/- A part of the proof: 3 texts joined. -/
import Derived.Test.YtpkodpcfafipdaaGreatDoorSuA17
import Derived.Test.YtpkodpcfafipdaaGreatDoorSuA12
import Derived.KernelRfl
import Derived.Test.YtpkodpcfafipdaaGreatDoorSuA13
import Derived.Test.YtpkodpcfafipdaaGreatDoorSuA14
set_option linter.all false
namespace Go.Proofs.YtpkodpcfafipdaaGreatDoor
open Go.RowKit
set_option maxRecDepth 100000
set_option maxHeartbeats 4000000
def gc6:BCode:=(.seq (R_ 1 [O_ 1 (.bx (t_ 0)) 0,O_ 2 (.mv (.const (.string ⟨#[]⟩))) 1,O_ 3 (.mv (i_ 0)) 1]) (.seq (R_ 1 [O_ 10 (.fa 0 (t_ 1)) 0,O_ 11 (.ld 1 false (t_ 10)) 0,O_ 12 (.cl 23 [(t_ 11)]) 0,O_ 9 (.mv (t_ 12)) 0,O_ 13 (.ex (t_ 9) 0) 0,O_ 14 (.ex (t_ 9) 1) 0,O_ 4 (.al (.agg [(.lit (.string ⟨#[]⟩)),(.lit (.bool false)),(.lit (.int .i64 0)),(.lit (.bool false))])) 0,U_ (.st 4 (t_ 4) (t_ 13)) 1,O_ 5 (.mv (t_ 14)) 1]) (.seq (.seq (R_ 0 [O_ 15 (.mv (t_ 5)) 0,O_ 16 (.un .not (t_ 15)) 0]) (.cond (t_ 16) (.seq (R_ 0 [O_ 2 (.mv (.const (.string ⟨#[]⟩))) 0,O_ 3 (.mv (i_ 12)) 0]) .ret) .skip)) (.seq (.seq (R_ 0 [O_ 17 (.ld 4 true (t_ 4)) 0,O_ 18 (.ld 4 true (t_ 1)) 0,O_ 19 (.cl 24 [(t_ 17),(t_ 18)]) 0,O_ 20 (.un .not (t_ 19)) 0]) (.cond (t_ 20) (.seq (R_ 0 [O_ 2 (.mv (.const (.string ⟨#[]⟩))) 0,O_ 3 (.mv (i_ 4)) 0]) .ret) .skip)) (.seq (R_ 2 [O_ 21 (.fa 0 (t_ 1)) 0,O_ 22 (.ld 1 false (t_ 21)) 0,O_ 23 (.bs 1 1 [(.lit (.int .u8 0))] [(0,(t_ 22))]) 0,O_ 6 (.al (.sl [] true)) 1,U_ (.st 1 (t_ 6) (t_ 23)) 2]) (.seq (R_ 0 [O_ 24 (.mf (.func 25) [(t_ 6)]) 0,O_ 7 (.mv (t_ 24)) 0]) (.seq (R_ 0 [O_ 8 (.mv (i_ 0)) 0]) (.seq (.seq (R_ 0 [O_ 25 (.fa 1 (t_ 4)) 0,O_ 26 (.ld 1 false (t_ 25)) 0]) (.cond (t_ 26) (.reg 0 [O_ 27 (.mv (t_ 7)) 0,O_ 28 (.fa 1 (t_ 1)) 0,O_ 29 (.ld 1 false (t_ 28)) 0,O_ 30 (.cl 26 [(t_ 29),(i_ 1)]) 0,O_ 31 (.ex (t_ 30) 0) 0,O_ 32 (.ex (t_ 30) 1) 0,O_ 33 (.cv (t_ 27) [(t_ 31),(t_ 32)]) 0,O_ 8 (.mv (t_ 33)) 0] none 1 []) .skip)) (.seq (.seq (R_ 0 [O_ 34 (.mv (t_ 8)) 0,O_ 35 (.bin .eql (t_ 34) (i_ 0)) 0,O_ 36 (.mv (t_ 35)) 0,⟨(some 37),.fa 2 (t_ 4),(some (36,true)),0⟩,⟨(some 38),.ld 1 false (t_ 37),(some (36,true)),0⟩,⟨(some 39),.bin .gtr (t_ 38) (i_ 0),(some (36,true)),0⟩,O_ 40 (.pick (t_ 36) (t_ 39) (b_ false)) 0]) (.cond (t_ 40) (.reg 0 [O_ 41 (.mv (t_ 7)) 0,O_ 42 (.fa 2 (t_ 1)) 0,O_ 43 (.ld 1 false (t_ 42)) 0,O_ 44 (.fa 2 (t_ 4)) 0,O_ 45 (.ld 1 false (t_ 44)) 0,O_ 46 (.cl 26 [(t_ 43),(t_ 45)]) 0,O_ 47 (.ex (t_ 46) 0) 0,O_ 48 (.ex (t_ 46) 1) 0,O_ 49 (.cv (t_ 41) [(t_ 47),(t_ 48)]) 0,O_ 8 (.mv (t_ 49)) 0] none 1 []) .skip)) (.seq (.seq (R_ 0 [O_ 50 (.mv (t_ 8)) 0,O_ 51 (.bin .eql (t_ 50) (i_ 0)) 0,O_ 52 (.mv (t_ 51)) 0,⟨(some 53),.fa 3 (t_ 4),(some (52,true)),0⟩,⟨(some 54),.ld 1 false (t_ 53),(some (52,true)),0⟩,O_ 55 (.pick (t_ 52) (t_ 54) (b_ false)) 0]) (.cond (t_ 55) (.reg 0 [O_ 56 (.mv (t_ 7)) 0,O_ 57 (.fa 3 (t_ 1)) 0,O_ 58 (.ld 1 false (t_ 57)) 0,O_ 59 (.cl 27 [(t_ 58),(i_ 255)]) 0,O_ 60 (.ex (t_ 59) 0) 0,O_ 61 (.ex (t_ 59) 1) 0,O_ 62 (.cv (t_ 56) [(t_ 60),(t_ 61)]) 0,O_ 8 (.mv (t_ 62)) 0] none 1 []) .skip)) (.seq (.seq (R_ 0 [O_ 63 (.mv (t_ 8)) 0,O_ 64 (.bin .neq (t_ 63) (i_ 0)) 0]) (.cond (t_ 64) (.seq (R_ 0 [O_ 65 (.mv (t_ 8)) 0,O_ 2 (.mv (.const (.string ⟨#[]⟩))) 0,O_ 3 (.mv (t_ 65)) 0]) .ret) .skip)) (.seq (R_ 0 [O_ 66 (.ld 1 false (t_ 6)) 0,O_ 67 (.b2s (t_ 66)) 0,O_ 2 (.mv (t_ 67)) 0,O_ 3 (.mv (i_ 0)) 0]) .ret))))))))))))
theorem gc6_ok:compF Tryz.prog Tryz.f6=some (gc6.er,68,[.tmp 2,.tmp 3]):=by unfold gc6;kernel_rfl
theorem p_script_Put_v (a0:BrokerStep):CallsO Tryz.prog 6 [.agg [.y8 a0.Kind,.i a0.Conn,.i a0.N,.s a0.Text]] (fun r:ByteArray × Int=>.tup [V.s r.1,V.i r.2]) (p_script_Put a0):=by
 refine callsO_comp mix Tryz.func6 gc6_ok fun r H=>?_
 rw [p_script_Put] at H
 conv=>whnf
 refine ask_c (p_script_shapes_v _) H rfl rfl (fun v1 H=>?_);conv=>whnf
 refine lq_ ?_;conv=>whnf
 refine Tst.not ?_
 refine tst_d H (fun b2 H=>?_) (fun b2 H=>?_)
 ·conv=>whnf
  exact fin0_c (enc:=(fun r:ByteArray × Int=>.tup [V.s r.1,V.i r.2])) H (.inr rfl) (.cons (.tmp rfl) (.cons (.tmp rfl) (.nil))) rfl rfl
 conv=>whnf
 refine ask_c (p_script_shape_fits_v _ _) H rfl rfl (fun v3 H=>?_);conv=>whnf
 refine Tst.not ?_
 refine tst_d H (fun b4 H=>?_) (fun b4 H=>?_)
 ·conv=>whnf
  exact fin0_c (enc:=(fun r:ByteArray × Int=>.tup [V.s r.1,V.i r.2])) H (.inr rfl) (.cons (.tmp rfl) (.cons (.tmp rfl) (.nil))) rfl rfl
 conv=>whnf
 refine lq_ ?_;conv=>whnf
 refine tst_d H (fun b5 H=>?_) (fun b5 H=>?_)
 ·conv=>whnf
  refine tst_d H (fun b122 H=>?_) (fun b122 H=>?_)
  ·conv=>whnf
   iterate 4 (refine Tst.F ?_;conv=>whnf)
   refine Tst.isF b122 ?_;conv=>whnf
   iterate 3 (refine Tst.F ?_;conv=>whnf)
   refine tst_c H (fun b175 H=>?_) (fun b175 H=>?_)
   ·conv=>whnf
    exact fin0_c (enc:=(fun r:ByteArray × Int=>.tup [V.s r.1,V.i r.2])) H (.inr rfl) (.cons (.tmp rfl) (.cons (.tmp rfl) (.nil))) rfl rfl
   conv=>whnf
   refine b2sO_c H rfl rfl rfl (fun s176 H=>?_);conv=>whnf
   exact fin0_c (enc:=(fun r:ByteArray × Int=>.tup [V.s r.1,V.i r.2])) H (.inr rfl) (.cons (.tmp rfl) (.cons (.tmp rfl) (.nil))) rfl rfl
  conv=>whnf
  iterate 3 (refine Tst.T ?_;conv=>whnf)
  refine tst_d H (fun b123 H=>?_) (fun b123 H=>?_)
  ·conv=>whnf
   refine Tst.isT b122 ?_;conv=>whnf
   iterate 2 (refine Tst.T ?_;conv=>whnf)
   refine tst_d H (fun b162 H=>?_) (fun b162 H=>?_)
   ·conv=>whnf
    refine tst_c H (fun b173 H=>?_) (fun b173 H=>?_)
    ·conv=>whnf
     exact fin0_c (enc:=(fun r:ByteArray × Int=>.tup [V.s r.1,V.i r.2])) H (.inr rfl) (.cons (.tmp rfl) (.cons (.tmp rfl) (.nil))) rfl rfl
    conv=>whnf
    refine b2sO_c H rfl rfl rfl (fun s174 H=>?_);conv=>whnf
    exact fin0_c (enc:=(fun r:ByteArray × Int=>.tup [V.s r.1,V.i r.2])) H (.inr rfl) (.cons (.tmp rfl) (.cons (.tmp rfl) (.nil))) rfl rfl
   conv=>whnf
   refine ask_c (p_octet_Say_v _ _) H rfl rfl (fun v163 H=>?_);conv=>whnf
   obtain ⟨l164,h165,H⟩:=bind_c H
   rcases Classical.em (v163.1=[]) with h166 | h166
   ·have hq:=(app_nil h166 h165).symm
    subst hq
    refine ⟨⟨_,Tryz.func25,by kernel_rfl,by kernel_rfl⟩,Ask_S (v:=.i v163.2) (st':=[.live [.y8 a0.Kind,.i a0.Conn,.i a0.N,.s a0.Text] 0,.live [.s v1.1.name,.b v1.1.conn,.i v1.1.wide,.b v1.1.text] 0,.live (cellsM V.y8 [a0.Kind]) (cellsM V.y8 [a0.Kind]).length,.live [.osl 2 0 (List.length [a0.Kind]) 1 true] 0,.fresh]) (callsR_c (n0:=5) mix Tryz.func25 gc25_ok rfl ?_) rfl ?_⟩
    ·conv=>whnf
     refine App.Z (srcOwn (f:=V.y8) (l:=[a0.Kind]) (fun _=>rfl) rfl rfl rfl) (srcNil (f:=V.y8) (fun _=>rfl) h166) ?_;conv=>whnf
     refine lq_ ?_;conv=>whnf
     exact ⟨f_R [0,1,2,3,4] (.inr rfl) (.cons (.tmp rfl) (.nil)) rfl rfl rfl (fx0 rfl) ⟨⟨rfl,rfl,rfl⟩,⟨⟨rfl,rfl,rfl⟩,wkB_live0 rfl (cellsM_idlt (f:=V.y8) (fun _=>rfl) _) rfl ⟨⟨rfl,rfl,rfl⟩,⟨rfl,trivial⟩⟩⟩⟩⟩
    conv=>whnf
    refine tst_c H (fun b168 H=>?_) (fun b168 H=>?_)
    ·conv=>whnf
     exact fin0_c (enc:=(fun r:ByteArray × Int=>.tup [V.s r.1,V.i r.2])) H (.inr rfl) (.cons (.tmp rfl) (.cons (.tmp rfl) (.nil))) rfl rfl
    conv=>whnf
    refine b2sO_c H rfl rfl rfl (fun s169 H=>?_);conv=>whnf
    exact fin0_c (enc:=(fun r:ByteArray × Int=>.tup [V.s r.1,V.i r.2])) H (.inr rfl) (.cons (.tmp rfl) (.cons (.tmp rfl) (.nil))) rfl rfl
   refine ⟨⟨_,Tryz.func25,by kernel_rfl,by kernel_rfl⟩,Ask_S (v:=.i v163.2) (st':=[.live [.y8 a0.Kind,.i a0.Conn,.i a0.N,.s a0.Text] 0,.live [.s v1.1.name,.b v1.1.conn,.i v1.1.wide,.b v1.1.text] 0,.live (cellsM V.y8 [a0.Kind]) (cellsM V.y8 [a0.Kind]).length,.live [.osl 4 0 (List.length l164) 1 false] 0,.live (cellsM V.y8 l164) (cellsM V.y8 l164).length]) (callsR_c (n0:=5) mix Tryz.func25 gc25_ok rfl ?_) rfl ?_⟩
   ·have H:(app? [a0.Kind] v163.1).bind (fun l=>some l)=some l164:=by rw [h165];rfl
    conv=>whnf
    refine appN_c (f:=V.y8) H (fun _=>rfl) (srcOwn (f:=V.y8) (l:=[a0.Kind]) (fun _=>rfl) rfl rfl rfl) rfl (.v (srcM (f:=V.y8) (fun _=>rfl) _ _)) (by decide) rfl h166 (fun l170 H=>?_);conv=>whnf
    obtain rfl:=Option.some.inj H
    refine lq_ ?_;conv=>whnf
    exact ⟨f_R [0,1,2,3,5] (.inr rfl) (.cons (.tmp rfl) (.nil)) rfl rfl rfl (fx0 rfl) ⟨⟨rfl,rfl,rfl⟩,⟨⟨rfl,rfl,rfl⟩,wkB_live0 rfl (cellsM_idlt (f:=V.y8) (fun _=>rfl) _) rfl ⟨⟨rfl,rfl,rfl⟩,wkB_live0 rfl (cellsM_idlt (f:=V.y8) (fun _=>rfl) _) rfl trivial⟩⟩⟩⟩
   conv=>whnf
   refine tst_c H (fun b171 H=>?_) (fun b171 H=>?_)
   ·conv=>whnf
    exact fin0_c (enc:=(fun r:ByteArray × Int=>.tup [V.s r.1,V.i r.2])) H (.inr rfl) (.cons (.tmp rfl) (.cons (.tmp rfl) (.nil))) rfl rfl
   conv=>whnf
   refine b2sO_c H rfl rfl rfl (fun s172 H=>?_);conv=>whnf
   exact fin0_c (enc:=(fun r:ByteArray × Int=>.tup [V.s r.1,V.i r.2])) H (.inr rfl) (.cons (.tmp rfl) (.cons (.tmp rfl) (.nil))) rfl rfl
  conv=>whnf
  refine ask_c (p_octet_Lay_v _ _) H rfl rfl (fun v124 H=>?_);conv=>whnf
  obtain ⟨l125,h126,H⟩:=bind_c H
  rcases Classical.em (v124.1=[]) with h127 | h127
  ·have hq:=(app_nil h127 h126).symm
   subst hq
   refine ⟨⟨_,Tryz.func25,by kernel_rfl,by kernel_rfl⟩,Ask_S (v:=.i v124.2) (st':=[.live [.y8 a0.Kind,.i a0.Conn,.i a0.N,.s a0.Text] 0,.live [.s v1.1.name,.b v1.1.conn,.i v1.1.wide,.b v1.1.text] 0,.live (cellsM V.y8 [a0.Kind]) (cellsM V.y8 [a0.Kind]).length,.live [.osl 2 0 (List.length [a0.Kind]) 1 true] 0,.fresh]) (callsR_c (n0:=5) mix Tryz.func25 gc25_ok rfl ?_) rfl ?_⟩
   ·conv=>whnf
    refine App.Z (srcOwn (f:=V.y8) (l:=[a0.Kind]) (fun _=>rfl) rfl rfl rfl) (srcNil (f:=V.y8) (fun _=>rfl) h127) ?_;conv=>whnf
    refine lq_ ?_;conv=>whnf
    exact ⟨f_R [0,1,2,3,4] (.inr rfl) (.cons (.tmp rfl) (.nil)) rfl rfl rfl (fx0 rfl) ⟨⟨rfl,rfl,rfl⟩,⟨⟨rfl,rfl,rfl⟩,wkB_live0 rfl (cellsM_idlt (f:=V.y8) (fun _=>rfl) _) rfl ⟨⟨rfl,rfl,rfl⟩,⟨rfl,trivial⟩⟩⟩⟩⟩
   conv=>whnf
   refine tst_d H (fun b129 H=>?_) (fun b129 H=>?_)
   ·conv=>whnf
    iterate 3 (refine Tst.F ?_;conv=>whnf)
    refine tst_c H (fun b143 H=>?_) (fun b143 H=>?_)
    ·conv=>whnf
     exact fin0_c (enc:=(fun r:ByteArray × Int=>.tup [V.s r.1,V.i r.2])) H (.inr rfl) (.cons (.tmp rfl) (.cons (.tmp rfl) (.nil))) rfl rfl
    conv=>whnf
    refine b2sO_c H rfl rfl rfl (fun s144 H=>?_);conv=>whnf
    exact fin0_c (enc:=(fun r:ByteArray × Int=>.tup [V.s r.1,V.i r.2])) H (.inr rfl) (.cons (.tmp rfl) (.cons (.tmp rfl) (.nil))) rfl rfl
   conv=>whnf
   iterate 2 (refine Tst.T ?_;conv=>whnf)
   refine tst_d H (fun b130 H=>?_) (fun b130 H=>?_)
   ·conv=>whnf
    refine tst_c H (fun b141 H=>?_) (fun b141 H=>?_)
    ·conv=>whnf
     exact fin0_c (enc:=(fun r:ByteArray × Int=>.tup [V.s r.1,V.i r.2])) H (.inr rfl) (.cons (.tmp rfl) (.cons (.tmp rfl) (.nil))) rfl rfl
    conv=>whnf
    refine b2sO_c H rfl rfl rfl (fun s142 H=>?_);conv=>whnf
    exact fin0_c (enc:=(fun r:ByteArray × Int=>.tup [V.s r.1,V.i r.2])) H (.inr rfl) (.cons (.tmp rfl) (.cons (.tmp rfl) (.nil))) rfl rfl
   conv=>whnf
   refine ask_c (p_octet_Say_v _ _) H rfl rfl (fun v131 H=>?_);conv=>whnf
   obtain ⟨l132,h133,H⟩:=bind_c H
   rcases Classical.em (v131.1=[]) with h134 | h134
   ·have hq:=(app_nil h134 h133).symm
    subst hq
    refine ⟨⟨_,Tryz.func25,by kernel_rfl,by kernel_rfl⟩,Ask_S (v:=.i v131.2) (st':=[.live [.y8 a0.Kind,.i a0.Conn,.i a0.N,.s a0.Text] 0,.live [.s v1.1.name,.b v1.1.conn,.i v1.1.wide,.b v1.1.text] 0,.live (cellsM V.y8 [a0.Kind]) (cellsM V.y8 [a0.Kind]).length,.live [.osl 2 0 (List.length [a0.Kind]) 1 true] 0,.fresh,.fresh]) (callsR_c (n0:=6) mix Tryz.func25 gc25_ok rfl ?_) rfl ?_⟩
    ·conv=>whnf
     refine App.Z (srcOwn (f:=V.y8) (l:=[a0.Kind]) (fun _=>rfl) rfl rfl rfl) (srcNil (f:=V.y8) (fun _=>rfl) h134) ?_;conv=>whnf
     refine lq_ ?_;conv=>whnf
     exact ⟨f_R [0,1,2,3,4,5] (.inr rfl) (.cons (.tmp rfl) (.nil)) rfl rfl rfl (fx0 rfl) ⟨⟨rfl,rfl,rfl⟩,⟨⟨rfl,rfl,rfl⟩,wkB_live0 rfl (cellsM_idlt (f:=V.y8) (fun _=>rfl) _) rfl ⟨⟨rfl,rfl,rfl⟩,⟨rfl,⟨rfl,trivial⟩⟩⟩⟩⟩⟩
    conv=>whnf
    refine tst_c H (fun b136 H=>?_) (fun b136 H=>?_)
    ·conv=>whnf
     exact fin0_c (enc:=(fun r:ByteArray × Int=>.tup [V.s r.1,V.i r.2])) H (.inr rfl) (.cons (.tmp rfl) (.cons (.tmp rfl) (.nil))) rfl rfl
    conv=>whnf
    refine b2sO_c H rfl rfl rfl (fun s137 H=>?_);conv=>whnf
    exact fin0_c (enc:=(fun r:ByteArray × Int=>.tup [V.s r.1,V.i r.2])) H (.inr rfl) (.cons (.tmp rfl) (.cons (.tmp rfl) (.nil))) rfl rfl
   refine ⟨⟨_,Tryz.func25,by kernel_rfl,by kernel_rfl⟩,Ask_S (v:=.i v131.2) (st':=[.live [.y8 a0.Kind,.i a0.Conn,.i a0.N,.s a0.Text] 0,.live [.s v1.1.name,.b v1.1.conn,.i v1.1.wide,.b v1.1.text] 0,.live (cellsM V.y8 [a0.Kind]) (cellsM V.y8 [a0.Kind]).length,.live [.osl 5 0 (List.length l132) 1 false] 0,.fresh,.live (cellsM V.y8 l132) (cellsM V.y8 l132).length]) (callsR_c (n0:=6) mix Tryz.func25 gc25_ok rfl ?_) rfl ?_⟩
   ·have H:(app? [a0.Kind] v131.1).bind (fun l=>some l)=some l132:=by rw [h133];rfl
    conv=>whnf
    refine appN_c (f:=V.y8) H (fun _=>rfl) (srcOwn (f:=V.y8) (l:=[a0.Kind]) (fun _=>rfl) rfl rfl rfl) rfl (.v (srcM (f:=V.y8) (fun _=>rfl) _ _)) (by decide) rfl h134 (fun l138 H=>?_);conv=>whnf
    obtain rfl:=Option.some.inj H
    refine lq_ ?_;conv=>whnf
    exact ⟨f_R [0,1,2,3,4,6] (.inr rfl) (.cons (.tmp rfl) (.nil)) rfl rfl rfl (fx0 rfl) ⟨⟨rfl,rfl,rfl⟩,⟨⟨rfl,rfl,rfl⟩,wkB_live0 rfl (cellsM_idlt (f:=V.y8) (fun _=>rfl) _) rfl ⟨⟨rfl,rfl,rfl⟩,⟨rfl,wkB_live0 rfl (cellsM_idlt (f:=V.y8) (fun _=>rfl) _) rfl trivial⟩⟩⟩⟩⟩
   conv=>whnf
   refine tst_c H (fun b139 H=>?_) (fun b139 H=>?_)
   ·conv=>whnf
    exact fin0_c (enc:=(fun r:ByteArray × Int=>.tup [V.s r.1,V.i r.2])) H (.inr rfl) (.cons (.tmp rfl) (.cons (.tmp rfl) (.nil))) rfl rfl
   conv=>whnf
   refine b2sO_c H rfl rfl rfl (fun s140 H=>?_);conv=>whnf
   exact fin0_c (enc:=(fun r:ByteArray × Int=>.tup [V.s r.1,V.i r.2])) H (.inr rfl) (.cons (.tmp rfl) (.cons (.tmp rfl) (.nil))) rfl rfl
  refine ⟨⟨_,Tryz.func25,by kernel_rfl,by kernel_rfl⟩,Ask_S (v:=.i v124.2) (st':=[.live [.y8 a0.Kind,.i a0.Conn,.i a0.N,.s a0.Text] 0,.live [.s v1.1.name,.b v1.1.conn,.i v1.1.wide,.b v1.1.text] 0,.live (cellsM V.y8 [a0.Kind]) (cellsM V.y8 [a0.Kind]).length,.live [.osl 4 0 (List.length l125) 1 false] 0,.live (cellsM V.y8 l125) (cellsM V.y8 l125).length]) (callsR_c (n0:=5) mix Tryz.func25 gc25_ok rfl ?_) rfl ?_⟩
  ·have H:(app? [a0.Kind] v124.1).bind (fun l=>some l)=some l125:=by rw [h126];rfl
   conv=>whnf
   refine appN_c (f:=V.y8) H (fun _=>rfl) (srcOwn (f:=V.y8) (l:=[a0.Kind]) (fun _=>rfl) rfl rfl rfl) rfl (.v (srcM (f:=V.y8) (fun _=>rfl) _ _)) (by decide) rfl h127 (fun l145 H=>?_);conv=>whnf
   obtain rfl:=Option.some.inj H
   refine lq_ ?_;conv=>whnf
   exact ⟨f_R [0,1,2,3,5] (.inr rfl) (.cons (.tmp rfl) (.nil)) rfl rfl rfl (fx0 rfl) ⟨⟨rfl,rfl,rfl⟩,⟨⟨rfl,rfl,rfl⟩,wkB_live0 rfl (cellsM_idlt (f:=V.y8) (fun _=>rfl) _) rfl ⟨⟨rfl,rfl,rfl⟩,wkB_live0 rfl (cellsM_idlt (f:=V.y8) (fun _=>rfl) _) rfl trivial⟩⟩⟩⟩
  conv=>whnf
  refine tst_d H (fun b146 H=>?_) (fun b146 H=>?_)
  ·conv=>whnf
   iterate 3 (refine Tst.F ?_;conv=>whnf)
   refine tst_c H (fun b160 H=>?_) (fun b160 H=>?_)
   ·conv=>whnf
    exact fin0_c (enc:=(fun r:ByteArray × Int=>.tup [V.s r.1,V.i r.2])) H (.inr rfl) (.cons (.tmp rfl) (.cons (.tmp rfl) (.nil))) rfl rfl
   conv=>whnf
   refine b2sO_c H rfl rfl rfl (fun s161 H=>?_);conv=>whnf
   exact fin0_c (enc:=(fun r:ByteArray × Int=>.tup [V.s r.1,V.i r.2])) H (.inr rfl) (.cons (.tmp rfl) (.cons (.tmp rfl) (.nil))) rfl rfl
  conv=>whnf
  iterate 2 (refine Tst.T ?_;conv=>whnf)
  refine tst_d H (fun b147 H=>?_) (fun b147 H=>?_)
  ·conv=>whnf
   refine tst_c H (fun b158 H=>?_) (fun b158 H=>?_)
   ·conv=>whnf
    exact fin0_c (enc:=(fun r:ByteArray × Int=>.tup [V.s r.1,V.i r.2])) H (.inr rfl) (.cons (.tmp rfl) (.cons (.tmp rfl) (.nil))) rfl rfl
   conv=>whnf
   refine b2sO_c H rfl rfl rfl (fun s159 H=>?_);conv=>whnf
   exact fin0_c (enc:=(fun r:ByteArray × Int=>.tup [V.s r.1,V.i r.2])) H (.inr rfl) (.cons (.tmp rfl) (.cons (.tmp rfl) (.nil))) rfl rfl
  conv=>whnf
  refine ask_c (p_octet_Say_v _ _) H rfl rfl (fun v148 H=>?_);conv=>whnf
  obtain ⟨l149,h150,H⟩:=bind_c H
  rcases Classical.em (v148.1=[]) with h151 | h151
  ·have hq:=(app_nil h151 h150).symm
   subst hq
   refine ⟨⟨_,Tryz.func25,by kernel_rfl,by kernel_rfl⟩,Ask_S (v:=.i v148.2) (st':=[.live [.y8 a0.Kind,.i a0.Conn,.i a0.N,.s a0.Text] 0,.live [.s v1.1.name,.b v1.1.conn,.i v1.1.wide,.b v1.1.text] 0,.live (cellsM V.y8 [a0.Kind]) (cellsM V.y8 [a0.Kind]).length,.live [.osl 4 0 (List.length l125) 1 false] 0,.live (cellsM V.y8 l125) (cellsM V.y8 l125).length,.fresh]) (callsR_c (n0:=6) mix Tryz.func25 gc25_ok rfl ?_) rfl ?_⟩
   ·conv=>whnf
    refine App.Z (srcOwn (f:=V.y8) (l:=l125) (fun _=>rfl) rfl rfl rfl) (srcNil (f:=V.y8) (fun _=>rfl) h151) ?_;conv=>whnf
    refine lq_ ?_;conv=>whnf
    exact ⟨f_R [0,1,2,3,4,5] (.inr rfl) (.cons (.tmp rfl) (.nil)) rfl rfl rfl (fx0 rfl) ⟨⟨rfl,rfl,rfl⟩,⟨⟨rfl,rfl,rfl⟩,wkB_live0 rfl (cellsM_idlt (f:=V.y8) (fun _=>rfl) _) rfl ⟨⟨rfl,rfl,rfl⟩,wkB_live0 rfl (cellsM_idlt (f:=V.y8) (fun _=>rfl) _) rfl ⟨rfl,trivial⟩⟩⟩⟩⟩
   conv=>whnf
   refine tst_c H (fun b153 H=>?_) (fun b153 H=>?_)
   ·conv=>whnf
    exact fin0_c (enc:=(fun r:ByteArray × Int=>.tup [V.s r.1,V.i r.2])) H (.inr rfl) (.cons (.tmp rfl) (.cons (.tmp rfl) (.nil))) rfl rfl
   conv=>whnf
   refine b2sO_c H rfl rfl rfl (fun s154 H=>?_);conv=>whnf
   exact fin0_c (enc:=(fun r:ByteArray × Int=>.tup [V.s r.1,V.i r.2])) H (.inr rfl) (.cons (.tmp rfl) (.cons (.tmp rfl) (.nil))) rfl rfl
  refine ⟨⟨_,Tryz.func25,by kernel_rfl,by kernel_rfl⟩,Ask_S (v:=.i v148.2) (st':=[.live [.y8 a0.Kind,.i a0.Conn,.i a0.N,.s a0.Text] 0,.live [.s v1.1.name,.b v1.1.conn,.i v1.1.wide,.b v1.1.text] 0,.live (cellsM V.y8 [a0.Kind]) (cellsM V.y8 [a0.Kind]).length,.live [.osl 5 0 (List.length l149) 1 false] 0,.dead,.live (cellsM V.y8 l149) (cellsM V.y8 l149).length]) (callsR_c (n0:=6) mix Tryz.func25 gc25_ok rfl ?_) rfl ?_⟩
  ·have H:(app? l125 v148.1).bind (fun l=>some l)=some l149:=by rw [h150];rfl
   conv=>whnf
   refine appO_c (f:=V.y8) H (fun _=>rfl) rfl (Nat.le_refl _) (.v (srcM (f:=V.y8) (fun _=>rfl) _ _)) (by decide) rfl h151 (fun l155 H=>?_);conv=>whnf
   obtain rfl:=Option.some.inj H
   refine lq_ ?_;conv=>whnf
   exact ⟨f_R [0,1,2,3,4,6] (.inr rfl) (.cons (.tmp rfl) (.nil)) rfl rfl rfl (fx0 rfl) ⟨⟨rfl,rfl,rfl⟩,⟨⟨rfl,rfl,rfl⟩,wkB_live0 rfl (cellsM_idlt (f:=V.y8) (fun _=>rfl) _) rfl ⟨⟨rfl,rfl,rfl⟩,wkB_live0 rfl (cellsM_idlt (f:=V.y8) (fun _=>rfl) _) rfl trivial⟩⟩⟩⟩
  conv=>whnf
  refine tst_c H (fun b156 H=>?_) (fun b156 H=>?_)
  ·conv=>whnf
   exact fin0_c (enc:=(fun r:ByteArray × Int=>.tup [V.s r.1,V.i r.2])) H (.inr rfl) (.cons (.tmp rfl) (.cons (.tmp rfl) (.nil))) rfl rfl
  conv=>whnf
  refine b2sO_c H rfl rfl rfl (fun s157 H=>?_);conv=>whnf
  exact fin0_c (enc:=(fun r:ByteArray × Int=>.tup [V.s r.1,V.i r.2])) H (.inr rfl) (.cons (.tmp rfl) (.cons (.tmp rfl) (.nil))) rfl rfl
 conv=>whnf
 refine ask_c (p_octet_Lay_v _ _) H rfl rfl (fun v6 H=>?_);conv=>whnf
 obtain ⟨l7,h8,H⟩:=bind_c H
 rcases Classical.em (v6.1=[]) with h9 | h9
 ·have hq:=(app_nil h9 h8).symm
  subst hq
  refine ⟨⟨_,Tryz.func25,by kernel_rfl,by kernel_rfl⟩,Ask_S (v:=.i v6.2) (st':=[.live [.y8 a0.Kind,.i a0.Conn,.i a0.N,.s a0.Text] 0,.live [.s v1.1.name,.b v1.1.conn,.i v1.1.wide,.b v1.1.text] 0,.live (cellsM V.y8 [a0.Kind]) (cellsM V.y8 [a0.Kind]).length,.live [.osl 2 0 (List.length [a0.Kind]) 1 true] 0,.fresh]) (callsR_c (n0:=5) mix Tryz.func25 gc25_ok rfl ?_) rfl ?_⟩
  ·conv=>whnf
   refine App.Z (srcOwn (f:=V.y8) (l:=[a0.Kind]) (fun _=>rfl) rfl rfl rfl) (srcNil (f:=V.y8) (fun _=>rfl) h9) ?_;conv=>whnf
   refine lq_ ?_;conv=>whnf
   exact ⟨f_R [0,1,2,3,4] (.inr rfl) (.cons (.tmp rfl) (.nil)) rfl rfl rfl (fx0 rfl) ⟨⟨rfl,rfl,rfl⟩,⟨⟨rfl,rfl,rfl⟩,wkB_live0 rfl (cellsM_idlt (f:=V.y8) (fun _=>rfl) _) rfl ⟨⟨rfl,rfl,rfl⟩,⟨rfl,trivial⟩⟩⟩⟩⟩
  conv=>whnf
  refine tst_d H (fun b11 H=>?_) (fun b11 H=>?_)
  ·conv=>whnf
   iterate 4 (refine Tst.F ?_;conv=>whnf)
   refine Tst.isF b11 ?_;conv=>whnf
   iterate 3 (refine Tst.F ?_;conv=>whnf)
   refine tst_c H (fun b64 H=>?_) (fun b64 H=>?_)
   ·conv=>whnf
    exact fin0_c (enc:=(fun r:ByteArray × Int=>.tup [V.s r.1,V.i r.2])) H (.inr rfl) (.cons (.tmp rfl) (.cons (.tmp rfl) (.nil))) rfl rfl
   conv=>whnf
   refine b2sO_c H rfl rfl rfl (fun s65 H=>?_);conv=>whnf
   exact fin0_c (enc:=(fun r:ByteArray × Int=>.tup [V.s r.1,V.i r.2])) H (.inr rfl) (.cons (.tmp rfl) (.cons (.tmp rfl) (.nil))) rfl rfl
  conv=>whnf
  iterate 3 (refine Tst.T ?_;conv=>whnf)
  refine tst_d H (fun b12 H=>?_) (fun b12 H=>?_)
  ·conv=>whnf
   refine Tst.isT b11 ?_;conv=>whnf
   iterate 2 (refine Tst.T ?_;conv=>whnf)
   refine tst_d H (fun b51 H=>?_) (fun b51 H=>?_)
   ·conv=>whnf
    refine tst_c H (fun b62 H=>?_) (fun b62 H=>?_)
    ·conv=>whnf
     exact fin0_c (enc:=(fun r:ByteArray × Int=>.tup [V.s r.1,V.i r.2])) H (.inr rfl) (.cons (.tmp rfl) (.cons (.tmp rfl) (.nil))) rfl rfl
    conv=>whnf
    refine b2sO_c H rfl rfl rfl (fun s63 H=>?_);conv=>whnf
    exact fin0_c (enc:=(fun r:ByteArray × Int=>.tup [V.s r.1,V.i r.2])) H (.inr rfl) (.cons (.tmp rfl) (.cons (.tmp rfl) (.nil))) rfl rfl
   conv=>whnf
   refine ask_c (p_octet_Say_v _ _) H rfl rfl (fun v52 H=>?_);conv=>whnf
   obtain ⟨l53,h54,H⟩:=bind_c H
   rcases Classical.em (v52.1=[]) with h55 | h55
   ·have hq:=(app_nil h55 h54).symm
    subst hq
    refine ⟨⟨_,Tryz.func25,by kernel_rfl,by kernel_rfl⟩,Ask_S (v:=.i v52.2) (st':=[.live [.y8 a0.Kind,.i a0.Conn,.i a0.N,.s a0.Text] 0,.live [.s v1.1.name,.b v1.1.conn,.i v1.1.wide,.b v1.1.text] 0,.live (cellsM V.y8 [a0.Kind]) (cellsM V.y8 [a0.Kind]).length,.live [.osl 2 0 (List.length [a0.Kind]) 1 true] 0,.fresh,.fresh]) (callsR_c (n0:=6) mix Tryz.func25 gc25_ok rfl ?_) rfl ?_⟩
    ·conv=>whnf
     refine App.Z (srcOwn (f:=V.y8) (l:=[a0.Kind]) (fun _=>rfl) rfl rfl rfl) (srcNil (f:=V.y8) (fun _=>rfl) h55) ?_;conv=>whnf
     refine lq_ ?_;conv=>whnf
     exact ⟨f_R [0,1,2,3,4,5] (.inr rfl) (.cons (.tmp rfl) (.nil)) rfl rfl rfl (fx0 rfl) ⟨⟨rfl,rfl,rfl⟩,⟨⟨rfl,rfl,rfl⟩,wkB_live0 rfl (cellsM_idlt (f:=V.y8) (fun _=>rfl) _) rfl ⟨⟨rfl,rfl,rfl⟩,⟨rfl,⟨rfl,trivial⟩⟩⟩⟩⟩⟩
    conv=>whnf
    refine tst_c H (fun b57 H=>?_) (fun b57 H=>?_)
    ·conv=>whnf
     exact fin0_c (enc:=(fun r:ByteArray × Int=>.tup [V.s r.1,V.i r.2])) H (.inr rfl) (.cons (.tmp rfl) (.cons (.tmp rfl) (.nil))) rfl rfl
    conv=>whnf
    refine b2sO_c H rfl rfl rfl (fun s58 H=>?_);conv=>whnf
    exact fin0_c (enc:=(fun r:ByteArray × Int=>.tup [V.s r.1,V.i r.2])) H (.inr rfl) (.cons (.tmp rfl) (.cons (.tmp rfl) (.nil))) rfl rfl
   refine ⟨⟨_,Tryz.func25,by kernel_rfl,by kernel_rfl⟩,Ask_S (v:=.i v52.2) (st':=[.live [.y8 a0.Kind,.i a0.Conn,.i a0.N,.s a0.Text] 0,.live [.s v1.1.name,.b v1.1.conn,.i v1.1.wide,.b v1.1.text] 0,.live (cellsM V.y8 [a0.Kind]) (cellsM V.y8 [a0.Kind]).length,.live [.osl 5 0 (List.length l53) 1 false] 0,.fresh,.live (cellsM V.y8 l53) (cellsM V.y8 l53).length]) (callsR_c (n0:=6) mix Tryz.func25 gc25_ok rfl ?_) rfl ?_⟩
   ·have H:(app? [a0.Kind] v52.1).bind (fun l=>some l)=some l53:=by rw [h54];rfl
    conv=>whnf
    refine appN_c (f:=V.y8) H (fun _=>rfl) (srcOwn (f:=V.y8) (l:=[a0.Kind]) (fun _=>rfl) rfl rfl rfl) rfl (.v (srcM (f:=V.y8) (fun _=>rfl) _ _)) (by decide) rfl h55 (fun l59 H=>?_);conv=>whnf
    obtain rfl:=Option.some.inj H
    refine lq_ ?_;conv=>whnf
    exact ⟨f_R [0,1,2,3,4,6] (.inr rfl) (.cons (.tmp rfl) (.nil)) rfl rfl rfl (fx0 rfl) ⟨⟨rfl,rfl,rfl⟩,⟨⟨rfl,rfl,rfl⟩,wkB_live0 rfl (cellsM_idlt (f:=V.y8) (fun _=>rfl) _) rfl ⟨⟨rfl,rfl,rfl⟩,⟨rfl,wkB_live0 rfl (cellsM_idlt (f:=V.y8) (fun _=>rfl) _) rfl trivial⟩⟩⟩⟩⟩
   conv=>whnf
   refine tst_c H (fun b60 H=>?_) (fun b60 H=>?_)
   ·conv=>whnf
    exact fin0_c (enc:=(fun r:ByteArray × Int=>.tup [V.s r.1,V.i r.2])) H (.inr rfl) (.cons (.tmp rfl) (.cons (.tmp rfl) (.nil))) rfl rfl
   conv=>whnf
   refine b2sO_c H rfl rfl rfl (fun s61 H=>?_);conv=>whnf
   exact fin0_c (enc:=(fun r:ByteArray × Int=>.tup [V.s r.1,V.i r.2])) H (.inr rfl) (.cons (.tmp rfl) (.cons (.tmp rfl) (.nil))) rfl rfl
  conv=>whnf
  refine ask_c (p_octet_Lay_v _ _) H rfl rfl (fun v13 H=>?_);conv=>whnf
  obtain ⟨l14,h15,H⟩:=bind_c H
  rcases Classical.em (v13.1=[]) with h16 | h16
  ·have hq:=(app_nil h16 h15).symm
   subst hq
   refine ⟨⟨_,Tryz.func25,by kernel_rfl,by kernel_rfl⟩,Ask_S (v:=.i v13.2) (st':=[.live [.y8 a0.Kind,.i a0.Conn,.i a0.N,.s a0.Text] 0,.live [.s v1.1.name,.b v1.1.conn,.i v1.1.wide,.b v1.1.text] 0,.live (cellsM V.y8 [a0.Kind]) (cellsM V.y8 [a0.Kind]).length,.live [.osl 2 0 (List.length [a0.Kind]) 1 true] 0,.fresh,.fresh]) (callsR_c (n0:=6) mix Tryz.func25 gc25_ok rfl ?_) rfl ?_⟩
   ·conv=>whnf
    refine App.Z (srcOwn (f:=V.y8) (l:=[a0.Kind]) (fun _=>rfl) rfl rfl rfl) (srcNil (f:=V.y8) (fun _=>rfl) h16) ?_;conv=>whnf
    refine lq_ ?_;conv=>whnf
    exact ⟨f_R [0,1,2,3,4,5] (.inr rfl) (.cons (.tmp rfl) (.nil)) rfl rfl rfl (fx0 rfl) ⟨⟨rfl,rfl,rfl⟩,⟨⟨rfl,rfl,rfl⟩,wkB_live0 rfl (cellsM_idlt (f:=V.y8) (fun _=>rfl) _) rfl ⟨⟨rfl,rfl,rfl⟩,⟨rfl,⟨rfl,trivial⟩⟩⟩⟩⟩⟩
   conv=>whnf
   refine tst_d H (fun b18 H=>?_) (fun b18 H=>?_)
   ·conv=>whnf
    iterate 3 (refine Tst.F ?_;conv=>whnf)
    refine tst_c H (fun b32 H=>?_) (fun b32 H=>?_)
    ·conv=>whnf
     exact fin0_c (enc:=(fun r:ByteArray × Int=>.tup [V.s r.1,V.i r.2])) H (.inr rfl) (.cons (.tmp rfl) (.cons (.tmp rfl) (.nil))) rfl rfl
    conv=>whnf
    refine b2sO_c H rfl rfl rfl (fun s33 H=>?_);conv=>whnf
    exact fin0_c (enc:=(fun r:ByteArray × Int=>.tup [V.s r.1,V.i r.2])) H (.inr rfl) (.cons (.tmp rfl) (.cons (.tmp rfl) (.nil))) rfl rfl
   conv=>whnf
   iterate 2 (refine Tst.T ?_;conv=>whnf)
   refine tst_d H (fun b19 H=>?_) (fun b19 H=>?_)
   ·conv=>whnf
    refine tst_c H (fun b30 H=>?_) (fun b30 H=>?_)
    ·conv=>whnf
     exact fin0_c (enc:=(fun r:ByteArray × Int=>.tup [V.s r.1,V.i r.2])) H (.inr rfl) (.cons (.tmp rfl) (.cons (.tmp rfl) (.nil))) rfl rfl
    conv=>whnf
    refine b2sO_c H rfl rfl rfl (fun s31 H=>?_);conv=>whnf
    exact fin0_c (enc:=(fun r:ByteArray × Int=>.tup [V.s r.1,V.i r.2])) H (.inr rfl) (.cons (.tmp rfl) (.cons (.tmp rfl) (.nil))) rfl rfl
   conv=>whnf
   refine ask_c (p_octet_Say_v _ _) H rfl rfl (fun v20 H=>?_);conv=>whnf
   obtain ⟨l21,h22,H⟩:=bind_c H
   rcases Classical.em (v20.1=[]) with h23 | h23
   ·have hq:=(app_nil h23 h22).symm
    subst hq
    refine ⟨⟨_,Tryz.func25,by kernel_rfl,by kernel_rfl⟩,Ask_S (v:=.i v20.2) (st':=[.live [.y8 a0.Kind,.i a0.Conn,.i a0.N,.s a0.Text] 0,.live [.s v1.1.name,.b v1.1.conn,.i v1.1.wide,.b v1.1.text] 0,.live (cellsM V.y8 [a0.Kind]) (cellsM V.y8 [a0.Kind]).length,.live [.osl 2 0 (List.length [a0.Kind]) 1 true] 0,.fresh,.fresh,.fresh]) (callsR_c (n0:=7) mix Tryz.func25 gc25_ok rfl ?_) rfl ?_⟩
    ·conv=>whnf
     refine App.Z (srcOwn (f:=V.y8) (l:=[a0.Kind]) (fun _=>rfl) rfl rfl rfl) (srcNil (f:=V.y8) (fun _=>rfl) h23) ?_;conv=>whnf
     refine lq_ ?_;conv=>whnf
     exact ⟨f_R [0,1,2,3,4,5,6] (.inr rfl) (.cons (.tmp rfl) (.nil)) rfl rfl rfl (fx0 rfl) ⟨⟨rfl,rfl,rfl⟩,⟨⟨rfl,rfl,rfl⟩,wkB_live0 rfl (cellsM_idlt (f:=V.y8) (fun _=>rfl) _) rfl ⟨⟨rfl,rfl,rfl⟩,⟨rfl,⟨rfl,⟨rfl,trivial⟩⟩⟩⟩⟩⟩⟩
    conv=>whnf
    refine tst_c H (fun b25 H=>?_) (fun b25 H=>?_)
    ·conv=>whnf
     exact fin0_c (enc:=(fun r:ByteArray × Int=>.tup [V.s r.1,V.i r.2])) H (.inr rfl) (.cons (.tmp rfl) (.cons (.tmp rfl) (.nil))) rfl rfl
    conv=>whnf
    refine b2sO_c H rfl rfl rfl (fun s26 H=>?_);conv=>whnf
    exact fin0_c (enc:=(fun r:ByteArray × Int=>.tup [V.s r.1,V.i r.2])) H (.inr rfl) (.cons (.tmp rfl) (.cons (.tmp rfl) (.nil))) rfl rfl
   refine ⟨⟨_,Tryz.func25,by kernel_rfl,by kernel_rfl⟩,Ask_S (v:=.i v20.2) (st':=[.live [.y8 a0.Kind,.i a0.Conn,.i a0.N,.s a0.Text] 0,.live [.s v1.1.name,.b v1.1.conn,.i v1.1.wide,.b v1.1.text] 0,.live (cellsM V.y8 [a0.Kind]) (cellsM V.y8 [a0.Kind]).length,.live [.osl 6 0 (List.length l21) 1 false] 0,.fresh,.fresh,.live (cellsM V.y8 l21) (cellsM V.y8 l21).length]) (callsR_c (n0:=7) mix Tryz.func25 gc25_ok rfl ?_) rfl ?_⟩
   ·have H:(app? [a0.Kind] v20.1).bind (fun l=>some l)=some l21:=by rw [h22];rfl
    conv=>whnf
    refine appN_c (f:=V.y8) H (fun _=>rfl) (srcOwn (f:=V.y8) (l:=[a0.Kind]) (fun _=>rfl) rfl rfl rfl) rfl (.v (srcM (f:=V.y8) (fun _=>rfl) _ _)) (by decide) rfl h23 (fun l27 H=>?_);conv=>whnf
    obtain rfl:=Option.some.inj H
    refine lq_ ?_;conv=>whnf
    exact ⟨f_R [0,1,2,3,4,5,7] (.inr rfl) (.cons (.tmp rfl) (.nil)) rfl rfl rfl (fx0 rfl) ⟨⟨rfl,rfl,rfl⟩,⟨⟨rfl,rfl,rfl⟩,wkB_live0 rfl (cellsM_idlt (f:=V.y8) (fun _=>rfl) _) rfl ⟨⟨rfl,rfl,rfl⟩,⟨rfl,⟨rfl,wkB_live0 rfl (cellsM_idlt (f:=V.y8) (fun _=>rfl) _) rfl trivial⟩⟩⟩⟩⟩⟩
   conv=>whnf
   refine tst_c H (fun b28 H=>?_) (fun b28 H=>?_)
   ·conv=>whnf
    exact fin0_c (enc:=(fun r:ByteArray × Int=>.tup [V.s r.1,V.i r.2])) H (.inr rfl) (.cons (.tmp rfl) (.cons (.tmp rfl) (.nil))) rfl rfl
   conv=>whnf
   refine b2sO_c H rfl rfl rfl (fun s29 H=>?_);conv=>whnf
   exact fin0_c (enc:=(fun r:ByteArray × Int=>.tup [V.s r.1,V.i r.2])) H (.inr rfl) (.cons (.tmp rfl) (.cons (.tmp rfl) (.nil))) rfl rfl
  refine ⟨⟨_,Tryz.func25,by kernel_rfl,by kernel_rfl⟩,Ask_S (v:=.i v13.2) (st':=[.live [.y8 a0.Kind,.i a0.Conn,.i a0.N,.s a0.Text] 0,.live [.s v1.1.name,.b v1.1.conn,.i v1.1.wide,.b v1.1.text] 0,.live (cellsM V.y8 [a0.Kind]) (cellsM V.y8 [a0.Kind]).length,.live [.osl 5 0 (List.length l14) 1 false] 0,.fresh,.live (cellsM V.y8 l14) (cellsM V.y8 l14).length]) (callsR_c (n0:=6) mix Tryz.func25 gc25_ok rfl ?_) rfl ?_⟩
  ·have H:(app? [a0.Kind] v13.1).bind (fun l=>some l)=some l14:=by rw [h15];rfl
   conv=>whnf
   refine appN_c (f:=V.y8) H (fun _=>rfl) (srcOwn (f:=V.y8) (l:=[a0.Kind]) (fun _=>rfl) rfl rfl rfl) rfl (.v (srcM (f:=V.y8) (fun _=>rfl) _ _)) (by decide) rfl h16 (fun l34 H=>?_);conv=>whnf
   obtain rfl:=Option.some.inj H
   refine lq_ ?_;conv=>whnf
   exact ⟨f_R [0,1,2,3,4,6] (.inr rfl) (.cons (.tmp rfl) (.nil)) rfl rfl rfl (fx0 rfl) ⟨⟨rfl,rfl,rfl⟩,⟨⟨rfl,rfl,rfl⟩,wkB_live0 rfl (cellsM_idlt (f:=V.y8) (fun _=>rfl) _) rfl ⟨⟨rfl,rfl,rfl⟩,⟨rfl,wkB_live0 rfl (cellsM_idlt (f:=V.y8) (fun _=>rfl) _) rfl trivial⟩⟩⟩⟩⟩
  conv=>whnf
  refine tst_d H (fun b35 H=>?_) (fun b35 H=>?_)
  ·conv=>whnf
   iterate 3 (refine Tst.F ?_;conv=>whnf)
   refine tst_c H (fun b49 H=>?_) (fun b49 H=>?_)
   ·conv=>whnf
    exact fin0_c (enc:=(fun r:ByteArray × Int=>.tup [V.s r.1,V.i r.2])) H (.inr rfl) (.cons (.tmp rfl) (.cons (.tmp rfl) (.nil))) rfl rfl
   conv=>whnf
   refine b2sO_c H rfl rfl rfl (fun s50 H=>?_);conv=>whnf
   exact fin0_c (enc:=(fun r:ByteArray × Int=>.tup [V.s r.1,V.i r.2])) H (.inr rfl) (.cons (.tmp rfl) (.cons (.tmp rfl) (.nil))) rfl rfl
  conv=>whnf
  iterate 2 (refine Tst.T ?_;conv=>whnf)
  refine tst_d H (fun b36 H=>?_) (fun b36 H=>?_)
  ·conv=>whnf
   refine tst_c H (fun b47 H=>?_) (fun b47 H=>?_)
   ·conv=>whnf
    exact fin0_c (enc:=(fun r:ByteArray × Int=>.tup [V.s r.1,V.i r.2])) H (.inr rfl) (.cons (.tmp rfl) (.cons (.tmp rfl) (.nil))) rfl rfl
   conv=>whnf
   refine b2sO_c H rfl rfl rfl (fun s48 H=>?_);conv=>whnf
   exact fin0_c (enc:=(fun r:ByteArray × Int=>.tup [V.s r.1,V.i r.2])) H (.inr rfl) (.cons (.tmp rfl) (.cons (.tmp rfl) (.nil))) rfl rfl
  conv=>whnf
  refine ask_c (p_octet_Say_v _ _) H rfl rfl (fun v37 H=>?_);conv=>whnf
  obtain ⟨l38,h39,H⟩:=bind_c H
  rcases Classical.em (v37.1=[]) with h40 | h40
  ·have hq:=(app_nil h40 h39).symm
   subst hq
   refine ⟨⟨_,Tryz.func25,by kernel_rfl,by kernel_rfl⟩,Ask_S (v:=.i v37.2) (st':=[.live [.y8 a0.Kind,.i a0.Conn,.i a0.N,.s a0.Text] 0,.live [.s v1.1.name,.b v1.1.conn,.i v1.1.wide,.b v1.1.text] 0,.live (cellsM V.y8 [a0.Kind]) (cellsM V.y8 [a0.Kind]).length,.live [.osl 5 0 (List.length l14) 1 false] 0,.fresh,.live (cellsM V.y8 l14) (cellsM V.y8 l14).length,.fresh]) (callsR_c (n0:=7) mix Tryz.func25 gc25_ok rfl ?_) rfl ?_⟩
   ·conv=>whnf
    refine App.Z (srcOwn (f:=V.y8) (l:=l14) (fun _=>rfl) rfl rfl rfl) (srcNil (f:=V.y8) (fun _=>rfl) h40) ?_;conv=>whnf
    refine lq_ ?_;conv=>whnf
    exact ⟨f_R [0,1,2,3,4,5,6] (.inr rfl) (.cons (.tmp rfl) (.nil)) rfl rfl rfl (fx0 rfl) ⟨⟨rfl,rfl,rfl⟩,⟨⟨rfl,rfl,rfl⟩,wkB_live0 rfl (cellsM_idlt (f:=V.y8) (fun _=>rfl) _) rfl ⟨⟨rfl,rfl,rfl⟩,⟨rfl,wkB_live0 rfl (cellsM_idlt (f:=V.y8) (fun _=>rfl) _) rfl ⟨rfl,trivial⟩⟩⟩⟩⟩⟩
   conv=>whnf
   refine tst_c H (fun b42 H=>?_) (fun b42 H=>?_)
   ·conv=>whnf
    exact fin0_c (enc:=(fun r:ByteArray × Int=>.tup [V.s r.1,V.i r.2])) H (.inr rfl) (.cons (.tmp rfl) (.cons (.tmp rfl) (.nil))) rfl rfl
   conv=>whnf
   refine b2sO_c H rfl rfl rfl (fun s43 H=>?_);conv=>whnf
   exact fin0_c (enc:=(fun r:ByteArray × Int=>.tup [V.s r.1,V.i r.2])) H (.inr rfl) (.cons (.tmp rfl) (.cons (.tmp rfl) (.nil))) rfl rfl
  refine ⟨⟨_,Tryz.func25,by kernel_rfl,by kernel_rfl⟩,Ask_S (v:=.i v37.2) (st':=[.live [.y8 a0.Kind,.i a0.Conn,.i a0.N,.s a0.Text] 0,.live [.s v1.1.name,.b v1.1.conn,.i v1.1.wide,.b v1.1.text] 0,.live (cellsM V.y8 [a0.Kind]) (cellsM V.y8 [a0.Kind]).length,.live [.osl 6 0 (List.length l38) 1 false] 0,.fresh,.dead,.live (cellsM V.y8 l38) (cellsM V.y8 l38).length]) (callsR_c (n0:=7) mix Tryz.func25 gc25_ok rfl ?_) rfl ?_⟩
  ·have H:(app? l14 v37.1).bind (fun l=>some l)=some l38:=by rw [h39];rfl
   conv=>whnf
   refine appO_c (f:=V.y8) H (fun _=>rfl) rfl (Nat.le_refl _) (.v (srcM (f:=V.y8) (fun _=>rfl) _ _)) (by decide) rfl h40 (fun l44 H=>?_);conv=>whnf
   obtain rfl:=Option.some.inj H
   refine lq_ ?_;conv=>whnf
   exact ⟨f_R [0,1,2,3,4,5,7] (.inr rfl) (.cons (.tmp rfl) (.nil)) rfl rfl rfl (fx0 rfl) ⟨⟨rfl,rfl,rfl⟩,⟨⟨rfl,rfl,rfl⟩,wkB_live0 rfl (cellsM_idlt (f:=V.y8) (fun _=>rfl) _) rfl ⟨⟨rfl,rfl,rfl⟩,⟨rfl,wkB_live0 rfl (cellsM_idlt (f:=V.y8) (fun _=>rfl) _) rfl trivial⟩⟩⟩⟩⟩
  conv=>whnf
  refine tst_c H (fun b45 H=>?_) (fun b45 H=>?_)
  ·conv=>whnf
   exact fin0_c (enc:=(fun r:ByteArray × Int=>.tup [V.s r.1,V.i r.2])) H (.inr rfl) (.cons (.tmp rfl) (.cons (.tmp rfl) (.nil))) rfl rfl
  conv=>whnf
  refine b2sO_c H rfl rfl rfl (fun s46 H=>?_);conv=>whnf
  exact fin0_c (enc:=(fun r:ByteArray × Int=>.tup [V.s r.1,V.i r.2])) H (.inr rfl) (.cons (.tmp rfl) (.cons (.tmp rfl) (.nil))) rfl rfl
 refine ⟨⟨_,Tryz.func25,by kernel_rfl,by kernel_rfl⟩,Ask_S (v:=.i v6.2) (st':=[.live [.y8 a0.Kind,.i a0.Conn,.i a0.N,.s a0.Text] 0,.live [.s v1.1.name,.b v1.1.conn,.i v1.1.wide,.b v1.1.text] 0,.live (cellsM V.y8 [a0.Kind]) (cellsM V.y8 [a0.Kind]).length,.live [.osl 4 0 (List.length l7) 1 false] 0,.live (cellsM V.y8 l7) (cellsM V.y8 l7).length]) (callsR_c (n0:=5) mix Tryz.func25 gc25_ok rfl ?_) rfl ?_⟩
 ·have H:(app? [a0.Kind] v6.1).bind (fun l=>some l)=some l7:=by rw [h8];rfl
  conv=>whnf
  refine appN_c (f:=V.y8) H (fun _=>rfl) (srcOwn (f:=V.y8) (l:=[a0.Kind]) (fun _=>rfl) rfl rfl rfl) rfl (.v (srcM (f:=V.y8) (fun _=>rfl) _ _)) (by decide) rfl h9 (fun l66 H=>?_);conv=>whnf
  obtain rfl:=Option.some.inj H
  refine lq_ ?_;conv=>whnf
  exact ⟨f_R [0,1,2,3,5] (.inr rfl) (.cons (.tmp rfl) (.nil)) rfl rfl rfl (fx0 rfl) ⟨⟨rfl,rfl,rfl⟩,⟨⟨rfl,rfl,rfl⟩,wkB_live0 rfl (cellsM_idlt (f:=V.y8) (fun _=>rfl) _) rfl ⟨⟨rfl,rfl,rfl⟩,wkB_live0 rfl (cellsM_idlt (f:=V.y8) (fun _=>rfl) _) rfl trivial⟩⟩⟩⟩
 conv=>whnf
 refine tst_d H (fun b67 H=>?_) (fun b67 H=>?_)
 ·conv=>whnf
  iterate 4 (refine Tst.F ?_;conv=>whnf)
  refine Tst.isF b67 ?_;conv=>whnf
  iterate 3 (refine Tst.F ?_;conv=>whnf)
  refine tst_c H (fun b120 H=>?_) (fun b120 H=>?_)
  ·conv=>whnf
   exact fin0_c (enc:=(fun r:ByteArray × Int=>.tup [V.s r.1,V.i r.2])) H (.inr rfl) (.cons (.tmp rfl) (.cons (.tmp rfl) (.nil))) rfl rfl
  conv=>whnf
  refine b2sO_c H rfl rfl rfl (fun s121 H=>?_);conv=>whnf
  exact fin0_c (enc:=(fun r:ByteArray × Int=>.tup [V.s r.1,V.i r.2])) H (.inr rfl) (.cons (.tmp rfl) (.cons (.tmp rfl) (.nil))) rfl rfl
 conv=>whnf
 iterate 3 (refine Tst.T ?_;conv=>whnf)
 refine tst_d H (fun b68 H=>?_) (fun b68 H=>?_)
 ·conv=>whnf
  refine Tst.isT b67 ?_;conv=>whnf
  iterate 2 (refine Tst.T ?_;conv=>whnf)
  refine tst_d H (fun b107 H=>?_) (fun b107 H=>?_)
  ·conv=>whnf
   refine tst_c H (fun b118 H=>?_) (fun b118 H=>?_)
   ·conv=>whnf
    exact fin0_c (enc:=(fun r:ByteArray × Int=>.tup [V.s r.1,V.i r.2])) H (.inr rfl) (.cons (.tmp rfl) (.cons (.tmp rfl) (.nil))) rfl rfl
   conv=>whnf
   refine b2sO_c H rfl rfl rfl (fun s119 H=>?_);conv=>whnf
   exact fin0_c (enc:=(fun r:ByteArray × Int=>.tup [V.s r.1,V.i r.2])) H (.inr rfl) (.cons (.tmp rfl) (.cons (.tmp rfl) (.nil))) rfl rfl
  conv=>whnf
  refine ask_c (p_octet_Say_v _ _) H rfl rfl (fun v108 H=>?_);conv=>whnf
  obtain ⟨l109,h110,H⟩:=bind_c H
  rcases Classical.em (v108.1=[]) with h111 | h111
  ·have hq:=(app_nil h111 h110).symm
   subst hq
   refine ⟨⟨_,Tryz.func25,by kernel_rfl,by kernel_rfl⟩,Ask_S (v:=.i v108.2) (st':=[.live [.y8 a0.Kind,.i a0.Conn,.i a0.N,.s a0.Text] 0,.live [.s v1.1.name,.b v1.1.conn,.i v1.1.wide,.b v1.1.text] 0,.live (cellsM V.y8 [a0.Kind]) (cellsM V.y8 [a0.Kind]).length,.live [.osl 4 0 (List.length l7) 1 false] 0,.live (cellsM V.y8 l7) (cellsM V.y8 l7).length,.fresh]) (callsR_c (n0:=6) mix Tryz.func25 gc25_ok rfl ?_) rfl ?_⟩
   ·conv=>whnf
    refine App.Z (srcOwn (f:=V.y8) (l:=l7) (fun _=>rfl) rfl rfl rfl) (srcNil (f:=V.y8) (fun _=>rfl) h111) ?_;conv=>whnf
    refine lq_ ?_;conv=>whnf
    exact ⟨f_R [0,1,2,3,4,5] (.inr rfl) (.cons (.tmp rfl) (.nil)) rfl rfl rfl (fx0 rfl) ⟨⟨rfl,rfl,rfl⟩,⟨⟨rfl,rfl,rfl⟩,wkB_live0 rfl (cellsM_idlt (f:=V.y8) (fun _=>rfl) _) rfl ⟨⟨rfl,rfl,rfl⟩,wkB_live0 rfl (cellsM_idlt (f:=V.y8) (fun _=>rfl) _) rfl ⟨rfl,trivial⟩⟩⟩⟩⟩
   conv=>whnf
   refine tst_c H (fun b113 H=>?_) (fun b113 H=>?_)
   ·conv=>whnf
    exact fin0_c (enc:=(fun r:ByteArray × Int=>.tup [V.s r.1,V.i r.2])) H (.inr rfl) (.cons (.tmp rfl) (.cons (.tmp rfl) (.nil))) rfl rfl
   conv=>whnf
   refine b2sO_c H rfl rfl rfl (fun s114 H=>?_);conv=>whnf
   exact fin0_c (enc:=(fun r:ByteArray × Int=>.tup [V.s r.1,V.i r.2])) H (.inr rfl) (.cons (.tmp rfl) (.cons (.tmp rfl) (.nil))) rfl rfl
  refine ⟨⟨_,Tryz.func25,by kernel_rfl,by kernel_rfl⟩,Ask_S (v:=.i v108.2) (st':=[.live [.y8 a0.Kind,.i a0.Conn,.i a0.N,.s a0.Text] 0,.live [.s v1.1.name,.b v1.1.conn,.i v1.1.wide,.b v1.1.text] 0,.live (cellsM V.y8 [a0.Kind]) (cellsM V.y8 [a0.Kind]).length,.live [.osl 5 0 (List.length l109) 1 false] 0,.dead,.live (cellsM V.y8 l109) (cellsM V.y8 l109).length]) (callsR_c (n0:=6) mix Tryz.func25 gc25_ok rfl ?_) rfl ?_⟩
  ·have H:(app? l7 v108.1).bind (fun l=>some l)=some l109:=by rw [h110];rfl
   conv=>whnf
   refine appO_c (f:=V.y8) H (fun _=>rfl) rfl (Nat.le_refl _) (.v (srcM (f:=V.y8) (fun _=>rfl) _ _)) (by decide) rfl h111 (fun l115 H=>?_);conv=>whnf
   obtain rfl:=Option.some.inj H
   refine lq_ ?_;conv=>whnf
   exact ⟨f_R [0,1,2,3,4,6] (.inr rfl) (.cons (.tmp rfl) (.nil)) rfl rfl rfl (fx0 rfl) ⟨⟨rfl,rfl,rfl⟩,⟨⟨rfl,rfl,rfl⟩,wkB_live0 rfl (cellsM_idlt (f:=V.y8) (fun _=>rfl) _) rfl ⟨⟨rfl,rfl,rfl⟩,wkB_live0 rfl (cellsM_idlt (f:=V.y8) (fun _=>rfl) _) rfl trivial⟩⟩⟩⟩
  conv=>whnf
  refine tst_c H (fun b116 H=>?_) (fun b116 H=>?_)
  ·conv=>whnf
   exact fin0_c (enc:=(fun r:ByteArray × Int=>.tup [V.s r.1,V.i r.2])) H (.inr rfl) (.cons (.tmp rfl) (.cons (.tmp rfl) (.nil))) rfl rfl
  conv=>whnf
  refine b2sO_c H rfl rfl rfl (fun s117 H=>?_);conv=>whnf
  exact fin0_c (enc:=(fun r:ByteArray × Int=>.tup [V.s r.1,V.i r.2])) H (.inr rfl) (.cons (.tmp rfl) (.cons (.tmp rfl) (.nil))) rfl rfl
 conv=>whnf
 refine ask_c (p_octet_Lay_v _ _) H rfl rfl (fun v69 H=>?_);conv=>whnf
 obtain ⟨l70,h71,H⟩:=bind_c H
 rcases Classical.em (v69.1=[]) with h72 | h72
 ·have hq:=(app_nil h72 h71).symm
  subst hq
  refine ⟨⟨_,Tryz.func25,by kernel_rfl,by kernel_rfl⟩,Ask_S (v:=.i v69.2) (st':=[.live [.y8 a0.Kind,.i a0.Conn,.i a0.N,.s a0.Text] 0,.live [.s v1.1.name,.b v1.1.conn,.i v1.1.wide,.b v1.1.text] 0,.live (cellsM V.y8 [a0.Kind]) (cellsM V.y8 [a0.Kind]).length,.live [.osl 4 0 (List.length l7) 1 false] 0,.live (cellsM V.y8 l7) (cellsM V.y8 l7).length,.fresh]) (callsR_c (n0:=6) mix Tryz.func25 gc25_ok rfl ?_) rfl ?_⟩
  ·conv=>whnf
   refine App.Z (srcOwn (f:=V.y8) (l:=l7) (fun _=>rfl) rfl rfl rfl) (srcNil (f:=V.y8) (fun _=>rfl) h72) ?_;conv=>whnf
   refine lq_ ?_;conv=>whnf
   exact ⟨f_R [0,1,2,3,4,5] (.inr rfl) (.cons (.tmp rfl) (.nil)) rfl rfl rfl (fx0 rfl) ⟨⟨rfl,rfl,rfl⟩,⟨⟨rfl,rfl,rfl⟩,wkB_live0 rfl (cellsM_idlt (f:=V.y8) (fun _=>rfl) _) rfl ⟨⟨rfl,rfl,rfl⟩,wkB_live0 rfl (cellsM_idlt (f:=V.y8) (fun _=>rfl) _) rfl ⟨rfl,trivial⟩⟩⟩⟩⟩
  conv=>whnf
  refine tst_d H (fun b74 H=>?_) (fun b74 H=>?_)
  ·conv=>whnf
   iterate 3 (refine Tst.F ?_;conv=>whnf)
   refine tst_c H (fun b88 H=>?_) (fun b88 H=>?_)
   ·conv=>whnf
    exact fin0_c (enc:=(fun r:ByteArray × Int=>.tup [V.s r.1,V.i r.2])) H (.inr rfl) (.cons (.tmp rfl) (.cons (.tmp rfl) (.nil))) rfl rfl
   conv=>whnf
   refine b2sO_c H rfl rfl rfl (fun s89 H=>?_);conv=>whnf
   exact fin0_c (enc:=(fun r:ByteArray × Int=>.tup [V.s r.1,V.i r.2])) H (.inr rfl) (.cons (.tmp rfl) (.cons (.tmp rfl) (.nil))) rfl rfl
  conv=>whnf
  iterate 2 (refine Tst.T ?_;conv=>whnf)
  refine tst_d H (fun b75 H=>?_) (fun b75 H=>?_)
  ·conv=>whnf
   refine tst_c H (fun b86 H=>?_) (fun b86 H=>?_)
   ·conv=>whnf
    exact fin0_c (enc:=(fun r:ByteArray × Int=>.tup [V.s r.1,V.i r.2])) H (.inr rfl) (.cons (.tmp rfl) (.cons (.tmp rfl) (.nil))) rfl rfl
   conv=>whnf
   refine b2sO_c H rfl rfl rfl (fun s87 H=>?_);conv=>whnf
   exact fin0_c (enc:=(fun r:ByteArray × Int=>.tup [V.s r.1,V.i r.2])) H (.inr rfl) (.cons (.tmp rfl) (.cons (.tmp rfl) (.nil))) rfl rfl
  conv=>whnf
  refine ask_c (p_octet_Say_v _ _) H rfl rfl (fun v76 H=>?_);conv=>whnf
  obtain ⟨l77,h78,H⟩:=bind_c H
  rcases Classical.em (v76.1=[]) with h79 | h79
  ·have hq:=(app_nil h79 h78).symm
   subst hq
   refine ⟨⟨_,Tryz.func25,by kernel_rfl,by kernel_rfl⟩,Ask_S (v:=.i v76.2) (st':=[.live [.y8 a0.Kind,.i a0.Conn,.i a0.N,.s a0.Text] 0,.live [.s v1.1.name,.b v1.1.conn,.i v1.1.wide,.b v1.1.text] 0,.live (cellsM V.y8 [a0.Kind]) (cellsM V.y8 [a0.Kind]).length,.live [.osl 4 0 (List.length l7) 1 false] 0,.live (cellsM V.y8 l7) (cellsM V.y8 l7).length,.fresh,.fresh]) (callsR_c (n0:=7) mix Tryz.func25 gc25_ok rfl ?_) rfl ?_⟩
   ·conv=>whnf
    refine App.Z (srcOwn (f:=V.y8) (l:=l7) (fun _=>rfl) rfl rfl rfl) (srcNil (f:=V.y8) (fun _=>rfl) h79) ?_;conv=>whnf
    refine lq_ ?_;conv=>whnf
    exact ⟨f_R [0,1,2,3,4,5,6] (.inr rfl) (.cons (.tmp rfl) (.nil)) rfl rfl rfl (fx0 rfl) ⟨⟨rfl,rfl,rfl⟩,⟨⟨rfl,rfl,rfl⟩,wkB_live0 rfl (cellsM_idlt (f:=V.y8) (fun _=>rfl) _) rfl ⟨⟨rfl,rfl,rfl⟩,wkB_live0 rfl (cellsM_idlt (f:=V.y8) (fun _=>rfl) _) rfl ⟨rfl,⟨rfl,trivial⟩⟩⟩⟩⟩⟩
   conv=>whnf
   refine tst_c H (fun b81 H=>?_) (fun b81 H=>?_)
   ·conv=>whnf
    exact fin0_c (enc:=(fun r:ByteArray × Int=>.tup [V.s r.1,V.i r.2])) H (.inr rfl) (.cons (.tmp rfl) (.cons (.tmp rfl) (.nil))) rfl rfl
   conv=>whnf
   refine b2sO_c H rfl rfl rfl (fun s82 H=>?_);conv=>whnf
   exact fin0_c (enc:=(fun r:ByteArray × Int=>.tup [V.s r.1,V.i r.2])) H (.inr rfl) (.cons (.tmp rfl) (.cons (.tmp rfl) (.nil))) rfl rfl
  refine ⟨⟨_,Tryz.func25,by kernel_rfl,by kernel_rfl⟩,Ask_S (v:=.i v76.2) (st':=[.live [.y8 a0.Kind,.i a0.Conn,.i a0.N,.s a0.Text] 0,.live [.s v1.1.name,.b v1.1.conn,.i v1.1.wide,.b v1.1.text] 0,.live (cellsM V.y8 [a0.Kind]) (cellsM V.y8 [a0.Kind]).length,.live [.osl 6 0 (List.length l77) 1 false] 0,.dead,.fresh,.live (cellsM V.y8 l77) (cellsM V.y8 l77).length]) (callsR_c (n0:=7) mix Tryz.func25 gc25_ok rfl ?_) rfl ?_⟩
  ·have H:(app? l7 v76.1).bind (fun l=>some l)=some l77:=by rw [h78];rfl
   conv=>whnf
   refine appO_c (f:=V.y8) H (fun _=>rfl) rfl (Nat.le_refl _) (.v (srcM (f:=V.y8) (fun _=>rfl) _ _)) (by decide) rfl h79 (fun l83 H=>?_);conv=>whnf
   obtain rfl:=Option.some.inj H
   refine lq_ ?_;conv=>whnf
   exact ⟨f_R [0,1,2,3,4,5,7] (.inr rfl) (.cons (.tmp rfl) (.nil)) rfl rfl rfl (fx0 rfl) ⟨⟨rfl,rfl,rfl⟩,⟨⟨rfl,rfl,rfl⟩,wkB_live0 rfl (cellsM_idlt (f:=V.y8) (fun _=>rfl) _) rfl ⟨⟨rfl,rfl,rfl⟩,⟨rfl,wkB_live0 rfl (cellsM_idlt (f:=V.y8) (fun _=>rfl) _) rfl trivial⟩⟩⟩⟩⟩
  conv=>whnf
  refine tst_c H (fun b84 H=>?_) (fun b84 H=>?_)
  ·conv=>whnf
   exact fin0_c (enc:=(fun r:ByteArray × Int=>.tup [V.s r.1,V.i r.2])) H (.inr rfl) (.cons (.tmp rfl) (.cons (.tmp rfl) (.nil))) rfl rfl
  conv=>whnf
  refine b2sO_c H rfl rfl rfl (fun s85 H=>?_);conv=>whnf
  exact fin0_c (enc:=(fun r:ByteArray × Int=>.tup [V.s r.1,V.i r.2])) H (.inr rfl) (.cons (.tmp rfl) (.cons (.tmp rfl) (.nil))) rfl rfl
 refine ⟨⟨_,Tryz.func25,by kernel_rfl,by kernel_rfl⟩,Ask_S (v:=.i v69.2) (st':=[.live [.y8 a0.Kind,.i a0.Conn,.i a0.N,.s a0.Text] 0,.live [.s v1.1.name,.b v1.1.conn,.i v1.1.wide,.b v1.1.text] 0,.live (cellsM V.y8 [a0.Kind]) (cellsM V.y8 [a0.Kind]).length,.live [.osl 5 0 (List.length l70) 1 false] 0,.dead,.live (cellsM V.y8 l70) (cellsM V.y8 l70).length]) (callsR_c (n0:=6) mix Tryz.func25 gc25_ok rfl ?_) rfl ?_⟩
 ·have H:(app? l7 v69.1).bind (fun l=>some l)=some l70:=by rw [h71];rfl
  conv=>whnf
  refine appO_c (f:=V.y8) H (fun _=>rfl) rfl (Nat.le_refl _) (.v (srcM (f:=V.y8) (fun _=>rfl) _ _)) (by decide) rfl h72 (fun l90 H=>?_);conv=>whnf
  obtain rfl:=Option.some.inj H
  refine lq_ ?_;conv=>whnf
  exact ⟨f_R [0,1,2,3,4,6] (.inr rfl) (.cons (.tmp rfl) (.nil)) rfl rfl rfl (fx0 rfl) ⟨⟨rfl,rfl,rfl⟩,⟨⟨rfl,rfl,rfl⟩,wkB_live0 rfl (cellsM_idlt (f:=V.y8) (fun _=>rfl) _) rfl ⟨⟨rfl,rfl,rfl⟩,wkB_live0 rfl (cellsM_idlt (f:=V.y8) (fun _=>rfl) _) rfl trivial⟩⟩⟩⟩
 conv=>whnf
 refine tst_d H (fun b91 H=>?_) (fun b91 H=>?_)
 ·conv=>whnf
  iterate 3 (refine Tst.F ?_;conv=>whnf)
  refine tst_c H (fun b105 H=>?_) (fun b105 H=>?_)
  ·conv=>whnf
   exact fin0_c (enc:=(fun r:ByteArray × Int=>.tup [V.s r.1,V.i r.2])) H (.inr rfl) (.cons (.tmp rfl) (.cons (.tmp rfl) (.nil))) rfl rfl
  conv=>whnf
  refine b2sO_c H rfl rfl rfl (fun s106 H=>?_);conv=>whnf
  exact fin0_c (enc:=(fun r:ByteArray × Int=>.tup [V.s r.1,V.i r.2])) H (.inr rfl) (.cons (.tmp rfl) (.cons (.tmp rfl) (.nil))) rfl rfl
 conv=>whnf
 iterate 2 (refine Tst.T ?_;conv=>whnf)
 refine tst_d H (fun b92 H=>?_) (fun b92 H=>?_)
 ·conv=>whnf
  refine tst_c H (fun b103 H=>?_) (fun b103 H=>?_)
  ·conv=>whnf
   exact fin0_c (enc:=(fun r:ByteArray × Int=>.tup [V.s r.1,V.i r.2])) H (.inr rfl) (.cons (.tmp rfl) (.cons (.tmp rfl) (.nil))) rfl rfl
  conv=>whnf
  refine b2sO_c H rfl rfl rfl (fun s104 H=>?_);conv=>whnf
  exact fin0_c (enc:=(fun r:ByteArray × Int=>.tup [V.s r.1,V.i r.2])) H (.inr rfl) (.cons (.tmp rfl) (.cons (.tmp rfl) (.nil))) rfl rfl
 conv=>whnf
 refine ask_c (p_octet_Say_v _ _) H rfl rfl (fun v93 H=>?_);conv=>whnf
 obtain ⟨l94,h95,H⟩:=bind_c H
 rcases Classical.em (v93.1=[]) with h96 | h96
 ·have hq:=(app_nil h96 h95).symm
  subst hq
  refine ⟨⟨_,Tryz.func25,by kernel_rfl,by kernel_rfl⟩,Ask_S (v:=.i v93.2) (st':=[.live [.y8 a0.Kind,.i a0.Conn,.i a0.N,.s a0.Text] 0,.live [.s v1.1.name,.b v1.1.conn,.i v1.1.wide,.b v1.1.text] 0,.live (cellsM V.y8 [a0.Kind]) (cellsM V.y8 [a0.Kind]).length,.live [.osl 5 0 (List.length l70) 1 false] 0,.dead,.live (cellsM V.y8 l70) (cellsM V.y8 l70).length,.fresh]) (callsR_c (n0:=7) mix Tryz.func25 gc25_ok rfl ?_) rfl ?_⟩
  ·conv=>whnf
   refine App.Z (srcOwn (f:=V.y8) (l:=l70) (fun _=>rfl) rfl rfl rfl) (srcNil (f:=V.y8) (fun _=>rfl) h96) ?_;conv=>whnf
   refine lq_ ?_;conv=>whnf
   exact ⟨f_R [0,1,2,3,4,5,6] (.inr rfl) (.cons (.tmp rfl) (.nil)) rfl rfl rfl (fx0 rfl) ⟨⟨rfl,rfl,rfl⟩,⟨⟨rfl,rfl,rfl⟩,wkB_live0 rfl (cellsM_idlt (f:=V.y8) (fun _=>rfl) _) rfl ⟨⟨rfl,rfl,rfl⟩,wkB_live0 rfl (cellsM_idlt (f:=V.y8) (fun _=>rfl) _) rfl ⟨rfl,trivial⟩⟩⟩⟩⟩
  conv=>whnf
  refine tst_c H (fun b98 H=>?_) (fun b98 H=>?_)
  ·conv=>whnf
   exact fin0_c (enc:=(fun r:ByteArray × Int=>.tup [V.s r.1,V.i r.2])) H (.inr rfl) (.cons (.tmp rfl) (.cons (.tmp rfl) (.nil))) rfl rfl
  conv=>whnf
  refine b2sO_c H rfl rfl rfl (fun s99 H=>?_);conv=>whnf
  exact fin0_c (enc:=(fun r:ByteArray × Int=>.tup [V.s r.1,V.i r.2])) H (.inr rfl) (.cons (.tmp rfl) (.cons (.tmp rfl) (.nil))) rfl rfl
 refine ⟨⟨_,Tryz.func25,by kernel_rfl,by kernel_rfl⟩,Ask_S (v:=.i v93.2) (st':=[.live [.y8 a0.Kind,.i a0.Conn,.i a0.N,.s a0.Text] 0,.live [.s v1.1.name,.b v1.1.conn,.i v1.1.wide,.b v1.1.text] 0,.live (cellsM V.y8 [a0.Kind]) (cellsM V.y8 [a0.Kind]).length,.live [.osl 6 0 (List.length l94) 1 false] 0,.dead,.dead,.live (cellsM V.y8 l94) (cellsM V.y8 l94).length]) (callsR_c (n0:=7) mix Tryz.func25 gc25_ok rfl ?_) rfl ?_⟩
 ·have H:(app? l70 v93.1).bind (fun l=>some l)=some l94:=by rw [h95];rfl
  conv=>whnf
  refine appO_c (f:=V.y8) H (fun _=>rfl) rfl (Nat.le_refl _) (.v (srcM (f:=V.y8) (fun _=>rfl) _ _)) (by decide) rfl h96 (fun l100 H=>?_);conv=>whnf
  obtain rfl:=Option.some.inj H
  refine lq_ ?_;conv=>whnf
  exact ⟨f_R [0,1,2,3,4,5,7] (.inr rfl) (.cons (.tmp rfl) (.nil)) rfl rfl rfl (fx0 rfl) ⟨⟨rfl,rfl,rfl⟩,⟨⟨rfl,rfl,rfl⟩,wkB_live0 rfl (cellsM_idlt (f:=V.y8) (fun _=>rfl) _) rfl ⟨⟨rfl,rfl,rfl⟩,wkB_live0 rfl (cellsM_idlt (f:=V.y8) (fun _=>rfl) _) rfl trivial⟩⟩⟩⟩
 conv=>whnf
 refine tst_c H (fun b101 H=>?_) (fun b101 H=>?_)
 ·conv=>whnf
  exact fin0_c (enc:=(fun r:ByteArray × Int=>.tup [V.s r.1,V.i r.2])) H (.inr rfl) (.cons (.tmp rfl) (.cons (.tmp rfl) (.nil))) rfl rfl
 conv=>whnf
 refine b2sO_c H rfl rfl rfl (fun s102 H=>?_);conv=>whnf
 exact fin0_c (enc:=(fun r:ByteArray × Int=>.tup [V.s r.1,V.i r.2])) H (.inr rfl) (.cons (.tmp rfl) (.cons (.tmp rfl) (.nil))) rfl rfl
end Go.Proofs.YtpkodpcfafipdaaGreatDoor

namespace Go.Proofs.YtpkodpcfafipdaaGreatDoor
open Go.RowKit
def joinS (put:BrokerStep→Option (ByteArray × Int)):List BrokerStep→List UInt8→Option (ByteArray × Int)
 | [],acc=>some (⟨acc.toArray⟩,0)
 | s :: l,acc=>(put s).bind fun r=>if r.2≠0 then some (⟨#[]⟩,r.2) else if acc.length + r.1.size≤1000000000 then joinS put l (acc++r.1.data.toList) else none
def p_script_Join (l:List BrokerStep):Option (ByteArray × Int):=if l.length≤1000000 then joinS p_script_Put l [] else none
theorem strCellsS (s:ByteArray) (acc:List UInt8):Lib.byteCells acc++Lib.strCells s=Lib.byteCells (acc++s.data.toList):=by
 simp [Lib.byteCells,Lib.strCells]
theorem calls_val {P:Program} {f:FuncId} {cargs:Array Value} {avs:List V} {rs:List Value} (h:CallsV P f avs (.tup (rs.map V.lit))) (hv:∀ m:Mem,RepA m noBk cargs avs) (w:World) (hml:ML w) (ht:GT w):Calls P f cargs w (Ret w (.tuple rs.toArray)):=by
 obtain ⟨_,n,hn⟩:=hml
 let m:Mem:=fun a=>if a=⟨0,0,none⟩ then some (.int .i64 n) else none
 have hm0:∀ a u,m a=some u→w.cell? a=some u:=fun a u hu=>by
  by_cases e:a=⟨0,0,none⟩
  ·have:m a=some (.int .i64 n):=if_pos e
   rw [this] at hu;cases hu;rw [e];exact hn
  ·have:m a=none:=if_neg e
   rw [this] at hu;cases hu
 have hm:MemW m w:=⟨hm0,ht⟩
 refine (h m w cargs ⟨n,if_pos rfl⟩ hm (hv m)).mono ?_
 rintro e w' ⟨c,m',rfl,hb,_,_,_,hr⟩
 refine ⟨congrArg Ending.returned ?_,hb⟩
 cases hr with
 | @tup _ cs _ hl hr =>
  congr 1
  apply Array.ext
  ·simpa using hl
  ·intro j h1 h2
   have hj:j < rs.length:=by simpa using h2
   have:=hr j h1 (by simpa using hj)
   rw [List.getElem_map] at this
   rw [this.int];simp
theorem rep_litsS {m:Mem} {vs:List Value} (h:∀ v ∈ vs,v.oneCell'=true):Rep m noBk (.agg vs.toArray) (.agg (vs.map V.lit)) :=
 .agg (by simp) (by intro v hv;obtain ⟨a,ha,rfl⟩:=List.mem_map.1 hv;exact h a ha) fun j h1 h2=>by simp only [List.getElem_map,List.getElem_toArray];exact .lit (h _ (List.getElem_mem _))
theorem rep_step (m:Mem) {k c n:Int} {t:ByteArray}:RepA m noBk #[.agg #[.int .u8 k,.int .i64 c,.int .i64 n,.string t]] [BrokerStep.v ⟨k,c,n,t⟩] :=
 ⟨rfl,fun j h1 h2=>by
  have:j=0:=by simp at h1;omega
  subst this
  exact rep_litsS (vs:=[.int .u8 k,.int .i64 c,.int .i64 n,.string t]) (by simp [Value.oneCell'])⟩
theorem ml_below {w w' : World} (h:ML w) (hb:Below w.heap.size w w'):ML w':=by
 obtain ⟨h1,m,h2⟩:=h
 exact ⟨Nat.lt_of_lt_of_le h1 hb.size,m,(hb.cell (p:=⟨0,0,none⟩) h1).trans h2⟩
theorem below_chain {B:Nat} {w wA w1:World} (h0:Below B w wA) (h1:Below wA.heap.size wA w1) (hB:B≤w.heap.size):Below B w w1:=h0.trans (h1.mono (Nat.le_trans hB h0.size))
set_option maxHeartbeats 4000000 in
set_option maxRecDepth 100000 in
theorem scriptJoin_c (A:Option Addr) (n cap:Nat) (ss:List BrokerStep) (w:World) (hml:ML w) (ht:GT w) (hn:n=ss.length) (hn2:n≤1000000) (hs:∀ k (h:k < ss.length),∃ b o,A=some ⟨b,o,none⟩∧w.cell? ⟨b,o + k * 4,none⟩=some (.int .u8 ss[k].Kind)∧w.cell? ⟨b,o + k * 4 + 1,none⟩=some (.int .i64 ss[k].Conn)∧w.cell? ⟨b,o + k * 4 + 2,none⟩=some (.int .i64 ss[k].N)∧w.cell? ⟨b,o + k * 4 + 3,none⟩=some (.string ss[k].Text)) (r:ByteArray × Int) (hr:joinS p_script_Put ss []=some r) :
  Calls Tryz.prog 10 #[.slice A n cap] w (Ret w (.tuple #[.string r.1,.int .i64 r.2])):=by
 have HS:=Lib.hid hs
 have HN:=Lib.hid hn
 have HR:=Lib.hid hr
 clear hs hn hr
 go_enter Tryz.func10,Tryz.ntmps10
 go_wp2
 go_loopw [6,7,8,11] (fun _ _ _ i wr=>∃ (k:Nat) (acc:List UInt8),k≤n∧i=.int .i64 k∧Lib.IsBuilder 77 5 w.heap.size w.heap.size (Lib.byteCells acc) wr∧acc.length≤1000000000∧Below w.heap.size w wr∧joinS p_script_Put (ss.drop k) acc=some r) (fun _ _ _ i _=>n - (intOf i).toNat)
 case atStart=>exact ⟨0,[],Nat.zero_le _,rfl,Lib.fresh_isBuilder _ _ _,Nat.zero_le _,bel_,HR.out⟩
 case round =>
  obtain ⟨k,acc,hk,rfl,hb,ha,hB,hj⟩:=hrel
  have HB:=Lib.hid hb
  have HJ:=Lib.hid hj
  clear hb hj
  by_cases hlt:k < n
  ·have hkl:k < ss.length:=by rw [← HN.out];exact hlt
   obtain ⟨b,o,rfl,hc0,hc1,hc2,hc3⟩:=HS.out k hkl
   have hbl:b < w.heap.size:=cell_lt hc0
   have c0:=(hB.cell (p:=⟨b,o + k * 4,none⟩) hbl).trans hc0
   have c1:=(hB.cell (p:=⟨b,o + k * 4 + 1,none⟩) hbl).trans hc1
   have c2:=(hB.cell (p:=⟨b,o + k * 4 + 2,none⟩) hbl).trans hc2
   have c3:=(hB.cell (p:=⟨b,o + k * 4 + 3,none⟩) hbl).trans hc3
   obtain ⟨hm1,m,hm2⟩:=hml
   have hmr:ML wr:=⟨Nat.lt_of_lt_of_le hm1 hB.size,m,(hB.cell (p:=⟨0,0,none⟩) hm1).trans hm2⟩
   clear hc0 hc1 hc2 hc3 hm2
   have hjj:=HJ.out
   rw [List.drop_eq_getElem_cons hkl,joinS] at hjj
   cases hq:p_script_Put ss[k] with
   | none=>rw [hq] at hjj;cases hjj
   | some q =>
    rw [hq,Option.bind_some] at hjj
    obtain ⟨q1,q2⟩:=q
    generalize ss[k]=s at c0 c1 c2 c3 hq
    obtain ⟨sk,sc,sn,st⟩:=s
    have HP:=Lib.hid (fun (w' : World) (hb:Below wr.heap.size wr w')=>calls_val (rs:=[.string q1,.int .i64 q2]) (p_script_Put_v ⟨sk,sc,sn,st⟩ (q1,q2) hq) (fun m=>rep_step m) w' (ml_below hmr hb) ((ht.mono hB.block).mono hb.block))
    have HQ:=Lib.hid hjj
    clear hq hjj
    by_cases h0:q2=0
    ·subst h0
     have hq2:=HQ.out
     rw [if_neg (by simp)] at hq2
     split at hq2
     case isFalse=>cases hq2
     rename_i hlen
     have HZ:=Lib.hid hq2
     clear hq2 HQ
     go_wp2_with (first
      | (go_at_call 6;(refine (HP.out _ bel_).mono ?_);rintro e w1 ⟨rfl,hb1⟩;have hb3:=below_chain (B:=wr.heap.size) (w:=wr) bel_ hb1 (Nat.le_refl _);have hbw:=isb_below HB.out hb3;have hB1:=hB.trans (hb3.mono hB.size);have hz1:=hb3.size)
      | (go_at_call 35;(with_reducible refine (write_c _ _ _ q1 _ hbw (by rw [Lib.byteCells_length];omega) (Nat.le_trans hB.size hz1)).mono ?_);rintro e w2 ⟨rfl,hb2,hB2⟩))
     exact ⟨⟨k + 1,acc++q1.data.toList,by omega,by go_num,.inr (by rw [← strCellsS];exact hb2),by simp;omega,hB1.trans hB2,HZ.out⟩,by simp [intOf];omega⟩
    ·have hq2:=HQ.out
     rw [if_pos h0] at hq2
     have hr:r=(⟨#[]⟩,q2):=(Option.some.inj hq2).symm
     clear hq2 HQ
     have HR2:=Lib.hid hr
     clear hr
     have hne:(q2 != 0)=true:=by simpa using h0
     go_wp2_with (first
      | (go_at_call 6;(refine (HP.out _ bel_).mono ?_);rintro e w1 ⟨rfl,hb1⟩;have hb3:=below_chain (B:=wr.heap.size) (w:=wr) bel_ hb1 (Nat.le_refl _);have hB1:=hB.trans (hb3.mono hB.size)))
     go_ret2
     exact ⟨by rw [HR2.out];rfl,hB1⟩
  ·have hkn:k=ss.length:=by have:=HN.out;omega
   have hjj:=HJ.out
   rw [hkn,List.drop_length,joinS] at hjj
   have hr:r=(⟨acc.toArray⟩,0):=(Option.some.inj hjj).symm
   have HR2:=Lib.hid hr
   have hbb:=HB.out
   have HK:=Lib.hid hkn
   clear hjj hr hkn
   go_wp2_with (first
    | (go_at_call 36;(with_reducible refine (Tryz.Builder_String_any _ _ acc _ hbb hB.size).mono ?_);rintro e w2 ⟨rfl,hB2⟩))
   go_ret2
   exact ⟨by rw [HR2.out];rfl,hB.trans hB2⟩
theorem stepCells:∀ (L:List BrokerStep) (j:Nat) (h:j < L.length),((List.map BrokerStep.v L).flatMap V.cells)[j * 4]?=some (V.lit (.int .u8 L[j].Kind))∧((List.map BrokerStep.v L).flatMap V.cells)[j * 4 + 1]?=some (V.lit (.int .i64 L[j].Conn))∧((List.map BrokerStep.v L).flatMap V.cells)[j * 4 + 2]?=some (V.lit (.int .i64 L[j].N))∧((List.map BrokerStep.v L).flatMap V.cells)[j * 4 + 3]?=some (V.lit (.string L[j].Text))
 | [],j,h=>absurd h (Nat.not_lt_zero _)
 | x :: l,0,_=>⟨rfl,rfl,rfl,rfl⟩
 | x :: l,j + 1,h=>by
  have ih:=stepCells l j (by simpa using h)
  have e:(List.map BrokerStep.v (x :: l)).flatMap V.cells=[V.lit (.int .u8 x.Kind),V.lit (.int .i64 x.Conn),V.lit (.int .i64 x.N),V.lit (.string x.Text)]++(List.map BrokerStep.v l).flatMap V.cells:=rfl
  have sh:∀ q,((List.map BrokerStep.v (x :: l)).flatMap V.cells)[q + 4]?=((List.map BrokerStep.v l).flatMap V.cells)[q]?:=fun q=>by
   rw [e,List.getElem?_append_right (by simp)];rfl
  simp only [List.getElem_cons_succ]
  refine ⟨?_,?_,?_,?_⟩
  ·rw [show (j + 1) * 4=j * 4 + 4 by omega,sh];exact ih.1
  ·rw [show (j + 1) * 4 + 1=j * 4 + 1 + 4 by omega,sh];exact ih.2.1
  ·rw [show (j + 1) * 4 + 2=j * 4 + 2 + 4 by omega,sh];exact ih.2.2.1
  ·rw [show (j + 1) * 4 + 3=j * 4 + 3 + 4 by omega,sh];exact ih.2.2.2
theorem p_script_Join_v {u:Bool} (l:List BrokerStep):CallsO Tryz.prog 10 [.sl (List.map BrokerStep.v l) u] (fun r:ByteArray × Int=>.tup [V.s r.1,V.i r.2]) (p_script_Join l):=by
 intro r hr m w cargs hg hmem hargs
 unfold p_script_Join at hr
 split at hr
 case isFalse=>cases hr
 rename_i hl
 obtain ⟨hsz,hrp⟩:=hargs
 obtain ⟨c,rfl⟩ : ∃ c,cargs=#[c]:=by
  have h1:cargs.size=1:=hsz
  exact ⟨cargs[0],by apply Array.ext;simp [h1];intro i a b;simp at b;subst b;rfl⟩
 have h0:=hrp 0 (by simp) (by simp)
 simp only [List.getElem_cons_zero] at h0
 change Rep m noBk c _ at h0
 obtain ⟨n,hn⟩:=hg
 have hml:ML w:=⟨by have:=cell_lt (hmem _ _ hn);omega,n,hmem _ _ hn⟩
 have fin:∀ (A:Option Addr) (k cap:Nat),c=.slice A k cap→k=l.length→(∀ j (h:j < l.length),∃ b o,A=some ⟨b,o,none⟩∧w.cell? ⟨b,o + j * 4,none⟩=some (.int .u8 l[j].Kind)∧w.cell? ⟨b,o + j * 4 + 1,none⟩=some (.int .i64 l[j].Conn)∧w.cell? ⟨b,o + j * 4 + 2,none⟩=some (.int .i64 l[j].N)∧w.cell? ⟨b,o + j * 4 + 3,none⟩=some (.string l[j].Text))→Calls Tryz.prog 10 #[c] w fun e w'=>∃ c m',e=.returned c∧Below w.heap.size w w'∧(∀ a u,m' a=some u→w'.cell? a=some u)∧(∀ a u,m a=some u→m' a=some u)∧(∀ a u,m' a=some u→m a=some u∨w.heap.size≤a.block)∧Rep m' noBk c (.tup [V.s r.1,V.i r.2]):=fun A k cap hc hk hs=>by
  subst hc
  refine (scriptJoin_c A k cap l w hml hmem.tab hk (by omega) hs r hr).mono ?_
  rintro e w' ⟨rfl,hb⟩
  refine ⟨_,m,rfl,hb,fun a u h=>(hb.cell (cell_lt (hmem a u h))).trans (hmem a u h),fun _ _ h=>h,fun _ _ h=>.inl h,.tup rfl fun j h1 h2=>?_⟩
  have:j=0∨j=1:=by simp at h1;omega
  rcases this with rfl | rfl
  ·exact .lit rfl
  ·exact .lit rfl
 cases l with
 | nil =>
  cases h0 with
  | sl hn hc hf hes h1 hm h=>exact fin _ _ _ rfl (by simpa using hn) fun j h=>absurd h (Nat.not_lt_zero _)
  | slnil hf=>exact fin _ _ _ rfl rfl fun j h=>absurd h (Nat.not_lt_zero _)
 | cons x l =>
  generalize hL:x :: l=L at *
  have hlen:(List.map BrokerStep.v L).length=L.length:=List.length_map ..
  have hcl:=stepCells L
  generalize hX:List.map BrokerStep.v L=X at *
  cases h0 with
  | slnil hf=>exfalso;rw [← hL] at hlen;cases hlen
  | @sl _ b o k cap es full xs us hn hc hf hes h1 hm h =>
   have one:∀ (q:Nat) (v:Value),(X.flatMap V.cells)[q]?=some (V.lit v)→w.cell? ⟨b,o + q,none⟩=some v:=fun q v hq=>by
    obtain ⟨hj2,hq2⟩:=List.getElem?_eq_some_iff.1 hq
    have e1:=hm q hj2
    have e2:=h q hj2
    rw [hq2] at e2
    have e4:=e2.int
    rw [e4] at e1
    exact hmem _ _ e1
   refine fin _ _ _ rfl (hn.trans hlen) fun j hj=>⟨b,o,rfl,?_⟩
   obtain ⟨g0,g1,g2,g3⟩:=hcl j hj
   exact ⟨one _ _ g0,by rw [Nat.add_assoc];exact one _ _ g1,by rw [Nat.add_assoc];exact one _ _ g2,by rw [Nat.add_assoc];exact one _ _ g3⟩
end Go.Proofs.YtpkodpcfafipdaaGreatDoor

namespace Go.Proofs.YtpkodpcfafipdaaGreatDoor
open Go.RowKit
def p_octet_Open (a0:ByteArray):Option (OctetRead) :=
 some (OctetRead.mk a0 (0:Int) (0:Int))
def p_octet_Read_fault (a0:OctetRead):Option (Int) :=
 bif (a0.Bad == (0:Int)) then
  bif (decide (a0.At < (0:Int))) then
   some (2:Int)
  else
  bif (decide ((a0.S.size:Int) < a0.At)) then
   some (2:Int)
  else
  some a0.Bad
 else
 some a0.Bad
def p_octet_Read_fail (a0:OctetRead) (a1:Int):Option (OctetRead) :=
 some (OctetRead.mk a0.S a0.At a1)
def p_octet_Left (a0:OctetRead):Option (Int) :=
 (p_octet_Read_fault a0).bind fun v1 =>
 bif (v1 != (0:Int)) then
  some (0:Int)
 else
 some (w64 ((a0.S.size:Int) - a0.At))
def p_octet_Num_l1 (z20:List Int) (z21:Int):Nat→Int→Int→Option ((Int × Int))
 | 0,_,_=>none
 | n + 1,y19,y22 =>
  bif (decide (y22 < z21)) then
   (at? z20 y22).bind fun x26 =>
   p_octet_Num_l1 z20 z21 n (orI .i64 (shlI .i64 y19 (8:Int)) (w64 x26)) (w64 (y22 + (1:Int)))
  else
  some (y19,y22)
def p_octet_Num (a0:OctetRead) (a1:Int):Option (OctetRead × Int) :=
 (p_octet_Read_fault a0).bind fun v1 =>
 bif (v1 != (0:Int)) then
  (p_octet_Read_fail a0 v1).bind fun v3 =>
  some (v3,(0:Int))
 else
 (p_octet_wide a1).bind fun v4 =>
 bif v4 then
  (p_octet_Left a0).bind fun v6 =>
  bif (decide (v6 < a1)) then
   (p_octet_Read_fail a0 (3:Int)).bind fun v8 =>
   some (v8,(0:Int))
  else
  (sub? a0.S (some a0.At) (some (w64 (a0.At + a1)))).bind fun s9 =>
  (p_octet_Num_l1 (bytesI s9) ((bytesI s9).length:Int) fuel (0:Int) (0:Int)).bind fun q28 =>
  some ((OctetRead.mk a0.S (w64 (a0.At + a1)) a0.Bad),q28.1)
 else
 (p_octet_Read_fail a0 (2:Int)).bind fun v29 =>
 some (v29,(0:Int))
def p_octet_Text (a0:OctetRead) (a1:Int):Option (OctetRead × ByteArray) :=
 (p_octet_Num a0 (1:Int)).bind fun v1 =>
 bif (v1.1.Bad != (0:Int)) then
  some (v1.1,(⟨#[]⟩ : ByteArray))
 else
 bif (decide (a1 < v1.2)) then
  (p_octet_Read_fail a0 (5:Int)).bind fun v4 =>
  some (v4,(⟨#[]⟩ : ByteArray))
 else
 (p_octet_Left v1.1).bind fun v5 =>
 bif (decide (v5 < v1.2)) then
  (p_octet_Read_fail a0 (3:Int)).bind fun v7 =>
  some (v7,(⟨#[]⟩ : ByteArray))
 else
 (sub? a0.S (some v1.1.At) (some (w64 (v1.1.At + v1.2)))).bind fun s8 =>
 some ((OctetRead.mk v1.1.S (w64 (v1.1.At + v1.2)) v1.1.Bad),s8)
def p_script_Get (a0:ByteArray):Option (BrokerStep × Int × Int) :=
 bif (a0.toList == (⟨#[]⟩ : ByteArray).toList) then
  some ((BrokerStep.mk (0:Int) (0:Int) (0:Int) (⟨#[]⟩ : ByteArray)),(0:Int),(3:Int))
 else
 (byte? a0 (0:Int)).bind fun c2 =>
 (p_script_shapes c2).bind fun v3 =>
 bif v3.2 then
  (byte? a0 (0:Int)).bind fun c5 =>
  (sub? a0 (some (1:Int)) none).bind fun s6 =>
  (p_octet_Open s6).bind fun v7 =>
  bif v3.1.conn then
   (p_octet_Num v7 (1:Int)).bind fun v9 =>
   bif (decide ((0:Int) < v3.1.wide)) then
    (p_octet_Num v9.1 v3.1.wide).bind fun v11 =>
    bif v3.1.text then
     (p_octet_Text v11.1 (255:Int)).bind fun v13 =>
     bif (v13.1.Bad != (0:Int)) then
      some ((BrokerStep.mk (0:Int) (0:Int) (0:Int) (⟨#[]⟩ : ByteArray)),(0:Int),v13.1.Bad)
     else
     some ((BrokerStep.mk c5 v9.2 v11.2 v13.2),w64 ((1:Int) + v13.1.At),(0:Int))
    else
    bif (v11.1.Bad != (0:Int)) then
     some ((BrokerStep.mk (0:Int) (0:Int) (0:Int) (⟨#[]⟩ : ByteArray)),(0:Int),v11.1.Bad)
    else
    some ((BrokerStep.mk c5 v9.2 v11.2 (⟨#[]⟩ : ByteArray)),w64 ((1:Int) + v11.1.At),(0:Int))
   else
   bif v3.1.text then
    (p_octet_Text v9.1 (255:Int)).bind fun v17 =>
    bif (v17.1.Bad != (0:Int)) then
     some ((BrokerStep.mk (0:Int) (0:Int) (0:Int) (⟨#[]⟩ : ByteArray)),(0:Int),v17.1.Bad)
    else
    some ((BrokerStep.mk c5 v9.2 (0:Int) v17.2),w64 ((1:Int) + v17.1.At),(0:Int))
   else
   bif (v9.1.Bad != (0:Int)) then
    some ((BrokerStep.mk (0:Int) (0:Int) (0:Int) (⟨#[]⟩ : ByteArray)),(0:Int),v9.1.Bad)
   else
   some ((BrokerStep.mk c5 v9.2 (0:Int) (⟨#[]⟩ : ByteArray)),w64 ((1:Int) + v9.1.At),(0:Int))
  else
  bif (decide ((0:Int) < v3.1.wide)) then
   (p_octet_Num v7 v3.1.wide).bind fun v21 =>
   bif v3.1.text then
    (p_octet_Text v21.1 (255:Int)).bind fun v23 =>
    bif (v23.1.Bad != (0:Int)) then
     some ((BrokerStep.mk (0:Int) (0:Int) (0:Int) (⟨#[]⟩ : ByteArray)),(0:Int),v23.1.Bad)
    else
    some ((BrokerStep.mk c5 (0:Int) v21.2 v23.2),w64 ((1:Int) + v23.1.At),(0:Int))
   else
   bif (v21.1.Bad != (0:Int)) then
    some ((BrokerStep.mk (0:Int) (0:Int) (0:Int) (⟨#[]⟩ : ByteArray)),(0:Int),v21.1.Bad)
   else
   some ((BrokerStep.mk c5 (0:Int) v21.2 (⟨#[]⟩ : ByteArray)),w64 ((1:Int) + v21.1.At),(0:Int))
  else
  bif v3.1.text then
   (p_octet_Text v7 (255:Int)).bind fun v27 =>
   bif (v27.1.Bad != (0:Int)) then
    some ((BrokerStep.mk (0:Int) (0:Int) (0:Int) (⟨#[]⟩ : ByteArray)),(0:Int),v27.1.Bad)
   else
   some ((BrokerStep.mk c5 (0:Int) (0:Int) v27.2),w64 ((1:Int) + v27.1.At),(0:Int))
  else
  bif (v7.Bad != (0:Int)) then
   some ((BrokerStep.mk (0:Int) (0:Int) (0:Int) (⟨#[]⟩ : ByteArray)),(0:Int),v7.Bad)
  else
  some ((BrokerStep.mk c5 (0:Int) (0:Int) (⟨#[]⟩ : ByteArray)),w64 ((1:Int) + v7.At),(0:Int))
 else
 some ((BrokerStep.mk (0:Int) (0:Int) (0:Int) (⟨#[]⟩ : ByteArray)),(0:Int),(12:Int))
def p_script_All_l1:Nat→ByteArray→(List BrokerStep)→Option ((ByteArray × (List BrokerStep)) ⊕ ((List BrokerStep) × Int))
 | 0,_,_=>none
 | n + 1,y5,y6 =>
  bif (y5.toList == (⟨#[]⟩ : ByteArray).toList) then
   some (.inl (y5,y6))
  else
  (p_script_Get y5).bind fun v8 =>
  bif (v8.2.2 != (0:Int)) then
   some (.inr ([],v8.2.2))
  else
  (app? y6 [v8.1]).bind fun l10 =>
  (sub? y5 (some v8.2.1) none).bind fun s11 =>
  p_script_All_l1 n s11 l10
def p_script_All (a0:ByteArray):Option ((List BrokerStep) × Int) :=
 (p_script_All_l1 fuel a0 []).bind fun o12=>match o12 with
 | .inl q13 =>
  some (q13.2,(0:Int))
 | .inr q14 =>
  some q14
def p_deframe_Encode_l1 (z8:List StanzaStanza) (z9:Int):Nat→(List ByteArray)→Int→Option ((ByteArray × Int) ⊕ ((List ByteArray) × Int))
 | 0,_,_=>none
 | n + 1,y7,y10 =>
  bif (decide (y10 < z9)) then
   (at? z8 y10).bind fun x12 =>
   (p_stanza_Put x12).bind fun v13 =>
   bif (v13.2 != (0:Int)) then
    some (.inl ((⟨#[]⟩ : ByteArray),v13.2))
   else
   (app? y7 [v13.1]).bind fun l15 =>
   p_deframe_Encode_l1 z8 z9 n l15 (w64 (y10 + (1:Int)))
  else
  some (.inr (y7,y10))
def p_deframe_Encode (a0:List StanzaStanza):Option (ByteArray × Int) :=
 (p_deframe_Encode_l1 a0 (a0.length:Int) fuel [] (0:Int)).bind fun o16=>match o16 with
 | .inl q17 =>
  some q17
 | .inr q18 =>
  (p_frame_Join q18.1).bind fun v19 =>
  some (v19.1,v19.2)
def p_script_Ask (a0:Int) (a1:List StanzaStanza):Option (BrokerStep × Int) :=
 (p_deframe_Encode a1).bind fun v1 =>
 bif (v1.2 != (0:Int)) then
  some ((BrokerStep.mk (0:Int) (0:Int) (0:Int) (⟨#[]⟩ : ByteArray)),v1.2)
 else
 bif (decide ((255:Int) < (v1.1.size:Int))) then
  some ((BrokerStep.mk (0:Int) (0:Int) (0:Int) (⟨#[]⟩ : ByteArray)),(5:Int))
 else
 some ((BrokerStep.mk (1:Int) a0 (0:Int) v1.1),(0:Int))
def p_law34_back_l1 (z5:List BrokerStep):Nat→(List BrokerStep)→Int→Option (((List BrokerStep) × Int))
 | 0,_,_=>none
 | n + 1,y6,y7 =>
  bif (decide (y7 < (z5.length:Int))) then
   (at? z5 y7).bind fun x9 =>
   (app? y6 [x9]).bind fun l10 =>
   p_law34_back_l1 z5 n l10 (w64 (y7 + (1:Int)))
  else
  some (y6,y7)
def p_law34_back (a0:List BrokerStep):Option ((List BrokerStep)) :=
 (p_law34_back_l1 a0 fuel [] (0:Int)).bind fun q12 =>
 some q12.1
def p_ref34_SameSteps_l1 (z6:List BrokerStep) (z7:List BrokerStep):Nat→Int→Option (Bool ⊕ Int)
 | 0,_=>none
 | n + 1,y8 =>
  bif (decide (y8 < (z6.length:Int))) then
   (at? z6 y8).bind fun x10 =>
   (at? z7 y8).bind fun x11 =>
   bif ((x10.Kind == x11.Kind) && ((x10.Conn == x11.Conn) && ((x10.N == x11.N) && ((x10.Text.toList == x11.Text.toList) && true)))) then
    p_ref34_SameSteps_l1 z6 z7 n (w64 (y8 + (1:Int)))
   else
   some (.inl false)
  else
  some (.inr y8)
def p_ref34_SameSteps (a0:List BrokerStep) (a1:List BrokerStep):Option (Bool) :=
 bif ((a0.length:Int) != (a1.length:Int)) then
  some false
 else
 (p_ref34_SameSteps_l1 a0 a1 fuel (0:Int)).bind fun o13=>match o13 with
 | .inl q14 =>
  some q14
 | .inr q15 =>
  some true
def p_script_Name (a0:Int):Option (ByteArray) :=
 (p_script_shapes a0).bind fun v1 =>
 some v1.1.name
def p_script_Say (a0:BrokerStep):Option (ByteArray) :=
 (p_script_shapes a0.Kind).bind fun v1 =>
 bif v1.2 then
  (p_strconv_Itoa a0.Conn).bind fun v3 =>
  (p_strconv_Itoa a0.N).bind fun v4 =>
  (p_strconv_Itoa (a0.Text.size:Int)).bind fun v5 =>
  (p_strings_Join [v1.1.name,v3,v4,v5] (⟨#[32]⟩ : ByteArray)).bind fun v6 =>
  some v6
 else
 some (⟨#[]⟩ : ByteArray)
def p_script_Count_l1 (z7:Int) (z9:List BrokerStep) (z10:Int):Nat→Int→Int→Option ((Int × Int))
 | 0,_,_=>none
 | n + 1,y8,y11 =>
  bif (decide (y11 < z10)) then
   (at? z9 y11).bind fun x13 =>
   bif (x13.Kind == z7) then
    p_script_Count_l1 z7 z9 z10 n (w64 (y8 + (1:Int))) (w64 (y11 + (1:Int)))
   else
   p_script_Count_l1 z7 z9 z10 n y8 (w64 (y11 + (1:Int)))
  else
  some (y8,y11)
def p_script_Count (a0:List BrokerStep) (a1:Int):Option (Int) :=
 (p_script_Count_l1 a1 a0 (a0.length:Int) fuel (0:Int) (0:Int)).bind fun q16 =>
 some q16.1
def p_law34_awake:Option (Bool) :=
 (p_script_Put (BrokerStep.mk (0:Int) (3:Int) (258:Int) (⟨#[]⟩ : ByteArray))).bind fun v1 =>
 (p_script_Get (⟨#[1,2,2,104,105,33]⟩ : ByteArray)).bind fun v2 =>
 (p_script_Get (⟨#[6]⟩ : ByteArray)).bind fun v3 =>
 (p_script_Put (BrokerStep.mk (3:Int) (0:Int) (1:Int) (⟨#[]⟩ : ByteArray))).bind fun v4 =>
 (p_script_All (⟨#[3,2,7]⟩ : ByteArray)).bind fun v5 =>
 (p_script_Join [(BrokerStep.mk (3:Int) (0:Int) (0:Int) (⟨#[]⟩ : ByteArray)),(BrokerStep.mk (2:Int) (7:Int) (0:Int) (⟨#[]⟩ : ByteArray))]).bind fun v6 =>
 (p_script_Ask (4:Int) [(StanzaStanza.mk (2:Int) (⟨#[]⟩ : ByteArray) (⟨#[]⟩ : ByteArray) (⟨#[]⟩ : ByteArray) (0:Int) (0:Int) (0:Int) (0:Int))]).bind fun v7 =>
 (p_script_Put (BrokerStep.mk (2:Int) (256:Int) (0:Int) (⟨#[]⟩ : ByteArray))).bind fun v8 =>
 bif (v1.1.toList == (⟨#[0,3,1,2]⟩ : ByteArray).toList) then
  bif (v1.2 == (0:Int)) then
   bif ((v2.1.Kind == (1:Int)) && ((v2.1.Conn == (2:Int)) && ((v2.1.N == (0:Int)) && ((v2.1.Text.toList == (⟨#[104,105]⟩ : ByteArray).toList) && true)))) then
    bif (v2.2.1 == (5:Int)) then
     bif (v2.2.2 == (0:Int)) then
      bif (v3.2.2 == (12:Int)) then
       bif (v4.2 == (4:Int)) then
        (p_law34_back v5.1).bind fun v16 =>
        (p_ref34_SameSteps v16 [(BrokerStep.mk (3:Int) (0:Int) (0:Int) (⟨#[]⟩ : ByteArray)),(BrokerStep.mk (2:Int) (7:Int) (0:Int) (⟨#[]⟩ : ByteArray))]).bind fun v17 =>
        bif v17 then
         bif (v5.2 == (0:Int)) then
          bif (v6.1.toList == (⟨#[3,2,7]⟩ : ByteArray).toList) then
           bif (v6.2 == (0:Int)) then
            bif ((v7.1.Kind == (1:Int)) && ((v7.1.Conn == (4:Int)) && ((v7.1.N == (0:Int)) && ((v7.1.Text.toList == (⟨#[0,1,2]⟩ : ByteArray).toList) && true)))) then
             bif (v7.2 == (0:Int)) then
              bif (v8.2 == (8:Int)) then
               (p_script_Name (5:Int)).bind fun v25 =>
               bif (v25.toList == (⟨#[100,114,97,119]⟩ : ByteArray).toList) then
                (p_script_Say v7.1).bind fun v27 =>
                bif (v27.toList == (⟨#[98,121,116,101,115,32,52,32,48,32,51]⟩ : ByteArray).toList) then
                 (p_script_Count v5.1 (3:Int)).bind fun v29 =>
                 bif (v29 == (1:Int)) then
                  some true
                 else
                 some false
                else
                some false
               else
               some false
              else
              some false
             else
             some false
            else
            some false
           else
           some false
          else
          some false
         else
         some false
        else
        some false
       else
       some false
      else
      some false
     else
     some false
    else
    some false
   else
   some false
  else
  some false
 else
 some false
def p_ref10_Light (a0:StanzaStanza):Option (Bool) :=
 bif (decide ((a0.User.size:Int)≤(100:Int))) then
  bif (decide ((a0.Res.size:Int)≤(100:Int))) then
   some (decide ((a0.Name.size:Int)≤(100:Int)))
  else
  some false
 else
 some false
def p_ref34_zero (a0:BrokerStep):Option (Bool) :=
 bif (a0.Conn != (0:Int)) then
  bif (a0.Kind == (3:Int)) then
   some false
  else
  bif (a0.Kind == (5:Int)) then
   some false
  else
  bif (a0.Text.toList == (⟨#[]⟩ : ByteArray).toList) then
   bif (a0.N == (0:Int)) then
    some true
   else
   bif (a0.Kind == (0:Int)) then
    some true
   else
   bif (a0.Kind == (4:Int)) then
    some true
   else
   some (a0.Kind == (5:Int))
  else
  bif (a0.Kind != (1:Int)) then
   some false
  else
  bif (a0.N == (0:Int)) then
   some true
  else
  bif (a0.Kind == (0:Int)) then
   some true
  else
  bif (a0.Kind == (4:Int)) then
   some true
  else
  some (a0.Kind == (5:Int))
 else
 bif (a0.Text.toList == (⟨#[]⟩ : ByteArray).toList) then
  bif (a0.N == (0:Int)) then
   some true
  else
  bif (a0.Kind == (0:Int)) then
   some true
  else
  bif (a0.Kind == (4:Int)) then
   some true
  else
  some (a0.Kind == (5:Int))
 else
 bif (a0.Kind != (1:Int)) then
  some false
 else
 bif (a0.N == (0:Int)) then
  some true
 else
 bif (a0.Kind == (0:Int)) then
  some true
 else
 bif (a0.Kind == (4:Int)) then
  some true
 else
 some (a0.Kind == (5:Int))
def p_ref34_has (a0:Int):Option (ByteArray) :=
 bif (a0 == (0:Int)) then
  some (⟨#[99,50]⟩ : ByteArray)
 else
 bif (a0 == (1:Int)) then
  some (⟨#[99,116]⟩ : ByteArray)
 else
 bif (a0 == (2:Int)) then
  some (⟨#[99]⟩ : ByteArray)
 else
 bif (a0 == (4:Int)) then
  some (⟨#[99,52]⟩ : ByteArray)
 else
 bif (a0 == (5:Int)) then
  some (⟨#[54]⟩ : ByteArray)
 else
 some (⟨#[]⟩ : ByteArray)
def p_ref01_wide (a0:Int):Option (Bool) :=
 bif (a0 == (1:Int)) then
  some true
 else
 bif (a0 == (2:Int)) then
  some true
 else
 bif (a0 == (4:Int)) then
  some true
 else
 some (a0 == (6:Int))
def p_ref01_Lay_l1 (z11:Int):Nat→Int→(List Int)→Int→Option ((Int × (List Int) × Int))
 | 0,_,_,_=>none
 | n + 1,y10,y12,y13 =>
  bif (decide (y13 < z11)) then
   (app? [IntKind.wrap .u8 (Int.tmod y10 (256:Int))] y12).bind fun l15 =>
   p_ref01_Lay_l1 z11 n (w64 (Int.tdiv y10 (256:Int))) l15 (w64 (y13 + (1:Int)))
  else
  some (y10,y12,y13)
def p_ref01_Lay (a0:Int) (a1:Int):Option ((List Int) × Int) :=
 (p_ref01_wide a1).bind fun v1 =>
 bif v1 then
  bif (decide (a0 < (0:Int))) then
   some ([],(8:Int))
  else
  (p_ref01_Lay_l1 a1 fuel a0 [] (0:Int)).bind fun q17 =>
  bif (decide ((0:Int) < q17.1)) then
   some ([],(8:Int))
  else
  some (q17.2.1,(0:Int))
 else
 some ([],(2:Int))
def p_ref01_Say (a0:ByteArray) (a1:Int):Option ((List Int) × Int) :=
 bif (decide (a1 < (a0.size:Int))) then
  some ([],(5:Int))
 else
 bif (decide ((255:Int) < (a0.size:Int))) then
  some ([],(5:Int))
 else
 (app? [IntKind.wrap .u8 (a0.size:Int)] (bytesI a0)).bind fun l3 =>
 some (l3,(0:Int))
def p_ref34_Put_l1 (z12:ByteArray) (z14:BrokerStep):Nat→(List Int)→Int→Option ((ByteArray × Int) ⊕ ((List Int) × Int))
 | 0,_,_=>none
 | n + 1,y11,y13 =>
  bif (decide (y13 < (z12.size:Int))) then
   (byte? z12 y13).bind fun c16 =>
   bif (c16 == (99:Int)) then
    (p_ref01_Lay z14.Conn (1:Int)).bind fun v18 =>
    bif (v18.2 != (0:Int)) then
     some (.inl ((⟨#[]⟩ : ByteArray),v18.2))
    else
    (app? y11 v18.1).bind fun l20 =>
    p_ref34_Put_l1 z12 z14 n l20 (w64 (y13 + (1:Int)))
   else
   bif (c16 == (116:Int)) then
    (p_ref01_Say z14.Text (255:Int)).bind fun v22 =>
    bif (v22.2 != (0:Int)) then
     some (.inl ((⟨#[]⟩ : ByteArray),v22.2))
    else
    (app? y11 v22.1).bind fun l24 =>
    p_ref34_Put_l1 z12 z14 n l24 (w64 (y13 + (1:Int)))
   else
   (byte? z12 y13).bind fun c25 =>
   (p_ref01_Lay z14.N (w64 (IntKind.wrap .u8 (c25 - (48:Int))))).bind fun v26 =>
   bif (v26.2 != (0:Int)) then
    some (.inl ((⟨#[]⟩ : ByteArray),v26.2))
   else
   (app? y11 v26.1).bind fun l28 =>
   p_ref34_Put_l1 z12 z14 n l28 (w64 (y13 + (1:Int)))
  else
  some (.inr (y11,y13))
def p_ref34_Put (a0:BrokerStep):Option (ByteArray × Int) :=
 bif (decide ((5:Int) < a0.Kind)) then
  some ((⟨#[]⟩ : ByteArray),(12:Int))
 else
 (p_ref34_zero a0).bind fun v2 =>
 bif v2 then
  (p_ref34_has a0.Kind).bind fun v4 =>
  (p_ref34_Put_l1 v4 a0 fuel [a0.Kind] (0:Int)).bind fun o29=>match o29 with
  | .inl q30 =>
   some q30
  | .inr q31 =>
   (text? q31.1).bind fun s32 =>
   some (s32,(0:Int))
 else
 some ((⟨#[]⟩ : ByteArray),(4:Int))
def p_ref34_Name (a0:Int):Option (ByteArray) :=
 bif (a0 == (0:Int)) then
  some (⟨#[99,111,110,110,101,99,116]⟩ : ByteArray)
 else
 bif (a0 == (1:Int)) then
  some (⟨#[98,121,116,101,115]⟩ : ByteArray)
 else
 bif (a0 == (2:Int)) then
  some (⟨#[99,108,111,115,101]⟩ : ByteArray)
 else
 bif (a0 == (3:Int)) then
  some (⟨#[116,105,99,107]⟩ : ByteArray)
 else
 bif (a0 == (4:Int)) then
  some (⟨#[99,114,101,100,105,116]⟩ : ByteArray)
 else
 bif (a0 == (5:Int)) then
  some (⟨#[100,114,97,119]⟩ : ByteArray)
 else
 some (⟨#[]⟩ : ByteArray)
def p_ref34_decimal (a0:Int):Option (ByteArray) :=
 bif (decide (a0 < (0:Int))) then
  (p_ref34_digits a0).bind fun v2 =>
  (cat? (⟨#[45]⟩ : ByteArray) v2).bind fun s3 =>
  some s3
 else
 (p_ref34_digits (w64 (0 - a0))).bind fun v4 =>
 some v4
def p_ref34_Say (a0:BrokerStep):Option (ByteArray) :=
 bif (decide ((5:Int) < a0.Kind)) then
  some (⟨#[]⟩ : ByteArray)
 else
 (p_ref34_Name a0.Kind).bind fun v2 =>
 (cat? v2 (⟨#[32]⟩ : ByteArray)).bind fun s3 =>
 (p_ref34_decimal a0.Conn).bind fun v4 =>
 (cat? s3 v4).bind fun s5 =>
 (cat? s5 (⟨#[32]⟩ : ByteArray)).bind fun s6 =>
 (p_ref34_decimal a0.N).bind fun v7 =>
 (cat? s6 v7).bind fun s8 =>
 (cat? s8 (⟨#[32]⟩ : ByteArray)).bind fun s9 =>
 (p_ref34_decimal (a0.Text.size:Int)).bind fun v10 =>
 (cat? s9 v10).bind fun s11 =>
 some s11
def p_law33_Steps_l1 (z5:List BrokerStep):Nat→(List BrokerStep)→Int→Option (((List BrokerStep) × Int))
 | 0,_,_=>none
 | n + 1,y6,y7 =>
  bif (decide (y7 < (z5.length:Int))) then
   (at? z5 y7).bind fun x9 =>
   (app? y6 [x9]).bind fun l10 =>
   p_law33_Steps_l1 z5 n l10 (w64 (y7 + (1:Int)))
  else
  some (y6,y7)
def p_law33_Steps (a0:List BrokerStep):Option ((List BrokerStep)) :=
 (p_law33_Steps_l1 a0 fuel [] (0:Int)).bind fun q12 =>
 some q12.1
def p_ref34_Join_l1 (z6:List BrokerStep):Nat→ByteArray→Int→Option ((ByteArray × Int) ⊕ (ByteArray × Int))
 | 0,_,_=>none
 | n + 1,y7,y8 =>
  bif (decide (y8 < (z6.length:Int))) then
   (at? z6 y8).bind fun x10 =>
   (p_ref34_Put x10).bind fun v11 =>
   bif (v11.2 != (0:Int)) then
    some (.inl ((⟨#[]⟩ : ByteArray),v11.2))
   else
   (cat? y7 v11.1).bind fun s13 =>
   p_ref34_Join_l1 z6 n s13 (w64 (y8 + (1:Int)))
  else
  some (.inr (y7,y8))
def p_ref34_Join (a0:List BrokerStep):Option (ByteArray × Int) :=
 (p_ref34_Join_l1 a0 fuel (⟨#[]⟩ : ByteArray) (0:Int)).bind fun o14=>match o14 with
 | .inl q15 =>
  some q15
 | .inr q16 =>
  some (q16.1,(0:Int))
def p_ref10_Has (a0:Int):Option (ByteArray) :=
 bif (a0 == (1:Int)) then
  some (⟨#[117,114]⟩ : ByteArray)
 else
 bif (a0 == (3:Int)) then
  some (⟨#[115,112]⟩ : ByteArray)
 else
 bif (a0 == (5:Int)) then
  some (⟨#[117,115,112]⟩ : ByteArray)
 else
 bif (a0 == (6:Int)) then
  some (⟨#[117]⟩ : ByteArray)
 else
 bif (a0 == (7:Int)) then
  some (⟨#[117]⟩ : ByteArray)
 else
 bif (a0 == (8:Int)) then
  some (⟨#[117]⟩ : ByteArray)
 else
 bif (a0 == (9:Int)) then
  some (⟨#[117]⟩ : ByteArray)
 else
 bif (a0 == (10:Int)) then
  some (⟨#[117]⟩ : ByteArray)
 else
 bif (a0 == (11:Int)) then
  some (⟨#[117]⟩ : ByteArray)
 else
 bif (a0 == (14:Int)) then
  some (⟨#[117]⟩ : ByteArray)
 else
 bif (a0 == (12:Int)) then
  some (⟨#[110]⟩ : ByteArray)
 else
 bif (a0 == (15:Int)) then
  some (⟨#[110]⟩ : ByteArray)
 else
 bif (a0 == (36:Int)) then
  some (⟨#[110]⟩ : ByteArray)
 else
 bif (a0 == (41:Int)) then
  some (⟨#[110]⟩ : ByteArray)
 else
 bif (a0 == (13:Int)) then
  some (⟨#[117,109]⟩ : ByteArray)
 else
 bif (a0 == (32:Int)) then
  some (⟨#[99,110]⟩ : ByteArray)
 else
 bif (a0 == (33:Int)) then
  some (⟨#[99,115,110]⟩ : ByteArray)
 else
 bif (a0 == (34:Int)) then
  some (⟨#[117,114,115,112,110]⟩ : ByteArray)
 else
 bif (a0 == (35:Int)) then
  some (⟨#[117,114,110]⟩ : ByteArray)
 else
 bif (a0 == (38:Int)) then
  some (⟨#[117,109,115,110]⟩ : ByteArray)
 else
 bif (a0 == (39:Int)) then
  some (⟨#[117,110]⟩ : ByteArray)
 else
 bif (a0 == (40:Int)) then
  some (⟨#[117,99]⟩ : ByteArray)
 else
 some (⟨#[]⟩ : ByteArray)
def p_ref10_field (a0:StanzaStanza) (a1:Int):Option ((List Int)) :=
 bif (a1 == (117:Int)) then
  (p_ref01_Say a0.User (33:Int)).bind fun v2 =>
  some v2.1
 else
 bif (a1 == (114:Int)) then
  (p_ref01_Say a0.Res (12:Int)).bind fun v4 =>
  some v4.1
 else
 bif (a1 == (109:Int)) then
  (p_ref01_Say a0.Name (24:Int)).bind fun v6 =>
  some v6.1
 else
 bif (a1 == (115:Int)) then
  (p_ref01_Lay a0.Show (1:Int)).bind fun v8 =>
  some v8.1
 else
 bif (a1 == (112:Int)) then
  (p_ref01_Lay (w64 (a0.Prio + (128:Int))) (1:Int)).bind fun v10 =>
  some v10.1
 else
 bif (a1 == (99:Int)) then
  (p_ref01_Lay a0.Code (1:Int)).bind fun v12 =>
  some v12.1
 else
 (p_ref01_Lay a0.N (6:Int)).bind fun v13 =>
 some v13.1
def p_ref10_Put_l1 (z11:ByteArray) (z13:StanzaStanza):Nat→(List Int)→Int→Option (((List Int) × Int))
 | 0,_,_=>none
 | n + 1,y10,y12 =>
  bif (decide (y12 < (z11.size:Int))) then
   (byte? z11 y12).bind fun c15 =>
   (p_ref10_field z13 c15).bind fun v16 =>
   (app? y10 v16).bind fun l17 =>
   p_ref10_Put_l1 z11 z13 n l17 (w64 (y12 + (1:Int)))
  else
  some (y10,y12)
def p_ref10_Put (a0:StanzaStanza):Option (ByteArray × Int) :=
 (p_ref10_Check a0).bind fun v1 =>
 bif (v1 != (0:Int)) then
  some ((⟨#[]⟩ : ByteArray),v1)
 else
 (p_ref10_Has a0.Kind).bind fun v3 =>
 (p_ref10_Put_l1 v3 a0 fuel [a0.Kind] (0:Int)).bind fun q19 =>
 (text? q19.1).bind fun s20 =>
 some (s20,(0:Int))
def p_ref11_Put (a0:ByteArray):Option (ByteArray × Int) :=
 bif (a0.toList == (⟨#[]⟩ : ByteArray).toList) then
  some ((⟨#[]⟩ : ByteArray),(4:Int))
 else
 bif (decide ((128:Int) < (a0.size:Int))) then
  some ((⟨#[]⟩ : ByteArray),(5:Int))
 else
 (text? [IntKind.wrap .u8 (w64 (Int.tdiv (a0.size:Int) (256:Int))),IntKind.wrap .u8 (Int.tmod (a0.size:Int) (256:Int))]).bind fun s3 =>
 (cat? s3 a0).bind fun s4 =>
 some (s4,(0:Int))
def p_ref12_Encode_l1 (z6:List StanzaStanza):Nat→ByteArray→Int→Option ((ByteArray × Int) ⊕ (ByteArray × Int))
 | 0,_,_=>none
 | n + 1,y7,y8 =>
  bif (decide (y8 < (z6.length:Int))) then
   (at? z6 y8).bind fun x10 =>
   (p_ref10_Put x10).bind fun v11 =>
   bif (v11.2 != (0:Int)) then
    some (.inl ((⟨#[]⟩ : ByteArray),v11.2))
   else
   (p_ref11_Put v11.1).bind fun v13 =>
   bif (v13.2 != (0:Int)) then
    some (.inl ((⟨#[]⟩ : ByteArray),v13.2))
   else
   (cat? y7 v13.1).bind fun s15 =>
   p_ref12_Encode_l1 z6 n s15 (w64 (y8 + (1:Int)))
  else
  some (.inr (y7,y8))
def p_ref12_Encode (a0:List StanzaStanza):Option (ByteArray × Int) :=
 (p_ref12_Encode_l1 a0 fuel (⟨#[]⟩ : ByteArray) (0:Int)).bind fun o16=>match o16 with
 | .inl q17 =>
  some q17
 | .inr q18 =>
  some (q18.1,(0:Int))
def p_ref34_Ask (a0:Int) (a1:List StanzaStanza):Option (BrokerStep × Int) :=
 (p_ref12_Encode a1).bind fun v1 =>
 bif (v1.2 != (0:Int)) then
  some ((BrokerStep.mk (0:Int) (0:Int) (0:Int) (⟨#[]⟩ : ByteArray)),v1.2)
 else
 bif (decide ((255:Int) < (v1.1.size:Int))) then
  some ((BrokerStep.mk (0:Int) (0:Int) (0:Int) (⟨#[]⟩ : ByteArray)),(5:Int))
 else
 some ((BrokerStep.mk (1:Int) a0 (0:Int) v1.1),(0:Int))
def p_ref34_Count_l1 (z6:List BrokerStep) (z7:Int):Nat→Int→Int→Option ((Int × Int))
 | 0,_,_=>none
 | n + 1,y8,y9 =>
  bif (decide (y9 < (z6.length:Int))) then
   (at? z6 y9).bind fun x11 =>
   bif (x11.Kind == z7) then
    p_ref34_Count_l1 z6 z7 n (w64 (y8 + (1:Int))) (w64 (y9 + (1:Int)))
   else
   p_ref34_Count_l1 z6 z7 n y8 (w64 (y9 + (1:Int)))
  else
  some (y8,y9)
def p_ref34_Count (a0:List BrokerStep) (a1:Int):Option (Int) :=
 (p_ref34_Count_l1 a0 a1 fuel (0:Int) (0:Int)).bind fun q14 =>
 some q14.1
def p_law34_ScriptPuts_l1 (z15:List StanzaStanza):Nat→(List StanzaStanza)→Int→Option (Bool ⊕ ((List StanzaStanza) × Int))
 | 0,_,_=>none
 | n + 1,y17,y18 =>
  bif (decide (y18 < (z15.length:Int))) then
   (at? z15 y18).bind fun x20 =>
   (p_ref10_Light x20).bind fun v21 =>
   bif v21 then
    (at? z15 y18).bind fun x23 =>
    (app? y17 [x23]).bind fun l24 =>
    p_law34_ScriptPuts_l1 z15 n l24 (w64 (y18 + (1:Int)))
   else
   (p_law34_awake).bind fun v25 =>
   some (.inl v25)
  else
  some (.inr (y17,y18))
def p_law34_ScriptPuts_l2 (z35:List BrokerStep):Nat→Int→Option (Bool ⊕ Int)
 | 0,_=>none
 | n + 1,y39 =>
  bif (decide (y39 < (z35.length:Int))) then
   (at? z35 y39).bind fun x41 =>
   bif (decide ((300:Int) < (x41.Text.size:Int))) then
    (p_law34_awake).bind fun v43 =>
    some (.inl v43)
   else
   (at? z35 y39).bind fun x44 =>
   (p_script_Put x44).bind fun v45 =>
   (at? z35 y39).bind fun x46 =>
   (p_ref34_Put x46).bind fun v47 =>
   bif (v45.1.toList == v47.1.toList) then
    bif (v45.2 != v47.2) then
     some (.inl false)
    else
    (at? z35 y39).bind fun x50 =>
    (p_script_Say x50).bind fun v51 =>
    (at? z35 y39).bind fun x52 =>
    (p_ref34_Say x52).bind fun v53 =>
    bif (v51.toList == v53.toList) then
     p_law34_ScriptPuts_l2 z35 n (w64 (y39 + (1:Int)))
    else
    some (.inl false)
   else
   some (.inl false)
  else
  some (.inr y39)
def p_law34_ScriptPuts (a0:List BrokerStep) (a1:List StanzaStanza) (a2:Int):Option (Bool) :=
 ((
  bif (decide ((10:Int) < (a0.length:Int))) then
   (p_law34_awake).bind fun v2 =>
   some (.inl v2)
  else
  bif (decide ((6:Int) < (a1.length:Int))) then
   (p_law34_awake).bind fun v4 =>
   some (.inl v4)
  else
  some (.inr ())):Option (Bool ⊕ Unit)).bind fun o5=>match o5 with
 | .inl q6 =>
  some q6
 | .inr q7 =>
  (p_law34_ScriptPuts_l1 a1 fuel [] (0:Int)).bind fun o26=>match o26 with
  | .inl q27 =>
   some q27
  | .inr q28 =>
   (p_law34_ScriptPuts_l2 a0 fuel (0:Int)).bind fun o55=>match o55 with
   | .inl q56 =>
    some q56
   | .inr q57 =>
    (p_law33_Steps a0).bind fun v58 =>
    (p_script_Join v58).bind fun v59 =>
    (p_ref34_Join a0).bind fun v60 =>
    (p_script_Ask (w64 a2) q28.1).bind fun v61 =>
    (p_ref34_Ask (w64 a2) a1).bind fun v62 =>
    bif (v59.1.toList == v60.1.toList) then
     bif (v59.2 == v60.2) then
      bif ((v61.1.Kind == v62.1.Kind) && ((v61.1.Conn == v62.1.Conn) && ((v61.1.N == v62.1.N) && ((v61.1.Text.toList == v62.1.Text.toList) && true)))) then
       bif (v61.2 == v62.2) then
        (p_script_Name a2).bind fun v67 =>
        (p_ref34_Name a2).bind fun v68 =>
        bif (v67.toList == v68.toList) then
         (p_law33_Steps a0).bind fun v70 =>
         (p_script_Count v70 a2).bind fun v71 =>
         (p_ref34_Count a0 a2).bind fun v72 =>
         bif (v71 == v72) then
          (p_law34_awake).bind fun v74 =>
          some v74
         else
         some false
        else
        some false
       else
       some false
      else
      some false
     else
     some false
    else
    some false
end Go.Proofs.YtpkodpcfafipdaaGreatDoor

