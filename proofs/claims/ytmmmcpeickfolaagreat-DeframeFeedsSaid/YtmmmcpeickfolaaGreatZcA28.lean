/- A part of the proof: 3 texts joined. -/
import Derived.Test.YtmmmcpeickfolaaGreatZcA25
import Derived.Test.YtmmmcpeickfolaaGreatZcA27
import Derived.Test.YtmmmcpeickfolaaGreatZcA14
import Derived.KernelRfl
import Derived.Test.YtmmmcpeickfolaaGreatZcA17
set_option linter.all false
namespace Go.Proofs.YtmmmcpeickfolaaGreat
open Go.RowKit
set_option maxRecDepth 100000
set_option maxHeartbeats 4000000
def gc29:BCode:=(.seq (R_ 2 [O_ 2 (.bx (t_ 0)) 0,O_ 4 (.al (.agg [(.lit (.string ⟨#[]⟩)),(.lit (.int .i64 0)),(.lit (.int .i64 0))])) 1,O_ 5 (.mv (.const (.slice none 0 0))) 2]) (.seq (.seq (R_ 0 [O_ 12 (.fa 1 (t_ 2)) 0,O_ 13 (.ld 1 false (t_ 12)) 0,O_ 14 (.bin .neq (t_ 13) (i_ 0)) 0,O_ 15 (.mv (t_ 14)) 0,⟨(some 16),.ld 3 true (t_ 2),(some (15,false)),0⟩,⟨(some 17),.cl 35 [(t_ 16)],(some (15,false)),0⟩,⟨(some 18),.bin .neq (t_ 17) (i_ 0),(some (15,false)),0⟩,O_ 19 (.pick (t_ 15) (b_ true) (t_ 18)) 0]) (.cond (t_ 19) (.seq (R_ 0 [O_ 20 (.ld 3 true (t_ 2)) 0,U_ (.st 3 (t_ 4) (t_ 20)) 0,O_ 5 (.mv (.const (.slice none 0 0))) 0]) .ret) .skip)) (.seq (R_ 0 [O_ 21 (.fa 0 (t_ 2)) 0,O_ 22 (.ld 1 false (t_ 21)) 0,O_ 23 (.mv (t_ 1)) 0,O_ 24 (.bin .add (t_ 22) (t_ 23)) 0,O_ 6 (.mv (t_ 24)) 0]) (.seq (R_ 0 [O_ 7 (.mv (.const (.slice none 0 0))) 0]) (.seq (.seq (R_ 0 [O_ 8 (.mv (i_ 0)) 0]) (.block 0 (.loop (.seq (.seq (R_ 0 [O_ 25 (.mv (t_ 8)) 0,O_ 26 (.mv (t_ 1)) 0,O_ 27 (.lent (t_ 26)) 0,O_ 28 (.bin .leq (t_ 25) (t_ 27)) 0]) (.cond (t_ 28) .skip (.exit 0))) (.seq (.block 1 (.seq (R_ 0 [O_ 32 (.mv (t_ 6)) 0,O_ 33 (.cl 62 [(t_ 32)]) 0,O_ 31 (.mv (t_ 33)) 0,O_ 34 (.ex (t_ 31) 0) 0,O_ 35 (.ex (t_ 31) 1) 0,O_ 36 (.ex (t_ 31) 2) 0,O_ 9 (.mv (t_ 34)) 0,O_ 10 (.mv (t_ 35)) 0,O_ 11 (.mv (t_ 36)) 0]) (.seq (.seq (R_ 0 [O_ 37 (.mv (t_ 11)) 0,O_ 38 (.bin .eql (t_ 37) (i_ 3)) 0]) (.cond (t_ 38) (.exit 0) .skip)) (.seq (.seq (R_ 0 [O_ 39 (.mv (t_ 11)) 0,O_ 40 (.bin .neq (t_ 39) (i_ 0)) 0]) (.cond (t_ 40) (.seq (R_ 0 [O_ 41 (.mv (t_ 11)) 0,O_ 42 (.fa 2 (t_ 2)) 0,O_ 43 (.ld 1 false (t_ 42)) 0,O_ 44 (.bd [(.lit (.string ⟨#[]⟩)),(.lit (.int .i64 0)),(.lit (.int .i64 0))] [(1,1,(t_ 41)),(2,1,(t_ 43))]) 0,O_ 45 (.mv (t_ 7)) 0,U_ (.st 3 (t_ 4) (t_ 44)) 0,O_ 5 (.mv (t_ 45)) 0]) .ret) .skip)) (.seq (R_ 2 [O_ 46 (.mv (t_ 7)) 0,O_ 47 (.mv (t_ 9)) 0,O_ 48 (.bs 1 1 [(.lit (.string ⟨#[]⟩))] [(0,(t_ 47))]) 0,O_ 49 (.ap 1 16 (t_ 46) (t_ 48)) 1,O_ 7 (.mv (t_ 49)) 2]) (.seq (R_ 0 [O_ 50 (.fa 2 (t_ 2)) 0,O_ 51 (.ld 1 false (t_ 50)) 0,O_ 52 (.bin .add (t_ 51) (i_ 1)) 0,O_ 53 (.fa 2 (t_ 2)) 0,U_ (.st 1 (t_ 53) (t_ 52)) 0]) (R_ 0 [O_ 54 (.mv (t_ 6)) 0,O_ 55 (.mv (t_ 10)) 0,O_ 56 (.slt (t_ 54) (some (t_ 55)) none) 0,O_ 6 (.mv (t_ 56)) 0]))))))) (R_ 0 [O_ 29 (.mv (t_ 8)) 0,O_ 30 (.bin .add (t_ 29) (i_ 1)) 0,O_ 8 (.mv (t_ 30)) 0])))))) (.seq (R_ 0 [O_ 57 (.mv (t_ 6)) 0,O_ 58 (.fa 0 (t_ 2)) 0,U_ (.st 1 (t_ 58) (t_ 57)) 0]) (.seq (R_ 0 [O_ 59 (.ld 3 true (t_ 2)) 0,O_ 60 (.mv (t_ 7)) 0,U_ (.st 3 (t_ 4) (t_ 59)) 0,O_ 5 (.mv (t_ 60)) 0]) .ret)))))))
theorem gc29_ok:compF Tryz.prog Tryz.f29=some (gc29.er,61,[.cell 4 3 true,.tmp 5]):=by unfold gc29;kernel_rfl
theorem p_ref12_Texts_v (a0:DeframeState) (a1:ByteArray):CallsO Tryz.prog 29 [.agg [.s a0.Buf,.i a0.Bad,.i a0.Seen],.s a1] (fun r:DeframeState × (List ByteArray)=>.tup [DeframeState.v r.1,(fun l:List ByteArray=>V.sl (l.map V.s) false) r.2]) (p_ref12_Texts a0 a1):=by
 refine callsO_comp mix Tryz.func29 gc29_ok fun r H=>?_
 rw [p_ref12_Texts] at H
 conv=>whnf
 refine tst_c H (fun b1 H=>?_) (fun b1 H=>?_)
 ·conv=>whnf
  iterate 4 (refine Tst.T ?_;conv=>whnf)
  refine lq_ ?_;conv=>whnf
  refine finR_c (enc:=(fun r:DeframeState × (List ByteArray)=>.tup [DeframeState.v r.1,(fun l:List ByteArray=>V.sl (l.map V.s) false) r.2])) H ?_;conv=>whnf
  exact ⟨_,.tup (.cons (fzagg (.cons (.id rfl) (.cons (.id rfl) (.cons (.id rfl) (.nil)))) rfl) (.cons (.c (.slw)) (.nil)))⟩
 conv=>whnf
 refine Tst.F ?_;conv=>whnf
 refine ask_c (p_ref12_Check_v _) H rfl rfl (fun v2 H=>?_);conv=>whnf
 iterate 2 (refine Tst.F ?_;conv=>whnf)
 refine tst_c H (fun b3 H=>?_) (fun b3 H=>?_)
 ·conv=>whnf
  refine lq_ ?_;conv=>whnf
  refine finR_c (enc:=(fun r:DeframeState × (List ByteArray)=>.tup [DeframeState.v r.1,(fun l:List ByteArray=>V.sl (l.map V.s) false) r.2])) H ?_;conv=>whnf
  exact ⟨_,.tup (.cons (fzagg (.cons (.id rfl) (.cons (.id rfl) (.cons (.id rfl) (.nil)))) rfl) (.cons (.c (.slw)) (.nil)))⟩
 conv=>whnf
 refine cat_c H (fun s4 H=>?_);conv=>whnf
 obtain ⟨o6,HL7,HQ8⟩:=bind_c H
 refine loop_c [5,6,7,8] [9,10,11,25,26,27,28,29,30,31,32,33,34,35,36,37,38,39,40,41,42,43,44,45,46,47,48,49,50,51,52,53,54,55,56,12,21] [9,10,11,25,26,27,28,29,30,31,32,33,34,35,36,37,38,39,40,41,42,43,44,45,46,47,48,49,50,51,52,53,54,55,56,12,21] (fun n vals st=>(∃ y10 y11 y12,p_ref12_Texts_l1  a1 n y10 [] y11 y12=some o6∧vals=[.sl (List.map V.s []) true,.s y10,.sl (List.map V.s []) true,.i y11]∧st=[.live [.s y12.Buf,.i y12.Bad,.i y12.Seen] 0,.live [.s (⟨#[]⟩ : ByteArray),.i (0:Int),.i (0:Int)] 0])∨(∃ y19 y20 y21 y22,p_ref12_Texts_l1  a1 n y19 y20 y21 y22=some o6∧vals=[.sl (List.map V.s []) true,.s y19,.osl 2 0 (List.length y20) 1 false,.i y21]∧st=[.live [.s y22.Buf,.i y22.Bad,.i y22.Seen] 0,.live [.s (⟨#[]⟩ : ByteArray),.i (0:Int),.i (0:Int)] 0,.live (cellsM V.s y20) (cellsM V.s y20).length])) fuel 2 [] (.inl (⟨_,_,_,HL7,rfl,rfl⟩)) (Nat.zero_le _) rfl (by kernel_rfl) (by kernel_rfl) rfl ⟨⟨rfl,rfl,rfl⟩,⟨⟨rfl,rfl,rfl⟩,trivial⟩⟩ ?_
 rintro (_ | n9) _ _ (⟨y10,y11,y12,H,rfl,rfl⟩ | ⟨y19,y20,y21,y22,H,rfl,rfl⟩)
 ·rw [p_ref12_Texts_l1] at H;cases H
 ·rw [p_ref12_Texts_l1] at H;cases H
 ·rw [p_ref12_Texts_l1] at H
  conv=>whnf
  refine tst_d H (fun b13 H=>?_) (fun b13 H=>?_)
  ·conv=>whnf
   obtain rfl:=Option.some.inj H
   have H:=HQ8
   try dsimp only at H
   refine lq_ ?_;conv=>whnf
   refine lq_ ?_;conv=>whnf
   refine finR_c (enc:=(fun r:DeframeState × (List ByteArray)=>.tup [DeframeState.v r.1,(fun l:List ByteArray=>V.sl (l.map V.s) false) r.2])) H ?_;conv=>whnf
   exact ⟨_,.tup (.cons (fzagg (.cons (.id rfl) (.cons (.id rfl) (.cons (.id rfl) (.nil)))) rfl) (.cons (.c (.slw)) (.nil)))⟩
  conv=>whnf
  refine ask_c (p_ref11_Get_v _) H rfl rfl (fun v14 H=>?_);conv=>whnf
  refine tst_c H (fun b15 H=>?_) (fun b15 H=>?_)
  ·conv=>whnf
   obtain rfl:=Option.some.inj H
   have H:=HQ8
   try dsimp only at H
   refine lq_ ?_;conv=>whnf
   refine lq_ ?_;conv=>whnf
   refine finR_c (enc:=(fun r:DeframeState × (List ByteArray)=>.tup [DeframeState.v r.1,(fun l:List ByteArray=>V.sl (l.map V.s) false) r.2])) H ?_;conv=>whnf
   exact ⟨_,.tup (.cons (fzagg (.cons (.id rfl) (.cons (.id rfl) (.cons (.id rfl) (.nil)))) rfl) (.cons (.c (.slw)) (.nil)))⟩
  conv=>whnf
  refine tst_c H (fun b16 H=>?_) (fun b16 H=>?_)
  ·conv=>whnf
   refine lq_ ?_;conv=>whnf
   obtain rfl:=Option.some.inj H
   have H:=HQ8
   try dsimp only at H
   refine finR_c (enc:=(fun r:DeframeState × (List ByteArray)=>.tup [DeframeState.v r.1,(fun l:List ByteArray=>V.sl (l.map V.s) false) r.2])) H ?_;conv=>whnf
   exact ⟨_,.tup (.cons (fzagg (.cons (.id rfl) (.cons (.id rfl) (.cons (.id rfl) (.nil)))) rfl) (.cons (.c (.slw)) (.nil)))⟩
  conv=>whnf
  refine appN_c (f:=V.s) H (fun _=>rfl) (srcM (f:=V.s) (fun _=>rfl) [] true) rfl (.v (srcOwn (f:=V.s) (l:=[v14.1]) (fun _=>rfl) rfl rfl rfl)) (by decide) rfl (by simp) (fun l17 H=>?_);conv=>whnf
  refine Ari.w ?_;conv=>whnf
  refine lq_ ?_;conv=>whnf
  refine slt_c H (fun s18 H=>?_);conv=>whnf
  refine Ari.w ?_;conv=>whnf
  exact again_c [9,10,11,25,26,27,28,29,30,31,32,33,34,35,36,37,38,39,40,41,42,43,44,45,46,47,48,49,50,51,52,53,54,55,56,12,21] n9 3 [0,1,3] (.inr (⟨_,_,_,_,H,rfl,rfl⟩)) (Nat.lt_succ_self _) (Nat.zero_le _) rfl (by kernel_rfl) (by kernel_rfl) rfl ⟨⟨rfl,rfl,rfl⟩,⟨⟨rfl,rfl,rfl⟩,wkB_live0 rfl (cellsM_idlt (f:=V.s) (fun _=>rfl) _) rfl trivial⟩⟩
 rw [p_ref12_Texts_l1] at H
 conv=>whnf
 refine tst_d H (fun b23 H=>?_) (fun b23 H=>?_)
 ·conv=>whnf
  obtain rfl:=Option.some.inj H
  have H:=HQ8
  try dsimp only at H
  refine lq_ ?_;conv=>whnf
  refine lq_ ?_;conv=>whnf
  refine finR_c (enc:=(fun r:DeframeState × (List ByteArray)=>.tup [DeframeState.v r.1,(fun l:List ByteArray=>V.sl (l.map V.s) false) r.2])) H ?_;conv=>whnf
  exact ⟨_,.tup (.cons (fzagg (.cons (.id rfl) (.cons (.id rfl) (.cons (.id rfl) (.nil)))) rfl) (.cons (.c (fzown (f:=V.s) (l:=y20) rfl rfl (fun _=>rfl) (fun _=>rfl))) (.nil)))⟩
 conv=>whnf
 refine ask_c (p_ref11_Get_v _) H rfl rfl (fun v24 H=>?_);conv=>whnf
 refine tst_c H (fun b25 H=>?_) (fun b25 H=>?_)
 ·conv=>whnf
  obtain rfl:=Option.some.inj H
  have H:=HQ8
  try dsimp only at H
  refine lq_ ?_;conv=>whnf
  refine lq_ ?_;conv=>whnf
  refine finR_c (enc:=(fun r:DeframeState × (List ByteArray)=>.tup [DeframeState.v r.1,(fun l:List ByteArray=>V.sl (l.map V.s) false) r.2])) H ?_;conv=>whnf
  exact ⟨_,.tup (.cons (fzagg (.cons (.id rfl) (.cons (.id rfl) (.cons (.id rfl) (.nil)))) rfl) (.cons (.c (fzown (f:=V.s) (l:=y20) rfl rfl (fun _=>rfl) (fun _=>rfl))) (.nil)))⟩
 conv=>whnf
 refine tst_c H (fun b26 H=>?_) (fun b26 H=>?_)
 ·conv=>whnf
  refine lq_ ?_;conv=>whnf
  obtain rfl:=Option.some.inj H
  have H:=HQ8
  try dsimp only at H
  refine finR_c (enc:=(fun r:DeframeState × (List ByteArray)=>.tup [DeframeState.v r.1,(fun l:List ByteArray=>V.sl (l.map V.s) false) r.2])) H ?_;conv=>whnf
  exact ⟨_,.tup (.cons (fzagg (.cons (.id rfl) (.cons (.id rfl) (.cons (.id rfl) (.nil)))) rfl) (.cons (.c (fzown (f:=V.s) (l:=y20) rfl rfl (fun _=>rfl) (fun _=>rfl))) (.nil)))⟩
 conv=>whnf
 refine appO_c (f:=V.s) H (fun _=>rfl) rfl (Nat.le_refl _) (.v (srcOwn (f:=V.s) (l:=[v24.1]) (fun _=>rfl) rfl rfl rfl)) (by decide) rfl (by simp) (fun l27 H=>?_);conv=>whnf
 refine Ari.w ?_;conv=>whnf
 refine lq_ ?_;conv=>whnf
 refine slt_c H (fun s28 H=>?_);conv=>whnf
 refine Ari.w ?_;conv=>whnf
 exact again_c [9,10,11,25,26,27,28,29,30,31,32,33,34,35,36,37,38,39,40,41,42,43,44,45,46,47,48,49,50,51,52,53,54,55,56,12,21] n9 3 [0,1,4] (.inr (⟨_,_,_,_,H,rfl,rfl⟩)) (Nat.lt_succ_self _) (Nat.zero_le _) rfl (by kernel_rfl) (by kernel_rfl) rfl ⟨⟨rfl,rfl,rfl⟩,⟨⟨rfl,rfl,rfl⟩,wkB_live0 rfl (cellsM_idlt (f:=V.s) (fun _=>rfl) _) rfl trivial⟩⟩
def gc107:BCode:=(.seq (R_ 0 [O_ 2 (.mv (b_ false)) 0]) (.seq (R_ 0 [O_ 3 (.mv (t_ 0)) 0,O_ 4 (.bin .geq (t_ 3) (.const (.int .u8 1))) 0,O_ 5 (.mv (t_ 4)) 0,⟨(some 6),.mv (t_ 0),(some (5,true)),0⟩,⟨(some 7),.bin .leq (t_ 6) (.const (.int .u8 15)),(some (5,true)),0⟩,O_ 8 (.pick (t_ 5) (t_ 7) (b_ false)) 0,O_ 9 (.mv (t_ 8)) 0,⟨(some 10),.mv (t_ 0),(some (9,false)),0⟩,⟨(some 11),.bin .geq (t_ 10) (.const (.int .u8 32)),(some (9,false)),0⟩,⟨(some 12),.mv (t_ 11),(some (9,false)),0⟩,⟨(some 13),.mv (t_ 0),(some (12,true)),0⟩,⟨(some 14),.bin .leq (t_ 13) (.const (.int .u8 41)),(some (12,true)),0⟩,⟨(some 15),.pick (t_ 12) (t_ 14) (b_ false),(some (9,false)),0⟩,O_ 16 (.pick (t_ 9) (b_ true) (t_ 15)) 0,O_ 2 (.mv (t_ 16)) 0]) .ret))
theorem gc107_ok:compF Tryz.prog Tryz.f107=some (gc107.er,17,[.tmp 2]):=by unfold gc107;kernel_rfl
theorem p_ref10_known_v (a0:Int):CallsO Tryz.prog 107 [.y8 a0] V.b (p_ref10_known a0):=by
 refine callsO_comp mix Tryz.func107 gc107_ok fun r H=>?_
 rw [p_ref10_known] at H
 conv=>whnf
 refine tst_d H (fun b1 H=>?_) (fun b1 H=>?_)
 ·conv=>whnf
  iterate 5 (refine Tst.F ?_;conv=>whnf)
  refine tst_c H (fun b4 H=>?_) (fun b4 H=>?_)
  ·conv=>whnf
   refine Tst.T ?_;conv=>whnf
   refine Tst.F ?_;conv=>whnf
   refine Tst.T ?_;conv=>whnf
   refine Tst.F ?_;conv=>whnf
   exact fb_ H
  conv=>whnf
  iterate 4 (refine Tst.F ?_;conv=>whnf)
  exact fb_ H
 conv=>whnf
 iterate 2 (refine Tst.T ?_;conv=>whnf)
 refine tst_c H (fun b2 H=>?_) (fun b2 H=>?_)
 ·conv=>whnf
  iterate 4 (refine Tst.T ?_;conv=>whnf)
  exact fb_ H
 conv=>whnf
 iterate 2 (refine Tst.F ?_;conv=>whnf)
 refine tst_c H (fun b3 H=>?_) (fun b3 H=>?_)
 ·conv=>whnf
  refine Tst.T ?_;conv=>whnf
  refine Tst.F ?_;conv=>whnf
  refine Tst.T ?_;conv=>whnf
  refine Tst.F ?_;conv=>whnf
  exact fb_ H
 conv=>whnf
 iterate 4 (refine Tst.F ?_;conv=>whnf)
 exact fb_ H
def gc108:BCode:=(.seq (R_ 1 [O_ 2 (.al (.agg [(.lit (.string ⟨#[]⟩)),(.lit (.int .i64 0)),(.lit (.int .i64 0))])) 0]) (.seq (R_ 0 [O_ 3 (.mv (t_ 0)) 0,O_ 4 (.bd [(.lit (.string ⟨#[]⟩)),(.lit (.int .i64 0)),(.lit (.int .i64 0))] [(0,1,(t_ 3))]) 0,U_ (.st 3 (t_ 2) (t_ 4)) 0]) .ret))
theorem gc108_ok:compF Tryz.prog Tryz.f108=some (gc108.er,5,[.cell 2 3 true]):=by unfold gc108;kernel_rfl
theorem p_ref01_Open_v (a0:ByteArray):CallsO Tryz.prog 108 [.s a0] OctetRead.v (p_ref01_Open a0):=by
 refine callsO_comp mix Tryz.func108 gc108_ok fun r H=>?_
 rw [p_ref01_Open] at H
 conv=>whnf
 refine lq_ ?_;conv=>whnf
 exact fin0_c (enc:=OctetRead.v) H (.inr rfl) (.cons (.cell rfl rfl (Nat.le_of_ble_eq_true rfl)) (.nil)) rfl rfl
def gc100:BCode:=(.seq (R_ 0 [O_ 2 (.mv (.const (.string ⟨#[]⟩))) 0]) (.seq (.seq (R_ 0 [O_ 3 (.mv (t_ 0)) 0]) (.block 0 (.seq (R_ 0 [O_ 5 (.bin .eql (t_ 3) (.const (.int .u8 1))) 0,O_ 4 (.mv (t_ 5)) 0]) (.cond (t_ 4) (.seq (R_ 0 [O_ 2 (.mv (.const (.string ⟨#[117,114]⟩))) 0]) .ret) (.seq (R_ 0 [O_ 7 (.bin .eql (t_ 3) (.const (.int .u8 3))) 0,O_ 6 (.mv (t_ 7)) 0]) (.cond (t_ 6) (.seq (R_ 0 [O_ 2 (.mv (.const (.string ⟨#[115,112]⟩))) 0]) .ret) (.seq (R_ 0 [O_ 9 (.bin .eql (t_ 3) (.const (.int .u8 5))) 0,O_ 8 (.mv (t_ 9)) 0]) (.cond (t_ 8) (.seq (R_ 0 [O_ 2 (.mv (.const (.string ⟨#[117,115,112]⟩))) 0]) .ret) (.seq (.seq (R_ 0 [O_ 11 (.bin .eql (t_ 3) (.const (.int .u8 6))) 0,O_ 10 (.mv (t_ 11)) 0]) (.cond (t_ 10) .skip (.seq (R_ 0 [O_ 12 (.bin .eql (t_ 3) (.const (.int .u8 7))) 0,O_ 10 (.mv (t_ 12)) 0]) (.cond (t_ 10) .skip (.seq (R_ 0 [O_ 13 (.bin .eql (t_ 3) (.const (.int .u8 8))) 0,O_ 10 (.mv (t_ 13)) 0]) (.cond (t_ 10) .skip (.seq (R_ 0 [O_ 14 (.bin .eql (t_ 3) (.const (.int .u8 9))) 0,O_ 10 (.mv (t_ 14)) 0]) (.cond (t_ 10) .skip (.seq (R_ 0 [O_ 15 (.bin .eql (t_ 3) (.const (.int .u8 10))) 0,O_ 10 (.mv (t_ 15)) 0]) (.cond (t_ 10) .skip (.seq (R_ 0 [O_ 16 (.bin .eql (t_ 3) (.const (.int .u8 11))) 0,O_ 10 (.mv (t_ 16)) 0]) (.cond (t_ 10) .skip (R_ 0 [O_ 17 (.bin .eql (t_ 3) (.const (.int .u8 14))) 0,O_ 10 (.mv (t_ 17)) 0]))))))))))))) (.cond (t_ 10) (.seq (R_ 0 [O_ 2 (.mv (.const (.string ⟨#[117]⟩))) 0]) .ret) (.seq (.seq (R_ 0 [O_ 19 (.bin .eql (t_ 3) (.const (.int .u8 12))) 0,O_ 18 (.mv (t_ 19)) 0]) (.cond (t_ 18) .skip (.seq (R_ 0 [O_ 20 (.bin .eql (t_ 3) (.const (.int .u8 15))) 0,O_ 18 (.mv (t_ 20)) 0]) (.cond (t_ 18) .skip (.seq (R_ 0 [O_ 21 (.bin .eql (t_ 3) (.const (.int .u8 36))) 0,O_ 18 (.mv (t_ 21)) 0]) (.cond (t_ 18) .skip (R_ 0 [O_ 22 (.bin .eql (t_ 3) (.const (.int .u8 41))) 0,O_ 18 (.mv (t_ 22)) 0]))))))) (.cond (t_ 18) (.seq (R_ 0 [O_ 2 (.mv (.const (.string ⟨#[110]⟩))) 0]) .ret) (.seq (R_ 0 [O_ 24 (.bin .eql (t_ 3) (.const (.int .u8 13))) 0,O_ 23 (.mv (t_ 24)) 0]) (.cond (t_ 23) (.seq (R_ 0 [O_ 2 (.mv (.const (.string ⟨#[117,109]⟩))) 0]) .ret) (.seq (R_ 0 [O_ 26 (.bin .eql (t_ 3) (.const (.int .u8 32))) 0,O_ 25 (.mv (t_ 26)) 0]) (.cond (t_ 25) (.seq (R_ 0 [O_ 2 (.mv (.const (.string ⟨#[99,110]⟩))) 0]) .ret) (.seq (R_ 0 [O_ 28 (.bin .eql (t_ 3) (.const (.int .u8 33))) 0,O_ 27 (.mv (t_ 28)) 0]) (.cond (t_ 27) (.seq (R_ 0 [O_ 2 (.mv (.const (.string ⟨#[99,115,110]⟩))) 0]) .ret) (.seq (R_ 0 [O_ 30 (.bin .eql (t_ 3) (.const (.int .u8 34))) 0,O_ 29 (.mv (t_ 30)) 0]) (.cond (t_ 29) (.seq (R_ 0 [O_ 2 (.mv (.const (.string ⟨#[117,114,115,112,110]⟩))) 0]) .ret) (.seq (R_ 0 [O_ 32 (.bin .eql (t_ 3) (.const (.int .u8 35))) 0,O_ 31 (.mv (t_ 32)) 0]) (.cond (t_ 31) (.seq (R_ 0 [O_ 2 (.mv (.const (.string ⟨#[117,114,110]⟩))) 0]) .ret) (.seq (R_ 0 [O_ 34 (.bin .eql (t_ 3) (.const (.int .u8 38))) 0,O_ 33 (.mv (t_ 34)) 0]) (.cond (t_ 33) (.seq (R_ 0 [O_ 2 (.mv (.const (.string ⟨#[117,109,115,110]⟩))) 0]) .ret) (.seq (R_ 0 [O_ 36 (.bin .eql (t_ 3) (.const (.int .u8 39))) 0,O_ 35 (.mv (t_ 36)) 0]) (.cond (t_ 35) (.seq (R_ 0 [O_ 2 (.mv (.const (.string ⟨#[117,110]⟩))) 0]) .ret) (.seq (R_ 0 [O_ 38 (.bin .eql (t_ 3) (.const (.int .u8 40))) 0,O_ 37 (.mv (t_ 38)) 0]) (.cond (t_ 37) (.seq (R_ 0 [O_ 2 (.mv (.const (.string ⟨#[117,99]⟩))) 0]) .ret) .skip)))))))))))))))))))))))))))) (.seq (R_ 0 [O_ 2 (.mv (.const (.string ⟨#[]⟩))) 0]) .ret)))
theorem gc100_ok:compF Tryz.prog Tryz.f100=some (gc100.er,39,[.tmp 2]):=by unfold gc100;kernel_rfl
theorem p_ref10_Has_v (a0:Int):CallsO Tryz.prog 100 [.y8 a0] V.s (p_ref10_Has a0):=by
 refine callsO_comp mix Tryz.func100 gc100_ok fun r H=>?_
 rw [p_ref10_Has] at H
 conv=>whnf
 refine tst_c H (fun b1 H=>?_) (fun b1 H=>?_)
 ·conv=>whnf
  exact fin0_c (enc:=V.s) H (.inr rfl) (.cons (.tmp rfl) (.nil)) rfl rfl
 conv=>whnf
 refine tst_c H (fun b2 H=>?_) (fun b2 H=>?_)
 ·conv=>whnf
  exact fin0_c (enc:=V.s) H (.inr rfl) (.cons (.tmp rfl) (.nil)) rfl rfl
 conv=>whnf
 refine tst_c H (fun b3 H=>?_) (fun b3 H=>?_)
 ·conv=>whnf
  exact fin0_c (enc:=V.s) H (.inr rfl) (.cons (.tmp rfl) (.nil)) rfl rfl
 conv=>whnf
 refine tst_c H (fun b4 H=>?_) (fun b4 H=>?_)
 ·conv=>whnf
  refine Tst.T ?_;conv=>whnf
  exact fin0_c (enc:=V.s) H (.inr rfl) (.cons (.tmp rfl) (.nil)) rfl rfl
 conv=>whnf
 refine tst_c H (fun b5 H=>?_) (fun b5 H=>?_)
 ·conv=>whnf
  refine Tst.T ?_;conv=>whnf
  exact fin0_c (enc:=V.s) H (.inr rfl) (.cons (.tmp rfl) (.nil)) rfl rfl
 conv=>whnf
 refine tst_c H (fun b6 H=>?_) (fun b6 H=>?_)
 ·conv=>whnf
  refine Tst.T ?_;conv=>whnf
  exact fin0_c (enc:=V.s) H (.inr rfl) (.cons (.tmp rfl) (.nil)) rfl rfl
 conv=>whnf
 refine tst_c H (fun b7 H=>?_) (fun b7 H=>?_)
 ·conv=>whnf
  refine Tst.T ?_;conv=>whnf
  exact fin0_c (enc:=V.s) H (.inr rfl) (.cons (.tmp rfl) (.nil)) rfl rfl
 conv=>whnf
 refine tst_c H (fun b8 H=>?_) (fun b8 H=>?_)
 ·conv=>whnf
  refine Tst.T ?_;conv=>whnf
  exact fin0_c (enc:=V.s) H (.inr rfl) (.cons (.tmp rfl) (.nil)) rfl rfl
 conv=>whnf
 refine tst_c H (fun b9 H=>?_) (fun b9 H=>?_)
 ·conv=>whnf
  refine Tst.T ?_;conv=>whnf
  exact fin0_c (enc:=V.s) H (.inr rfl) (.cons (.tmp rfl) (.nil)) rfl rfl
 conv=>whnf
 refine tst_c H (fun b10 H=>?_) (fun b10 H=>?_)
 ·conv=>whnf
  exact fin0_c (enc:=V.s) H (.inr rfl) (.cons (.tmp rfl) (.nil)) rfl rfl
 conv=>whnf
 refine tst_c H (fun b11 H=>?_) (fun b11 H=>?_)
 ·conv=>whnf
  refine Tst.T ?_;conv=>whnf
  exact fin0_c (enc:=V.s) H (.inr rfl) (.cons (.tmp rfl) (.nil)) rfl rfl
 conv=>whnf
 refine tst_c H (fun b12 H=>?_) (fun b12 H=>?_)
 ·conv=>whnf
  refine Tst.T ?_;conv=>whnf
  exact fin0_c (enc:=V.s) H (.inr rfl) (.cons (.tmp rfl) (.nil)) rfl rfl
 conv=>whnf
 refine tst_c H (fun b13 H=>?_) (fun b13 H=>?_)
 ·conv=>whnf
  refine Tst.T ?_;conv=>whnf
  exact fin0_c (enc:=V.s) H (.inr rfl) (.cons (.tmp rfl) (.nil)) rfl rfl
 conv=>whnf
 refine tst_c H (fun b14 H=>?_) (fun b14 H=>?_)
 ·conv=>whnf
  exact fin0_c (enc:=V.s) H (.inr rfl) (.cons (.tmp rfl) (.nil)) rfl rfl
 conv=>whnf
 refine tst_c H (fun b15 H=>?_) (fun b15 H=>?_)
 ·conv=>whnf
  exact fin0_c (enc:=V.s) H (.inr rfl) (.cons (.tmp rfl) (.nil)) rfl rfl
 conv=>whnf
 refine tst_c H (fun b16 H=>?_) (fun b16 H=>?_)
 ·conv=>whnf
  exact fin0_c (enc:=V.s) H (.inr rfl) (.cons (.tmp rfl) (.nil)) rfl rfl
 conv=>whnf
 refine tst_c H (fun b17 H=>?_) (fun b17 H=>?_)
 ·conv=>whnf
  exact fin0_c (enc:=V.s) H (.inr rfl) (.cons (.tmp rfl) (.nil)) rfl rfl
 conv=>whnf
 refine tst_c H (fun b18 H=>?_) (fun b18 H=>?_)
 ·conv=>whnf
  exact fin0_c (enc:=V.s) H (.inr rfl) (.cons (.tmp rfl) (.nil)) rfl rfl
 conv=>whnf
 refine tst_c H (fun b19 H=>?_) (fun b19 H=>?_)
 ·conv=>whnf
  exact fin0_c (enc:=V.s) H (.inr rfl) (.cons (.tmp rfl) (.nil)) rfl rfl
 conv=>whnf
 refine tst_c H (fun b20 H=>?_) (fun b20 H=>?_)
 ·conv=>whnf
  exact fin0_c (enc:=V.s) H (.inr rfl) (.cons (.tmp rfl) (.nil)) rfl rfl
 conv=>whnf
 refine tst_c H (fun b21 H=>?_) (fun b21 H=>?_)
 ·conv=>whnf
  exact fin0_c (enc:=V.s) H (.inr rfl) (.cons (.tmp rfl) (.nil)) rfl rfl
 conv=>whnf
 refine tst_c H (fun b22 H=>?_) (fun b22 H=>?_)
 ·conv=>whnf
  exact fin0_c (enc:=V.s) H (.inr rfl) (.cons (.tmp rfl) (.nil)) rfl rfl
 conv=>whnf
 exact fin0_c (enc:=V.s) H (.inr rfl) (.cons (.tmp rfl) (.nil)) rfl rfl
def gc164:BCode:=(.seq (R_ 1 [O_ 1 (.bx (t_ 0)) 0,O_ 2 (.mv (i_ 0)) 1]) (.seq (.seq (R_ 0 [O_ 3 (.fa 2 (t_ 1)) 0,O_ 4 (.ld 1 false (t_ 3)) 0,O_ 5 (.bin .eql (t_ 4) (i_ 0)) 0,O_ 6 (.mv (t_ 5)) 0,⟨(some 7),.fa 1 (t_ 1),(some (6,true)),0⟩,⟨(some 8),.ld 1 false (t_ 7),(some (6,true)),0⟩,⟨(some 9),.bin .lss (t_ 8) (i_ 0),(some (6,true)),0⟩,⟨(some 10),.mv (t_ 9),(some (6,true)),0⟩,⟨(some 11),.fa 1 (t_ 1),(some (10,false)),0⟩,⟨(some 12),.ld 1 false (t_ 11),(some (10,false)),0⟩,⟨(some 13),.fa 0 (t_ 1),(some (10,false)),0⟩,⟨(some 14),.ld 1 false (t_ 13),(some (10,false)),0⟩,⟨(some 15),.lent (t_ 14),(some (10,false)),0⟩,⟨(some 16),.bin .gtr (t_ 12) (t_ 15),(some (10,false)),0⟩,⟨(some 17),.pick (t_ 10) (b_ true) (t_ 16),(some (6,true)),0⟩,O_ 18 (.pick (t_ 6) (t_ 17) (b_ false)) 0]) (.cond (t_ 18) (.seq (R_ 0 [O_ 2 (.mv (i_ 2)) 0]) .ret) .skip)) (.seq (R_ 0 [O_ 19 (.fa 2 (t_ 1)) 0,O_ 20 (.ld 1 false (t_ 19)) 0,O_ 2 (.mv (t_ 20)) 0]) .ret)))
theorem gc164_ok:compF Tryz.prog Tryz.f164=some (gc164.er,21,[.tmp 2]):=by unfold gc164;kernel_rfl
theorem p_ref01_bad_v (a0:OctetRead):CallsO Tryz.prog 164 [.agg [.s a0.S,.i a0.At,.i a0.Bad]] V.i (p_ref01_bad a0):=by
 refine callsO_comp mix Tryz.func164 gc164_ok fun r H=>?_
 rw [p_ref01_bad] at H
 conv=>whnf
 refine tst_d H (fun b1 H=>?_) (fun b1 H=>?_)
 ·conv=>whnf
  iterate 6 (refine Tst.F ?_;conv=>whnf)
  exact fi_ H
 conv=>whnf
 iterate 3 (refine Tst.T ?_;conv=>whnf)
 refine tst_c H (fun b2 H=>?_) (fun b2 H=>?_)
 ·conv=>whnf
  iterate 9 (refine Tst.T ?_;conv=>whnf)
  exact fi_ H
 conv=>whnf
 iterate 5 (refine Tst.F ?_;conv=>whnf)
 refine Tst.T ?_;conv=>whnf
 refine Tst.F ?_;conv=>whnf
 refine Tst.T ?_;conv=>whnf
 refine tst_c H (fun b3 H=>?_) (fun b3 H=>?_)
 ·conv=>whnf
  exact fi_ H
 conv=>whnf
 exact fi_ H
def gc162:BCode:=(.seq (R_ 2 [O_ 2 (.bx (t_ 0)) 0,O_ 4 (.al (.agg [(.lit (.string ⟨#[]⟩)),(.lit (.int .i64 0)),(.lit (.int .i64 0))])) 1]) (.seq (R_ 0 [O_ 5 (.mv (t_ 1)) 0,O_ 6 (.fa 2 (t_ 2)) 0,U_ (.st 1 (t_ 6) (t_ 5)) 0]) (.seq (R_ 0 [O_ 7 (.ld 3 true (t_ 2)) 0,U_ (.st 3 (t_ 4) (t_ 7)) 0]) .ret)))
theorem gc162_ok:compF Tryz.prog Tryz.f162=some (gc162.er,8,[.cell 4 3 true]):=by unfold gc162;kernel_rfl
theorem p_ref01_with_v (a0:OctetRead) (a1:Int):CallsO Tryz.prog 162 [.agg [.s a0.S,.i a0.At,.i a0.Bad],.i a1] OctetRead.v (p_ref01_with a0 a1):=by
 refine callsO_comp mix Tryz.func162 gc162_ok fun r H=>?_
 rw [p_ref01_with] at H
 conv=>whnf
 refine lq_ ?_;conv=>whnf
 refine lq_ ?_;conv=>whnf
 exact fin0_c (enc:=OctetRead.v) H (.inr rfl) (.cons (.cell rfl rfl (Nat.le_of_ble_eq_true rfl)) (.nil)) rfl rfl
end Go.Proofs.YtmmmcpeickfolaaGreat

namespace Go.Proofs.YtmmmcpeickfolaaGreat
open Go.RowKit
set_option maxRecDepth 100000
set_option maxHeartbeats 4000000
def gc165:BCode:=(.seq (R_ 0 [O_ 2 (.mv (b_ false)) 0]) (.seq (R_ 0 [O_ 3 (.mv (t_ 0)) 0,O_ 4 (.bin .eql (t_ 3) (i_ 1)) 0,O_ 5 (.mv (t_ 4)) 0,⟨(some 6),.mv (t_ 0),(some (5,false)),0⟩,⟨(some 7),.bin .eql (t_ 6) (i_ 2),(some (5,false)),0⟩,O_ 8 (.pick (t_ 5) (b_ true) (t_ 7)) 0,O_ 9 (.mv (t_ 8)) 0,⟨(some 10),.mv (t_ 0),(some (9,false)),0⟩,⟨(some 11),.bin .eql (t_ 10) (i_ 4),(some (9,false)),0⟩,O_ 12 (.pick (t_ 9) (b_ true) (t_ 11)) 0,O_ 13 (.mv (t_ 12)) 0,⟨(some 14),.mv (t_ 0),(some (13,false)),0⟩,⟨(some 15),.bin .eql (t_ 14) (i_ 6),(some (13,false)),0⟩,O_ 16 (.pick (t_ 13) (b_ true) (t_ 15)) 0,O_ 2 (.mv (t_ 16)) 0]) .ret))
theorem gc165_ok:compF Tryz.prog Tryz.f165=some (gc165.er,17,[.tmp 2]):=by unfold gc165;kernel_rfl
theorem p_ref01_wide_v (a0:Int):CallsO Tryz.prog 165 [.i a0] V.b (p_ref01_wide a0):=by
 refine callsO_comp mix Tryz.func165 gc165_ok fun r H=>?_
 rw [p_ref01_wide] at H
 conv=>whnf
 refine tst_c H (fun b1 H=>?_) (fun b1 H=>?_)
 ·conv=>whnf
  iterate 8 (refine Tst.T ?_;conv=>whnf)
  exact fb_ H
 conv=>whnf
 iterate 2 (refine Tst.F ?_;conv=>whnf)
 refine tst_c H (fun b2 H=>?_) (fun b2 H=>?_)
 ·conv=>whnf
  iterate 5 (refine Tst.T ?_;conv=>whnf)
  exact fb_ H
 conv=>whnf
 iterate 2 (refine Tst.F ?_;conv=>whnf)
 refine tst_c H (fun b3 H=>?_) (fun b3 H=>?_)
 ·conv=>whnf
  iterate 2 (refine Tst.T ?_;conv=>whnf)
  exact fb_ H
 conv=>whnf
 iterate 2 (refine Tst.F ?_;conv=>whnf)
 exact fb_ H
def gc163:BCode:=(.seq (R_ 1 [O_ 1 (.bx (t_ 0)) 0,O_ 2 (.mv (i_ 0)) 1]) (.seq (.seq (R_ 0 [O_ 3 (.ld 3 true (t_ 1)) 0,O_ 4 (.cl 164 [(t_ 3)]) 0,O_ 5 (.bin .neq (t_ 4) (i_ 0)) 0]) (.cond (t_ 5) (.seq (R_ 0 [O_ 2 (.mv (i_ 0)) 0]) .ret) .skip)) (.seq (R_ 0 [O_ 6 (.fa 0 (t_ 1)) 0,O_ 7 (.ld 1 false (t_ 6)) 0,O_ 8 (.lent (t_ 7)) 0,O_ 9 (.fa 1 (t_ 1)) 0,O_ 10 (.ld 1 false (t_ 9)) 0,O_ 11 (.bin .sub (t_ 8) (t_ 10)) 0,O_ 2 (.mv (t_ 11)) 0]) .ret)))
theorem gc163_ok:compF Tryz.prog Tryz.f163=some (gc163.er,12,[.tmp 2]):=by unfold gc163;kernel_rfl
theorem p_ref01_Left_v (a0:OctetRead):CallsO Tryz.prog 163 [.agg [.s a0.S,.i a0.At,.i a0.Bad]] V.i (p_ref01_Left a0):=by
 refine callsO_comp mix Tryz.func163 gc163_ok fun r H=>?_
 rw [p_ref01_Left] at H
 conv=>whnf
 refine ask_c (p_ref01_bad_v _) H rfl rfl (fun v1 H=>?_);conv=>whnf
 refine tst_c H (fun b2 H=>?_) (fun b2 H=>?_)
 ·conv=>whnf
  exact fi_ H
 conv=>whnf
 refine Ari.w ?_;conv=>whnf
 exact fi_ H
def gc110:BCode:=(.seq (R_ 2 [O_ 2 (.bx (t_ 0)) 0,O_ 4 (.al (.agg [(.lit (.string ⟨#[]⟩)),(.lit (.int .i64 0)),(.lit (.int .i64 0))])) 1,O_ 5 (.mv (i_ 0)) 2]) (.seq (.block 0 (.seq (R_ 0 [O_ 9 (.ld 3 true (t_ 2)) 0,O_ 10 (.cl 164 [(t_ 9)]) 0,O_ 11 (.bin .neq (t_ 10) (i_ 0)) 0,O_ 8 (.mv (t_ 11)) 0]) (.cond (t_ 8) (.seq (.reg 0 [O_ 12 (.ld 3 true (t_ 2)) 0,O_ 13 (.ld 3 true (t_ 2)) 0,O_ 14 (.cl 164 [(t_ 13)]) 0,O_ 15 (.cl 162 [(t_ 12),(t_ 14)]) 0,U_ (.st 3 (t_ 4) (t_ 15)) 0,O_ 5 (.mv (i_ 0)) 0] (some [[],[],[1],[1,2,0],[0,2,1,3],[3,1,2,0,4]]) 0 []) .ret) (.seq (R_ 0 [O_ 17 (.mv (t_ 1)) 0,O_ 18 (.cl 165 [(t_ 17)]) 0,O_ 19 (.un .not (t_ 18)) 0,O_ 16 (.mv (t_ 19)) 0]) (.cond (t_ 16) (.seq (R_ 0 [O_ 20 (.ld 3 true (t_ 2)) 0,O_ 21 (.cl 162 [(t_ 20),(i_ 2)]) 0,U_ (.st 3 (t_ 4) (t_ 21)) 0,O_ 5 (.mv (i_ 0)) 0]) .ret) (.seq (R_ 0 [O_ 23 (.mv (t_ 1)) 0,O_ 24 (.ld 3 true (t_ 2)) 0,O_ 25 (.cl 163 [(t_ 24)]) 0,O_ 26 (.bin .gtr (t_ 23) (t_ 25)) 0,O_ 22 (.mv (t_ 26)) 0]) (.cond (t_ 22) (.seq (R_ 0 [O_ 27 (.ld 3 true (t_ 2)) 0,O_ 28 (.cl 162 [(t_ 27),(i_ 3)]) 0,U_ (.st 3 (t_ 4) (t_ 28)) 0,O_ 5 (.mv (i_ 0)) 0]) .ret) .skip))))))) (.seq (R_ 0 [O_ 6 (.mv (i_ 0)) 0]) (.seq (.seq (R_ 0 [O_ 7 (.mv (i_ 0)) 0]) (.block 1 (.loop (.seq (.seq (R_ 0 [O_ 29 (.mv (t_ 7)) 0,O_ 30 (.mv (t_ 1)) 0,O_ 31 (.bin .lss (t_ 29) (t_ 30)) 0]) (.cond (t_ 31) .skip (.exit 1))) (.seq (.block 2 (.seq (R_ 0 [O_ 34 (.mv (t_ 6)) 0,O_ 35 (.bin .mul (i_ 256) (t_ 34)) 0,O_ 36 (.fa 0 (t_ 2)) 0,O_ 37 (.ld 1 false (t_ 36)) 0,O_ 38 (.fa 1 (t_ 2)) 0,O_ 39 (.ld 1 false (t_ 38)) 0,O_ 40 (.ixt (t_ 37) (t_ 39)) 0,O_ 41 (.cvi .i64 (t_ 40)) 0,O_ 42 (.bin .add (t_ 35) (t_ 41)) 0,O_ 6 (.mv (t_ 42)) 0]) (R_ 0 [O_ 43 (.fa 1 (t_ 2)) 0,O_ 44 (.ld 1 false (t_ 43)) 0,O_ 45 (.bin .add (t_ 44) (i_ 1)) 0,O_ 46 (.fa 1 (t_ 2)) 0,U_ (.st 1 (t_ 46) (t_ 45)) 0]))) (R_ 0 [O_ 32 (.mv (t_ 7)) 0,O_ 33 (.bin .add (t_ 32) (i_ 1)) 0,O_ 7 (.mv (t_ 33)) 0])))))) (.seq (R_ 0 [O_ 47 (.ld 3 true (t_ 2)) 0,O_ 48 (.mv (t_ 6)) 0,U_ (.st 3 (t_ 4) (t_ 47)) 0,O_ 5 (.mv (t_ 48)) 0]) .ret)))))
theorem gc110_ok:compF Tryz.prog Tryz.f110=some (gc110.er,49,[.cell 4 3 true,.tmp 5]):=by unfold gc110;kernel_rfl
theorem p_ref01_Num_v (a0:OctetRead) (a1:Int):CallsO Tryz.prog 110 [.agg [.s a0.S,.i a0.At,.i a0.Bad],.i a1] (fun r:OctetRead × Int=>.tup [OctetRead.v r.1,V.i r.2]) (p_ref01_Num a0 a1):=by
 refine callsO_comp mix Tryz.func110 gc110_ok fun r H=>?_
 rw [p_ref01_Num] at H
 conv=>whnf
 refine ask_c (p_ref01_bad_v _) H rfl rfl (fun v1 H=>?_);conv=>whnf
 refine tst_c H (fun b2 H=>?_) (fun b2 H=>?_)
 ·conv=>whnf
  refine ask_c (p_ref01_bad_v _) H rfl rfl (fun v3 H=>?_);conv=>whnf
  refine ask_c (p_ref01_with_v _ _) H rfl rfl (fun v4 H=>?_);conv=>whnf
  refine lq_ ?_;conv=>whnf
  refine FootQ.mk ⟨rfl,?_⟩;conv=>whnf
  exact fin0_c (enc:=(fun r:OctetRead × Int=>.tup [OctetRead.v r.1,V.i r.2])) H (.inr rfl) (.cons (.cell rfl rfl (Nat.le_of_ble_eq_true rfl)) (.cons (.tmp rfl) (.nil))) rfl rfl
 conv=>whnf
 refine ask_c (p_ref01_wide_v _) H rfl rfl (fun v5 H=>?_);conv=>whnf
 refine Tst.not ?_
 refine tst_d H (fun b6 H=>?_) (fun b6 H=>?_)
 ·conv=>whnf
  refine ask_c (p_ref01_with_v _ _) H rfl rfl (fun v20 H=>?_);conv=>whnf
  refine lq_ ?_;conv=>whnf
  exact fin0_c (enc:=(fun r:OctetRead × Int=>.tup [OctetRead.v r.1,V.i r.2])) H (.inr rfl) (.cons (.cell rfl rfl (Nat.le_of_ble_eq_true rfl)) (.cons (.tmp rfl) (.nil))) rfl rfl
 conv=>whnf
 refine ask_c (p_ref01_Left_v _) H rfl rfl (fun v7 H=>?_);conv=>whnf
 refine tst_c H (fun b8 H=>?_) (fun b8 H=>?_)
 ·conv=>whnf
  refine ask_c (p_ref01_with_v _ _) H rfl rfl (fun v9 H=>?_);conv=>whnf
  refine lq_ ?_;conv=>whnf
  exact fin0_c (enc:=(fun r:OctetRead × Int=>.tup [OctetRead.v r.1,V.i r.2])) H (.inr rfl) (.cons (.cell rfl rfl (Nat.le_of_ble_eq_true rfl)) (.cons (.tmp rfl) (.nil))) rfl rfl
 conv=>whnf
 obtain ⟨o11,HL12,HQ13⟩:=bind_c H
 refine loop_c [6,7] [29,30,31,32,33,34,35,36,37,38,39,40,41,42,43,44,45,46] [29,30,31,32,33,34,35,36,37,38,39,40,41,42,43,44,45,46] (fun n vals st=>(∃ y15 y16 y17,p_ref01_Num_l1  a1 n y15 y16 y17=some o11∧vals=[.i y15,.i y16]∧st=[.live [.s y17.S,.i y17.At,.i y17.Bad] 0,.live [.s (⟨#[]⟩ : ByteArray),.i (0:Int),.i (0:Int)] 0])) fuel 2 [] (⟨_,_,_,HL12,rfl,rfl⟩) (Nat.zero_le _) rfl (by kernel_rfl) (by kernel_rfl) rfl ⟨⟨rfl,rfl,rfl⟩,⟨⟨rfl,rfl,rfl⟩,trivial⟩⟩ ?_
 rintro (_ | n14) _ _ (⟨y15,y16,y17,H,rfl,rfl⟩)
 ·rw [p_ref01_Num_l1] at H;cases H
 rw [p_ref01_Num_l1] at H
 conv=>whnf
 refine tst_d H (fun b18 H=>?_) (fun b18 H=>?_)
 ·conv=>whnf
  obtain rfl:=Option.some.inj H
  have H:=HQ13
  try dsimp only at H
  refine lq_ ?_;conv=>whnf
  exact fin0_c (enc:=(fun r:OctetRead × Int=>.tup [OctetRead.v r.1,V.i r.2])) H (.inr rfl) (.cons (.cell rfl rfl (Nat.le_of_ble_eq_true rfl)) (.cons (.tmp rfl) (.nil))) rfl rfl
 conv=>whnf
 refine Ari.w ?_;conv=>whnf
 refine ixt_c H (fun c19 H=>?_);conv=>whnf
 iterate 3 (refine Ari.w ?_;conv=>whnf)
 refine lq_ ?_;conv=>whnf
 refine Ari.w ?_;conv=>whnf
 exact again_c [29,30,31,32,33,34,35,36,37,38,39,40,41,42,43,44,45,46] n14 2 [] (⟨_,_,_,H,rfl,rfl⟩) (Nat.lt_succ_self _) (Nat.zero_le _) rfl (by kernel_rfl) (by kernel_rfl) rfl ⟨⟨rfl,rfl,rfl⟩,⟨⟨rfl,rfl,rfl⟩,trivial⟩⟩
def gc109:BCode:=(.seq (R_ 2 [O_ 2 (.bx (t_ 0)) 0,O_ 4 (.al (.agg [(.lit (.string ⟨#[]⟩)),(.lit (.int .i64 0)),(.lit (.int .i64 0))])) 1,O_ 5 (.mv (.const (.string ⟨#[]⟩))) 2]) (.seq (R_ 1 [O_ 9 (.ld 3 true (t_ 2)) 0,O_ 6 (.al (.agg [(.lit (.string ⟨#[]⟩)),(.lit (.int .i64 0)),(.lit (.int .i64 0))])) 0,U_ (.st 3 (t_ 6) (t_ 9)) 1]) (.seq (R_ 0 [O_ 11 (.ld 3 true (t_ 2)) 0,O_ 12 (.cl 110 [(t_ 11),(i_ 1)]) 0,O_ 10 (.mv (t_ 12)) 0,O_ 13 (.ex (t_ 10) 0) 0,O_ 14 (.ex (t_ 10) 1) 0,U_ (.st 3 (t_ 2) (t_ 13)) 0,O_ 7 (.mv (t_ 14)) 0]) (.seq (.block 0 (.seq (R_ 0 [O_ 16 (.fa 2 (t_ 2)) 0,O_ 17 (.ld 1 false (t_ 16)) 0,O_ 18 (.bin .neq (t_ 17) (i_ 0)) 0,O_ 15 (.mv (t_ 18)) 0]) (.cond (t_ 15) (.seq (R_ 0 [O_ 19 (.ld 3 true (t_ 2)) 0,U_ (.st 3 (t_ 4) (t_ 19)) 0,O_ 5 (.mv (.const (.string ⟨#[]⟩))) 0]) .ret) (.seq (R_ 0 [O_ 21 (.mv (t_ 7)) 0,O_ 22 (.mv (t_ 1)) 0,O_ 23 (.bin .gtr (t_ 21) (t_ 22)) 0,O_ 20 (.mv (t_ 23)) 0]) (.cond (t_ 20) (.seq (R_ 0 [O_ 24 (.ld 3 true (t_ 6)) 0,O_ 25 (.cl 162 [(t_ 24),(i_ 5)]) 0,U_ (.st 3 (t_ 4) (t_ 25)) 0,O_ 5 (.mv (.const (.string ⟨#[]⟩))) 0]) .ret) (.seq (R_ 0 [O_ 27 (.mv (t_ 7)) 0,O_ 28 (.ld 3 true (t_ 2)) 0,O_ 29 (.cl 163 [(t_ 28)]) 0,O_ 30 (.bin .gtr (t_ 27) (t_ 29)) 0,O_ 26 (.mv (t_ 30)) 0]) (.cond (t_ 26) (.seq (R_ 0 [O_ 31 (.ld 3 true (t_ 6)) 0,O_ 32 (.cl 162 [(t_ 31),(i_ 3)]) 0,U_ (.st 3 (t_ 4) (t_ 32)) 0,O_ 5 (.mv (.const (.string ⟨#[]⟩))) 0]) .ret) .skip))))))) (.seq (R_ 0 [O_ 33 (.fa 0 (t_ 2)) 0,O_ 34 (.ld 1 false (t_ 33)) 0,O_ 35 (.fa 1 (t_ 2)) 0,O_ 36 (.ld 1 false (t_ 35)) 0,O_ 37 (.fa 1 (t_ 2)) 0,O_ 38 (.ld 1 false (t_ 37)) 0,O_ 39 (.mv (t_ 7)) 0,O_ 40 (.bin .add (t_ 38) (t_ 39)) 0,O_ 41 (.slt (t_ 34) (some (t_ 36)) (some (t_ 40))) 0,O_ 8 (.mv (t_ 41)) 0]) (.seq (R_ 0 [O_ 42 (.fa 1 (t_ 2)) 0,O_ 43 (.ld 1 false (t_ 42)) 0,O_ 44 (.mv (t_ 7)) 0,O_ 45 (.bin .add (t_ 43) (t_ 44)) 0,O_ 46 (.fa 1 (t_ 2)) 0,U_ (.st 1 (t_ 46) (t_ 45)) 0]) (.seq (R_ 0 [O_ 47 (.ld 3 true (t_ 2)) 0,O_ 48 (.mv (t_ 8)) 0,U_ (.st 3 (t_ 4) (t_ 47)) 0,O_ 5 (.mv (t_ 48)) 0]) .ret)))))))
theorem gc109_ok:compF Tryz.prog Tryz.f109=some (gc109.er,49,[.cell 4 3 true,.tmp 5]):=by unfold gc109;kernel_rfl
theorem p_ref01_Text_v (a0:OctetRead) (a1:Int):CallsO Tryz.prog 109 [.agg [.s a0.S,.i a0.At,.i a0.Bad],.i a1] (fun r:OctetRead × ByteArray=>.tup [OctetRead.v r.1,V.s r.2]) (p_ref01_Text a0 a1):=by
 refine callsO_comp mix Tryz.func109 gc109_ok fun r H=>?_
 rw [p_ref01_Text] at H
 conv=>whnf
 refine lq_ ?_;conv=>whnf
 refine ask_c (p_ref01_Num_v _ _) H rfl rfl (fun v1 H=>?_);conv=>whnf
 refine lq_ ?_;conv=>whnf
 refine tst_c H (fun b2 H=>?_) (fun b2 H=>?_)
 ·conv=>whnf
  refine lq_ ?_;conv=>whnf
  exact fin0_c (enc:=(fun r:OctetRead × ByteArray=>.tup [OctetRead.v r.1,V.s r.2])) H (.inr rfl) (.cons (.cell rfl rfl (Nat.le_of_ble_eq_true rfl)) (.cons (.tmp rfl) (.nil))) rfl rfl
 conv=>whnf
 refine tst_c H (fun b3 H=>?_) (fun b3 H=>?_)
 ·conv=>whnf
  refine ask_c (p_ref01_with_v _ _) H rfl rfl (fun v4 H=>?_);conv=>whnf
  refine lq_ ?_;conv=>whnf
  exact fin0_c (enc:=(fun r:OctetRead × ByteArray=>.tup [OctetRead.v r.1,V.s r.2])) H (.inr rfl) (.cons (.cell rfl rfl (Nat.le_of_ble_eq_true rfl)) (.cons (.tmp rfl) (.nil))) rfl rfl
 conv=>whnf
 refine ask_c (p_ref01_Left_v _) H rfl rfl (fun v5 H=>?_);conv=>whnf
 refine tst_c H (fun b6 H=>?_) (fun b6 H=>?_)
 ·conv=>whnf
  refine ask_c (p_ref01_with_v _ _) H rfl rfl (fun v7 H=>?_);conv=>whnf
  refine lq_ ?_;conv=>whnf
  exact fin0_c (enc:=(fun r:OctetRead × ByteArray=>.tup [OctetRead.v r.1,V.s r.2])) H (.inr rfl) (.cons (.cell rfl rfl (Nat.le_of_ble_eq_true rfl)) (.cons (.tmp rfl) (.nil))) rfl rfl
 conv=>whnf
 refine Ari.w ?_;conv=>whnf
 refine slt_c H (fun s8 H=>?_);conv=>whnf
 refine Ari.w ?_;conv=>whnf
 refine lq_ ?_;conv=>whnf
 refine lq_ ?_;conv=>whnf
 exact fin0_c (enc:=(fun r:OctetRead × ByteArray=>.tup [OctetRead.v r.1,V.s r.2])) H (.inr rfl) (.cons (.cell rfl rfl (Nat.le_of_ble_eq_true rfl)) (.cons (.tmp rfl) (.nil))) rfl rfl
def gc111:BCode:=(.seq (R_ 1 [O_ 1 (.bx (t_ 0)) 0,O_ 2 (.mv (i_ 0)) 1]) (.seq (.seq (R_ 0 [O_ 3 (.ld 3 true (t_ 1)) 0,O_ 4 (.cl 164 [(t_ 3)]) 0,O_ 5 (.bin .eql (t_ 4) (i_ 0)) 0,O_ 6 (.mv (t_ 5)) 0,⟨(some 7),.ld 3 true (t_ 1),(some (6,true)),0⟩,⟨(some 8),.cl 163 [(t_ 7)],(some (6,true)),0⟩,⟨(some 9),.bin .gtr (t_ 8) (i_ 0),(some (6,true)),0⟩,O_ 10 (.pick (t_ 6) (t_ 9) (b_ false)) 0]) (.cond (t_ 10) (.seq (R_ 0 [O_ 2 (.mv (i_ 4)) 0]) .ret) .skip)) (.seq (R_ 0 [O_ 11 (.ld 3 true (t_ 1)) 0,O_ 12 (.cl 164 [(t_ 11)]) 0,O_ 2 (.mv (t_ 12)) 0]) .ret)))
theorem gc111_ok:compF Tryz.prog Tryz.f111=some (gc111.er,13,[.tmp 2]):=by unfold gc111;kernel_rfl
theorem p_ref01_Done_v (a0:OctetRead):CallsO Tryz.prog 111 [.agg [.s a0.S,.i a0.At,.i a0.Bad]] V.i (p_ref01_Done a0):=by
 refine callsO_comp mix Tryz.func111 gc111_ok fun r H=>?_
 rw [p_ref01_Done] at H
 conv=>whnf
 refine ask_c (p_ref01_bad_v _) H rfl rfl (fun v1 H=>?_);conv=>whnf
 refine tst_d H (fun b2 H=>?_) (fun b2 H=>?_)
 ·conv=>whnf
  iterate 4 (refine Tst.F ?_;conv=>whnf)
  refine ask_c (p_ref01_bad_v _) H rfl rfl (fun v6 H=>?_);conv=>whnf
  exact fi_ H
 conv=>whnf
 refine Tst.T ?_;conv=>whnf
 refine ask_c (p_ref01_Left_v _) H rfl rfl (fun v3 H=>?_);conv=>whnf
 iterate 2 (refine Tst.T ?_;conv=>whnf)
 refine tst_c H (fun b4 H=>?_) (fun b4 H=>?_)
 ·conv=>whnf
  exact fi_ H
 conv=>whnf
 refine ask_c (p_ref01_bad_v _) H rfl rfl (fun v5 H=>?_);conv=>whnf
 exact fi_ H
end Go.Proofs.YtmmmcpeickfolaaGreat

namespace Go.Proofs.YtmmmcpeickfolaaGreat
open Go.RowKit
set_option maxRecDepth 1000000
set_option maxHeartbeats 4000000
def gc59:BCode:=(.seq (R_ 1 [O_ 2 (.al (.agg [(.lit (.int .u8 0)),(.lit (.string ⟨#[]⟩)),(.lit (.string ⟨#[]⟩)),(.lit (.string ⟨#[]⟩)),(.lit (.int .i64 0)),(.lit (.int .i64 0)),(.lit (.int .i64 0)),(.lit (.int .i64 0))])) 0,O_ 3 (.mv (i_ 0)) 1]) (.seq (.seq (R_ 0 [O_ 9 (.mv (t_ 0)) 0,O_ 10 (.bin .eql (t_ 9) (.const (.string ⟨#[]⟩))) 0]) (.cond (t_ 10) (.seq (R_ 0 [O_ 11 (.bd [(.lit (.int .u8 0)),(.lit (.string ⟨#[]⟩)),(.lit (.string ⟨#[]⟩)),(.lit (.string ⟨#[]⟩)),(.lit (.int .i64 0)),(.lit (.int .i64 0)),(.lit (.int .i64 0)),(.lit (.int .i64 0))] []) 0,U_ (.st 8 (t_ 2) (t_ 11)) 0,O_ 3 (.mv (i_ 3)) 0]) .ret) .skip)) (.seq (.seq (R_ 0 [O_ 12 (.mv (t_ 0)) 0,O_ 13 (.ixt (t_ 12) (i_ 0)) 0,O_ 14 (.cl 107 [(t_ 13)]) 0,O_ 15 (.un .not (t_ 14)) 0]) (.cond (t_ 15) (.seq (R_ 0 [O_ 16 (.bd [(.lit (.int .u8 0)),(.lit (.string ⟨#[]⟩)),(.lit (.string ⟨#[]⟩)),(.lit (.string ⟨#[]⟩)),(.lit (.int .i64 0)),(.lit (.int .i64 0)),(.lit (.int .i64 0)),(.lit (.int .i64 0))] []) 0,U_ (.st 8 (t_ 2) (t_ 16)) 0,O_ 3 (.mv (i_ 12)) 0]) .ret) .skip)) (.seq (R_ 1 [O_ 17 (.mv (t_ 0)) 0,O_ 18 (.ixt (t_ 17) (i_ 0)) 0,O_ 19 (.bd [(.lit (.int .u8 0)),(.lit (.string ⟨#[]⟩)),(.lit (.string ⟨#[]⟩)),(.lit (.string ⟨#[]⟩)),(.lit (.int .i64 0)),(.lit (.int .i64 0)),(.lit (.int .i64 0)),(.lit (.int .i64 0))] [(0,1,(t_ 18))]) 0,O_ 4 (.al (.agg [(.lit (.int .u8 0)),(.lit (.string ⟨#[]⟩)),(.lit (.string ⟨#[]⟩)),(.lit (.string ⟨#[]⟩)),(.lit (.int .i64 0)),(.lit (.int .i64 0)),(.lit (.int .i64 0)),(.lit (.int .i64 0))])) 0,U_ (.st 8 (t_ 4) (t_ 19)) 1]) (.seq (R_ 1 [O_ 20 (.mv (t_ 0)) 0,O_ 21 (.slt (t_ 20) (some (i_ 1)) none) 0,O_ 22 (.cl 108 [(t_ 21)]) 0,O_ 5 (.al (.agg [(.lit (.string ⟨#[]⟩)),(.lit (.int .i64 0)),(.lit (.int .i64 0))])) 0,U_ (.st 3 (t_ 5) (t_ 22)) 1]) (.seq (R_ 0 [O_ 23 (.mv (t_ 0)) 0,O_ 24 (.ixt (t_ 23) (i_ 0)) 0,O_ 25 (.cl 100 [(t_ 24)]) 0,O_ 6 (.mv (t_ 25)) 0]) (.seq (.seq (R_ 0 [O_ 7 (.mv (i_ 0)) 0]) (.block 0 (.loop (.seq (.seq (R_ 0 [O_ 26 (.mv (t_ 7)) 0,O_ 27 (.mv (t_ 6)) 0,O_ 28 (.lent (t_ 27)) 0,O_ 29 (.bin .lss (t_ 26) (t_ 28)) 0]) (.cond (t_ 29) .skip (.exit 0))) (.seq (.block 1 (.seq (R_ 0 [O_ 32 (.mv (t_ 6)) 0,O_ 33 (.mv (t_ 7)) 0,O_ 34 (.ixt (t_ 32) (t_ 33)) 0]) (.block 2 (.seq (R_ 0 [O_ 42 (.bin .eql (t_ 34) (.const (.int .u8 117))) 0,O_ 41 (.mv (t_ 42)) 0]) (.cond (t_ 41) (R_ 0 [O_ 44 (.ld 3 true (t_ 5)) 0,O_ 45 (.cl 109 [(t_ 44),(i_ 33)]) 0,O_ 43 (.mv (t_ 45)) 0,O_ 46 (.ex (t_ 43) 0) 0,O_ 47 (.ex (t_ 43) 1) 0,U_ (.st 3 (t_ 5) (t_ 46)) 0,O_ 48 (.fa 1 (t_ 4)) 0,U_ (.st 1 (t_ 48) (t_ 47)) 0]) (.seq (R_ 0 [O_ 50 (.bin .eql (t_ 34) (.const (.int .u8 114))) 0,O_ 49 (.mv (t_ 50)) 0]) (.cond (t_ 49) (R_ 0 [O_ 52 (.ld 3 true (t_ 5)) 0,O_ 53 (.cl 109 [(t_ 52),(i_ 12)]) 0,O_ 51 (.mv (t_ 53)) 0,O_ 54 (.ex (t_ 51) 0) 0,O_ 55 (.ex (t_ 51) 1) 0,U_ (.st 3 (t_ 5) (t_ 54)) 0,O_ 56 (.fa 2 (t_ 4)) 0,U_ (.st 1 (t_ 56) (t_ 55)) 0]) (.seq (R_ 0 [O_ 58 (.bin .eql (t_ 34) (.const (.int .u8 109))) 0,O_ 57 (.mv (t_ 58)) 0]) (.cond (t_ 57) (R_ 0 [O_ 60 (.ld 3 true (t_ 5)) 0,O_ 61 (.cl 109 [(t_ 60),(i_ 24)]) 0,O_ 59 (.mv (t_ 61)) 0,O_ 62 (.ex (t_ 59) 0) 0,O_ 63 (.ex (t_ 59) 1) 0,U_ (.st 3 (t_ 5) (t_ 62)) 0,O_ 64 (.fa 3 (t_ 4)) 0,U_ (.st 1 (t_ 64) (t_ 63)) 0]) (.seq (R_ 0 [O_ 66 (.bin .eql (t_ 34) (.const (.int .u8 115))) 0,O_ 65 (.mv (t_ 66)) 0]) (.cond (t_ 65) (R_ 0 [O_ 68 (.ld 3 true (t_ 5)) 0,O_ 69 (.cl 110 [(t_ 68),(i_ 1)]) 0,O_ 67 (.mv (t_ 69)) 0,O_ 70 (.ex (t_ 67) 0) 0,O_ 71 (.ex (t_ 67) 1) 0,U_ (.st 3 (t_ 5) (t_ 70)) 0,O_ 72 (.fa 4 (t_ 4)) 0,U_ (.st 1 (t_ 72) (t_ 71)) 0]) (.seq (R_ 0 [O_ 74 (.bin .eql (t_ 34) (.const (.int .u8 112))) 0,O_ 73 (.mv (t_ 74)) 0]) (.cond (t_ 73) (.seq (R_ 0 [O_ 76 (.ld 3 true (t_ 5)) 0,O_ 77 (.cl 110 [(t_ 76),(i_ 1)]) 0,O_ 75 (.mv (t_ 77)) 0,O_ 78 (.ex (t_ 75) 0) 0,O_ 79 (.ex (t_ 75) 1) 0,U_ (.st 3 (t_ 5) (t_ 78)) 0,O_ 80 (.fa 5 (t_ 4)) 0,U_ (.st 1 (t_ 80) (t_ 79)) 0]) (R_ 0 [O_ 81 (.fa 5 (t_ 4)) 0,O_ 82 (.ld 1 false (t_ 81)) 0,O_ 83 (.bin .sub (t_ 82) (i_ 128)) 0,O_ 84 (.fa 5 (t_ 4)) 0,U_ (.st 1 (t_ 84) (t_ 83)) 0])) (.seq (R_ 0 [O_ 86 (.bin .eql (t_ 34) (.const (.int .u8 99))) 0,O_ 85 (.mv (t_ 86)) 0]) (.cond (t_ 85) (R_ 0 [O_ 88 (.ld 3 true (t_ 5)) 0,O_ 89 (.cl 110 [(t_ 88),(i_ 1)]) 0,O_ 87 (.mv (t_ 89)) 0,O_ 90 (.ex (t_ 87) 0) 0,O_ 91 (.ex (t_ 87) 1) 0,U_ (.st 3 (t_ 5) (t_ 90)) 0,O_ 92 (.fa 6 (t_ 4)) 0,U_ (.st 1 (t_ 92) (t_ 91)) 0]) (R_ 0 [O_ 36 (.ld 3 true (t_ 5)) 0,O_ 37 (.cl 110 [(t_ 36),(i_ 6)]) 0,O_ 35 (.mv (t_ 37)) 0,O_ 38 (.ex (t_ 35) 0) 0,O_ 39 (.ex (t_ 35) 1) 0,U_ (.st 3 (t_ 5) (t_ 38)) 0,O_ 40 (.fa 7 (t_ 4)) 0,U_ (.st 1 (t_ 40) (t_ 39)) 0])))))))))))))))) (R_ 0 [O_ 30 (.mv (t_ 7)) 0,O_ 31 (.bin .add (t_ 30) (i_ 1)) 0,O_ 7 (.mv (t_ 31)) 0])))))) (.seq (R_ 0 [O_ 93 (.ld 3 true (t_ 5)) 0,O_ 94 (.cl 111 [(t_ 93)]) 0,O_ 8 (.mv (t_ 94)) 0]) (.seq (.seq (R_ 0 [O_ 95 (.mv (t_ 8)) 0,O_ 96 (.bin .eql (t_ 95) (i_ 0)) 0]) (.cond (t_ 96) (R_ 0 [O_ 97 (.ld 8 true (t_ 4)) 0,O_ 98 (.cl 99 [(t_ 97)]) 0,O_ 8 (.mv (t_ 98)) 0]) .skip)) (.seq (.seq (R_ 0 [O_ 99 (.mv (t_ 8)) 0,O_ 100 (.bin .neq (t_ 99) (i_ 0)) 0]) (.cond (t_ 100) (.seq (R_ 0 [O_ 101 (.bd [(.lit (.int .u8 0)),(.lit (.string ⟨#[]⟩)),(.lit (.string ⟨#[]⟩)),(.lit (.string ⟨#[]⟩)),(.lit (.int .i64 0)),(.lit (.int .i64 0)),(.lit (.int .i64 0)),(.lit (.int .i64 0))] []) 0,O_ 102 (.mv (t_ 8)) 0,U_ (.st 8 (t_ 2) (t_ 101)) 0,O_ 3 (.mv (t_ 102)) 0]) .ret) .skip)) (.seq (R_ 0 [O_ 103 (.ld 8 true (t_ 4)) 0,U_ (.st 8 (t_ 2) (t_ 103)) 0,O_ 3 (.mv (i_ 0)) 0]) .ret)))))))))))
theorem gc59_ok:compF Tryz.prog Tryz.f59=some (gc59.er,104,[.cell 2 8 true,.tmp 3]):=by unfold gc59;kernel_rfl
theorem p_ref10_Read_v (a0:ByteArray):CallsO Tryz.prog 59 [.s a0] (fun r:StanzaStanza × Int=>.tup [StanzaStanza.v r.1,V.i r.2]) (p_ref10_Read a0):=by
 refine callsO_comp mix Tryz.func59 gc59_ok fun r H=>?_
 rw [p_ref10_Read] at H
 conv=>whnf
 refine tst_c H (fun b1 H=>?_) (fun b1 H=>?_)
 ·conv=>whnf
  refine lq_ ?_;conv=>whnf
  exact fin0_c (enc:=(fun r:StanzaStanza × Int=>.tup [StanzaStanza.v r.1,V.i r.2])) H (.inr rfl) (.cons (.cell rfl rfl (Nat.le_of_ble_eq_true rfl)) (.cons (.tmp rfl) (.nil))) rfl rfl
 conv=>whnf
 refine ixt_c H (fun c2 H=>?_);conv=>whnf
 refine ask_c (p_ref10_known_v _) H rfl rfl (fun v3 H=>?_);conv=>whnf
 refine Tst.not ?_
 refine tst_d H (fun b4 H=>?_) (fun b4 H=>?_)
 ·conv=>whnf
  refine lq_ ?_;conv=>whnf
  exact fin0_c (enc:=(fun r:StanzaStanza × Int=>.tup [StanzaStanza.v r.1,V.i r.2])) H (.inr rfl) (.cons (.cell rfl rfl (Nat.le_of_ble_eq_true rfl)) (.cons (.tmp rfl) (.nil))) rfl rfl
 conv=>whnf
 refine ixt_c H (fun c5 H=>?_);conv=>whnf
 refine lq_ ?_;conv=>whnf
 refine slt_c H (fun s6 H=>?_);conv=>whnf
 refine ask_c (p_ref01_Open_v _) H rfl rfl (fun v7 H=>?_);conv=>whnf
 refine lq_ ?_;conv=>whnf
 refine ixt_c H (fun c8 H=>?_);conv=>whnf
 refine ask_c (p_ref10_Has_v _) H rfl rfl (fun v9 H=>?_);conv=>whnf
 obtain ⟨o11,HL12,HQ13⟩:=bind_c H
 refine loop_c [7] [26,27,28,29,30,31,32,33,34,35,36,37,38,39,40,41,42,43,44,45,46,47,48,49,50,51,52,53,54,55,56,57,58,59,60,61,62,63,64,65,66,67,68,69,70,71,72,73,74,75,76,77,78,79,80,81,82,83,84,85,86,87,88,89,90,91,92] [26,27,28,29,30,31,32,33,34,35,36,37,38,39,40,41,42,43,44,45,46,47,48,49,50,51,52,53,54,55,56,57,58,59,60,61,62,63,64,65,66,67,68,69,70,71,72,73,74,75,76,77,78,79,80,81,82,83,84,85,86,87,88,89,90,91,92] (fun n vals st=>(∃ y15 y16 y17,p_ref10_Read_l1  v9 n y15 y16 y17=some o11∧vals=[.i y15]∧st=[.live [.y8 (0:Int),.s (⟨#[]⟩ : ByteArray),.s (⟨#[]⟩ : ByteArray),.s (⟨#[]⟩ : ByteArray),.i (0:Int),.i (0:Int),.i (0:Int),.i (0:Int)] 0,.live [.y8 y16.Kind,.s y16.User,.s y16.Res,.s y16.Name,.i y16.Show,.i y16.Prio,.i y16.Code,.i y16.N] 0,.live [.s y17.S,.i y17.At,.i y17.Bad] 0])) fuel 3 [] (⟨_,_,_,HL12,rfl,rfl⟩) (Nat.zero_le _) rfl (by kernel_rfl) (by kernel_rfl) rfl ⟨⟨rfl,rfl,rfl⟩,⟨⟨rfl,rfl,rfl⟩,⟨⟨rfl,rfl,rfl⟩,trivial⟩⟩⟩ ?_
 rintro (_ | n14) _ _ (⟨y15,y16,y17,H,rfl,rfl⟩)
 ·rw [p_ref10_Read_l1] at H;cases H
 rw [p_ref10_Read_l1] at H
 conv=>whnf
 refine tst_d H (fun b18 H=>?_) (fun b18 H=>?_)
 ·conv=>whnf
  obtain rfl:=Option.some.inj H
  have H:=HQ13
  try dsimp only at H
  refine ask_c (p_ref01_Done_v _) H rfl rfl (fun v33 H=>?_);conv=>whnf
  refine tst_d H (fun b34 H=>?_) (fun b34 H=>?_)
  ·conv=>whnf
   refine tst_c H (fun b37 H=>?_) (fun b37 H=>?_)
   ·conv=>whnf
    refine lq_ ?_;conv=>whnf
    exact fin0_c (enc:=(fun r:StanzaStanza × Int=>.tup [StanzaStanza.v r.1,V.i r.2])) H (.inr rfl) (.cons (.cell rfl rfl (Nat.le_of_ble_eq_true rfl)) (.cons (.tmp rfl) (.nil))) rfl rfl
   conv=>whnf
   refine lq_ ?_;conv=>whnf
   exact fin0_c (enc:=(fun r:StanzaStanza × Int=>.tup [StanzaStanza.v r.1,V.i r.2])) H (.inr rfl) (.cons (.cell rfl rfl (Nat.le_of_ble_eq_true rfl)) (.cons (.tmp rfl) (.nil))) rfl rfl
  conv=>whnf
  refine ask_c (p_ref10_Check_v _) H rfl rfl (fun v35 H=>?_);conv=>whnf
  refine tst_c H (fun b36 H=>?_) (fun b36 H=>?_)
  ·conv=>whnf
   refine lq_ ?_;conv=>whnf
   exact fin0_c (enc:=(fun r:StanzaStanza × Int=>.tup [StanzaStanza.v r.1,V.i r.2])) H (.inr rfl) (.cons (.cell rfl rfl (Nat.le_of_ble_eq_true rfl)) (.cons (.tmp rfl) (.nil))) rfl rfl
  conv=>whnf
  refine lq_ ?_;conv=>whnf
  exact fin0_c (enc:=(fun r:StanzaStanza × Int=>.tup [StanzaStanza.v r.1,V.i r.2])) H (.inr rfl) (.cons (.cell rfl rfl (Nat.le_of_ble_eq_true rfl)) (.cons (.tmp rfl) (.nil))) rfl rfl
 conv=>whnf
 refine ixt_c H (fun c19 H=>?_);conv=>whnf
 refine tst_c H (fun b20 H=>?_) (fun b20 H=>?_)
 ·conv=>whnf
  refine ask_c (p_ref01_Text_v _ _) H rfl rfl (fun v21 H=>?_);conv=>whnf
  refine lq_ ?_;conv=>whnf
  refine lq_ ?_;conv=>whnf
  refine Ari.w ?_;conv=>whnf
  exact again_c [26,27,28,29,30,31,32,33,34,35,36,37,38,39,40,41,42,43,44,45,46,47,48,49,50,51,52,53,54,55,56,57,58,59,60,61,62,63,64,65,66,67,68,69,70,71,72,73,74,75,76,77,78,79,80,81,82,83,84,85,86,87,88,89,90,91,92] n14 3 [] (⟨_,_,_,H,rfl,rfl⟩) (Nat.lt_succ_self _) (Nat.zero_le _) rfl (by kernel_rfl) (by kernel_rfl) rfl ⟨⟨rfl,rfl,rfl⟩,⟨⟨rfl,rfl,rfl⟩,⟨⟨rfl,rfl,rfl⟩,trivial⟩⟩⟩
 conv=>whnf
 refine tst_c H (fun b22 H=>?_) (fun b22 H=>?_)
 ·conv=>whnf
  refine ask_c (p_ref01_Text_v _ _) H rfl rfl (fun v23 H=>?_);conv=>whnf
  refine lq_ ?_;conv=>whnf
  refine lq_ ?_;conv=>whnf
  refine Ari.w ?_;conv=>whnf
  exact again_c [26,27,28,29,30,31,32,33,34,35,36,37,38,39,40,41,42,43,44,45,46,47,48,49,50,51,52,53,54,55,56,57,58,59,60,61,62,63,64,65,66,67,68,69,70,71,72,73,74,75,76,77,78,79,80,81,82,83,84,85,86,87,88,89,90,91,92] n14 3 [] (⟨_,_,_,H,rfl,rfl⟩) (Nat.lt_succ_self _) (Nat.zero_le _) rfl (by kernel_rfl) (by kernel_rfl) rfl ⟨⟨rfl,rfl,rfl⟩,⟨⟨rfl,rfl,rfl⟩,⟨⟨rfl,rfl,rfl⟩,trivial⟩⟩⟩
 conv=>whnf
 refine tst_c H (fun b24 H=>?_) (fun b24 H=>?_)
 ·conv=>whnf
  refine ask_c (p_ref01_Text_v _ _) H rfl rfl (fun v25 H=>?_);conv=>whnf
  refine lq_ ?_;conv=>whnf
  refine lq_ ?_;conv=>whnf
  refine Ari.w ?_;conv=>whnf
  exact again_c [26,27,28,29,30,31,32,33,34,35,36,37,38,39,40,41,42,43,44,45,46,47,48,49,50,51,52,53,54,55,56,57,58,59,60,61,62,63,64,65,66,67,68,69,70,71,72,73,74,75,76,77,78,79,80,81,82,83,84,85,86,87,88,89,90,91,92] n14 3 [] (⟨_,_,_,H,rfl,rfl⟩) (Nat.lt_succ_self _) (Nat.zero_le _) rfl (by kernel_rfl) (by kernel_rfl) rfl ⟨⟨rfl,rfl,rfl⟩,⟨⟨rfl,rfl,rfl⟩,⟨⟨rfl,rfl,rfl⟩,trivial⟩⟩⟩
 conv=>whnf
 refine tst_c H (fun b26 H=>?_) (fun b26 H=>?_)
 ·conv=>whnf
  refine ask_c (p_ref01_Num_v _ _) H rfl rfl (fun v27 H=>?_);conv=>whnf
  refine lq_ ?_;conv=>whnf
  refine lq_ ?_;conv=>whnf
  refine Ari.w ?_;conv=>whnf
  exact again_c [26,27,28,29,30,31,32,33,34,35,36,37,38,39,40,41,42,43,44,45,46,47,48,49,50,51,52,53,54,55,56,57,58,59,60,61,62,63,64,65,66,67,68,69,70,71,72,73,74,75,76,77,78,79,80,81,82,83,84,85,86,87,88,89,90,91,92] n14 3 [] (⟨_,_,_,H,rfl,rfl⟩) (Nat.lt_succ_self _) (Nat.zero_le _) rfl (by kernel_rfl) (by kernel_rfl) rfl ⟨⟨rfl,rfl,rfl⟩,⟨⟨rfl,rfl,rfl⟩,⟨⟨rfl,rfl,rfl⟩,trivial⟩⟩⟩
 conv=>whnf
 refine tst_c H (fun b28 H=>?_) (fun b28 H=>?_)
 ·conv=>whnf
  refine ask_c (p_ref01_Num_v _ _) H rfl rfl (fun v29 H=>?_);conv=>whnf
  refine lq_ ?_;conv=>whnf
  refine lq_ ?_;conv=>whnf
  refine Ari.w ?_;conv=>whnf
  refine lq_ ?_;conv=>whnf
  refine Ari.w ?_;conv=>whnf
  exact again_c [26,27,28,29,30,31,32,33,34,35,36,37,38,39,40,41,42,43,44,45,46,47,48,49,50,51,52,53,54,55,56,57,58,59,60,61,62,63,64,65,66,67,68,69,70,71,72,73,74,75,76,77,78,79,80,81,82,83,84,85,86,87,88,89,90,91,92] n14 3 [] (⟨_,_,_,H,rfl,rfl⟩) (Nat.lt_succ_self _) (Nat.zero_le _) rfl (by kernel_rfl) (by kernel_rfl) rfl ⟨⟨rfl,rfl,rfl⟩,⟨⟨rfl,rfl,rfl⟩,⟨⟨rfl,rfl,rfl⟩,trivial⟩⟩⟩
 conv=>whnf
 refine tst_c H (fun b30 H=>?_) (fun b30 H=>?_)
 ·conv=>whnf
  refine ask_c (p_ref01_Num_v _ _) H rfl rfl (fun v31 H=>?_);conv=>whnf
  refine lq_ ?_;conv=>whnf
  refine lq_ ?_;conv=>whnf
  refine Ari.w ?_;conv=>whnf
  exact again_c [26,27,28,29,30,31,32,33,34,35,36,37,38,39,40,41,42,43,44,45,46,47,48,49,50,51,52,53,54,55,56,57,58,59,60,61,62,63,64,65,66,67,68,69,70,71,72,73,74,75,76,77,78,79,80,81,82,83,84,85,86,87,88,89,90,91,92] n14 3 [] (⟨_,_,_,H,rfl,rfl⟩) (Nat.lt_succ_self _) (Nat.zero_le _) rfl (by kernel_rfl) (by kernel_rfl) rfl ⟨⟨rfl,rfl,rfl⟩,⟨⟨rfl,rfl,rfl⟩,⟨⟨rfl,rfl,rfl⟩,trivial⟩⟩⟩
 conv=>whnf
 refine ask_c (p_ref01_Num_v _ _) H rfl rfl (fun v32 H=>?_);conv=>whnf
 refine lq_ ?_;conv=>whnf
 refine lq_ ?_;conv=>whnf
 refine Ari.w ?_;conv=>whnf
 exact again_c [26,27,28,29,30,31,32,33,34,35,36,37,38,39,40,41,42,43,44,45,46,47,48,49,50,51,52,53,54,55,56,57,58,59,60,61,62,63,64,65,66,67,68,69,70,71,72,73,74,75,76,77,78,79,80,81,82,83,84,85,86,87,88,89,90,91,92] n14 3 [] (⟨_,_,_,H,rfl,rfl⟩) (Nat.lt_succ_self _) (Nat.zero_le _) rfl (by kernel_rfl) (by kernel_rfl) rfl ⟨⟨rfl,rfl,rfl⟩,⟨⟨rfl,rfl,rfl⟩,⟨⟨rfl,rfl,rfl⟩,trivial⟩⟩⟩
def gc27:BCode:=(.seq (R_ 2 [O_ 2 (.bx (t_ 0)) 0,O_ 4 (.al (.agg [(.lit (.string ⟨#[]⟩)),(.lit (.int .i64 0)),(.lit (.int .i64 0))])) 1,O_ 5 (.mv (.const (.slice none 0 0))) 2]) (.seq (R_ 0 [O_ 12 (.ld 3 true (t_ 2)) 0,O_ 13 (.mv (t_ 1)) 0,O_ 14 (.cl 29 [(t_ 12),(t_ 13)]) 0,O_ 11 (.mv (t_ 14)) 0,O_ 15 (.ex (t_ 11) 0) 0,O_ 16 (.ex (t_ 11) 1) 0,U_ (.st 3 (t_ 2) (t_ 15)) 0,O_ 6 (.mv (t_ 16)) 0]) (.seq (R_ 0 [O_ 7 (.mv (.const (.slice none 0 0))) 0]) (.seq (.seq (R_ 0 [O_ 8 (.mv (i_ 0)) 0]) (.block 0 (.loop (.seq (.seq (R_ 0 [O_ 17 (.mv (t_ 8)) 0,O_ 18 (.mv (t_ 6)) 0,O_ 19 (.lens (t_ 18)) 0,O_ 20 (.bin .lss (t_ 17) (t_ 19)) 0]) (.cond (t_ 20) .skip (.exit 0))) (.seq (.block 1 (.seq (R_ 1 [O_ 24 (.mv (t_ 6)) 0,O_ 25 (.mv (t_ 8)) 0,O_ 26 (.ixs 1 (t_ 24) (t_ 25)) 0,O_ 27 (.ld 1 false (t_ 26)) 0,O_ 28 (.cl 59 [(t_ 27)]) 0,O_ 23 (.mv (t_ 28)) 0,O_ 29 (.ex (t_ 23) 0) 0,O_ 30 (.ex (t_ 23) 1) 0,O_ 9 (.al (.agg [(.lit (.int .u8 0)),(.lit (.string ⟨#[]⟩)),(.lit (.string ⟨#[]⟩)),(.lit (.string ⟨#[]⟩)),(.lit (.int .i64 0)),(.lit (.int .i64 0)),(.lit (.int .i64 0)),(.lit (.int .i64 0))])) 0,U_ (.st 8 (t_ 9) (t_ 29)) 1,O_ 10 (.mv (t_ 30)) 1]) (R_ 2 [O_ 31 (.mv (t_ 7)) 0,O_ 32 (.ld 8 true (t_ 9)) 0,O_ 33 (.mv (t_ 10)) 0,O_ 34 (.bd [(.lit (.int .u8 0)),(.lit (.string ⟨#[]⟩)),(.lit (.string ⟨#[]⟩)),(.lit (.string ⟨#[]⟩)),(.lit (.int .i64 0)),(.lit (.int .i64 0)),(.lit (.int .i64 0)),(.lit (.int .i64 0)),(.lit (.int .i64 0))] [(0,8,(t_ 32)),(8,1,(t_ 33))]) 0,O_ 35 (.bs 9 1 [(.lit (.int .u8 0)),(.lit (.string ⟨#[]⟩)),(.lit (.string ⟨#[]⟩)),(.lit (.string ⟨#[]⟩)),(.lit (.int .i64 0)),(.lit (.int .i64 0)),(.lit (.int .i64 0)),(.lit (.int .i64 0)),(.lit (.int .i64 0))] [(0,(t_ 34))]) 0,O_ 36 (.ap 9 96 (t_ 31) (t_ 35)) 1,O_ 7 (.mv (t_ 36)) 2]))) (R_ 0 [O_ 21 (.mv (t_ 8)) 0,O_ 22 (.bin .add (t_ 21) (i_ 1)) 0,O_ 8 (.mv (t_ 22)) 0])))))) (.seq (R_ 0 [O_ 37 (.ld 3 true (t_ 2)) 0,O_ 38 (.mv (t_ 7)) 0,U_ (.st 3 (t_ 4) (t_ 37)) 0,O_ 5 (.mv (t_ 38)) 0]) .ret)))))
theorem gc27_ok:compF Tryz.prog Tryz.f27=some (gc27.er,39,[.cell 4 3 true,.tmp 5]):=by unfold gc27;kernel_rfl
theorem p_ref12_Feed_v (a0:DeframeState) (a1:ByteArray):CallsO Tryz.prog 27 [.agg [.s a0.Buf,.i a0.Bad,.i a0.Seen],.s a1] (fun r:DeframeState × (List DeframeItem)=>.tup [DeframeState.v r.1,(fun l:List DeframeItem=>V.sl (l.map DeframeItem.v) false) r.2]) (p_ref12_Feed a0 a1):=by
 refine callsO_comp mix Tryz.func27 gc27_ok fun r H=>?_
 rw [p_ref12_Feed] at H
 conv=>whnf
 refine ask_c (p_ref12_Texts_v _ _) H rfl rfl (fun v1 H=>?_);conv=>whnf
 refine lq_ ?_;conv=>whnf
 obtain ⟨o3,HL4,HQ5⟩:=bind_c H
 refine loop_c [7,8] [9,10,17,18,19,20,21,22,23,24,25,26,27,28,29,30,31,32,33,34,35,36] [9,10,17,18,19,20,21,22,23,24,25,26,27,28,29,30,31,32,33,34,35,36] (fun n vals st=>(∃ y7,p_ref12_Feed_l1  v1.2 n [] y7=some o3∧vals=[.sl (List.map DeframeItem.v []) true,.i y7]∧st=[.live [.s v1.1.Buf,.i v1.1.Bad,.i v1.1.Seen] 0,.live [.s (⟨#[]⟩ : ByteArray),.i (0:Int),.i (0:Int)] 0])∨(∃ y12 y13,p_ref12_Feed_l1  v1.2 n y12 y13=some o3∧vals=[.osl 2 0 (List.length y12) 9 false,.i y13]∧st=[.live [.s v1.1.Buf,.i v1.1.Bad,.i v1.1.Seen] 0,.live [.s (⟨#[]⟩ : ByteArray),.i (0:Int),.i (0:Int)] 0,.live (cellsM DeframeItem.v y12) (cellsM DeframeItem.v y12).length])) fuel 2 [] (.inl (⟨_,HL4,rfl,rfl⟩)) (Nat.zero_le _) rfl (by kernel_rfl) (by kernel_rfl) rfl ⟨⟨rfl,rfl,rfl⟩,⟨⟨rfl,rfl,rfl⟩,trivial⟩⟩ ?_
 rintro (_ | n6) _ _ (⟨y7,H,rfl,rfl⟩ | ⟨y12,y13,H,rfl,rfl⟩)
 ·rw [p_ref12_Feed_l1] at H;cases H
 ·rw [p_ref12_Feed_l1] at H;cases H
 ·rw [p_ref12_Feed_l1] at H
  conv=>whnf
  refine LenQ.M ?_;conv=>whnf
  refine tst_d H (fun b8 H=>?_) (fun b8 H=>?_)
  ·conv=>whnf
   obtain rfl:=Option.some.inj H
   have H:=HQ5
   try dsimp only at H
   refine lq_ ?_;conv=>whnf
   refine finR_c (enc:=(fun r:DeframeState × (List DeframeItem)=>.tup [DeframeState.v r.1,(fun l:List DeframeItem=>V.sl (l.map DeframeItem.v) false) r.2])) H ?_;conv=>whnf
   exact ⟨_,.tup (.cons (fzagg (.cons (.id rfl) (.cons (.id rfl) (.cons (.id rfl) (.nil)))) rfl) (.cons (.c (.slw)) (.nil)))⟩
  conv=>whnf
  refine ixs_c (f:=V.s) H (fun _=>rfl) (fun x9 H=>?_);conv=>whnf
  refine ask_c (p_ref10_Read_v _) H rfl rfl (fun v10 H=>?_);conv=>whnf
  refine lq_ ?_;conv=>whnf
  refine appN_c (f:=DeframeItem.v) H (fun _=>rfl) (srcM (f:=DeframeItem.v) (fun _=>rfl) [] true) rfl (.v (srcOwn (f:=DeframeItem.v) (l:=[(DeframeItem.mk v10.1 v10.2)]) (fun _=>rfl) rfl rfl rfl)) (by decide) rfl (by simp) (fun l11 H=>?_);conv=>whnf
  refine Ari.w ?_;conv=>whnf
  exact again_c [9,10,17,18,19,20,21,22,23,24,25,26,27,28,29,30,31,32,33,34,35,36] n6 3 [0,1,4] (.inr (⟨_,_,H,rfl,rfl⟩)) (Nat.lt_succ_self _) (Nat.zero_le _) rfl (by kernel_rfl) (by kernel_rfl) rfl ⟨⟨rfl,rfl,rfl⟩,⟨⟨rfl,rfl,rfl⟩,wkB_live0 rfl (cellsM_idlt (f:=DeframeItem.v) (fun _=>rfl) _) rfl trivial⟩⟩
 rw [p_ref12_Feed_l1] at H
 conv=>whnf
 refine LenQ.M ?_;conv=>whnf
 refine tst_d H (fun b14 H=>?_) (fun b14 H=>?_)
 ·conv=>whnf
  obtain rfl:=Option.some.inj H
  have H:=HQ5
  try dsimp only at H
  refine lq_ ?_;conv=>whnf
  refine finR_c (enc:=(fun r:DeframeState × (List DeframeItem)=>.tup [DeframeState.v r.1,(fun l:List DeframeItem=>V.sl (l.map DeframeItem.v) false) r.2])) H ?_;conv=>whnf
  exact ⟨_,.tup (.cons (fzagg (.cons (.id rfl) (.cons (.id rfl) (.cons (.id rfl) (.nil)))) rfl) (.cons (.c (fzown (f:=DeframeItem.v) (l:=y12) rfl rfl (fun _=>rfl) (fun _=>rfl))) (.nil)))⟩
 conv=>whnf
 refine ixs_c (f:=V.s) H (fun _=>rfl) (fun x15 H=>?_);conv=>whnf
 refine ask_c (p_ref10_Read_v _) H rfl rfl (fun v16 H=>?_);conv=>whnf
 refine lq_ ?_;conv=>whnf
 refine appO_c (f:=DeframeItem.v) H (fun _=>rfl) rfl (Nat.le_refl _) (.v (srcOwn (f:=DeframeItem.v) (l:=[(DeframeItem.mk v16.1 v16.2)]) (fun _=>rfl) rfl rfl rfl)) (by decide) rfl (by simp) (fun l17 H=>?_);conv=>whnf
 refine Ari.w ?_;conv=>whnf
 exact again_c [9,10,17,18,19,20,21,22,23,24,25,26,27,28,29,30,31,32,33,34,35,36] n6 3 [0,1,5] (.inr (⟨_,_,H,rfl,rfl⟩)) (Nat.lt_succ_self _) (Nat.zero_le _) rfl (by kernel_rfl) (by kernel_rfl) rfl ⟨⟨rfl,rfl,rfl⟩,⟨⟨rfl,rfl,rfl⟩,wkB_live0 rfl (cellsM_idlt (f:=DeframeItem.v) (fun _=>rfl) _) rfl trivial⟩⟩
def gc30:BCode:=(.seq (R_ 2 [O_ 1 (.bx (t_ 0)) 0,O_ 2 (.al (.agg [(.lit (.string ⟨#[]⟩)),(.lit (.int .i64 0)),(.lit (.int .i64 0))])) 1]) (.seq (R_ 0 [O_ 3 (.fa 0 (t_ 1)) 0,O_ 4 (.ld 1 false (t_ 3)) 0,O_ 5 (.fa 1 (t_ 1)) 0,O_ 6 (.ld 1 false (t_ 5)) 0,O_ 7 (.fa 2 (t_ 1)) 0,O_ 8 (.ld 1 false (t_ 7)) 0,O_ 9 (.bd [(.lit (.string ⟨#[]⟩)),(.lit (.int .i64 0)),(.lit (.int .i64 0))] [(0,1,(t_ 4)),(1,1,(t_ 6)),(2,1,(t_ 8))]) 0,U_ (.st 3 (t_ 2) (t_ 9)) 0]) .ret))
theorem gc30_ok:compF Tryz.prog Tryz.f30=some (gc30.er,10,[.cell 2 3 true]):=by unfold gc30;kernel_rfl
theorem p_law12_back_v (a0:DeframeState):CallsO Tryz.prog 30 [.agg [.s a0.Buf,.i a0.Bad,.i a0.Seen]] DeframeState.v (p_law12_back a0):=by
 refine callsO_comp mix Tryz.func30 gc30_ok fun r H=>?_
 rw [p_law12_back] at H
 conv=>whnf
 refine lq_ ?_;conv=>whnf
 exact fin0_c (enc:=DeframeState.v) H (.inr rfl) (.cons (.cell rfl rfl (Nat.le_of_ble_eq_true rfl)) (.nil)) rfl rfl
end Go.Proofs.YtmmmcpeickfolaaGreat

