/- A part of the proof: 4 texts joined. -/
import Derived.Test.YtmmmcpeickfolaaGreatZcA25
import Derived.Test.YtmmmcpeickfolaaGreatZcA23
import Derived.Test.YtmmmcpeickfolaaGreatZcA14
import Derived.KernelRfl
import Derived.Test.YtmmmcpeickfolaaGreatZcA15
import Derived.Test.YtmmmcpeickfolaaGreatZcA26
set_option linter.all false
namespace Go.Proofs.YtmmmcpeickfolaaGreat
open Go.RowKit
set_option maxRecDepth 100000
set_option maxHeartbeats 4000000
def gc34:BCode:=(.seq (R_ 1 [O_ 1 (.bx (t_ 0)) 0,O_ 2 (.mv (i_ 0)) 1]) (.seq (.seq (R_ 0 [O_ 6 (.fa 1 (t_ 1)) 0,O_ 7 (.ld 1 false (t_ 6)) 0,O_ 8 (.bin .neq (t_ 7) (i_ 0)) 0,O_ 9 (.mv (t_ 8)) 0,⟨(some 10),.fa 0 (t_ 1),(some (9,true)),0⟩,⟨(some 11),.ld 1 false (t_ 10),(some (9,true)),0⟩,⟨(some 12),.bin .neq (t_ 11) (.const (.string ⟨#[]⟩)),(some (9,true)),0⟩,O_ 13 (.pick (t_ 9) (t_ 12) (b_ false)) 0]) (.cond (t_ 13) (.seq (R_ 0 [O_ 2 (.mv (i_ 4)) 0]) .ret) .skip)) (.seq (.seq (R_ 0 [O_ 15 (.fa 0 (t_ 1)) 0,O_ 16 (.ld 1 false (t_ 15)) 0,O_ 17 (.cl 61 [(t_ 16)]) 0,O_ 14 (.mv (t_ 17)) 0,O_ 18 (.ex (t_ 14) 0) 0,O_ 19 (.ex (t_ 14) 1) 0,O_ 20 (.ex (t_ 14) 2) 0,O_ 3 (.mv (t_ 18)) 0,O_ 4 (.mv (t_ 19)) 0,O_ 5 (.mv (t_ 20)) 0]) (.seq (R_ 0 [O_ 21 (.mv (t_ 5)) 0,O_ 22 (.bin .neq (t_ 21) (i_ 3)) 0]) (.cond (t_ 22) (.seq (R_ 0 [O_ 2 (.mv (i_ 5)) 0]) .ret) .skip))) (.seq (.seq (R_ 0 [O_ 23 (.fa 2 (t_ 1)) 0,O_ 24 (.ld 1 false (t_ 23)) 0,O_ 25 (.bin .lss (t_ 24) (i_ 0)) 0]) (.cond (t_ 25) (.seq (R_ 0 [O_ 2 (.mv (i_ 8)) 0]) .ret) .skip)) (.seq (R_ 0 [O_ 2 (.mv (i_ 0)) 0]) .ret)))))
theorem gc34_ok:compF Tryz.prog Tryz.f34=some (gc34.er,26,[.tmp 2]):=by unfold gc34;kernel_rfl
theorem p_deframe_Check_v (a0:DeframeState):CallsO Tryz.prog 34 [.agg [.s a0.Buf,.i a0.Bad,.i a0.Seen]] V.i (p_deframe_Check a0):=by
 refine callsO_comp mix Tryz.func34 gc34_ok fun r H=>?_
 rw [p_deframe_Check] at H
 conv=>whnf
 refine tst_d H (fun b1 H=>?_) (fun b1 H=>?_)
 ·conv=>whnf
  iterate 4 (refine Tst.F ?_;conv=>whnf)
  refine ask_c (p_frame_Get_v _) H rfl rfl (fun v6 H=>?_);conv=>whnf
  refine tst_c H (fun b7 H=>?_) (fun b7 H=>?_)
  ·conv=>whnf
   exact fi_ H
  conv=>whnf
  refine tst_c H (fun b8 H=>?_) (fun b8 H=>?_)
  ·conv=>whnf
   exact fi_ H
  conv=>whnf
  exact fi_ H
 conv=>whnf
 iterate 3 (refine Tst.T ?_;conv=>whnf)
 refine Tst.not ?_
 refine tst_d H (fun b2 H=>?_) (fun b2 H=>?_)
 ·conv=>whnf
  exact fi_ H
 conv=>whnf
 refine ask_c (p_frame_Get_v _) H rfl rfl (fun v3 H=>?_);conv=>whnf
 refine tst_c H (fun b4 H=>?_) (fun b4 H=>?_)
 ·conv=>whnf
  exact fi_ H
 conv=>whnf
 refine tst_c H (fun b5 H=>?_) (fun b5 H=>?_)
 ·conv=>whnf
  exact fi_ H
 conv=>whnf
 exact fi_ H
def gc60:BCode:=(.seq (R_ 1 [O_ 1 (.bx (t_ 0)) 0,O_ 2 (.mv (b_ false)) 1]) (.seq (R_ 0 [O_ 3 (.fa 1 (t_ 1)) 0,O_ 4 (.ld 1 false (t_ 3)) 0,O_ 5 (.bin .neq (t_ 4) (i_ 0)) 0,O_ 6 (.mv (t_ 5)) 0,⟨(some 7),.ld 3 true (t_ 1),(some (6,false)),0⟩,⟨(some 8),.cl 34 [(t_ 7)],(some (6,false)),0⟩,⟨(some 9),.bin .neq (t_ 8) (i_ 0),(some (6,false)),0⟩,O_ 10 (.pick (t_ 6) (b_ true) (t_ 9)) 0,O_ 2 (.mv (t_ 10)) 0]) .ret))
theorem gc60_ok:compF Tryz.prog Tryz.f60=some (gc60.er,11,[.tmp 2]):=by unfold gc60;kernel_rfl
theorem p_deframe_State_deaf_v (a0:DeframeState):CallsO Tryz.prog 60 [.agg [.s a0.Buf,.i a0.Bad,.i a0.Seen]] V.b (p_deframe_State_deaf a0):=by
 refine callsO_comp mix Tryz.func60 gc60_ok fun r H=>?_
 rw [p_deframe_State_deaf] at H
 conv=>whnf
 refine tst_c H (fun b1 H=>?_) (fun b1 H=>?_)
 ·conv=>whnf
  iterate 3 (refine Tst.T ?_;conv=>whnf)
  exact fb_ H
 conv=>whnf
 refine Tst.F ?_;conv=>whnf
 refine ask_c (p_deframe_Check_v _) H rfl rfl (fun v2 H=>?_);conv=>whnf
 iterate 2 (refine Tst.F ?_;conv=>whnf)
 exact fb_ H
def gc28:BCode:=(.seq (R_ 2 [O_ 2 (.bx (t_ 0)) 0,O_ 4 (.al (.agg [(.lit (.string ⟨#[]⟩)),(.lit (.int .i64 0)),(.lit (.int .i64 0))])) 1,O_ 5 (.mv (.const (.slice none 0 0))) 2]) (.seq (.seq (R_ 0 [O_ 10 (.ld 3 true (t_ 2)) 0,O_ 11 (.cl 60 [(t_ 10)]) 0]) (.cond (t_ 11) (.seq (R_ 0 [O_ 12 (.ld 3 true (t_ 2)) 0,U_ (.st 3 (t_ 4) (t_ 12)) 0,O_ 5 (.mv (.const (.slice none 0 0))) 0]) .ret) .skip)) (.seq (R_ 0 [O_ 13 (.fa 0 (t_ 2)) 0,O_ 14 (.ld 1 false (t_ 13)) 0,O_ 15 (.mv (t_ 1)) 0,O_ 16 (.bin .add (t_ 14) (t_ 15)) 0,O_ 17 (.fa 0 (t_ 2)) 0,U_ (.st 1 (t_ 17) (t_ 16)) 0]) (.seq (R_ 0 [O_ 6 (.mv (.const (.slice none 0 0))) 0]) (.block 0 (.loop (.block 1 (.seq (R_ 0 [O_ 19 (.fa 0 (t_ 2)) 0,O_ 20 (.ld 1 false (t_ 19)) 0,O_ 21 (.cl 61 [(t_ 20)]) 0,O_ 18 (.mv (t_ 21)) 0,O_ 22 (.ex (t_ 18) 0) 0,O_ 23 (.ex (t_ 18) 1) 0,O_ 24 (.ex (t_ 18) 2) 0,O_ 7 (.mv (t_ 22)) 0,O_ 8 (.mv (t_ 23)) 0,O_ 9 (.mv (t_ 24)) 0]) (.seq (.seq (R_ 0 [O_ 25 (.mv (t_ 9)) 0,O_ 26 (.bin .eql (t_ 25) (i_ 3)) 0]) (.cond (t_ 26) (.seq (R_ 0 [O_ 27 (.ld 3 true (t_ 2)) 0,O_ 28 (.mv (t_ 6)) 0,U_ (.st 3 (t_ 4) (t_ 27)) 0,O_ 5 (.mv (t_ 28)) 0]) .ret) .skip)) (.seq (.seq (R_ 0 [O_ 29 (.mv (t_ 9)) 0,O_ 30 (.bin .neq (t_ 29) (i_ 0)) 0]) (.cond (t_ 30) (.seq (R_ 0 [O_ 31 (.mv (t_ 9)) 0,O_ 32 (.fa 0 (t_ 2)) 0,U_ (.st 1 (t_ 32) (.const (.string ⟨#[]⟩))) 0,O_ 33 (.fa 1 (t_ 2)) 0,U_ (.st 1 (t_ 33) (t_ 31)) 0]) (.seq (R_ 0 [O_ 34 (.ld 3 true (t_ 2)) 0,O_ 35 (.mv (t_ 6)) 0,U_ (.st 3 (t_ 4) (t_ 34)) 0,O_ 5 (.mv (t_ 35)) 0]) .ret)) .skip)) (.seq (R_ 2 [O_ 36 (.mv (t_ 6)) 0,O_ 37 (.mv (t_ 7)) 0,O_ 38 (.bs 1 1 [(.lit (.string ⟨#[]⟩))] [(0,(t_ 37))]) 0,O_ 39 (.ap 1 16 (t_ 36) (t_ 38)) 1,O_ 6 (.mv (t_ 39)) 2]) (.seq (R_ 0 [O_ 40 (.fa 0 (t_ 2)) 0,O_ 41 (.ld 1 false (t_ 40)) 0,O_ 42 (.mv (t_ 8)) 0,O_ 43 (.slt (t_ 41) (some (t_ 42)) none) 0,O_ 44 (.fa 0 (t_ 2)) 0,U_ (.st 1 (t_ 44) (t_ 43)) 0]) (R_ 0 [O_ 45 (.fa 2 (t_ 2)) 0,O_ 46 (.ld 1 false (t_ 45)) 0,O_ 47 (.bin .add (t_ 46) (i_ 1)) 0,O_ 48 (.fa 2 (t_ 2)) 0,U_ (.st 1 (t_ 48) (t_ 47)) 0])))))))))))))
theorem gc28_ok:compF Tryz.prog Tryz.f28=some (gc28.er,49,[.cell 4 3 true,.tmp 5]):=by unfold gc28;kernel_rfl
theorem p_deframe_Texts_v (a0:DeframeState) (a1:ByteArray):CallsO Tryz.prog 28 [.agg [.s a0.Buf,.i a0.Bad,.i a0.Seen],.s a1] (fun r:DeframeState × (List ByteArray)=>.tup [DeframeState.v r.1,(fun l:List ByteArray=>V.sl (l.map V.s) false) r.2]) (p_deframe_Texts a0 a1):=by
 refine callsO_comp mix Tryz.func28 gc28_ok fun r H=>?_
 rw [p_deframe_Texts] at H
 conv=>whnf
 refine ask_c (p_deframe_State_deaf_v _) H rfl rfl (fun v1 H=>?_);conv=>whnf
 refine tst_c H (fun b2 H=>?_) (fun b2 H=>?_)
 ·conv=>whnf
  refine lq_ ?_;conv=>whnf
  refine finR_c (enc:=(fun r:DeframeState × (List ByteArray)=>.tup [DeframeState.v r.1,(fun l:List ByteArray=>V.sl (l.map V.s) false) r.2])) H ?_;conv=>whnf
  exact ⟨_,.tup (.cons (fzagg (.cons (.id rfl) (.cons (.id rfl) (.cons (.id rfl) (.nil)))) rfl) (.cons (.c (.slw)) (.nil)))⟩
 conv=>whnf
 refine cat_c H (fun s3 H=>?_);conv=>whnf
 refine lq_ ?_;conv=>whnf
 obtain ⟨o5,HL6,HQ7⟩:=bind_c H
 refine loop_c [5,6] [7,8,9,18,19,20,21,22,23,24,25,26,27,28,29,30,31,32,33,34,35,36,37,38,39,40,41,42,43,44,45,46,47,48,13,17] [7,8,9,18,19,20,21,22,23,24,25,26,27,28,29,30,31,32,33,34,35,36,37,38,39,40,41,42,43,44,45,46,47,48,13,17] (fun n vals st=>(∃ y9,p_deframe_Texts_l1  n [] y9=some o5∧vals=[.sl (List.map V.s []) true,.sl (List.map V.s []) true]∧st=[.live [.s y9.Buf,.i y9.Bad,.i y9.Seen] 0,.live [.s (⟨#[]⟩ : ByteArray),.i (0:Int),.i (0:Int)] 0])∨(∃ y15 y16,p_deframe_Texts_l1  n y15 y16=some o5∧vals=[.sl (List.map V.s []) true,.osl 2 0 (List.length y15) 1 false]∧st=[.live [.s y16.Buf,.i y16.Bad,.i y16.Seen] 0,.live [.s (⟨#[]⟩ : ByteArray),.i (0:Int),.i (0:Int)] 0,.live (cellsM V.s y15) (cellsM V.s y15).length])) fuel 2 [] (.inl (⟨_,HL6,rfl,rfl⟩)) (Nat.zero_le _) rfl (by kernel_rfl) (by kernel_rfl) rfl ⟨⟨rfl,rfl,rfl⟩,⟨⟨rfl,rfl,rfl⟩,trivial⟩⟩ ?_
 rintro (_ | n8) _ _ (⟨y9,H,rfl,rfl⟩ | ⟨y15,y16,H,rfl,rfl⟩)
 ·rw [p_deframe_Texts_l1] at H;cases H
 ·rw [p_deframe_Texts_l1] at H;cases H
 ·rw [p_deframe_Texts_l1] at H
  conv=>whnf
  refine ask_c (p_frame_Get_v _) H rfl rfl (fun v10 H=>?_);conv=>whnf
  refine tst_c H (fun b11 H=>?_) (fun b11 H=>?_)
  ·conv=>whnf
   refine lq_ ?_;conv=>whnf
   obtain rfl:=Option.some.inj H
   have H:=HQ7
   try dsimp only at H
   refine finR_c (enc:=(fun r:DeframeState × (List ByteArray)=>.tup [DeframeState.v r.1,(fun l:List ByteArray=>V.sl (l.map V.s) false) r.2])) H ?_;conv=>whnf
   exact ⟨_,.tup (.cons (fzagg (.cons (.id rfl) (.cons (.id rfl) (.cons (.id rfl) (.nil)))) rfl) (.cons (.c (.slw)) (.nil)))⟩
  conv=>whnf
  refine tst_c H (fun b12 H=>?_) (fun b12 H=>?_)
  ·conv=>whnf
   refine lq_ ?_;conv=>whnf
   refine lq_ ?_;conv=>whnf
   refine lq_ ?_;conv=>whnf
   obtain rfl:=Option.some.inj H
   have H:=HQ7
   try dsimp only at H
   refine finR_c (enc:=(fun r:DeframeState × (List ByteArray)=>.tup [DeframeState.v r.1,(fun l:List ByteArray=>V.sl (l.map V.s) false) r.2])) H ?_;conv=>whnf
   exact ⟨_,.tup (.cons (fzagg (.cons (.id rfl) (.cons (.id rfl) (.cons (.id rfl) (.nil)))) rfl) (.cons (.c (.slw)) (.nil)))⟩
  conv=>whnf
  refine appN_c (f:=V.s) H (fun _=>rfl) (srcM (f:=V.s) (fun _=>rfl) [] true) rfl (.v (srcOwn (f:=V.s) (l:=[v10.1]) (fun _=>rfl) rfl rfl rfl)) (by decide) rfl (by simp) (fun l13 H=>?_);conv=>whnf
  refine slt_c H (fun s14 H=>?_);conv=>whnf
  refine lq_ ?_;conv=>whnf
  refine Ari.w ?_;conv=>whnf
  refine lq_ ?_;conv=>whnf
  exact again_c [7,8,9,18,19,20,21,22,23,24,25,26,27,28,29,30,31,32,33,34,35,36,37,38,39,40,41,42,43,44,45,46,47,48,13,17] n8 3 [0,1,3] (.inr (⟨_,_,H,rfl,rfl⟩)) (Nat.lt_succ_self _) (Nat.zero_le _) rfl (by kernel_rfl) (by kernel_rfl) rfl ⟨⟨rfl,rfl,rfl⟩,⟨⟨rfl,rfl,rfl⟩,wkB_live0 rfl (cellsM_idlt (f:=V.s) (fun _=>rfl) _) rfl trivial⟩⟩
 rw [p_deframe_Texts_l1] at H
 conv=>whnf
 refine ask_c (p_frame_Get_v _) H rfl rfl (fun v17 H=>?_);conv=>whnf
 refine tst_c H (fun b18 H=>?_) (fun b18 H=>?_)
 ·conv=>whnf
  refine lq_ ?_;conv=>whnf
  obtain rfl:=Option.some.inj H
  have H:=HQ7
  try dsimp only at H
  refine finR_c (enc:=(fun r:DeframeState × (List ByteArray)=>.tup [DeframeState.v r.1,(fun l:List ByteArray=>V.sl (l.map V.s) false) r.2])) H ?_;conv=>whnf
  exact ⟨_,.tup (.cons (fzagg (.cons (.id rfl) (.cons (.id rfl) (.cons (.id rfl) (.nil)))) rfl) (.cons (.c (fzown (f:=V.s) (l:=y15) rfl rfl (fun _=>rfl) (fun _=>rfl))) (.nil)))⟩
 conv=>whnf
 refine tst_c H (fun b19 H=>?_) (fun b19 H=>?_)
 ·conv=>whnf
  refine lq_ ?_;conv=>whnf
  refine lq_ ?_;conv=>whnf
  refine lq_ ?_;conv=>whnf
  obtain rfl:=Option.some.inj H
  have H:=HQ7
  try dsimp only at H
  refine finR_c (enc:=(fun r:DeframeState × (List ByteArray)=>.tup [DeframeState.v r.1,(fun l:List ByteArray=>V.sl (l.map V.s) false) r.2])) H ?_;conv=>whnf
  exact ⟨_,.tup (.cons (fzagg (.cons (.id rfl) (.cons (.id rfl) (.cons (.id rfl) (.nil)))) rfl) (.cons (.c (fzown (f:=V.s) (l:=y15) rfl rfl (fun _=>rfl) (fun _=>rfl))) (.nil)))⟩
 conv=>whnf
 refine appO_c (f:=V.s) H (fun _=>rfl) rfl (Nat.le_refl _) (.v (srcOwn (f:=V.s) (l:=[v17.1]) (fun _=>rfl) rfl rfl rfl)) (by decide) rfl (by simp) (fun l20 H=>?_);conv=>whnf
 refine slt_c H (fun s21 H=>?_);conv=>whnf
 refine lq_ ?_;conv=>whnf
 refine Ari.w ?_;conv=>whnf
 refine lq_ ?_;conv=>whnf
 exact again_c [7,8,9,18,19,20,21,22,23,24,25,26,27,28,29,30,31,32,33,34,35,36,37,38,39,40,41,42,43,44,45,46,47,48,13,17] n8 3 [0,1,4] (.inr (⟨_,_,H,rfl,rfl⟩)) (Nat.lt_succ_self _) (Nat.zero_le _) rfl (by kernel_rfl) (by kernel_rfl) rfl ⟨⟨rfl,rfl,rfl⟩,⟨⟨rfl,rfl,rfl⟩,wkB_live0 rfl (cellsM_idlt (f:=V.s) (fun _=>rfl) _) rfl trivial⟩⟩
def gc58:BCode:=(.seq (R_ 0 [O_ 2 (.mv (.const (.slice none 0 0))) 0]) (.seq (R_ 0 [O_ 3 (.mv (.const (.slice none 0 0))) 0]) (.seq (.seq (R_ 0 [O_ 8 (.mv (t_ 0)) 0,O_ 9 (.lens (t_ 8)) 0,O_ 10 (.mv (i_ 0)) 0]) (.block 0 (.loop (.seq (R_ 0 [O_ 11 (.bin .lss (t_ 10) (t_ 9)) 0]) (.seq (.cond (t_ 11) .skip (.exit 0)) (.seq (.block 1 (.seq (R_ 0 [O_ 12 (.ixs 1 (t_ 8) (t_ 10)) 0,O_ 13 (.ld 1 false (t_ 12)) 0,O_ 5 (.mv (t_ 13)) 0]) (.seq (R_ 1 [O_ 15 (.mv (t_ 5)) 0,O_ 16 (.cl 106 [(t_ 15)]) 0,O_ 14 (.mv (t_ 16)) 0,O_ 17 (.ex (t_ 14) 0) 0,O_ 18 (.ex (t_ 14) 1) 0,O_ 6 (.al (.agg [(.lit (.int .u8 0)),(.lit (.string ⟨#[]⟩)),(.lit (.string ⟨#[]⟩)),(.lit (.string ⟨#[]⟩)),(.lit (.int .i64 0)),(.lit (.int .i64 0)),(.lit (.int .i64 0)),(.lit (.int .i64 0))])) 0,U_ (.st 8 (t_ 6) (t_ 17)) 1,O_ 7 (.mv (t_ 18)) 1]) (R_ 2 [O_ 19 (.mv (t_ 3)) 0,O_ 20 (.ld 8 true (t_ 6)) 0,O_ 21 (.mv (t_ 7)) 0,O_ 22 (.bd [(.lit (.int .u8 0)),(.lit (.string ⟨#[]⟩)),(.lit (.string ⟨#[]⟩)),(.lit (.string ⟨#[]⟩)),(.lit (.int .i64 0)),(.lit (.int .i64 0)),(.lit (.int .i64 0)),(.lit (.int .i64 0)),(.lit (.int .i64 0))] [(0,8,(t_ 20)),(8,1,(t_ 21))]) 0,O_ 23 (.bs 9 1 [(.lit (.int .u8 0)),(.lit (.string ⟨#[]⟩)),(.lit (.string ⟨#[]⟩)),(.lit (.string ⟨#[]⟩)),(.lit (.int .i64 0)),(.lit (.int .i64 0)),(.lit (.int .i64 0)),(.lit (.int .i64 0)),(.lit (.int .i64 0))] [(0,(t_ 22))]) 0,O_ 24 (.ap 9 96 (t_ 19) (t_ 23)) 1,O_ 3 (.mv (t_ 24)) 2])))) (R_ 0 [O_ 25 (.bin .add (t_ 10) (i_ 1)) 0,O_ 10 (.mv (t_ 25)) 0]))))))) (.seq (R_ 0 [O_ 26 (.mv (t_ 3)) 0,O_ 2 (.mv (t_ 26)) 0]) .ret))))
theorem gc58_ok:compF Tryz.prog Tryz.f58=some (gc58.er,27,[.tmp 2]):=by unfold gc58;kernel_rfl
theorem p_deframe_items_v {u1:Bool} (a0:List ByteArray):CallsO Tryz.prog 58 [.sl (List.map V.s a0) u1] (fun l:List DeframeItem=>V.sl (l.map DeframeItem.v) false) (p_deframe_items a0):=by
 refine callsO_comp mix Tryz.func58 gc58_ok fun r H=>?_
 rw [p_deframe_items] at H
 conv=>whnf
 refine LenQ.M ?_;conv=>whnf
 obtain ⟨o2,HL3,HQ4⟩:=bind_c H
 refine loop_c [3,10] [5,6,7,11,12,13,14,15,16,17,18,19,20,21,22,23,24,25] [5,6,7,11,12,13,14,15,16,17,18,19,20,21,22,23,24,25] (fun n vals st=>(∃ y6,p_deframe_items_l1  a0 (a0.length:Int) n [] y6=some o2∧vals=[.sl (List.map DeframeItem.v []) true,.i y6]∧st=[])∨(∃ y11 y12,p_deframe_items_l1  a0 (a0.length:Int) n y11 y12=some o2∧vals=[.osl 0 0 (List.length y11) 9 false,.i y12]∧st=[.live (cellsM DeframeItem.v y11) (cellsM DeframeItem.v y11).length])) fuel 0 [] (.inl (⟨_,HL3,rfl,rfl⟩)) (Nat.zero_le _) rfl (by kernel_rfl) (by kernel_rfl) rfl trivial ?_
 rintro (_ | n5) _ _ (⟨y6,H,rfl,rfl⟩ | ⟨y11,y12,H,rfl,rfl⟩)
 ·rw [p_deframe_items_l1] at H;cases H
 ·rw [p_deframe_items_l1] at H;cases H
 ·rw [p_deframe_items_l1] at H
  conv=>whnf
  refine tst_d H (fun b7 H=>?_) (fun b7 H=>?_)
  ·conv=>whnf
   obtain rfl:=Option.some.inj H
   have H:=HQ4
   try dsimp only at H
   refine finR_c (enc:=(fun l:List DeframeItem=>V.sl (l.map DeframeItem.v) false)) H ?_;conv=>whnf
   exact ⟨_,.v (.c (.slw))⟩
  conv=>whnf
  refine ixs_c (f:=V.s) H (fun _=>rfl) (fun x8 H=>?_);conv=>whnf
  refine ask_c (p_stanza_Read_v _) H rfl rfl (fun v9 H=>?_);conv=>whnf
  refine lq_ ?_;conv=>whnf
  refine appN_c (f:=DeframeItem.v) H (fun _=>rfl) (srcM (f:=DeframeItem.v) (fun _=>rfl) [] true) rfl (.v (srcOwn (f:=DeframeItem.v) (l:=[(DeframeItem.mk v9.1 v9.2)]) (fun _=>rfl) rfl rfl rfl)) (by decide) rfl (by simp) (fun l10 H=>?_);conv=>whnf
  refine Ari.w ?_;conv=>whnf
  exact again_c [5,6,7,11,12,13,14,15,16,17,18,19,20,21,22,23,24,25] n5 1 [2] (.inr (⟨_,_,H,rfl,rfl⟩)) (Nat.lt_succ_self _) (Nat.zero_le _) rfl (by kernel_rfl) (by kernel_rfl) rfl (wkB_live0 rfl (cellsM_idlt (f:=DeframeItem.v) (fun _=>rfl) _) rfl trivial)
 rw [p_deframe_items_l1] at H
 conv=>whnf
 refine tst_d H (fun b13 H=>?_) (fun b13 H=>?_)
 ·conv=>whnf
  obtain rfl:=Option.some.inj H
  have H:=HQ4
  try dsimp only at H
  refine finR_c (enc:=(fun l:List DeframeItem=>V.sl (l.map DeframeItem.v) false)) H ?_;conv=>whnf
  exact ⟨_,.v (.c (fzown (f:=DeframeItem.v) (l:=y11) rfl rfl (fun _=>rfl) (fun _=>rfl)))⟩
 conv=>whnf
 refine ixs_c (f:=V.s) H (fun _=>rfl) (fun x14 H=>?_);conv=>whnf
 refine ask_c (p_stanza_Read_v _) H rfl rfl (fun v15 H=>?_);conv=>whnf
 refine lq_ ?_;conv=>whnf
 refine appO_c (f:=DeframeItem.v) H (fun _=>rfl) rfl (Nat.le_refl _) (.v (srcOwn (f:=DeframeItem.v) (l:=[(DeframeItem.mk v15.1 v15.2)]) (fun _=>rfl) rfl rfl rfl)) (by decide) rfl (by simp) (fun l16 H=>?_);conv=>whnf
 refine Ari.w ?_;conv=>whnf
 exact again_c [5,6,7,11,12,13,14,15,16,17,18,19,20,21,22,23,24,25] n5 1 [3] (.inr (⟨_,_,H,rfl,rfl⟩)) (Nat.lt_succ_self _) (Nat.zero_le _) rfl (by kernel_rfl) (by kernel_rfl) rfl (wkB_live0 rfl (cellsM_idlt (f:=DeframeItem.v) (fun _=>rfl) _) rfl trivial)
def gc26:BCode:=(.seq (R_ 2 [O_ 2 (.bx (t_ 0)) 0,O_ 4 (.al (.agg [(.lit (.string ⟨#[]⟩)),(.lit (.int .i64 0)),(.lit (.int .i64 0))])) 1,O_ 5 (.mv (.const (.slice none 0 0))) 2]) (.seq (R_ 1 [O_ 9 (.ld 3 true (t_ 2)) 0,O_ 10 (.mv (t_ 1)) 0,O_ 11 (.cl 28 [(t_ 9),(t_ 10)]) 0,O_ 8 (.mv (t_ 11)) 0,O_ 12 (.ex (t_ 8) 0) 0,O_ 13 (.ex (t_ 8) 1) 0,O_ 6 (.al (.agg [(.lit (.string ⟨#[]⟩)),(.lit (.int .i64 0)),(.lit (.int .i64 0))])) 0,U_ (.st 3 (t_ 6) (t_ 12)) 1,O_ 7 (.mv (t_ 13)) 1]) (.seq (.reg 0 [O_ 14 (.ld 3 true (t_ 6)) 0,O_ 15 (.mv (t_ 7)) 0,O_ 16 (.cl 58 [(t_ 15)]) 0,U_ (.st 3 (t_ 4) (t_ 14)) 0,O_ 5 (.mv (t_ 16)) 0] (some [[],[],[1],[1,2,0],[0,3,1,2]]) 0 []) .ret)))
theorem gc26_ok:compF Tryz.prog Tryz.f26=some (gc26.er,17,[.cell 4 3 true,.tmp 5]):=by unfold gc26;kernel_rfl
theorem p_deframe_Feed_v (a0:DeframeState) (a1:ByteArray):CallsO Tryz.prog 26 [.agg [.s a0.Buf,.i a0.Bad,.i a0.Seen],.s a1] (fun r:DeframeState × (List DeframeItem)=>.tup [DeframeState.v r.1,(fun l:List DeframeItem=>V.sl (l.map DeframeItem.v) false) r.2]) (p_deframe_Feed a0 a1):=by
 refine callsO_comp mix Tryz.func26 gc26_ok fun r H=>?_
 rw [p_deframe_Feed] at H
 conv=>whnf
 refine ask_c (p_deframe_Texts_v _ _) H rfl rfl (fun v1 H=>?_);conv=>whnf
 refine lq_ ?_;conv=>whnf
 refine ask_c (p_deframe_items_v _) H rfl rfl (fun v2 H=>?_);conv=>whnf
 refine lq_ ?_;conv=>whnf
 refine FootQ.mk ⟨rfl,?_⟩;conv=>whnf
 exact fin0_c (enc:=(fun r:DeframeState × (List DeframeItem)=>.tup [DeframeState.v r.1,(fun l:List DeframeItem=>V.sl (l.map DeframeItem.v) false) r.2])) H (.inr rfl) (.cons (.cell rfl rfl (Nat.le_of_ble_eq_true rfl)) (.cons (.tmp rfl) (.nil))) rfl rfl
def gc39:BCode:=(.seq (R_ 0 [O_ 2 (.mv (.const (.string ⟨#[]⟩))) 0,O_ 3 (.mv (i_ 0)) 0]) (.seq (R_ 0 [O_ 4 (.mv (.const (.slice none 0 0))) 0]) (.seq (.seq (R_ 0 [O_ 9 (.mv (t_ 0)) 0,O_ 10 (.lens (t_ 9)) 0,O_ 11 (.mv (i_ 0)) 0]) (.block 0 (.loop (.seq (R_ 0 [O_ 12 (.bin .lss (t_ 11) (t_ 10)) 0]) (.seq (.cond (t_ 12) .skip (.exit 0)) (.seq (.block 1 (.seq (R_ 1 [O_ 13 (.ixs 8 (t_ 9) (t_ 11)) 0,O_ 14 (.ld 8 true (t_ 13)) 0,O_ 6 (.al (.agg [(.lit (.int .u8 0)),(.lit (.string ⟨#[]⟩)),(.lit (.string ⟨#[]⟩)),(.lit (.string ⟨#[]⟩)),(.lit (.int .i64 0)),(.lit (.int .i64 0)),(.lit (.int .i64 0)),(.lit (.int .i64 0))])) 0,U_ (.st 8 (t_ 6) (t_ 14)) 1]) (.seq (R_ 0 [O_ 16 (.ld 8 true (t_ 6)) 0,O_ 17 (.cl 49 [(t_ 16)]) 0,O_ 15 (.mv (t_ 17)) 0,O_ 18 (.ex (t_ 15) 0) 0,O_ 19 (.ex (t_ 15) 1) 0,O_ 7 (.mv (t_ 18)) 0,O_ 8 (.mv (t_ 19)) 0]) (.seq (.seq (R_ 0 [O_ 20 (.mv (t_ 8)) 0,O_ 21 (.bin .neq (t_ 20) (i_ 0)) 0]) (.cond (t_ 21) (.seq (R_ 0 [O_ 22 (.mv (t_ 8)) 0,O_ 2 (.mv (.const (.string ⟨#[]⟩))) 0,O_ 3 (.mv (t_ 22)) 0]) .ret) .skip)) (R_ 2 [O_ 23 (.mv (t_ 4)) 0,O_ 24 (.mv (t_ 7)) 0,O_ 25 (.bs 1 1 [(.lit (.string ⟨#[]⟩))] [(0,(t_ 24))]) 0,O_ 26 (.ap 1 16 (t_ 23) (t_ 25)) 1,O_ 4 (.mv (t_ 26)) 2]))))) (R_ 0 [O_ 27 (.bin .add (t_ 11) (i_ 1)) 0,O_ 11 (.mv (t_ 27)) 0]))))))) (.seq (R_ 0 [O_ 28 (.mv (t_ 4)) 0,O_ 29 (.cl 63 [(t_ 28)]) 0,O_ 30 (.ex (t_ 29) 0) 0,O_ 31 (.ex (t_ 29) 1) 0,O_ 2 (.mv (t_ 30)) 0,O_ 3 (.mv (t_ 31)) 0]) .ret))))
theorem gc39_ok:compF Tryz.prog Tryz.f39=some (gc39.er,32,[.tmp 2,.tmp 3]):=by unfold gc39;kernel_rfl
theorem p_deframe_Encode_v {u1:Bool} (a0:List StanzaStanza):CallsO Tryz.prog 39 [.sl (List.map StanzaStanza.v a0) u1] (fun r:ByteArray × Int=>.tup [V.s r.1,V.i r.2]) (p_deframe_Encode a0):=by
 refine callsO_comp mix Tryz.func39 gc39_ok fun r H=>?_
 rw [p_deframe_Encode] at H
 conv=>whnf
 refine LenQ.M ?_;conv=>whnf
 obtain ⟨o2,HL3,HQ4⟩:=bind_c H
 refine loop_c [2,3,4,11] [6,7,8,12,13,14,15,16,17,18,19,20,21,22,23,24,25,26,27] [6,7,8,12,13,14,15,16,17,18,19,20,21,22,23,24,25,26,27] (fun n vals st=>(∃ y6,p_deframe_Encode_l1  a0 (a0.length:Int) n [] y6=some o2∧vals=[.s (⟨#[]⟩ : ByteArray),.i (0:Int),.sl (List.map V.s []) true,.i y6]∧st=[])∨(∃ y12 y13,p_deframe_Encode_l1  a0 (a0.length:Int) n y12 y13=some o2∧vals=[.s (⟨#[]⟩ : ByteArray),.i (0:Int),.osl 0 0 (List.length y12) 1 false,.i y13]∧st=[.live (cellsM V.s y12) (cellsM V.s y12).length])) fuel 0 [] (.inl (⟨_,HL3,rfl,rfl⟩)) (Nat.zero_le _) rfl (by kernel_rfl) (by kernel_rfl) rfl trivial ?_
 rintro (_ | n5) _ _ (⟨y6,H,rfl,rfl⟩ | ⟨y12,y13,H,rfl,rfl⟩)
 ·rw [p_deframe_Encode_l1] at H;cases H
 ·rw [p_deframe_Encode_l1] at H;cases H
 ·rw [p_deframe_Encode_l1] at H
  conv=>whnf
  refine tst_d H (fun b7 H=>?_) (fun b7 H=>?_)
  ·conv=>whnf
   obtain rfl:=Option.some.inj H
   have H:=HQ4
   try dsimp only at H
   refine ask_c (p_frame_Join_v _) H rfl rfl (fun v14 H=>?_);conv=>whnf
   exact fin0_c (enc:=(fun r:ByteArray × Int=>.tup [V.s r.1,V.i r.2])) H (.inr rfl) (.cons (.tmp rfl) (.cons (.tmp rfl) (.nil))) rfl rfl
  conv=>whnf
  refine ixs_c (f:=StanzaStanza.v) H (fun _=>rfl) (fun x8 H=>?_);conv=>whnf
  refine lq_ ?_;conv=>whnf
  refine ask_c (p_stanza_Put_v _) H rfl rfl (fun v9 H=>?_);conv=>whnf
  refine tst_c H (fun b10 H=>?_) (fun b10 H=>?_)
  ·conv=>whnf
   obtain rfl:=Option.some.inj H
   have H:=HQ4
   try dsimp only at H
   exact fin0_c (enc:=(fun r:ByteArray × Int=>.tup [V.s r.1,V.i r.2])) H (.inr rfl) (.cons (.tmp rfl) (.cons (.tmp rfl) (.nil))) rfl rfl
  conv=>whnf
  refine appN_c (f:=V.s) H (fun _=>rfl) (srcM (f:=V.s) (fun _=>rfl) [] true) rfl (.v (srcOwn (f:=V.s) (l:=[v9.1]) (fun _=>rfl) rfl rfl rfl)) (by decide) rfl (by simp) (fun l11 H=>?_);conv=>whnf
  refine Ari.w ?_;conv=>whnf
  exact again_c [6,7,8,12,13,14,15,16,17,18,19,20,21,22,23,24,25,26,27] n5 1 [2] (.inr (⟨_,_,H,rfl,rfl⟩)) (Nat.lt_succ_self _) (Nat.zero_le _) rfl (by kernel_rfl) (by kernel_rfl) rfl (wkB_live0 rfl (cellsM_idlt (f:=V.s) (fun _=>rfl) _) rfl trivial)
 rw [p_deframe_Encode_l1] at H
 conv=>whnf
 refine tst_d H (fun b15 H=>?_) (fun b15 H=>?_)
 ·conv=>whnf
  obtain rfl:=Option.some.inj H
  have H:=HQ4
  try dsimp only at H
  refine askF_c (p_frame_Join_v _) H (.cons (.c (fzown (f:=V.s) (l:=y12) rfl rfl (fun _=>rfl) (fun _=>rfl))) (.nil)) (fun v20 H=>?_);conv=>whnf
  exact fin0_c (enc:=(fun r:ByteArray × Int=>.tup [V.s r.1,V.i r.2])) H (.inr rfl) (.cons (.tmp rfl) (.cons (.tmp rfl) (.nil))) rfl rfl
 conv=>whnf
 refine ixs_c (f:=StanzaStanza.v) H (fun _=>rfl) (fun x16 H=>?_);conv=>whnf
 refine lq_ ?_;conv=>whnf
 refine ask_c (p_stanza_Put_v _) H rfl rfl (fun v17 H=>?_);conv=>whnf
 refine tst_c H (fun b18 H=>?_) (fun b18 H=>?_)
 ·conv=>whnf
  obtain rfl:=Option.some.inj H
  have H:=HQ4
  try dsimp only at H
  exact fin0_c (enc:=(fun r:ByteArray × Int=>.tup [V.s r.1,V.i r.2])) H (.inr rfl) (.cons (.tmp rfl) (.cons (.tmp rfl) (.nil))) rfl rfl
 conv=>whnf
 refine appO_c (f:=V.s) H (fun _=>rfl) rfl (Nat.le_refl _) (.v (srcOwn (f:=V.s) (l:=[v17.1]) (fun _=>rfl) rfl rfl rfl)) (by decide) rfl (by simp) (fun l19 H=>?_);conv=>whnf
 refine Ari.w ?_;conv=>whnf
 exact again_c [6,7,8,12,13,14,15,16,17,18,19,20,21,22,23,24,25,26,27] n5 1 [3] (.inr (⟨_,_,H,rfl,rfl⟩)) (Nat.lt_succ_self _) (Nat.zero_le _) rfl (by kernel_rfl) (by kernel_rfl) rfl (wkB_live0 rfl (cellsM_idlt (f:=V.s) (fun _=>rfl) _) rfl trivial)
end Go.Proofs.YtmmmcpeickfolaaGreat

namespace Go.Proofs.YtmmmcpeickfolaaGreat
open Go.RowKit
set_option maxRecDepth 1000000
set_option maxHeartbeats 4000000
def gc36:BCode:=(.seq (R_ 1 [O_ 1 (.bx (t_ 0)) 0,O_ 2 (.mv (i_ 0)) 1]) (.seq (.seq (R_ 0 [O_ 4 (.ld 3 true (t_ 1)) 0,O_ 5 (.cl 60 [(t_ 4)]) 0]) (.cond (t_ 5) (.seq (R_ 0 [O_ 2 (.mv (i_ 0)) 0]) .ret) .skip)) (.seq (R_ 0 [O_ 3 (.mv (i_ 2)) 0]) (.seq (.seq (R_ 0 [O_ 6 (.fa 0 (t_ 1)) 0,O_ 7 (.ld 1 false (t_ 6)) 0,O_ 8 (.lent (t_ 7)) 0,O_ 9 (.bin .geq (t_ 8) (i_ 2)) 0]) (.cond (t_ 9) (.reg 0 [O_ 10 (.mv (t_ 3)) 0,O_ 11 (.fa 0 (t_ 1)) 0,O_ 12 (.ld 1 false (t_ 11)) 0,O_ 13 (.ixt (t_ 12) (i_ 0)) 0,O_ 14 (.cvi .i64 (t_ 13)) 0,O_ 15 (.bin .shl (t_ 14) (.const (.int .u64 8))) 0,O_ 16 (.fa 0 (t_ 1)) 0,O_ 17 (.ld 1 false (t_ 16)) 0,O_ 18 (.ixt (t_ 17) (i_ 1)) 0,O_ 19 (.cvi .i64 (t_ 18)) 0,O_ 20 (.bin .or (t_ 15) (t_ 19)) 0,O_ 21 (.bin .add (t_ 10) (t_ 20)) 0,O_ 3 (.mv (t_ 21)) 0] (some [[],[],[1],[1,2],[2,1,3],[3,1,2,4],[],[6],[6,7],[7,6,8],[8,6,7,9,4,2,1,3,5],[5,3,1,2,4,9,7,6,8,10,0],[0,10,8,6,7,9,4,2,1,3,5,11]]) 0 []) .skip)) (.seq (R_ 0 [O_ 22 (.mv (t_ 3)) 0,O_ 23 (.fa 0 (t_ 1)) 0,O_ 24 (.ld 1 false (t_ 23)) 0,O_ 25 (.lent (t_ 24)) 0,O_ 26 (.bin .sub (t_ 22) (t_ 25)) 0,O_ 2 (.mv (t_ 26)) 0]) .ret)))))
theorem gc36_ok:compF Tryz.prog Tryz.f36=some (gc36.er,27,[.tmp 2]):=by unfold gc36;kernel_rfl
theorem p_deframe_Need_v (a0:DeframeState):CallsO Tryz.prog 36 [.agg [.s a0.Buf,.i a0.Bad,.i a0.Seen]] V.i (p_deframe_Need a0):=by
 refine callsO_comp mix Tryz.func36 gc36_ok fun r H=>?_
 rw [p_deframe_Need] at H
 conv=>whnf
 refine ask_c (p_deframe_State_deaf_v _) H rfl rfl (fun v1 H=>?_);conv=>whnf
 refine tst_c H (fun b2 H=>?_) (fun b2 H=>?_)
 ·conv=>whnf
  exact fi_ H
 conv=>whnf
 refine tst_d H (fun b3 H=>?_) (fun b3 H=>?_)
 ·conv=>whnf
  refine Ari.w ?_;conv=>whnf
  exact fi_ H
 conv=>whnf
 refine ixt_c H (fun c4 H=>?_);conv=>whnf
 refine Ari.w ?_;conv=>whnf
 refine Shl.ok (by decide) ?_;conv=>whnf
 refine ixt_c H (fun c5 H=>?_);conv=>whnf
 iterate 2 (refine Ari.w ?_;conv=>whnf)
 refine FootQ.mk ⟨rfl,?_⟩;conv=>whnf
 refine Ari.w ?_;conv=>whnf
 exact fi_ H
def gc25:BCode:=(.seq (R_ 0 [O_ 0 (.mv (b_ false)) 0]) (.seq (R_ 1 [O_ 14 (.bd [(.lit (.string ⟨#[]⟩)),(.lit (.int .i64 0)),(.lit (.int .i64 0))] []) 0,O_ 15 (.cl 26 [(t_ 14),(.const (.string ⟨#[0,1]⟩))]) 0,O_ 13 (.mv (t_ 15)) 0,O_ 16 (.ex (t_ 13) 0) 0,O_ 17 (.ex (t_ 13) 1) 0,O_ 1 (.al (.agg [(.lit (.string ⟨#[]⟩)),(.lit (.int .i64 0)),(.lit (.int .i64 0))])) 0,U_ (.st 3 (t_ 1) (t_ 16)) 1,O_ 2 (.mv (t_ 17)) 1]) (.seq (R_ 1 [O_ 19 (.ld 3 true (t_ 1)) 0,O_ 20 (.cl 26 [(t_ 19),(.const (.string ⟨#[2,0,2,16,120,0]⟩))]) 0,O_ 18 (.mv (t_ 20)) 0,O_ 21 (.ex (t_ 18) 0) 0,O_ 22 (.ex (t_ 18) 1) 0,O_ 3 (.al (.agg [(.lit (.string ⟨#[]⟩)),(.lit (.int .i64 0)),(.lit (.int .i64 0))])) 0,U_ (.st 3 (t_ 3) (t_ 21)) 1,O_ 4 (.mv (t_ 22)) 1]) (.seq (R_ 1 [O_ 24 (.ld 3 true (t_ 3)) 0,O_ 25 (.cl 26 [(t_ 24),(.const (.string ⟨#[0,120]⟩))]) 0,O_ 23 (.mv (t_ 25)) 0,O_ 26 (.ex (t_ 23) 0) 0,O_ 27 (.ex (t_ 23) 1) 0,O_ 5 (.al (.agg [(.lit (.string ⟨#[]⟩)),(.lit (.int .i64 0)),(.lit (.int .i64 0))])) 0,U_ (.st 3 (t_ 5) (t_ 26)) 1,O_ 6 (.mv (t_ 27)) 1]) (.seq (R_ 1 [O_ 29 (.ld 3 true (t_ 5)) 0,O_ 30 (.cl 28 [(t_ 29),(.const (.string ⟨#[0,1,2]⟩))]) 0,O_ 28 (.mv (t_ 30)) 0,O_ 31 (.ex (t_ 28) 0) 0,O_ 32 (.ex (t_ 28) 1) 0,O_ 7 (.al (.agg [(.lit (.string ⟨#[]⟩)),(.lit (.int .i64 0)),(.lit (.int .i64 0))])) 0,U_ (.st 3 (t_ 7) (t_ 31)) 1,O_ 8 (.mv (t_ 32)) 1]) (.seq (R_ 1 [O_ 34 (.bd [(.lit (.int .u8 0)),(.lit (.string ⟨#[]⟩)),(.lit (.string ⟨#[]⟩)),(.lit (.string ⟨#[]⟩)),(.lit (.int .i64 0)),(.lit (.int .i64 0)),(.lit (.int .i64 0)),(.lit (.int .i64 0))] [(0,1,(.const (.int .u8 2)))]) 0,O_ 35 (.bd [(.lit (.int .u8 0)),(.lit (.string ⟨#[]⟩)),(.lit (.string ⟨#[]⟩)),(.lit (.string ⟨#[]⟩)),(.lit (.int .i64 0)),(.lit (.int .i64 0)),(.lit (.int .i64 0)),(.lit (.int .i64 0))] [(0,1,(.const (.int .u8 15))),(7,1,(i_ 1))]) 0,O_ 36 (.bs 8 2 [(.lit (.int .u8 0)),(.lit (.string ⟨#[]⟩)),(.lit (.string ⟨#[]⟩)),(.lit (.string ⟨#[]⟩)),(.lit (.int .i64 0)),(.lit (.int .i64 0)),(.lit (.int .i64 0)),(.lit (.int .i64 0)),(.lit (.int .u8 0)),(.lit (.string ⟨#[]⟩)),(.lit (.string ⟨#[]⟩)),(.lit (.string ⟨#[]⟩)),(.lit (.int .i64 0)),(.lit (.int .i64 0)),(.lit (.int .i64 0)),(.lit (.int .i64 0))] [(0,(t_ 34)),(1,(t_ 35))]) 0,O_ 37 (.cl 39 [(t_ 36)]) 1,O_ 33 (.mv (t_ 37)) 1,O_ 38 (.ex (t_ 33) 0) 1,O_ 39 (.ex (t_ 33) 1) 1,O_ 9 (.mv (t_ 38)) 1,O_ 10 (.mv (t_ 39)) 1]) (.seq (R_ 1 [O_ 41 (.bd [(.lit (.int .u8 0)),(.lit (.string ⟨#[]⟩)),(.lit (.string ⟨#[]⟩)),(.lit (.string ⟨#[]⟩)),(.lit (.int .i64 0)),(.lit (.int .i64 0)),(.lit (.int .i64 0)),(.lit (.int .i64 0))] []) 0,O_ 42 (.bs 8 1 [(.lit (.int .u8 0)),(.lit (.string ⟨#[]⟩)),(.lit (.string ⟨#[]⟩)),(.lit (.string ⟨#[]⟩)),(.lit (.int .i64 0)),(.lit (.int .i64 0)),(.lit (.int .i64 0)),(.lit (.int .i64 0))] [(0,(t_ 41))]) 0,O_ 43 (.cl 39 [(t_ 42)]) 1,O_ 40 (.mv (t_ 43)) 1,O_ 44 (.ex (t_ 40) 0) 1,O_ 45 (.ex (t_ 40) 1) 1,O_ 11 (.mv (t_ 44)) 1,O_ 12 (.mv (t_ 45)) 1]) (.seq (R_ 0 [O_ 46 (.mv (t_ 2)) 0,O_ 47 (.lens (t_ 46)) 0,O_ 48 (.bin .eql (t_ 47) (i_ 0)) 0,O_ 49 (.mv (t_ 48)) 0,⟨(some 50),.ld 3 true (t_ 1),(some (49,true)),0⟩,⟨(some 51),.cl 36 [(t_ 50)],(some (49,true)),0⟩,⟨(some 52),.bin .eql (t_ 51) (i_ 1),(some (49,true)),0⟩,O_ 53 (.pick (t_ 49) (t_ 52) (b_ false)) 0,O_ 54 (.mv (t_ 53)) 0,⟨(some 55),.mv (t_ 4),(some (54,true)),0⟩,⟨(some 56),.lens (t_ 55),(some (54,true)),0⟩,⟨(some 57),.bin .eql (t_ 56) (i_ 2),(some (54,true)),0⟩,O_ 58 (.pick (t_ 54) (t_ 57) (b_ false)) 0,O_ 59 (.mv (t_ 58)) 0,⟨(some 60),.mv (t_ 4),(some (59,true)),0⟩,⟨(some 61),.ixs 9 (t_ 60) (i_ 0),(some (59,true)),0⟩,⟨(some 62),.fa 0 (t_ 61),(some (59,true)),0⟩,⟨(some 63),.fa 0 (t_ 62),(some (59,true)),0⟩,⟨(some 64),.ld 1 false (t_ 63),(some (59,true)),0⟩,⟨(some 65),.bin .eql (t_ 64) (.const (.int .u8 2)),(some (59,true)),0⟩,O_ 66 (.pick (t_ 59) (t_ 65) (b_ false)) 0,O_ 67 (.mv (t_ 66)) 0,⟨(some 68),.mv (t_ 4),(some (67,true)),0⟩,⟨(some 69),.ixs 9 (t_ 68) (i_ 0),(some (67,true)),0⟩,⟨(some 70),.fa 8 (t_ 69),(some (67,true)),0⟩,⟨(some 71),.ld 1 false (t_ 70),(some (67,true)),0⟩,⟨(some 72),.bin .eql (t_ 71) (i_ 0),(some (67,true)),0⟩,O_ 73 (.pick (t_ 67) (t_ 72) (b_ false)) 0,O_ 74 (.mv (t_ 73)) 0,⟨(some 75),.mv (t_ 4),(some (74,true)),0⟩,⟨(some 76),.ixs 9 (t_ 75) (i_ 1),(some (74,true)),0⟩,⟨(some 77),.fa 8 (t_ 76),(some (74,true)),0⟩,⟨(some 78),.ld 1 false (t_ 77),(some (74,true)),0⟩,⟨(some 79),.bin .eql (t_ 78) (i_ 12),(some (74,true)),0⟩,O_ 80 (.pick (t_ 74) (t_ 79) (b_ false)) 0,O_ 81 (.mv (t_ 80)) 0,⟨(some 82),.fa 0 (t_ 3),(some (81,true)),0⟩,⟨(some 83),.ld 1 false (t_ 82),(some (81,true)),0⟩,⟨(some 84),.bin .eql (t_ 83) (.const (.string ⟨#[0]⟩)),(some (81,true)),0⟩,O_ 85 (.pick (t_ 81) (t_ 84) (b_ false)) 0,O_ 86 (.mv (t_ 85)) 0,⟨(some 87),.fa 2 (t_ 3),(some (86,true)),0⟩,⟨(some 88),.ld 1 false (t_ 87),(some (86,true)),0⟩,⟨(some 89),.bin .eql (t_ 88) (i_ 2),(some (86,true)),0⟩,O_ 90 (.pick (t_ 86) (t_ 89) (b_ false)) 0,O_ 91 (.mv (t_ 90)) 0,⟨(some 92),.ld 3 true (t_ 3),(some (91,true)),0⟩,⟨(some 93),.cl 36 [(t_ 92)],(some (91,true)),0⟩,⟨(some 94),.bin .eql (t_ 93) (i_ 1),(some (91,true)),0⟩,O_ 95 (.pick (t_ 91) (t_ 94) (b_ false)) 0,O_ 96 (.mv (t_ 95)) 0,⟨(some 97),.fa 1 (t_ 5),(some (96,true)),0⟩,⟨(some 98),.ld 1 false (t_ 97),(some (96,true)),0⟩,⟨(some 99),.bin .eql (t_ 98) (i_ 4),(some (96,true)),0⟩,O_ 100 (.pick (t_ 96) (t_ 99) (b_ false)) 0,O_ 101 (.mv (t_ 100)) 0,⟨(some 102),.mv (t_ 6),(some (101,true)),0⟩,⟨(some 103),.lens (t_ 102),(some (101,true)),0⟩,⟨(some 104),.bin .eql (t_ 103) (i_ 0),(some (101,true)),0⟩,O_ 105 (.pick (t_ 101) (t_ 104) (b_ false)) 0,O_ 106 (.mv (t_ 105)) 0,⟨(some 107),.ld 3 true (t_ 7),(some (106,true)),0⟩,⟨(some 108),.ld 3 true (t_ 5),(some (106,true)),0⟩,⟨(some 109),.eqa false [2,1,1] (t_ 107) (t_ 108),(some (106,true)),0⟩,O_ 110 (.pick (t_ 106) (t_ 109) (b_ false)) 0,O_ 111 (.mv (t_ 110)) 0,⟨(some 112),.mv (t_ 8),(some (111,true)),0⟩,⟨(some 113),.lens (t_ 112),(some (111,true)),0⟩,⟨(some 114),.bin .eql (t_ 113) (i_ 0),(some (111,true)),0⟩,O_ 115 (.pick (t_ 111) (t_ 114) (b_ false)) 0,O_ 116 (.mv (t_ 115)) 0,⟨(some 117),.mv (t_ 9),(some (116,true)),0⟩,⟨(some 118),.bin .eql (t_ 117) (.const (.string ⟨#[0,1,2,0,7,15,0,0,0,0,0,1]⟩)),(some (116,true)),0⟩,O_ 119 (.pick (t_ 116) (t_ 118) (b_ false)) 0,O_ 120 (.mv (t_ 119)) 0,⟨(some 121),.mv (t_ 10),(some (120,true)),0⟩,⟨(some 122),.bin .eql (t_ 121) (i_ 0),(some (120,true)),0⟩,O_ 123 (.pick (t_ 120) (t_ 122) (b_ false)) 0,O_ 124 (.mv (t_ 123)) 0,⟨(some 125),.mv (t_ 12),(some (124,true)),0⟩,⟨(some 126),.bin .eql (t_ 125) (i_ 12),(some (124,true)),0⟩,O_ 127 (.pick (t_ 124) (t_ 126) (b_ false)) 0,O_ 128 (.mv (t_ 127)) 0,⟨(some 129),.ld 3 true (t_ 3),(some (128,true)),0⟩,⟨(some 130),.cl 34 [(t_ 129)],(some (128,true)),0⟩,⟨(some 131),.bin .eql (t_ 130) (i_ 0),(some (128,true)),0⟩,O_ 132 (.pick (t_ 128) (t_ 131) (b_ false)) 0,O_ 133 (.mv (t_ 132)) 0,⟨(some 134),.bd [(.lit (.string ⟨#[]⟩)),(.lit (.int .i64 0)),(.lit (.int .i64 0))] [(2,1,(.const (.int .i64 (-1))))],(some (133,true)),0⟩,⟨(some 135),.cl 34 [(t_ 134)],(some (133,true)),0⟩,⟨(some 136),.bin .eql (t_ 135) (i_ 8),(some (133,true)),0⟩,O_ 137 (.pick (t_ 133) (t_ 136) (b_ false)) 0,O_ 138 (.mv (t_ 137)) 0,O_ 139 (.pick (t_ 138) (b_ true) (b_ false)) 0,O_ 140 (.mv (t_ 139)) 0,O_ 141 (.pick (t_ 140) (b_ true) (b_ false)) 0,O_ 142 (.mv (t_ 141)) 0,O_ 143 (.pick (t_ 142) (b_ true) (b_ false)) 0,O_ 0 (.mv (t_ 143)) 0]) .ret))))))))
theorem gc25_ok:compF Tryz.prog Tryz.f25=some (gc25.er,144,[.tmp 0]):=by unfold gc25;kernel_rfl
theorem p_law12_awake_t:CallsO Tryz.prog 25 [] V.b (tru? (p_law12_awake)):=by
 refine callsO_comp mix Tryz.func25 gc25_ok fun r H=>?_
 have H1:=tru_of H
 clear H
 obtain ⟨rfl,H⟩:=H1
 rw [p_law12_awake] at H
 conv=>whnf
 refine ask_c (p_deframe_Feed_v _ _) H rfl rfl (fun v1 H=>?_);conv=>whnf
 refine lq_ ?_;conv=>whnf
 refine ask_c (p_deframe_Feed_v _ _) H rfl rfl (fun v2 H=>?_);conv=>whnf
 refine lq_ ?_;conv=>whnf
 refine ask_c (p_deframe_Feed_v _ _) H rfl rfl (fun v3 H=>?_);conv=>whnf
 refine lq_ ?_;conv=>whnf
 refine ask_c (p_deframe_Texts_v _ _) H rfl rfl (fun v4 H=>?_);conv=>whnf
 refine lq_ ?_;conv=>whnf
 refine askF_c (p_deframe_Encode_v _) H (.cons (.c (fzown (f:=StanzaStanza.v) (l:=[(StanzaStanza.mk (2:Int) (⟨#[]⟩ : ByteArray) (⟨#[]⟩ : ByteArray) (⟨#[]⟩ : ByteArray) (0:Int) (0:Int) (0:Int) (0:Int)),(StanzaStanza.mk (15:Int) (⟨#[]⟩ : ByteArray) (⟨#[]⟩ : ByteArray) (⟨#[]⟩ : ByteArray) (0:Int) (0:Int) (0:Int) (1:Int))]) rfl rfl (fun _=>rfl) (fun _=>rfl))) (.nil)) (fun v5 H=>?_);conv=>whnf
 refine askF_c (p_deframe_Encode_v _) H (.cons (.c (fzown (f:=StanzaStanza.v) (l:=[(StanzaStanza.mk (0:Int) (⟨#[]⟩ : ByteArray) (⟨#[]⟩ : ByteArray) (⟨#[]⟩ : ByteArray) (0:Int) (0:Int) (0:Int) (0:Int))]) rfl rfl (fun _=>rfl) (fun _=>rfl))) (.nil)) (fun v6 H=>?_);conv=>whnf
 refine LenQ.M ?_;conv=>whnf
 refine tstT_c H (fun b7 H=>?_);conv=>whnf
 refine Tst.T ?_;conv=>whnf
 refine ask_c (p_deframe_Need_v _) H rfl rfl (fun v8 H=>?_);conv=>whnf
 iterate 2 (refine Tst.T ?_;conv=>whnf)
 refine tstT_c H (fun b9 H=>?_);conv=>whnf
 refine Tst.T ?_;conv=>whnf
 refine LenQ.M ?_;conv=>whnf
 iterate 2 (refine Tst.T ?_;conv=>whnf)
 refine tstT_c H (fun b10 H=>?_);conv=>whnf
 refine Tst.T ?_;conv=>whnf
 refine ixs_c (f:=DeframeItem.v) H (fun _=>rfl) (fun x11 H=>?_);conv=>whnf
 refine Tst.T ?_;conv=>whnf
 refine lq_ ?_;conv=>whnf
 refine Tst.T ?_;conv=>whnf
 refine lq_ ?_;conv=>whnf
 iterate 3 (refine Tst.T ?_;conv=>whnf)
 refine tstT_c H (fun b12 H=>?_);conv=>whnf
 refine Tst.T ?_;conv=>whnf
 refine ixs_c (f:=DeframeItem.v) H (fun _=>rfl) (fun x13 H=>?_);conv=>whnf
 refine Tst.T ?_;conv=>whnf
 refine lq_ ?_;conv=>whnf
 iterate 3 (refine Tst.T ?_;conv=>whnf)
 refine tstT_c H (fun b14 H=>?_);conv=>whnf
 refine Tst.T ?_;conv=>whnf
 refine ixs_c (f:=DeframeItem.v) H (fun _=>rfl) (fun x15 H=>?_);conv=>whnf
 refine Tst.T ?_;conv=>whnf
 refine lq_ ?_;conv=>whnf
 iterate 3 (refine Tst.T ?_;conv=>whnf)
 refine tstT_c H (fun b16 H=>?_);conv=>whnf
 iterate 3 (refine Tst.T ?_;conv=>whnf)
 refine tstT_c H (fun b17 H=>?_);conv=>whnf
 iterate 3 (refine Tst.T ?_;conv=>whnf)
 refine tstT_c H (fun b18 H=>?_);conv=>whnf
 refine Tst.T ?_;conv=>whnf
 refine ask_c (p_deframe_Need_v _) H rfl rfl (fun v19 H=>?_);conv=>whnf
 iterate 2 (refine Tst.T ?_;conv=>whnf)
 refine tstT_c H (fun b20 H=>?_);conv=>whnf
 iterate 3 (refine Tst.T ?_;conv=>whnf)
 refine tstT_c H (fun b21 H=>?_);conv=>whnf
 refine Tst.T ?_;conv=>whnf
 refine LenQ.M ?_;conv=>whnf
 iterate 2 (refine Tst.T ?_;conv=>whnf)
 refine tstT_c H (fun b22 H=>?_);conv=>whnf
 iterate 3 (refine Tst.T ?_;conv=>whnf)
 refine tstT_c H (fun b23 H=>?_);conv=>whnf
 refine Tst.T ?_;conv=>whnf
 refine LenQ.M ?_;conv=>whnf
 iterate 2 (refine Tst.T ?_;conv=>whnf)
 refine tstT_c H (fun b24 H=>?_);conv=>whnf
 iterate 2 (refine Tst.T ?_;conv=>whnf)
 refine tstT_c H (fun b25 H=>?_);conv=>whnf
 iterate 2 (refine Tst.T ?_;conv=>whnf)
 refine tstT_c H (fun b26 H=>?_);conv=>whnf
 iterate 2 (refine Tst.T ?_;conv=>whnf)
 refine tstT_c H (fun b27 H=>?_);conv=>whnf
 refine Tst.T ?_;conv=>whnf
 refine ask_c (p_deframe_Check_v _) H rfl rfl (fun v28 H=>?_);conv=>whnf
 iterate 2 (refine Tst.T ?_;conv=>whnf)
 refine tstT_c H (fun b29 H=>?_);conv=>whnf
 refine Tst.T ?_;conv=>whnf
 refine ask_c (p_deframe_Check_v _) H rfl rfl (fun v30 H=>?_);conv=>whnf
 iterate 2 (refine Tst.T ?_;conv=>whnf)
 refine tstT_c H (fun b31 H=>?_);conv=>whnf
 iterate 2 (refine Tst.T ?_;conv=>whnf)
 exact fb_ H
theorem p_law12_awake_true:p_law12_awake=some true:=by kernel_rfl
theorem p_law12_awake_v:CallsO Tryz.prog 25 [] V.b p_law12_awake:=tru_closed p_law12_awake_t p_law12_awake_true
def gc62:BCode:=(.seq (R_ 0 [O_ 2 (.mv (.const (.string ⟨#[]⟩))) 0,O_ 3 (.mv (i_ 0)) 0,O_ 4 (.mv (i_ 0)) 0]) (.seq (.seq (R_ 0 [O_ 6 (.mv (t_ 0)) 0,O_ 7 (.lent (t_ 6)) 0,O_ 8 (.bin .lss (t_ 7) (i_ 2)) 0]) (.cond (t_ 8) (.seq (R_ 0 [O_ 2 (.mv (.const (.string ⟨#[]⟩))) 0,O_ 3 (.mv (i_ 0)) 0,O_ 4 (.mv (i_ 3)) 0]) .ret) .skip)) (.seq (.reg 0 [O_ 9 (.mv (t_ 0)) 0,O_ 10 (.ixt (t_ 9) (i_ 0)) 0,O_ 11 (.cvi .i64 (t_ 10)) 0,O_ 12 (.bin .mul (i_ 256) (t_ 11)) 0,O_ 13 (.mv (t_ 0)) 0,O_ 14 (.ixt (t_ 13) (i_ 1)) 0,O_ 15 (.cvi .i64 (t_ 14)) 0,O_ 16 (.bin .add (t_ 12) (t_ 15)) 0,O_ 5 (.mv (t_ 16)) 0] (some [[],[0],[0,1],[1,0,2],[],[4],[4,5],[5,4,6,2,0,1,3],[3,1,0,2,6,4,5,7]]) 0 []) (.seq (.block 0 (.seq (R_ 0 [O_ 18 (.mv (t_ 5)) 0,O_ 19 (.bin .eql (t_ 18) (i_ 0)) 0,O_ 17 (.mv (t_ 19)) 0]) (.cond (t_ 17) (.seq (R_ 0 [O_ 2 (.mv (.const (.string ⟨#[]⟩))) 0,O_ 3 (.mv (i_ 0)) 0,O_ 4 (.mv (i_ 4)) 0]) .ret) (.seq (R_ 0 [O_ 21 (.mv (t_ 5)) 0,O_ 22 (.bin .gtr (t_ 21) (i_ 128)) 0,O_ 20 (.mv (t_ 22)) 0]) (.cond (t_ 20) (.seq (R_ 0 [O_ 2 (.mv (.const (.string ⟨#[]⟩))) 0,O_ 3 (.mv (i_ 0)) 0,O_ 4 (.mv (i_ 5)) 0]) .ret) (.seq (R_ 0 [O_ 24 (.mv (t_ 5)) 0,O_ 25 (.mv (t_ 0)) 0,O_ 26 (.lent (t_ 25)) 0,O_ 27 (.bin .sub (t_ 26) (i_ 2)) 0,O_ 28 (.bin .gtr (t_ 24) (t_ 27)) 0,O_ 23 (.mv (t_ 28)) 0]) (.cond (t_ 23) (.seq (R_ 0 [O_ 2 (.mv (.const (.string ⟨#[]⟩))) 0,O_ 3 (.mv (i_ 0)) 0,O_ 4 (.mv (i_ 3)) 0]) .ret) .skip))))))) (.seq (R_ 0 [O_ 29 (.mv (t_ 0)) 0,O_ 30 (.mv (t_ 5)) 0,O_ 31 (.bin .add (i_ 2) (t_ 30)) 0,O_ 32 (.slt (t_ 29) (some (i_ 2)) (some (t_ 31))) 0,O_ 33 (.mv (t_ 5)) 0,O_ 34 (.bin .add (i_ 2) (t_ 33)) 0,O_ 2 (.mv (t_ 32)) 0,O_ 3 (.mv (t_ 34)) 0,O_ 4 (.mv (i_ 0)) 0]) .ret)))))
theorem gc62_ok:compF Tryz.prog Tryz.f62=some (gc62.er,35,[.tmp 2,.tmp 3,.tmp 4]):=by unfold gc62;kernel_rfl
theorem p_ref11_Get_v (a0:ByteArray):CallsO Tryz.prog 62 [.s a0] (fun r:ByteArray × Int × Int=>.tup [V.s r.1,V.i r.2.1,V.i r.2.2]) (p_ref11_Get a0):=by
 refine callsO_comp mix Tryz.func62 gc62_ok fun r H=>?_
 rw [p_ref11_Get] at H
 conv=>whnf
 refine tst_c H (fun b1 H=>?_) (fun b1 H=>?_)
 ·conv=>whnf
  exact fin0_c (enc:=(fun r:ByteArray × Int × Int=>.tup [V.s r.1,V.i r.2.1,V.i r.2.2])) H (.inr rfl) (.cons (.tmp rfl) (.cons (.tmp rfl) (.cons (.tmp rfl) (.nil)))) rfl rfl
 conv=>whnf
 refine ixt_c H (fun c2 H=>?_);conv=>whnf
 iterate 2 (refine Ari.w ?_;conv=>whnf)
 refine ixt_c H (fun c3 H=>?_);conv=>whnf
 iterate 2 (refine Ari.w ?_;conv=>whnf)
 refine FootQ.mk ⟨rfl,?_⟩;conv=>whnf
 refine tst_c H (fun b4 H=>?_) (fun b4 H=>?_)
 ·conv=>whnf
  exact fin0_c (enc:=(fun r:ByteArray × Int × Int=>.tup [V.s r.1,V.i r.2.1,V.i r.2.2])) H (.inr rfl) (.cons (.tmp rfl) (.cons (.tmp rfl) (.cons (.tmp rfl) (.nil)))) rfl rfl
 conv=>whnf
 refine tst_c H (fun b5 H=>?_) (fun b5 H=>?_)
 ·conv=>whnf
  exact fin0_c (enc:=(fun r:ByteArray × Int × Int=>.tup [V.s r.1,V.i r.2.1,V.i r.2.2])) H (.inr rfl) (.cons (.tmp rfl) (.cons (.tmp rfl) (.cons (.tmp rfl) (.nil)))) rfl rfl
 conv=>whnf
 refine Ari.w ?_;conv=>whnf
 refine tst_c H (fun b6 H=>?_) (fun b6 H=>?_)
 ·conv=>whnf
  exact fin0_c (enc:=(fun r:ByteArray × Int × Int=>.tup [V.s r.1,V.i r.2.1,V.i r.2.2])) H (.inr rfl) (.cons (.tmp rfl) (.cons (.tmp rfl) (.cons (.tmp rfl) (.nil)))) rfl rfl
 conv=>whnf
 refine Ari.w ?_;conv=>whnf
 refine slt_c H (fun s7 H=>?_);conv=>whnf
 refine Ari.w ?_;conv=>whnf
 exact fin0_c (enc:=(fun r:ByteArray × Int × Int=>.tup [V.s r.1,V.i r.2.1,V.i r.2.2])) H (.inr rfl) (.cons (.tmp rfl) (.cons (.tmp rfl) (.cons (.tmp rfl) (.nil)))) rfl rfl
def gc35:BCode:=(.seq (R_ 1 [O_ 1 (.bx (t_ 0)) 0,O_ 2 (.mv (i_ 0)) 1]) (.seq (R_ 0 [O_ 7 (.fa 0 (t_ 1)) 0,O_ 8 (.ld 1 false (t_ 7)) 0,O_ 9 (.cl 62 [(t_ 8)]) 0,O_ 6 (.mv (t_ 9)) 0,O_ 10 (.ex (t_ 6) 0) 0,O_ 11 (.ex (t_ 6) 1) 0,O_ 12 (.ex (t_ 6) 2) 0,O_ 3 (.mv (t_ 10)) 0,O_ 4 (.mv (t_ 11)) 0,O_ 5 (.mv (t_ 12)) 0]) (.seq (.block 0 (.seq (R_ 0 [O_ 14 (.fa 1 (t_ 1)) 0,O_ 15 (.ld 1 false (t_ 14)) 0,O_ 16 (.bin .neq (t_ 15) (i_ 0)) 0,O_ 17 (.mv (t_ 16)) 0,⟨(some 18),.fa 0 (t_ 1),(some (17,true)),0⟩,⟨(some 19),.ld 1 false (t_ 18),(some (17,true)),0⟩,⟨(some 20),.bin .neq (t_ 19) (.const (.string ⟨#[]⟩)),(some (17,true)),0⟩,O_ 21 (.pick (t_ 17) (t_ 20) (b_ false)) 0,O_ 13 (.mv (t_ 21)) 0]) (.cond (t_ 13) (.seq (R_ 0 [O_ 2 (.mv (i_ 4)) 0]) .ret) (.seq (R_ 0 [O_ 23 (.mv (t_ 5)) 0,O_ 24 (.bin .neq (t_ 23) (i_ 3)) 0,O_ 22 (.mv (t_ 24)) 0]) (.cond (t_ 22) (.seq (R_ 0 [O_ 2 (.mv (i_ 5)) 0]) .ret) (.seq (R_ 0 [O_ 26 (.fa 2 (t_ 1)) 0,O_ 27 (.ld 1 false (t_ 26)) 0,O_ 28 (.bin .lss (t_ 27) (i_ 0)) 0,O_ 25 (.mv (t_ 28)) 0]) (.cond (t_ 25) (.seq (R_ 0 [O_ 2 (.mv (i_ 8)) 0]) .ret) .skip))))))) (.seq (R_ 0 [O_ 2 (.mv (i_ 0)) 0]) .ret))))
theorem gc35_ok:compF Tryz.prog Tryz.f35=some (gc35.er,29,[.tmp 2]):=by unfold gc35;kernel_rfl
theorem p_ref12_Check_v (a0:DeframeState):CallsO Tryz.prog 35 [.agg [.s a0.Buf,.i a0.Bad,.i a0.Seen]] V.i (p_ref12_Check a0):=by
 refine callsO_comp mix Tryz.func35 gc35_ok fun r H=>?_
 rw [p_ref12_Check] at H
 conv=>whnf
 refine ask_c (p_ref11_Get_v _) H rfl rfl (fun v1 H=>?_);conv=>whnf
 refine tst_d H (fun b2 H=>?_) (fun b2 H=>?_)
 ·conv=>whnf
  iterate 4 (refine Tst.F ?_;conv=>whnf)
  refine tst_c H (fun b6 H=>?_) (fun b6 H=>?_)
  ·conv=>whnf
   exact fi_ H
  conv=>whnf
  refine tst_c H (fun b7 H=>?_) (fun b7 H=>?_)
  ·conv=>whnf
   exact fi_ H
  conv=>whnf
  exact fi_ H
 conv=>whnf
 iterate 3 (refine Tst.T ?_;conv=>whnf)
 refine Tst.not ?_
 refine tst_d H (fun b3 H=>?_) (fun b3 H=>?_)
 ·conv=>whnf
  exact fi_ H
 conv=>whnf
 refine tst_c H (fun b4 H=>?_) (fun b4 H=>?_)
 ·conv=>whnf
  exact fi_ H
 conv=>whnf
 refine tst_c H (fun b5 H=>?_) (fun b5 H=>?_)
 ·conv=>whnf
  exact fi_ H
 conv=>whnf
 exact fi_ H
end Go.Proofs.YtmmmcpeickfolaaGreat

namespace Go.Proofs.YtmmmcpeickfolaaGreat
open Go.ChangeShapes Go.WideShapes Go.ChangeAt Go.RowKit Go.Joins Go.Deep
structure StanzaStanza.Wf (x:StanzaStanza):Prop where
 Kind:(Lit.int .u8 x.Kind).wf=true
 Show:(Lit.int .i64 x.Show).wf=true
 Prio:(Lit.int .i64 x.Prio).wf=true
 Code:(Lit.int .i64 x.Code).wf=true
 N:(Lit.int .i64 x.N).wf=true
end Go.Proofs.YtmmmcpeickfolaaGreat

namespace Go.Proofs.YtmmmcpeickfolaaGreat
open Go.RowKit Go.Deep
theorem deframeFeeds_all (st:DeframeState) (b:ByteArray):p_law12_DeframeFeeds st b=some true:=deframeFeeds_pure p_law12_awake_true st b
end Go.Proofs.YtmmmcpeickfolaaGreat

