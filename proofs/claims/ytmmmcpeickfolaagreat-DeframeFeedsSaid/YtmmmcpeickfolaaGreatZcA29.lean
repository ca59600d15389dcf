/- DeframeFeeds: for every input the call returns true, and its arguments read as they did. -/
import Derived.Test.YtmmmcpeickfolaaGreatZcA25
import Derived.Test.YtmmmcpeickfolaaGreatZcA27
import Derived.Test.YtmmmcpeickfolaaGreatZcA14
import Derived.KernelRfl
import Derived.Test.YtmmmcpeickfolaaGreatZcA28
import Derived.Test.YtmmmcpeickfolaaGreatZcA15
import Derived.Test.YtmmmcpeickfolaaGreatRows
set_option linter.all false
namespace Go.Proofs.YtmmmcpeickfolaaGreat
open Go.RowKit
set_option maxRecDepth 100000
set_option maxHeartbeats 4000000
def gc32:BCode:=(.seq (R_ 0 [O_ 2 (.mv (.const (.slice none 0 0))) 0]) (.seq (R_ 0 [O_ 3 (.mv (.const (.slice none 0 0))) 0]) (.seq (.seq (R_ 0 [O_ 4 (.mv (i_ 0)) 0]) (.block 0 (.loop (.seq (.seq (R_ 0 [O_ 5 (.mv (t_ 4)) 0,O_ 6 (.mv (t_ 0)) 0,O_ 7 (.lens (t_ 6)) 0,O_ 8 (.bin .lss (t_ 5) (t_ 7)) 0]) (.cond (t_ 8) .skip (.exit 0))) (.seq (.block 1 (.reg 2 [O_ 11 (.mv (t_ 3)) 0,O_ 12 (.mv (t_ 0)) 0,O_ 13 (.mv (t_ 4)) 0,O_ 14 (.ixs 9 (t_ 12) (t_ 13)) 0,O_ 15 (.fa 0 (t_ 14)) 0,O_ 16 (.ld 8 true (t_ 15)) 0,O_ 17 (.mv (t_ 0)) 0,O_ 18 (.mv (t_ 4)) 0,O_ 19 (.ixs 9 (t_ 17) (t_ 18)) 0,O_ 20 (.fa 8 (t_ 19)) 0,O_ 21 (.ld 1 false (t_ 20)) 0,O_ 22 (.bd [(.lit (.int .u8 0)),(.lit (.string ⟨#[]⟩)),(.lit (.string ⟨#[]⟩)),(.lit (.string ⟨#[]⟩)),(.lit (.int .i64 0)),(.lit (.int .i64 0)),(.lit (.int .i64 0)),(.lit (.int .i64 0)),(.lit (.int .i64 0))] [(0,8,(t_ 16)),(8,1,(t_ 21))]) 0,O_ 23 (.bs 9 1 [(.lit (.int .u8 0)),(.lit (.string ⟨#[]⟩)),(.lit (.string ⟨#[]⟩)),(.lit (.string ⟨#[]⟩)),(.lit (.int .i64 0)),(.lit (.int .i64 0)),(.lit (.int .i64 0)),(.lit (.int .i64 0)),(.lit (.int .i64 0))] [(0,(t_ 22))]) 0,O_ 24 (.ap 9 96 (t_ 11) (t_ 23)) 1,O_ 3 (.mv (t_ 24)) 2] (some [[],[],[],[2,1],[1,2,3],[3,2,1,4],[],[],[7,6],[6,7,8],[8,7,6,9],[9,6,7,8,10,4,1,2,3,5],[5,3,2,1,4,10,8,7,6,9,11],[11,9,6,7,8,10,4,1,2,3,5,12,0],[0,12,5,3,2,1,4,10,8,7,6,9,11,13]]) 0 [])) (R_ 0 [O_ 9 (.mv (t_ 4)) 0,O_ 10 (.bin .add (t_ 9) (i_ 1)) 0,O_ 4 (.mv (t_ 10)) 0])))))) (.seq (R_ 0 [O_ 25 (.mv (t_ 3)) 0,O_ 2 (.mv (t_ 25)) 0]) .ret))))
theorem gc32_ok:compF Tryz.prog Tryz.f32=some (gc32.er,26,[.tmp 2]):=by unfold gc32;kernel_rfl
theorem p_law12_Items_v {u1:Bool} (a0:List DeframeItem):CallsO Tryz.prog 32 [.sl (List.map DeframeItem.v a0) u1] (fun l:List DeframeItem=>V.sl (l.map DeframeItem.v) false) (p_law12_Items a0):=by
 refine callsO_comp mix Tryz.func32 gc32_ok fun r H=>?_
 rw [p_law12_Items] at H
 conv=>whnf
 obtain ⟨o2,HL3,HQ4⟩:=bind_c H
 refine loop_c [3,4] [5,6,7,8,9,10,11,12,13,14,15,16,17,18,19,20,21,22,23,24] [5,6,7,8,9,10,11,12,13,14,15,16,17,18,19,20,21,22,23,24] (fun n vals st=>(∃ y6,p_law12_Items_l1  a0 n [] y6=some o2∧vals=[.sl (List.map DeframeItem.v []) true,.i y6]∧st=[])∨(∃ y11 y12,p_law12_Items_l1  a0 n y11 y12=some o2∧vals=[.osl 0 0 (List.length y11) 9 false,.i y12]∧st=[.live (cellsM DeframeItem.v y11) (cellsM DeframeItem.v y11).length])) fuel 0 [] (.inl (⟨_,HL3,rfl,rfl⟩)) (Nat.zero_le _) rfl (by kernel_rfl) (by kernel_rfl) rfl trivial ?_
 rintro (_ | n5) _ _ (⟨y6,H,rfl,rfl⟩ | ⟨y11,y12,H,rfl,rfl⟩)
 ·rw [p_law12_Items_l1] at H;cases H
 ·rw [p_law12_Items_l1] at H;cases H
 ·rw [p_law12_Items_l1] at H
  conv=>whnf
  refine LenQ.M ?_;conv=>whnf
  refine tst_d H (fun b7 H=>?_) (fun b7 H=>?_)
  ·conv=>whnf
   obtain rfl:=Option.some.inj H
   have H:=HQ4
   try dsimp only at H
   refine finR_c (enc:=(fun l:List DeframeItem=>V.sl (l.map DeframeItem.v) false)) H ?_;conv=>whnf
   exact ⟨_,.v (.c (.slw))⟩
  conv=>whnf
  refine ixs_c (f:=DeframeItem.v) H (fun _=>rfl) (fun x8 H=>?_);conv=>whnf
  refine lq_ ?_;conv=>whnf
  refine ixs_c (f:=DeframeItem.v) H (fun _=>rfl) (fun x9 H=>?_);conv=>whnf
  refine lq_ ?_;conv=>whnf
  refine appN_c (f:=DeframeItem.v) H (fun _=>rfl) (srcM (f:=DeframeItem.v) (fun _=>rfl) [] true) rfl (.v (srcOwn (f:=DeframeItem.v) (l:=[(DeframeItem.mk x8.S x9.E)]) (fun _=>rfl) rfl rfl rfl)) (by decide) rfl (by simp) (fun l10 H=>?_);conv=>whnf
  refine FootQ.mk ⟨rfl,?_⟩;conv=>whnf
  refine Ari.w ?_;conv=>whnf
  exact again_c [5,6,7,8,9,10,11,12,13,14,15,16,17,18,19,20,21,22,23,24] n5 1 [1] (.inr (⟨_,_,H,rfl,rfl⟩)) (Nat.lt_succ_self _) (Nat.zero_le _) rfl (by kernel_rfl) (by kernel_rfl) rfl (wkB_live0 rfl (cellsM_idlt (f:=DeframeItem.v) (fun _=>rfl) _) rfl trivial)
 rw [p_law12_Items_l1] at H
 conv=>whnf
 refine LenQ.M ?_;conv=>whnf
 refine tst_d H (fun b13 H=>?_) (fun b13 H=>?_)
 ·conv=>whnf
  obtain rfl:=Option.some.inj H
  have H:=HQ4
  try dsimp only at H
  refine finR_c (enc:=(fun l:List DeframeItem=>V.sl (l.map DeframeItem.v) false)) H ?_;conv=>whnf
  exact ⟨_,.v (.c (fzown (f:=DeframeItem.v) (l:=y11) rfl rfl (fun _=>rfl) (fun _=>rfl)))⟩
 conv=>whnf
 refine ixs_c (f:=DeframeItem.v) H (fun _=>rfl) (fun x14 H=>?_);conv=>whnf
 refine lq_ ?_;conv=>whnf
 refine ixs_c (f:=DeframeItem.v) H (fun _=>rfl) (fun x15 H=>?_);conv=>whnf
 refine lq_ ?_;conv=>whnf
 refine appO_c (f:=DeframeItem.v) H (fun _=>rfl) rfl (Nat.le_refl _) (.v (srcOwn (f:=DeframeItem.v) (l:=[(DeframeItem.mk x14.S x15.E)]) (fun _=>rfl) rfl rfl rfl)) (by decide) rfl (by simp) (fun l16 H=>?_);conv=>whnf
 refine FootQ.mk ⟨rfl,?_⟩;conv=>whnf
 refine Ari.w ?_;conv=>whnf
 exact again_c [5,6,7,8,9,10,11,12,13,14,15,16,17,18,19,20,21,22,23,24] n5 1 [2] (.inr (⟨_,_,H,rfl,rfl⟩)) (Nat.lt_succ_self _) (Nat.zero_le _) rfl (by kernel_rfl) (by kernel_rfl) rfl (wkB_live0 rfl (cellsM_idlt (f:=DeframeItem.v) (fun _=>rfl) _) rfl trivial)
def gc31:BCode:=(.seq (R_ 0 [O_ 4 (.mv (b_ false)) 0]) (.seq (.seq (R_ 0 [O_ 6 (.mv (t_ 0)) 0,O_ 7 (.lens (t_ 6)) 0,O_ 8 (.mv (t_ 1)) 0,O_ 9 (.lens (t_ 8)) 0,O_ 10 (.bin .neq (t_ 7) (t_ 9)) 0]) (.cond (t_ 10) (.seq (R_ 0 [O_ 4 (.mv (b_ false)) 0]) .ret) .skip)) (.seq (.seq (R_ 0 [O_ 5 (.mv (i_ 0)) 0]) (.block 0 (.loop (.seq (.seq (R_ 0 [O_ 11 (.mv (t_ 5)) 0,O_ 12 (.mv (t_ 0)) 0,O_ 13 (.lens (t_ 12)) 0,O_ 14 (.bin .lss (t_ 11) (t_ 13)) 0]) (.cond (t_ 14) .skip (.exit 0))) (.seq (.block 1 (.seq (.reg 0 [O_ 17 (.mv (t_ 0)) 0,O_ 18 (.mv (t_ 5)) 0,O_ 19 (.ixs 9 (t_ 17) (t_ 18)) 0,O_ 20 (.ld 9 true (t_ 19)) 0,O_ 21 (.mv (t_ 1)) 0,O_ 22 (.mv (t_ 5)) 0,O_ 23 (.ixs 9 (t_ 21) (t_ 22)) 0,O_ 24 (.ld 9 true (t_ 23)) 0,O_ 25 (.eqa true [1,2,2,2,1,1,1,1,1] (t_ 20) (t_ 24)) 0] (some [[],[],[1,0],[0,1,2],[],[],[5,4],[4,5,6],[6,5,4,7,2,1,0,3]]) 0 []) (.cond (t_ 25) (.seq (R_ 0 [O_ 4 (.mv (b_ false)) 0]) .ret) .skip))) (R_ 0 [O_ 15 (.mv (t_ 5)) 0,O_ 16 (.bin .add (t_ 15) (i_ 1)) 0,O_ 5 (.mv (t_ 16)) 0])))))) (.seq (R_ 0 [O_ 4 (.mv (b_ true)) 0]) .ret))))
theorem gc31_ok:compF Tryz.prog Tryz.f31=some (gc31.er,26,[.tmp 4]):=by unfold gc31;kernel_rfl
theorem p_ref12_SameItems_v {u1 u2:Bool} (a0:List DeframeItem) (a1:List DeframeItem):CallsO Tryz.prog 31 [.sl (List.map DeframeItem.v a0) u1,.sl (List.map DeframeItem.v a1) u2] V.b (p_ref12_SameItems a0 a1):=by
 refine callsO_comp mix Tryz.func31 gc31_ok fun r H=>?_
 rw [p_ref12_SameItems] at H
 conv=>whnf
 iterate 2 (refine LenQ.M ?_;conv=>whnf)
 refine tst_c H (fun b1 H=>?_) (fun b1 H=>?_)
 ·conv=>whnf
  exact fb_ H
 conv=>whnf
 obtain ⟨o3,HL4,HQ5⟩:=bind_c H
 refine loop_c [4,5] [11,12,13,14,15,16,17,18,19,20,21,22,23,24,25] [11,12,13,14,15,16,17,18,19,20,21,22,23,24,25] (fun n vals st=>(∃ y7,p_ref12_SameItems_l1  a0 a1 n y7=some o3∧vals=[.b false,.i y7]∧st=[])) fuel 0 [] (⟨_,HL4,rfl,rfl⟩) (Nat.zero_le _) rfl (by kernel_rfl) (by kernel_rfl) rfl trivial ?_
 rintro (_ | n6) _ _ (⟨y7,H,rfl,rfl⟩)
 ·rw [p_ref12_SameItems_l1] at H;cases H
 rw [p_ref12_SameItems_l1] at H
 conv=>whnf
 refine LenQ.M ?_;conv=>whnf
 refine tst_d H (fun b8 H=>?_) (fun b8 H=>?_)
 ·conv=>whnf
  obtain rfl:=Option.some.inj H
  have H:=HQ5
  try dsimp only at H
  exact fb_ H
 conv=>whnf
 refine ixs_c (f:=DeframeItem.v) H (fun _=>rfl) (fun x9 H=>?_);conv=>whnf
 refine ixs_c (f:=DeframeItem.v) H (fun _=>rfl) (fun x10 H=>?_);conv=>whnf
 refine FootQ.mk ⟨rfl,?_⟩;conv=>whnf
 refine Tst.not ?_
 refine tst_d H (fun b11 H=>?_) (fun b11 H=>?_)
 ·conv=>whnf
  obtain rfl:=Option.some.inj H
  have H:=HQ5
  try dsimp only at H
  exact fb_ H
 conv=>whnf
 refine Ari.w ?_;conv=>whnf
 exact again_c [11,12,13,14,15,16,17,18,19,20,21,22,23,24,25] n6 0 [] (⟨_,H,rfl,rfl⟩) (Nat.lt_succ_self _) (Nat.zero_le _) rfl (by kernel_rfl) (by kernel_rfl) rfl trivial
def gc33:BCode:=(.seq (R_ 0 [O_ 4 (.mv (b_ false)) 0]) (.seq (.seq (R_ 0 [O_ 6 (.mv (t_ 0)) 0,O_ 7 (.lens (t_ 6)) 0,O_ 8 (.mv (t_ 1)) 0,O_ 9 (.lens (t_ 8)) 0,O_ 10 (.bin .neq (t_ 7) (t_ 9)) 0]) (.cond (t_ 10) (.seq (R_ 0 [O_ 4 (.mv (b_ false)) 0]) .ret) .skip)) (.seq (.seq (R_ 0 [O_ 5 (.mv (i_ 0)) 0]) (.block 0 (.loop (.seq (.seq (R_ 0 [O_ 11 (.mv (t_ 5)) 0,O_ 12 (.mv (t_ 0)) 0,O_ 13 (.lens (t_ 12)) 0,O_ 14 (.bin .lss (t_ 11) (t_ 13)) 0]) (.cond (t_ 14) .skip (.exit 0))) (.seq (.block 1 (.seq (.reg 0 [O_ 17 (.mv (t_ 0)) 0,O_ 18 (.mv (t_ 5)) 0,O_ 19 (.ixs 1 (t_ 17) (t_ 18)) 0,O_ 20 (.ld 1 false (t_ 19)) 0,O_ 21 (.mv (t_ 1)) 0,O_ 22 (.mv (t_ 5)) 0,O_ 23 (.ixs 1 (t_ 21) (t_ 22)) 0,O_ 24 (.ld 1 false (t_ 23)) 0,O_ 25 (.bin .neq (t_ 20) (t_ 24)) 0] (some [[],[],[1,0],[0,1,2],[],[],[5,4],[4,5,6],[6,5,4,7,2,1,0,3]]) 0 []) (.cond (t_ 25) (.seq (R_ 0 [O_ 4 (.mv (b_ false)) 0]) .ret) .skip))) (R_ 0 [O_ 15 (.mv (t_ 5)) 0,O_ 16 (.bin .add (t_ 15) (i_ 1)) 0,O_ 5 (.mv (t_ 16)) 0])))))) (.seq (R_ 0 [O_ 4 (.mv (b_ true)) 0]) .ret))))
theorem gc33_ok:compF Tryz.prog Tryz.f33=some (gc33.er,26,[.tmp 4]):=by unfold gc33;kernel_rfl
theorem p_ref01_SameTexts_v {u1 u2:Bool} (a0:List ByteArray) (a1:List ByteArray):CallsO Tryz.prog 33 [.sl (List.map V.s a0) u1,.sl (List.map V.s a1) u2] V.b (p_ref01_SameTexts a0 a1):=by
 refine callsO_comp mix Tryz.func33 gc33_ok fun r H=>?_
 rw [p_ref01_SameTexts] at H
 conv=>whnf
 iterate 2 (refine LenQ.M ?_;conv=>whnf)
 refine tst_c H (fun b1 H=>?_) (fun b1 H=>?_)
 ·conv=>whnf
  exact fb_ H
 conv=>whnf
 obtain ⟨o3,HL4,HQ5⟩:=bind_c H
 refine loop_c [4,5] [11,12,13,14,15,16,17,18,19,20,21,22,23,24,25] [11,12,13,14,15,16,17,18,19,20,21,22,23,24,25] (fun n vals st=>(∃ y7,p_ref01_SameTexts_l1  a0 a1 n y7=some o3∧vals=[.b false,.i y7]∧st=[])) fuel 0 [] (⟨_,HL4,rfl,rfl⟩) (Nat.zero_le _) rfl (by kernel_rfl) (by kernel_rfl) rfl trivial ?_
 rintro (_ | n6) _ _ (⟨y7,H,rfl,rfl⟩)
 ·rw [p_ref01_SameTexts_l1] at H;cases H
 rw [p_ref01_SameTexts_l1] at H
 conv=>whnf
 refine LenQ.M ?_;conv=>whnf
 refine tst_d H (fun b8 H=>?_) (fun b8 H=>?_)
 ·conv=>whnf
  obtain rfl:=Option.some.inj H
  have H:=HQ5
  try dsimp only at H
  exact fb_ H
 conv=>whnf
 refine ixs_c (f:=V.s) H (fun _=>rfl) (fun x9 H=>?_);conv=>whnf
 refine ixs_c (f:=V.s) H (fun _=>rfl) (fun x10 H=>?_);conv=>whnf
 refine FootQ.mk ⟨rfl,?_⟩;conv=>whnf
 refine Tst.not ?_
 refine tst_d H (fun b11 H=>?_) (fun b11 H=>?_)
 ·conv=>whnf
  obtain rfl:=Option.some.inj H
  have H:=HQ5
  try dsimp only at H
  exact fb_ H
 conv=>whnf
 refine Ari.w ?_;conv=>whnf
 exact again_c [11,12,13,14,15,16,17,18,19,20,21,22,23,24,25] n6 0 [] (⟨_,H,rfl,rfl⟩) (Nat.lt_succ_self _) (Nat.zero_le _) rfl (by kernel_rfl) (by kernel_rfl) rfl trivial
def gc37:BCode:=(.seq (R_ 1 [O_ 1 (.bx (t_ 0)) 0,O_ 2 (.mv (i_ 0)) 1]) (.seq (.seq (R_ 0 [O_ 3 (.fa 1 (t_ 1)) 0,O_ 4 (.ld 1 false (t_ 3)) 0,O_ 5 (.bin .neq (t_ 4) (i_ 0)) 0,O_ 6 (.mv (t_ 5)) 0,⟨(some 7),.ld 3 true (t_ 1),(some (6,false)),0⟩,⟨(some 8),.cl 35 [(t_ 7)],(some (6,false)),0⟩,⟨(some 9),.bin .neq (t_ 8) (i_ 0),(some (6,false)),0⟩,O_ 10 (.pick (t_ 6) (b_ true) (t_ 9)) 0]) (.cond (t_ 10) (.seq (R_ 0 [O_ 2 (.mv (i_ 0)) 0]) .ret) .skip)) (.seq (.seq (R_ 0 [O_ 11 (.fa 0 (t_ 1)) 0,O_ 12 (.ld 1 false (t_ 11)) 0,O_ 13 (.lent (t_ 12)) 0,O_ 14 (.bin .lss (t_ 13) (i_ 2)) 0]) (.cond (t_ 14) (.seq (R_ 0 [O_ 15 (.fa 0 (t_ 1)) 0,O_ 16 (.ld 1 false (t_ 15)) 0,O_ 17 (.lent (t_ 16)) 0,O_ 18 (.bin .sub (i_ 2) (t_ 17)) 0,O_ 2 (.mv (t_ 18)) 0]) .ret) .skip)) (.seq (.reg 0 [O_ 19 (.fa 0 (t_ 1)) 0,O_ 20 (.ld 1 false (t_ 19)) 0,O_ 21 (.ixt (t_ 20) (i_ 0)) 0,O_ 22 (.cvi .i64 (t_ 21)) 0,O_ 23 (.bin .mul (i_ 256) (t_ 22)) 0,O_ 24 (.bin .add (i_ 2) (t_ 23)) 0,O_ 25 (.fa 0 (t_ 1)) 0,O_ 26 (.ld 1 false (t_ 25)) 0,O_ 27 (.ixt (t_ 26) (i_ 1)) 0,O_ 28 (.cvi .i64 (t_ 27)) 0,O_ 29 (.bin .add (t_ 24) (t_ 28)) 0,O_ 30 (.fa 0 (t_ 1)) 0,O_ 31 (.ld 1 false (t_ 30)) 0,O_ 32 (.lent (t_ 31)) 0,O_ 33 (.bin .sub (t_ 29) (t_ 32)) 0,O_ 2 (.mv (t_ 33)) 0] (some [[],[0],[0,1],[1,0,2],[2,0,1,3],[3,1,0,2,4],[],[6],[6,7],[7,6,8],[8,6,7,9,4,2,0,1,3,5],[],[11],[11,12],[12,11,13,5,3,1,0,2,4,9,7,6,8,10],[10,8,6,7,9,4,2,0,1,3,5,13,11,12,14]]) 0 []) .ret))))
theorem gc37_ok:compF Tryz.prog Tryz.f37=some (gc37.er,34,[.tmp 2]):=by unfold gc37;kernel_rfl
theorem p_ref12_Need_v (a0:DeframeState):CallsO Tryz.prog 37 [.agg [.s a0.Buf,.i a0.Bad,.i a0.Seen]] V.i (p_ref12_Need a0):=by
 refine callsO_comp mix Tryz.func37 gc37_ok fun r H=>?_
 rw [p_ref12_Need] at H
 conv=>whnf
 refine tst_c H (fun b1 H=>?_) (fun b1 H=>?_)
 ·conv=>whnf
  iterate 4 (refine Tst.T ?_;conv=>whnf)
  exact fi_ H
 conv=>whnf
 refine Tst.F ?_;conv=>whnf
 refine ask_c (p_ref12_Check_v _) H rfl rfl (fun v2 H=>?_);conv=>whnf
 iterate 2 (refine Tst.F ?_;conv=>whnf)
 refine tst_c H (fun b3 H=>?_) (fun b3 H=>?_)
 ·conv=>whnf
  exact fi_ H
 conv=>whnf
 refine tst_c H (fun b4 H=>?_) (fun b4 H=>?_)
 ·conv=>whnf
  refine Ari.w ?_;conv=>whnf
  exact fi_ H
 conv=>whnf
 refine ixt_c H (fun c5 H=>?_);conv=>whnf
 iterate 3 (refine Ari.w ?_;conv=>whnf)
 refine ixt_c H (fun c6 H=>?_);conv=>whnf
 iterate 3 (refine Ari.w ?_;conv=>whnf)
 refine FootQ.mk ⟨rfl,?_⟩;conv=>whnf
 exact fi_ H
end Go.Proofs.YtmmmcpeickfolaaGreat

namespace Go.Proofs.YtmmmcpeickfolaaGreat
open Go.RowKit
set_option maxRecDepth 1000000
set_option maxHeartbeats 4000000
def gc6:BCode:=(.seq (R_ 1 [O_ 2 (.bx (t_ 0)) 0,O_ 4 (.mv (b_ false)) 1]) (.seq (.seq (R_ 0 [O_ 14 (.fa 0 (t_ 2)) 0,O_ 15 (.ld 1 false (t_ 14)) 0,O_ 16 (.lent (t_ 15)) 0,O_ 17 (.bin .gtr (t_ 16) (i_ 300)) 0,O_ 18 (.mv (t_ 17)) 0,⟨(some 19),.mv (t_ 1),(some (18,false)),0⟩,⟨(some 20),.lent (t_ 19),(some (18,false)),0⟩,⟨(some 21),.bin .gtr (t_ 20) (i_ 300),(some (18,false)),0⟩,O_ 22 (.pick (t_ 18) (b_ true) (t_ 21)) 0]) (.cond (t_ 22) (.seq (R_ 0 [O_ 23 (.cl 25 []) 0,O_ 4 (.mv (t_ 23)) 0]) .ret) .skip)) (.seq (R_ 1 [O_ 24 (.fa 0 (t_ 2)) 0,O_ 25 (.ld 1 false (t_ 24)) 0,O_ 26 (.fa 1 (t_ 2)) 0,O_ 27 (.ld 1 false (t_ 26)) 0,O_ 28 (.fa 2 (t_ 2)) 0,O_ 29 (.ld 1 false (t_ 28)) 0,O_ 30 (.bd [(.lit (.string ⟨#[]⟩)),(.lit (.int .i64 0)),(.lit (.int .i64 0))] [(0,1,(t_ 25)),(1,1,(t_ 27)),(2,1,(t_ 29))]) 0,O_ 5 (.al (.agg [(.lit (.string ⟨#[]⟩)),(.lit (.int .i64 0)),(.lit (.int .i64 0))])) 0,U_ (.st 3 (t_ 5) (t_ 30)) 1]) (.seq (R_ 1 [O_ 32 (.ld 3 true (t_ 5)) 0,O_ 33 (.mv (t_ 1)) 0,O_ 34 (.cl 26 [(t_ 32),(t_ 33)]) 0,O_ 31 (.mv (t_ 34)) 0,O_ 35 (.ex (t_ 31) 0) 0,O_ 36 (.ex (t_ 31) 1) 0,O_ 6 (.al (.agg [(.lit (.string ⟨#[]⟩)),(.lit (.int .i64 0)),(.lit (.int .i64 0))])) 0,U_ (.st 3 (t_ 6) (t_ 35)) 1,O_ 7 (.mv (t_ 36)) 1]) (.seq (R_ 1 [O_ 38 (.ld 3 true (t_ 2)) 0,O_ 39 (.mv (t_ 1)) 0,O_ 40 (.cl 27 [(t_ 38),(t_ 39)]) 0,O_ 37 (.mv (t_ 40)) 0,O_ 41 (.ex (t_ 37) 0) 0,O_ 42 (.ex (t_ 37) 1) 0,O_ 8 (.al (.agg [(.lit (.string ⟨#[]⟩)),(.lit (.int .i64 0)),(.lit (.int .i64 0))])) 0,U_ (.st 3 (t_ 8) (t_ 41)) 1,O_ 9 (.mv (t_ 42)) 1]) (.seq (R_ 1 [O_ 44 (.ld 3 true (t_ 5)) 0,O_ 45 (.mv (t_ 1)) 0,O_ 46 (.cl 28 [(t_ 44),(t_ 45)]) 0,O_ 43 (.mv (t_ 46)) 0,O_ 47 (.ex (t_ 43) 0) 0,O_ 48 (.ex (t_ 43) 1) 0,O_ 10 (.al (.agg [(.lit (.string ⟨#[]⟩)),(.lit (.int .i64 0)),(.lit (.int .i64 0))])) 0,U_ (.st 3 (t_ 10) (t_ 47)) 1,O_ 11 (.mv (t_ 48)) 1]) (.seq (R_ 1 [O_ 50 (.ld 3 true (t_ 2)) 0,O_ 51 (.mv (t_ 1)) 0,O_ 52 (.cl 29 [(t_ 50),(t_ 51)]) 0,O_ 49 (.mv (t_ 52)) 0,O_ 53 (.ex (t_ 49) 0) 0,O_ 54 (.ex (t_ 49) 1) 0,O_ 12 (.al (.agg [(.lit (.string ⟨#[]⟩)),(.lit (.int .i64 0)),(.lit (.int .i64 0))])) 0,U_ (.st 3 (t_ 12) (t_ 53)) 1,O_ 13 (.mv (t_ 54)) 1]) (.seq (.reg 0 [O_ 55 (.ld 3 true (t_ 6)) 0,O_ 56 (.cl 30 [(t_ 55)]) 0,O_ 57 (.ld 3 true (t_ 8)) 0,O_ 58 (.eqa false [2,1,1] (t_ 56) (t_ 57)) 0,O_ 59 (.mv (t_ 58)) 0,⟨(some 60),.mv (t_ 7),(some (59,true)),0⟩,⟨(some 61),.cl 32 [(t_ 60)],(some (59,true)),0⟩,⟨(some 62),.mv (t_ 9),(some (59,true)),0⟩,⟨(some 63),.cl 31 [(t_ 61),(t_ 62)],(some (59,true)),0⟩,O_ 64 (.pick (t_ 59) (t_ 63) (b_ false)) 0,O_ 65 (.mv (t_ 64)) 0,⟨(some 66),.ld 3 true (t_ 10),(some (65,true)),0⟩,⟨(some 67),.cl 30 [(t_ 66)],(some (65,true)),0⟩,⟨(some 68),.ld 3 true (t_ 12),(some (65,true)),0⟩,⟨(some 69),.eqa false [2,1,1] (t_ 67) (t_ 68),(some (65,true)),0⟩,O_ 70 (.pick (t_ 65) (t_ 69) (b_ false)) 0,O_ 71 (.mv (t_ 70)) 0,⟨(some 72),.mv (t_ 11),(some (71,true)),0⟩,⟨(some 73),.mv (t_ 13),(some (71,true)),0⟩,⟨(some 74),.cl 33 [(t_ 72),(t_ 73)],(some (71,true)),0⟩,O_ 75 (.pick (t_ 71) (t_ 74) (b_ false)) 0,O_ 76 (.mv (t_ 75)) 0,⟨(some 77),.ld 3 true (t_ 5),(some (76,true)),0⟩,⟨(some 78),.cl 34 [(t_ 77)],(some (76,true)),0⟩,⟨(some 79),.ld 3 true (t_ 2),(some (76,true)),0⟩,⟨(some 80),.cl 35 [(t_ 79)],(some (76,true)),0⟩,⟨(some 81),.bin .eql (t_ 78) (t_ 80),(some (76,true)),0⟩,O_ 82 (.pick (t_ 76) (t_ 81) (b_ false)) 0,O_ 83 (.mv (t_ 82)) 0,⟨(some 84),.ld 3 true (t_ 5),(some (83,true)),0⟩,⟨(some 85),.cl 36 [(t_ 84)],(some (83,true)),0⟩,⟨(some 86),.ld 3 true (t_ 2),(some (83,true)),0⟩,⟨(some 87),.cl 37 [(t_ 86)],(some (83,true)),0⟩,⟨(some 88),.bin .eql (t_ 85) (t_ 87),(some (83,true)),0⟩,O_ 89 (.pick (t_ 83) (t_ 88) (b_ false)) 0,O_ 90 (.mv (t_ 89)) 0,⟨(some 91),.ld 3 true (t_ 6),(some (90,true)),0⟩,⟨(some 92),.cl 36 [(t_ 91)],(some (90,true)),0⟩,⟨(some 93),.ld 3 true (t_ 8),(some (90,true)),0⟩,⟨(some 94),.cl 37 [(t_ 93)],(some (90,true)),0⟩,⟨(some 95),.bin .eql (t_ 92) (t_ 94),(some (90,true)),0⟩,O_ 96 (.pick (t_ 90) (t_ 95) (b_ false)) 0,O_ 97 (.mv (t_ 96)) 0,⟨(some 98),.cl 25 [],(some (97,true)),0⟩,O_ 99 (.pick (t_ 97) (t_ 98) (b_ false)) 0,O_ 4 (.mv (t_ 99)) 0] (some [[],[0],[],[2,0,1],[1,0,2,3],[3,2,0,1,4],[4,1,0,2,3,5],[3,2,0,1,4],[7,5,3,2,0,1,4,6],[6,5,7,8,3,2,0,1,4],[4,1,0,2,3,8,7,5,6,9],[9,6,5,7,8,3,2,0,1,4,10],[10,4,1,0,2,3,8,7,5,6,9,11],[9,6,5,7,8,3,2,0,1,4,10],[13,11,9,6,5,7,8,3,2,0,1,4,10,12],[12,11,13,14,9,6,5,7,8,3,2,0,1,4,10],[10,4,1,0,2,3,8,7,5,6,9,14,13,11,12,15],[15,12,11,13,14,9,6,5,7,8,3,2,0,1,4,10,16],[15,12,11,13,14,9,6,5,7,8,3,2,0,1,4,10,16],[18,16,10,4,1,0,2,3,8,7,5,6,9,14,13,11,12,15,17],[17,18,19,15,12,11,13,14,9,6,5,7,8,3,2,0,1,4,10,16],[16,10,4,1,0,2,3,8,7,5,6,9,14,13,11,12,15,19,18,17,20],[20,17,18,19,15,12,11,13,14,9,6,5,7,8,3,2,0,1,4,10,16,21],[21,16,10,4,1,0,2,3,8,7,5,6,9,14,13,11,12,15,19,18,17,20,22],[20,17,18,19,15,12,11,13,14,9,6,5,7,8,3,2,0,1,4,10,16,21],[22,23,21,16,10,4,1,0,2,3,8,7,5,6,9,14,13,11,12,15,19,18,17,20,24],[24,25,22,20,17,18,19,15,12,11,13,14,9,6,5,7,8,3,2,0,1,4,10,16,21,23],[23,22,25,24,26,20,17,18,19,15,12,11,13,14,9,6,5,7,8,3,2,0,1,4,10,16,21],[21,16,10,4,1,0,2,3,8,7,5,6,9,14,13,11,12,15,19,18,17,20,26,24,25,22,23,27],[27,23,22,25,24,26,20,17,18,19,15,12,11,13,14,9,6,5,7,8,3,2,0,1,4,10,16,21,28],[28,21,16,10,4,1,0,2,3,8,7,5,6,9,14,13,11,12,15,19,18,17,20,26,24,25,22,23,27,29],[27,23,22,25,24,26,20,17,18,19,15,12,11,13,14,9,6,5,7,8,3,2,0,1,4,10,16,21,28],[29,30,28,21,16,10,4,1,0,2,3,8,7,5,6,9,14,13,11,12,15,19,18,17,20,26,24,25,22,23,27,31],[31,32,29,27,23,22,25,24,26,20,17,18,19,15,12,11,13,14,9,6,5,7,8,3,2,0,1,4,10,16,21,28,30],[30,29,32,31,33,27,23,22,25,24,26,20,17,18,19,15,12,11,13,14,9,6,5,7,8,3,2,0,1,4,10,16,21,28],[28,21,16,10,4,1,0,2,3,8,7,5,6,9,14,13,11,12,15,19,18,17,20,26,24,25,22,23,27,33,31,32,29,30,34],[34,30,29,32,31,33,27,23,22,25,24,26,20,17,18,19,15,12,11,13,14,9,6,5,7,8,3,2,0,1,4,10,16,21,28,35],[35,28,21,16,10,4,1,0,2,3,8,7,5,6,9,14,13,11,12,15,19,18,17,20,26,24,25,22,23,27,33,31,32,29,30,34,36],[34,30,29,32,31,33,27,23,22,25,24,26,20,17,18,19,15,12,11,13,14,9,6,5,7,8,3,2,0,1,4,10,16,21,28,35],[36,37,35,28,21,16,10,4,1,0,2,3,8,7,5,6,9,14,13,11,12,15,19,18,17,20,26,24,25,22,23,27,33,31,32,29,30,34,38],[38,39,36,34,30,29,32,31,33,27,23,22,25,24,26,20,17,18,19,15,12,11,13,14,9,6,5,7,8,3,2,0,1,4,10,16,21,28,35,37],[37,36,39,38,40,34,30,29,32,31,33,27,23,22,25,24,26,20,17,18,19,15,12,11,13,14,9,6,5,7,8,3,2,0,1,4,10,16,21,28,35],[35,28,21,16,10,4,1,0,2,3,8,7,5,6,9,14,13,11,12,15,19,18,17,20,26,24,25,22,23,27,33,31,32,29,30,34,40,38,39,36,37,41],[41,37,36,39,38,40,34,30,29,32,31,33,27,23,22,25,24,26,20,17,18,19,15,12,11,13,14,9,6,5,7,8,3,2,0,1,4,10,16,21,28,35,42],[43,41,37,36,39,38,40,34,30,29,32,31,33,27,23,22,25,24,26,20,17,18,19,15,12,11,13,14,9,6,5,7,8,3,2,0,1,4,10,16,21,28,35,42],[42,35,28,21,16,10,4,1,0,2,3,8,7,5,6,9,14,13,11,12,15,19,18,17,20,26,24,25,22,23,27,33,31,32,29,30,34,40,38,39,36,37,41,43,44]]) 0 []) .ret))))))))
theorem gc6_ok:compF Tryz.prog Tryz.f6=some (gc6.er,100,[.tmp 4]):=by unfold gc6;kernel_rfl
theorem p_law12_DeframeFeeds_v (a0:DeframeState) (a1:ByteArray):CallsO Tryz.prog 6 [.agg [.s a0.Buf,.i a0.Bad,.i a0.Seen],.s a1] V.b (tru? (p_law12_DeframeFeeds a0 a1)):=by
 refine callsO_comp mix Tryz.func6 gc6_ok fun r H=>?_
 have H1:=tru_of H
 clear H
 obtain ⟨rfl,H⟩:=H1
 rw [p_law12_DeframeFeeds] at H
 conv=>whnf
 refine tst_c H (fun b1 H=>?_) (fun b1 H=>?_)
 ·conv=>whnf
  iterate 4 (refine Tst.T ?_;conv=>whnf)
  refine ask_c (p_law12_awake_v) H rfl rfl (fun v2 H=>?_);conv=>whnf
  exact fb_ H
 conv=>whnf
 iterate 3 (refine Tst.F ?_;conv=>whnf)
 refine tst_c H (fun b3 H=>?_) (fun b3 H=>?_)
 ·conv=>whnf
  refine ask_c (p_law12_awake_v) H rfl rfl (fun v4 H=>?_);conv=>whnf
  exact fb_ H
 conv=>whnf
 refine lq_ ?_;conv=>whnf
 refine ask_c (p_deframe_Feed_v _ _) H rfl rfl (fun v5 H=>?_);conv=>whnf
 refine lq_ ?_;conv=>whnf
 refine ask_c (p_ref12_Feed_v _ _) H rfl rfl (fun v6 H=>?_);conv=>whnf
 refine lq_ ?_;conv=>whnf
 refine ask_c (p_deframe_Texts_v _ _) H rfl rfl (fun v7 H=>?_);conv=>whnf
 refine lq_ ?_;conv=>whnf
 refine ask_c (p_ref12_Texts_v _ _) H rfl rfl (fun v8 H=>?_);conv=>whnf
 refine lq_ ?_;conv=>whnf
 refine ask_c (p_law12_back_v _) H rfl rfl (fun v9 H=>?_);conv=>whnf
 refine tstT_c H (fun b10 H=>?_);conv=>whnf
 refine Tst.T ?_;conv=>whnf
 refine ask_c (p_law12_Items_v _) H rfl rfl (fun v11 H=>?_);conv=>whnf
 iterate 2 (refine Tst.T ?_;conv=>whnf)
 refine ask_c (p_ref12_SameItems_v _ _) H rfl rfl (fun v12 H=>?_);conv=>whnf
 refine Tst.T ?_;conv=>whnf
 refine tstT_c H (fun b13 H=>?_);conv=>whnf
 refine Tst.T ?_;conv=>whnf
 refine ask_c (p_law12_back_v _) H rfl rfl (fun v14 H=>?_);conv=>whnf
 iterate 3 (refine Tst.T ?_;conv=>whnf)
 refine tstT_c H (fun b15 H=>?_);conv=>whnf
 iterate 2 (refine Tst.T ?_;conv=>whnf)
 refine ask_c (p_ref01_SameTexts_v _ _) H rfl rfl (fun v16 H=>?_);conv=>whnf
 refine Tst.T ?_;conv=>whnf
 refine tstT_c H (fun b17 H=>?_);conv=>whnf
 refine Tst.T ?_;conv=>whnf
 refine ask_c (p_deframe_Check_v _) H rfl rfl (fun v18 H=>?_);conv=>whnf
 iterate 2 (refine Tst.T ?_;conv=>whnf)
 refine ask_c (p_ref12_Check_v _) H rfl rfl (fun v19 H=>?_);conv=>whnf
 iterate 2 (refine Tst.T ?_;conv=>whnf)
 refine tstT_c H (fun b20 H=>?_);conv=>whnf
 refine Tst.T ?_;conv=>whnf
 refine ask_c (p_deframe_Need_v _) H rfl rfl (fun v21 H=>?_);conv=>whnf
 iterate 2 (refine Tst.T ?_;conv=>whnf)
 refine ask_c (p_ref12_Need_v _) H rfl rfl (fun v22 H=>?_);conv=>whnf
 iterate 2 (refine Tst.T ?_;conv=>whnf)
 refine tstT_c H (fun b23 H=>?_);conv=>whnf
 refine Tst.T ?_;conv=>whnf
 refine ask_c (p_deframe_Need_v _) H rfl rfl (fun v24 H=>?_);conv=>whnf
 iterate 2 (refine Tst.T ?_;conv=>whnf)
 refine ask_c (p_ref12_Need_v _) H rfl rfl (fun v25 H=>?_);conv=>whnf
 iterate 2 (refine Tst.T ?_;conv=>whnf)
 refine tstT_c H (fun b26 H=>?_);conv=>whnf
 refine ask_c (p_law12_awake_v) H rfl rfl (fun v27 H=>?_);conv=>whnf
 refine Tst.T ?_;conv=>whnf
 refine FootQ.mk ⟨rfl,?_⟩;conv=>whnf
 exact fb_ H
end Go.Proofs.YtmmmcpeickfolaaGreat

namespace Go.Proofs.YtmmmcpeickfolaaGreat
open Go.ChangeShapes Go.WideShapes Go.ChangeAt Go.RowKit Go.Joins Go.Deep
theorem deframeFeeds_named:Tryz.pinned.checked.prog.funcNamed Rows.deframeFeedsRow.func=some 6:=by kernel_rfl
theorem deframeFeeds_closed:joinedFacts Tryz.pinned.checked.prog 6 Tryz.f6 Rows.deframeFeedsSpec Rows.deframeFeedsRow=true:=by kernel_rfl
end Go.Proofs.YtmmmcpeickfolaaGreat

namespace Go.Proofs.YtmmmcpeickfolaaGreat
open Go.ChangeShapes Go.WideShapes Go.ChangeAt Go.RowKit Go.Joins Go.Deep
set_option maxRecDepth 100000 in
theorem deframeFeeds_lifted (os:Os) (started:os.Started) (H:Type) (enc:TypeId × Value→H) :
  ReturnsInHanded {} Tryz.checked os 6 .any (Rows.deframeFeedsSpec.pre6 enc Tryz.prog Tryz.f6 Rows.deframeFeedsRow.domain false) (Rows.deframeFeedsSpec.post enc Tryz.prog Tryz.f6 false true false false):=by
 refine returnsInHanded_of_change_shaped (C:=Tryz.checked) own0 started (by kernel_rfl) Tryz.func6
  (ChangeSpec.witness6 (enc:=enc) (C:=Tryz.checked) false ⟨#[],#[.agg #[.string ⟨#[]⟩,.int .i64 0,.int .i64 0],.string ⟨#[]⟩],[]⟩ 8 (by kernel_rfl) (by kernel_rfl) (by kernel_rfl) (by kernel_rfl)) ?_
 intro W base args ds gs before hval0 hW hcnd _ hsh _
 have hval:∀ (j:Nat) t v,Tryz.f6.params[j]?=some t→args[j]?=some v→Value.okWide Tryz.prog W .any base t v:=hval0
 have hW':=hW
 obtain ⟨p,q,hA0,hV,rfl,hfz,hnd⟩:=hW
 have hA:DataW.TrodAll enc Tryz.prog W 0 (fun _=>true) true Tryz.f6.params.toList args.toList ds p:=hA0
 rw [Tryz.params6] at hA hval
 have hA2:=hA
 obtain ⟨v0,v1,d0,d1,p0,p1,rfl,rfl,hp,h0,h1⟩:=trodAll_two hA
 obtain ⟨rfl,rfl⟩:=trodVars_none hV
 obtain ⟨fu0,hf0⟩:=h0
 obtain ⟨cs0,rfl,_⟩:=okWide_struct Tryz.underlying60 (hval 0 _ v0 rfl rfl)
 obtain ⟨a0,w0,r0⟩:=rd_T60 hf0
 have hx0:Rep (MW W) noBk (.agg cs0) (.agg [.s a0.Buf,.i a0.Bad,.i a0.Seen]):=rep_aggL r0 (by intro u hu;simp only [List.mem_cons,List.not_mem_nil,or_false] at hu;rcases hu with rfl | rfl | rfl <;> rfl)
 obtain ⟨fu1,hf1⟩:=h1
 obtain ⟨q1,rfl⟩:=okWide_string Tryz.underlying9 (hval 1 _ v1 rfl rfl)
 obtain ⟨a1,r1⟩:=rd_string Tryz.underlying9 hf1
 have hx1:Rep (MW W) noBk _ _:=r1.2 0 (by simp [Value.cells]) (by simp)
 refine (rep_one (callsO_true (p_law12_DeframeFeeds_v a0 a1) (tru_ok (deframeFeeds_all a0 a1))) (maxLen_cell W hsh) (repAr2 hx0 hx1)).mono ?_
 rintro e W' ⟨rfl,bel⟩
 refine ⟨_,rfl,_,_,_,[],p,[],hW',?_,?_,?_,?_,?_⟩
 ·exact trodAll_mk1 (shut_bool Tryz.underlying4 true)
 ·exact trodAll_below laid0 bel (by
   intro t ht
   simp at ht
   rcases ht with rfl | rfl <;> exact ⟨by kernel_rfl,of_decide_eq_true (by kernel_rfl)⟩) hA2
 ·rfl
 ·exact bel.frame _
 ·exact fun h=>by cases h
theorem deframeFeeds_holds:Rows.DeframeFeedsSaid :=
 OpenClaim.holds_of_wide 6 Tryz.f6 rfl rfl rfl rfl rfl rfl rfl ⟨rfl,rfl,rfl,rfl,rfl⟩ rfl rfl rfl rfl rfl deframeFeeds_named Tryz.func6 deframeFeeds_closed
  (of_decide_eq_true (by kernel_rfl)) (by unfold Func.isWrapper;first | (rw [if_pos (by decide +kernel)];kernel_rfl) | (rw [if_neg (by decide +kernel)];exact ⟨rfl,rfl⟩))
  (fun os started H enc _=>deframeFeeds_lifted os started H enc)
#print axioms deframeFeeds_holds
end Go.Proofs.YtmmmcpeickfolaaGreat

