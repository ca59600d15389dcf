/- A part of the proof: 7 texts joined. -/
import Derived.Test.YtmmmcpeickfolaaGreatZdA26
import Derived.Test.YtmmmcpeickfolaaGreatZdA27
import Derived.Test.YtmmmcpeickfolaaGreatZdA14
import Derived.KernelRfl
import Derived.Test.YtmmmcpeickfolaaGreatZdA18
set_option linter.all false
namespace Go.Proofs.YtmmmcpeickfolaaGreat
open Go.RowKit
set_option maxRecDepth 1000000
set_option maxHeartbeats 4000000
def gc36:BCode:=(.seq (R_ 1 [O_ 1 (.bx (t_ 0)) 0,O_ 2 (.mv (i_ 0)) 1]) (.seq (.seq (R_ 0 [O_ 4 (.ld 3 true (t_ 1)) 0,O_ 5 (.cl 60 [(t_ 4)]) 0]) (.cond (t_ 5) (.seq (R_ 0 [O_ 2 (.mv (i_ 0)) 0]) .ret) .skip)) (.seq (R_ 0 [O_ 3 (.mv (i_ 2)) 0]) (.seq (.seq (R_ 0 [O_ 6 (.fa 0 (t_ 1)) 0,O_ 7 (.ld 1 false (t_ 6)) 0,O_ 8 (.lent (t_ 7)) 0,O_ 9 (.bin .geq (t_ 8) (i_ 2)) 0]) (.cond (t_ 9) (.reg 0 [O_ 10 (.mv (t_ 3)) 0,O_ 11 (.fa 0 (t_ 1)) 0,O_ 12 (.ld 1 false (t_ 11)) 0,O_ 13 (.ixt (t_ 12) (i_ 0)) 0,O_ 14 (.cvi .i64 (t_ 13)) 0,O_ 15 (.bin .shl (t_ 14) (.const (.int .u64 8))) 0,O_ 16 (.fa 0 (t_ 1)) 0,O_ 17 (.ld 1 false (t_ 16)) 0,O_ 18 (.ixt (t_ 17) (i_ 1)) 0,O_ 19 (.cvi .i64 (t_ 18)) 0,O_ 20 (.bin .or (t_ 15) (t_ 19)) 0,O_ 21 (.bin .add (t_ 10) (t_ 20)) 0,O_ 3 (.mv (t_ 21)) 0] (some [[],[],[1],[1,2],[2,1,3],[3,1,2,4],[],[6],[6,7],[7,6,8],[8,6,7,9,4,2,1,3,5],[5,3,1,2,4,9,7,6,8,10,0],[0,10,8,6,7,9,4,2,1,3,5,11]]) 0 []) .skip)) (.seq (R_ 0 [O_ 22 (.mv (t_ 3)) 0,O_ 23 (.fa 0 (t_ 1)) 0,O_ 24 (.ld 1 false (t_ 23)) 0,O_ 25 (.lent (t_ 24)) 0,O_ 26 (.bin .sub (t_ 22) (t_ 25)) 0,O_ 2 (.mv (t_ 26)) 0]) .ret)))))
theorem gc36_ok:compF Tryz.prog Tryz.f36=some (gc36.er,27,[.tmp 2]):=by unfold gc36;kernel_rfl
theorem p_deframe_Need_v (a0:DeframeState):CallsO Tryz.prog 36 [.agg [.s a0.Buf,.i a0.Bad,.i a0.Seen]] V.i (p_deframe_Need a0):=by
 refine callsO_comp mix Tryz.func36 gc36_ok fun r H=>?_
 rw [p_deframe_Need] at H
 conv=>whnf
 refine ask_c (p_deframe_State_deaf_v _) H rfl rfl (fun v1 H=>?_);conv=>whnf
 refine tst_c H (fun b2 H=>?_) (fun b2 H=>?_)
 ·conv=>whnf
  exact fi_ H
 conv=>whnf
 refine tst_d H (fun b3 H=>?_) (fun b3 H=>?_)
 ·conv=>whnf
  refine Ari.w ?_;conv=>whnf
  exact fi_ H
 conv=>whnf
 refine ixt_c H (fun c4 H=>?_);conv=>whnf
 refine Ari.w ?_;conv=>whnf
 refine Shl.ok (by decide) ?_;conv=>whnf
 refine ixt_c H (fun c5 H=>?_);conv=>whnf
 iterate 2 (refine Ari.w ?_;conv=>whnf)
 refine FootQ.mk ⟨rfl,?_⟩;conv=>whnf
 refine Ari.w ?_;conv=>whnf
 exact fi_ H
def gc25:BCode:=(.seq (R_ 0 [O_ 0 (.mv (b_ false)) 0]) (.seq (R_ 1 [O_ 14 (.bd [(.lit (.string ⟨#[]⟩)),(.lit (.int .i64 0)),(.lit (.int .i64 0))] []) 0,O_ 15 (.cl 26 [(t_ 14),(.const (.string ⟨#[0,1]⟩))]) 0,O_ 13 (.mv (t_ 15)) 0,O_ 16 (.ex (t_ 13) 0) 0,O_ 17 (.ex (t_ 13) 1) 0,O_ 1 (.al (.agg [(.lit (.string ⟨#[]⟩)),(.lit (.int .i64 0)),(.lit (.int .i64 0))])) 0,U_ (.st 3 (t_ 1) (t_ 16)) 1,O_ 2 (.mv (t_ 17)) 1]) (.seq (R_ 1 [O_ 19 (.ld 3 true (t_ 1)) 0,O_ 20 (.cl 26 [(t_ 19),(.const (.string ⟨#[2,0,2,16,120,0]⟩))]) 0,O_ 18 (.mv (t_ 20)) 0,O_ 21 (.ex (t_ 18) 0) 0,O_ 22 (.ex (t_ 18) 1) 0,O_ 3 (.al (.agg [(.lit (.string ⟨#[]⟩)),(.lit (.int .i64 0)),(.lit (.int .i64 0))])) 0,U_ (.st 3 (t_ 3) (t_ 21)) 1,O_ 4 (.mv (t_ 22)) 1]) (.seq (R_ 1 [O_ 24 (.ld 3 true (t_ 3)) 0,O_ 25 (.cl 26 [(t_ 24),(.const (.string ⟨#[0,120]⟩))]) 0,O_ 23 (.mv (t_ 25)) 0,O_ 26 (.ex (t_ 23) 0) 0,O_ 27 (.ex (t_ 23) 1) 0,O_ 5 (.al (.agg [(.lit (.string ⟨#[]⟩)),(.lit (.int .i64 0)),(.lit (.int .i64 0))])) 0,U_ (.st 3 (t_ 5) (t_ 26)) 1,O_ 6 (.mv (t_ 27)) 1]) (.seq (R_ 1 [O_ 29 (.ld 3 true (t_ 5)) 0,O_ 30 (.cl 28 [(t_ 29),(.const (.string ⟨#[0,1,2]⟩))]) 0,O_ 28 (.mv (t_ 30)) 0,O_ 31 (.ex (t_ 28) 0) 0,O_ 32 (.ex (t_ 28) 1) 0,O_ 7 (.al (.agg [(.lit (.string ⟨#[]⟩)),(.lit (.int .i64 0)),(.lit (.int .i64 0))])) 0,U_ (.st 3 (t_ 7) (t_ 31)) 1,O_ 8 (.mv (t_ 32)) 1]) (.seq (R_ 1 [O_ 34 (.bd [(.lit (.int .u8 0)),(.lit (.string ⟨#[]⟩)),(.lit (.string ⟨#[]⟩)),(.lit (.string ⟨#[]⟩)),(.lit (.int .i64 0)),(.lit (.int .i64 0)),(.lit (.int .i64 0)),(.lit (.int .i64 0))] [(0,1,(.const (.int .u8 2)))]) 0,O_ 35 (.bd [(.lit (.int .u8 0)),(.lit (.string ⟨#[]⟩)),(.lit (.string ⟨#[]⟩)),(.lit (.string ⟨#[]⟩)),(.lit (.int .i64 0)),(.lit (.int .i64 0)),(.lit (.int .i64 0)),(.lit (.int .i64 0))] [(0,1,(.const (.int .u8 15))),(7,1,(i_ 1))]) 0,O_ 36 (.bs 8 2 [(.lit (.int .u8 0)),(.lit (.string ⟨#[]⟩)),(.lit (.string ⟨#[]⟩)),(.lit (.string ⟨#[]⟩)),(.lit (.int .i64 0)),(.lit (.int .i64 0)),(.lit (.int .i64 0)),(.lit (.int .i64 0)),(.lit (.int .u8 0)),(.lit (.string ⟨#[]⟩)),(.lit (.string ⟨#[]⟩)),(.lit (.string ⟨#[]⟩)),(.lit (.int .i64 0)),(.lit (.int .i64 0)),(.lit (.int .i64 0)),(.lit (.int .i64 0))] [(0,(t_ 34)),(1,(t_ 35))]) 0,O_ 37 (.cl 39 [(t_ 36)]) 1,O_ 33 (.mv (t_ 37)) 1,O_ 38 (.ex (t_ 33) 0) 1,O_ 39 (.ex (t_ 33) 1) 1,O_ 9 (.mv (t_ 38)) 1,O_ 10 (.mv (t_ 39)) 1]) (.seq (R_ 1 [O_ 41 (.bd [(.lit (.int .u8 0)),(.lit (.string ⟨#[]⟩)),(.lit (.string ⟨#[]⟩)),(.lit (.string ⟨#[]⟩)),(.lit (.int .i64 0)),(.lit (.int .i64 0)),(.lit (.int .i64 0)),(.lit (.int .i64 0))] []) 0,O_ 42 (.bs 8 1 [(.lit (.int .u8 0)),(.lit (.string ⟨#[]⟩)),(.lit (.string ⟨#[]⟩)),(.lit (.string ⟨#[]⟩)),(.lit (.int .i64 0)),(.lit (.int .i64 0)),(.lit (.int .i64 0)),(.lit (.int .i64 0))] [(0,(t_ 41))]) 0,O_ 43 (.cl 39 [(t_ 42)]) 1,O_ 40 (.mv (t_ 43)) 1,O_ 44 (.ex (t_ 40) 0) 1,O_ 45 (.ex (t_ 40) 1) 1,O_ 11 (.mv (t_ 44)) 1,O_ 12 (.mv (t_ 45)) 1]) (.seq (R_ 0 [O_ 46 (.mv (t_ 2)) 0,O_ 47 (.lens (t_ 46)) 0,O_ 48 (.bin .eql (t_ 47) (i_ 0)) 0,O_ 49 (.mv (t_ 48)) 0,⟨(some 50),.ld 3 true (t_ 1),(some (49,true)),0⟩,⟨(some 51),.cl 36 [(t_ 50)],(some (49,true)),0⟩,⟨(some 52),.bin .eql (t_ 51) (i_ 1),(some (49,true)),0⟩,O_ 53 (.pick (t_ 49) (t_ 52) (b_ false)) 0,O_ 54 (.mv (t_ 53)) 0,⟨(some 55),.mv (t_ 4),(some (54,true)),0⟩,⟨(some 56),.lens (t_ 55),(some (54,true)),0⟩,⟨(some 57),.bin .eql (t_ 56) (i_ 2),(some (54,true)),0⟩,O_ 58 (.pick (t_ 54) (t_ 57) (b_ false)) 0,O_ 59 (.mv (t_ 58)) 0,⟨(some 60),.mv (t_ 4),(some (59,true)),0⟩,⟨(some 61),.ixs 9 (t_ 60) (i_ 0),(some (59,true)),0⟩,⟨(some 62),.fa 0 (t_ 61),(some (59,true)),0⟩,⟨(some 63),.fa 0 (t_ 62),(some (59,true)),0⟩,⟨(some 64),.ld 1 false (t_ 63),(some (59,true)),0⟩,⟨(some 65),.bin .eql (t_ 64) (.const (.int .u8 2)),(some (59,true)),0⟩,O_ 66 (.pick (t_ 59) (t_ 65) (b_ false)) 0,O_ 67 (.mv (t_ 66)) 0,⟨(some 68),.mv (t_ 4),(some (67,true)),0⟩,⟨(some 69),.ixs 9 (t_ 68) (i_ 0),(some (67,true)),0⟩,⟨(some 70),.fa 8 (t_ 69),(some (67,true)),0⟩,⟨(some 71),.ld 1 false (t_ 70),(some (67,true)),0⟩,⟨(some 72),.bin .eql (t_ 71) (i_ 0),(some (67,true)),0⟩,O_ 73 (.pick (t_ 67) (t_ 72) (b_ false)) 0,O_ 74 (.mv (t_ 73)) 0,⟨(some 75),.mv (t_ 4),(some (74,true)),0⟩,⟨(some 76),.ixs 9 (t_ 75) (i_ 1),(some (74,true)),0⟩,⟨(some 77),.fa 8 (t_ 76),(some (74,true)),0⟩,⟨(some 78),.ld 1 false (t_ 77),(some (74,true)),0⟩,⟨(some 79),.bin .eql (t_ 78) (i_ 12),(some (74,true)),0⟩,O_ 80 (.pick (t_ 74) (t_ 79) (b_ false)) 0,O_ 81 (.mv (t_ 80)) 0,⟨(some 82),.fa 0 (t_ 3),(some (81,true)),0⟩,⟨(some 83),.ld 1 false (t_ 82),(some (81,true)),0⟩,⟨(some 84),.bin .eql (t_ 83) (.const (.string ⟨#[0]⟩)),(some (81,true)),0⟩,O_ 85 (.pick (t_ 81) (t_ 84) (b_ false)) 0,O_ 86 (.mv (t_ 85)) 0,⟨(some 87),.fa 2 (t_ 3),(some (86,true)),0⟩,⟨(some 88),.ld 1 false (t_ 87),(some (86,true)),0⟩,⟨(some 89),.bin .eql (t_ 88) (i_ 2),(some (86,true)),0⟩,O_ 90 (.pick (t_ 86) (t_ 89) (b_ false)) 0,O_ 91 (.mv (t_ 90)) 0,⟨(some 92),.ld 3 true (t_ 3),(some (91,true)),0⟩,⟨(some 93),.cl 36 [(t_ 92)],(some (91,true)),0⟩,⟨(some 94),.bin .eql (t_ 93) (i_ 1),(some (91,true)),0⟩,O_ 95 (.pick (t_ 91) (t_ 94) (b_ false)) 0,O_ 96 (.mv (t_ 95)) 0,⟨(some 97),.fa 1 (t_ 5),(some (96,true)),0⟩,⟨(some 98),.ld 1 false (t_ 97),(some (96,true)),0⟩,⟨(some 99),.bin .eql (t_ 98) (i_ 4),(some (96,true)),0⟩,O_ 100 (.pick (t_ 96) (t_ 99) (b_ false)) 0,O_ 101 (.mv (t_ 100)) 0,⟨(some 102),.mv (t_ 6),(some (101,true)),0⟩,⟨(some 103),.lens (t_ 102),(some (101,true)),0⟩,⟨(some 104),.bin .eql (t_ 103) (i_ 0),(some (101,true)),0⟩,O_ 105 (.pick (t_ 101) (t_ 104) (b_ false)) 0,O_ 106 (.mv (t_ 105)) 0,⟨(some 107),.ld 3 true (t_ 7),(some (106,true)),0⟩,⟨(some 108),.ld 3 true (t_ 5),(some (106,true)),0⟩,⟨(some 109),.eqa false [2,1,1] (t_ 107) (t_ 108),(some (106,true)),0⟩,O_ 110 (.pick (t_ 106) (t_ 109) (b_ false)) 0,O_ 111 (.mv (t_ 110)) 0,⟨(some 112),.mv (t_ 8),(some (111,true)),0⟩,⟨(some 113),.lens (t_ 112),(some (111,true)),0⟩,⟨(some 114),.bin .eql (t_ 113) (i_ 0),(some (111,true)),0⟩,O_ 115 (.pick (t_ 111) (t_ 114) (b_ false)) 0,O_ 116 (.mv (t_ 115)) 0,⟨(some 117),.mv (t_ 9),(some (116,true)),0⟩,⟨(some 118),.bin .eql (t_ 117) (.const (.string ⟨#[0,1,2,0,7,15,0,0,0,0,0,1]⟩)),(some (116,true)),0⟩,O_ 119 (.pick (t_ 116) (t_ 118) (b_ false)) 0,O_ 120 (.mv (t_ 119)) 0,⟨(some 121),.mv (t_ 10),(some (120,true)),0⟩,⟨(some 122),.bin .eql (t_ 121) (i_ 0),(some (120,true)),0⟩,O_ 123 (.pick (t_ 120) (t_ 122) (b_ false)) 0,O_ 124 (.mv (t_ 123)) 0,⟨(some 125),.mv (t_ 12),(some (124,true)),0⟩,⟨(some 126),.bin .eql (t_ 125) (i_ 12),(some (124,true)),0⟩,O_ 127 (.pick (t_ 124) (t_ 126) (b_ false)) 0,O_ 128 (.mv (t_ 127)) 0,⟨(some 129),.ld 3 true (t_ 3),(some (128,true)),0⟩,⟨(some 130),.cl 34 [(t_ 129)],(some (128,true)),0⟩,⟨(some 131),.bin .eql (t_ 130) (i_ 0),(some (128,true)),0⟩,O_ 132 (.pick (t_ 128) (t_ 131) (b_ false)) 0,O_ 133 (.mv (t_ 132)) 0,⟨(some 134),.bd [(.lit (.string ⟨#[]⟩)),(.lit (.int .i64 0)),(.lit (.int .i64 0))] [(2,1,(.const (.int .i64 (-1))))],(some (133,true)),0⟩,⟨(some 135),.cl 34 [(t_ 134)],(some (133,true)),0⟩,⟨(some 136),.bin .eql (t_ 135) (i_ 8),(some (133,true)),0⟩,O_ 137 (.pick (t_ 133) (t_ 136) (b_ false)) 0,O_ 138 (.mv (t_ 137)) 0,O_ 139 (.pick (t_ 138) (b_ true) (b_ false)) 0,O_ 140 (.mv (t_ 139)) 0,O_ 141 (.pick (t_ 140) (b_ true) (b_ false)) 0,O_ 142 (.mv (t_ 141)) 0,O_ 143 (.pick (t_ 142) (b_ true) (b_ false)) 0,O_ 0 (.mv (t_ 143)) 0]) .ret))))))))
theorem gc25_ok:compF Tryz.prog Tryz.f25=some (gc25.er,144,[.tmp 0]):=by unfold gc25;kernel_rfl
theorem p_law12_awake_t:CallsO Tryz.prog 25 [] V.b (tru? (p_law12_awake)):=by
 refine callsO_comp mix Tryz.func25 gc25_ok fun r H=>?_
 have H1:=tru_of H
 clear H
 obtain ⟨rfl,H⟩:=H1
 rw [p_law12_awake] at H
 conv=>whnf
 refine ask_c (p_deframe_Feed_v _ _) H rfl rfl (fun v1 H=>?_);conv=>whnf
 refine lq_ ?_;conv=>whnf
 refine ask_c (p_deframe_Feed_v _ _) H rfl rfl (fun v2 H=>?_);conv=>whnf
 refine lq_ ?_;conv=>whnf
 refine ask_c (p_deframe_Feed_v _ _) H rfl rfl (fun v3 H=>?_);conv=>whnf
 refine lq_ ?_;conv=>whnf
 refine ask_c (p_deframe_Texts_v _ _) H rfl rfl (fun v4 H=>?_);conv=>whnf
 refine lq_ ?_;conv=>whnf
 refine askF_c (p_deframe_Encode_v _) H (.cons (.c (fzown (f:=StanzaStanza.v) (l:=[(StanzaStanza.mk (2:Int) (⟨#[]⟩ : ByteArray) (⟨#[]⟩ : ByteArray) (⟨#[]⟩ : ByteArray) (0:Int) (0:Int) (0:Int) (0:Int)),(StanzaStanza.mk (15:Int) (⟨#[]⟩ : ByteArray) (⟨#[]⟩ : ByteArray) (⟨#[]⟩ : ByteArray) (0:Int) (0:Int) (0:Int) (1:Int))]) rfl rfl (fun _=>rfl) (fun _=>rfl))) (.nil)) (fun v5 H=>?_);conv=>whnf
 refine askF_c (p_deframe_Encode_v _) H (.cons (.c (fzown (f:=StanzaStanza.v) (l:=[(StanzaStanza.mk (0:Int) (⟨#[]⟩ : ByteArray) (⟨#[]⟩ : ByteArray) (⟨#[]⟩ : ByteArray) (0:Int) (0:Int) (0:Int) (0:Int))]) rfl rfl (fun _=>rfl) (fun _=>rfl))) (.nil)) (fun v6 H=>?_);conv=>whnf
 refine LenQ.M ?_;conv=>whnf
 refine tstT_c H (fun b7 H=>?_);conv=>whnf
 refine Tst.T ?_;conv=>whnf
 refine ask_c (p_deframe_Need_v _) H rfl rfl (fun v8 H=>?_);conv=>whnf
 iterate 2 (refine Tst.T ?_;conv=>whnf)
 refine tstT_c H (fun b9 H=>?_);conv=>whnf
 refine Tst.T ?_;conv=>whnf
 refine LenQ.M ?_;conv=>whnf
 iterate 2 (refine Tst.T ?_;conv=>whnf)
 refine tstT_c H (fun b10 H=>?_);conv=>whnf
 refine Tst.T ?_;conv=>whnf
 refine ixs_c (f:=DeframeItem.v) H (fun _=>rfl) (fun x11 H=>?_);conv=>whnf
 refine Tst.T ?_;conv=>whnf
 refine lq_ ?_;conv=>whnf
 refine Tst.T ?_;conv=>whnf
 refine lq_ ?_;conv=>whnf
 iterate 3 (refine Tst.T ?_;conv=>whnf)
 refine tstT_c H (fun b12 H=>?_);conv=>whnf
 refine Tst.T ?_;conv=>whnf
 refine ixs_c (f:=DeframeItem.v) H (fun _=>rfl) (fun x13 H=>?_);conv=>whnf
 refine Tst.T ?_;conv=>whnf
 refine lq_ ?_;conv=>whnf
 iterate 3 (refine Tst.T ?_;conv=>whnf)
 refine tstT_c H (fun b14 H=>?_);conv=>whnf
 refine Tst.T ?_;conv=>whnf
 refine ixs_c (f:=DeframeItem.v) H (fun _=>rfl) (fun x15 H=>?_);conv=>whnf
 refine Tst.T ?_;conv=>whnf
 refine lq_ ?_;conv=>whnf
 iterate 3 (refine Tst.T ?_;conv=>whnf)
 refine tstT_c H (fun b16 H=>?_);conv=>whnf
 iterate 3 (refine Tst.T ?_;conv=>whnf)
 refine tstT_c H (fun b17 H=>?_);conv=>whnf
 iterate 3 (refine Tst.T ?_;conv=>whnf)
 refine tstT_c H (fun b18 H=>?_);conv=>whnf
 refine Tst.T ?_;conv=>whnf
 refine ask_c (p_deframe_Need_v _) H rfl rfl (fun v19 H=>?_);conv=>whnf
 iterate 2 (refine Tst.T ?_;conv=>whnf)
 refine tstT_c H (fun b20 H=>?_);conv=>whnf
 iterate 3 (refine Tst.T ?_;conv=>whnf)
 refine tstT_c H (fun b21 H=>?_);conv=>whnf
 refine Tst.T ?_;conv=>whnf
 refine LenQ.M ?_;conv=>whnf
 iterate 2 (refine Tst.T ?_;conv=>whnf)
 refine tstT_c H (fun b22 H=>?_);conv=>whnf
 iterate 3 (refine Tst.T ?_;conv=>whnf)
 refine tstT_c H (fun b23 H=>?_);conv=>whnf
 refine Tst.T ?_;conv=>whnf
 refine LenQ.M ?_;conv=>whnf
 iterate 2 (refine Tst.T ?_;conv=>whnf)
 refine tstT_c H (fun b24 H=>?_);conv=>whnf
 iterate 2 (refine Tst.T ?_;conv=>whnf)
 refine tstT_c H (fun b25 H=>?_);conv=>whnf
 iterate 2 (refine Tst.T ?_;conv=>whnf)
 refine tstT_c H (fun b26 H=>?_);conv=>whnf
 iterate 2 (refine Tst.T ?_;conv=>whnf)
 refine tstT_c H (fun b27 H=>?_);conv=>whnf
 refine Tst.T ?_;conv=>whnf
 refine ask_c (p_deframe_Check_v _) H rfl rfl (fun v28 H=>?_);conv=>whnf
 iterate 2 (refine Tst.T ?_;conv=>whnf)
 refine tstT_c H (fun b29 H=>?_);conv=>whnf
 refine Tst.T ?_;conv=>whnf
 refine ask_c (p_deframe_Check_v _) H rfl rfl (fun v30 H=>?_);conv=>whnf
 iterate 2 (refine Tst.T ?_;conv=>whnf)
 refine tstT_c H (fun b31 H=>?_);conv=>whnf
 iterate 2 (refine Tst.T ?_;conv=>whnf)
 exact fb_ H
theorem p_law12_awake_true:p_law12_awake=some true:=by kernel_rfl
theorem p_law12_awake_v:CallsO Tryz.prog 25 [] V.b p_law12_awake:=tru_closed p_law12_awake_t p_law12_awake_true
end Go.Proofs.YtmmmcpeickfolaaGreat

namespace Go.Proofs.YtmmmcpeickfolaaGreat
open Go.RowKit Go.Deep
theorem deframeEncodes_all (l:List StanzaStanza) (h:∀ x ∈ l,StanzaStanza.Wf x):p_law12_DeframeEncodes l=some true:=deframeEncodes_pure p_law12_awake_true l fun x hx=>bounds_u8 (h x hx).Kind
end Go.Proofs.YtmmmcpeickfolaaGreat

namespace Go.Proofs.YtmmmcpeickfolaaGreat
open Go.RowKit
set_option maxRecDepth 100000
set_option maxHeartbeats 4000000
def gc100:BCode:=(.seq (R_ 0 [O_ 2 (.mv (.const (.string ⟨#[]⟩))) 0]) (.seq (.seq (R_ 0 [O_ 3 (.mv (t_ 0)) 0]) (.block 0 (.seq (R_ 0 [O_ 5 (.bin .eql (t_ 3) (.const (.int .u8 1))) 0,O_ 4 (.mv (t_ 5)) 0]) (.cond (t_ 4) (.seq (R_ 0 [O_ 2 (.mv (.const (.string ⟨#[117,114]⟩))) 0]) .ret) (.seq (R_ 0 [O_ 7 (.bin .eql (t_ 3) (.const (.int .u8 3))) 0,O_ 6 (.mv (t_ 7)) 0]) (.cond (t_ 6) (.seq (R_ 0 [O_ 2 (.mv (.const (.string ⟨#[115,112]⟩))) 0]) .ret) (.seq (R_ 0 [O_ 9 (.bin .eql (t_ 3) (.const (.int .u8 5))) 0,O_ 8 (.mv (t_ 9)) 0]) (.cond (t_ 8) (.seq (R_ 0 [O_ 2 (.mv (.const (.string ⟨#[117,115,112]⟩))) 0]) .ret) (.seq (.seq (R_ 0 [O_ 11 (.bin .eql (t_ 3) (.const (.int .u8 6))) 0,O_ 10 (.mv (t_ 11)) 0]) (.cond (t_ 10) .skip (.seq (R_ 0 [O_ 12 (.bin .eql (t_ 3) (.const (.int .u8 7))) 0,O_ 10 (.mv (t_ 12)) 0]) (.cond (t_ 10) .skip (.seq (R_ 0 [O_ 13 (.bin .eql (t_ 3) (.const (.int .u8 8))) 0,O_ 10 (.mv (t_ 13)) 0]) (.cond (t_ 10) .skip (.seq (R_ 0 [O_ 14 (.bin .eql (t_ 3) (.const (.int .u8 9))) 0,O_ 10 (.mv (t_ 14)) 0]) (.cond (t_ 10) .skip (.seq (R_ 0 [O_ 15 (.bin .eql (t_ 3) (.const (.int .u8 10))) 0,O_ 10 (.mv (t_ 15)) 0]) (.cond (t_ 10) .skip (.seq (R_ 0 [O_ 16 (.bin .eql (t_ 3) (.const (.int .u8 11))) 0,O_ 10 (.mv (t_ 16)) 0]) (.cond (t_ 10) .skip (R_ 0 [O_ 17 (.bin .eql (t_ 3) (.const (.int .u8 14))) 0,O_ 10 (.mv (t_ 17)) 0]))))))))))))) (.cond (t_ 10) (.seq (R_ 0 [O_ 2 (.mv (.const (.string ⟨#[117]⟩))) 0]) .ret) (.seq (.seq (R_ 0 [O_ 19 (.bin .eql (t_ 3) (.const (.int .u8 12))) 0,O_ 18 (.mv (t_ 19)) 0]) (.cond (t_ 18) .skip (.seq (R_ 0 [O_ 20 (.bin .eql (t_ 3) (.const (.int .u8 15))) 0,O_ 18 (.mv (t_ 20)) 0]) (.cond (t_ 18) .skip (.seq (R_ 0 [O_ 21 (.bin .eql (t_ 3) (.const (.int .u8 36))) 0,O_ 18 (.mv (t_ 21)) 0]) (.cond (t_ 18) .skip (R_ 0 [O_ 22 (.bin .eql (t_ 3) (.const (.int .u8 41))) 0,O_ 18 (.mv (t_ 22)) 0]))))))) (.cond (t_ 18) (.seq (R_ 0 [O_ 2 (.mv (.const (.string ⟨#[110]⟩))) 0]) .ret) (.seq (R_ 0 [O_ 24 (.bin .eql (t_ 3) (.const (.int .u8 13))) 0,O_ 23 (.mv (t_ 24)) 0]) (.cond (t_ 23) (.seq (R_ 0 [O_ 2 (.mv (.const (.string ⟨#[117,109]⟩))) 0]) .ret) (.seq (R_ 0 [O_ 26 (.bin .eql (t_ 3) (.const (.int .u8 32))) 0,O_ 25 (.mv (t_ 26)) 0]) (.cond (t_ 25) (.seq (R_ 0 [O_ 2 (.mv (.const (.string ⟨#[99,110]⟩))) 0]) .ret) (.seq (R_ 0 [O_ 28 (.bin .eql (t_ 3) (.const (.int .u8 33))) 0,O_ 27 (.mv (t_ 28)) 0]) (.cond (t_ 27) (.seq (R_ 0 [O_ 2 (.mv (.const (.string ⟨#[99,115,110]⟩))) 0]) .ret) (.seq (R_ 0 [O_ 30 (.bin .eql (t_ 3) (.const (.int .u8 34))) 0,O_ 29 (.mv (t_ 30)) 0]) (.cond (t_ 29) (.seq (R_ 0 [O_ 2 (.mv (.const (.string ⟨#[117,114,115,112,110]⟩))) 0]) .ret) (.seq (R_ 0 [O_ 32 (.bin .eql (t_ 3) (.const (.int .u8 35))) 0,O_ 31 (.mv (t_ 32)) 0]) (.cond (t_ 31) (.seq (R_ 0 [O_ 2 (.mv (.const (.string ⟨#[117,114,110]⟩))) 0]) .ret) (.seq (R_ 0 [O_ 34 (.bin .eql (t_ 3) (.const (.int .u8 38))) 0,O_ 33 (.mv (t_ 34)) 0]) (.cond (t_ 33) (.seq (R_ 0 [O_ 2 (.mv (.const (.string ⟨#[117,109,115,110]⟩))) 0]) .ret) (.seq (R_ 0 [O_ 36 (.bin .eql (t_ 3) (.const (.int .u8 39))) 0,O_ 35 (.mv (t_ 36)) 0]) (.cond (t_ 35) (.seq (R_ 0 [O_ 2 (.mv (.const (.string ⟨#[117,110]⟩))) 0]) .ret) (.seq (R_ 0 [O_ 38 (.bin .eql (t_ 3) (.const (.int .u8 40))) 0,O_ 37 (.mv (t_ 38)) 0]) (.cond (t_ 37) (.seq (R_ 0 [O_ 2 (.mv (.const (.string ⟨#[117,99]⟩))) 0]) .ret) .skip)))))))))))))))))))))))))))) (.seq (R_ 0 [O_ 2 (.mv (.const (.string ⟨#[]⟩))) 0]) .ret)))
theorem gc100_ok:compF Tryz.prog Tryz.f100=some (gc100.er,39,[.tmp 2]):=by unfold gc100;kernel_rfl
theorem p_ref10_Has_v (a0:Int):CallsO Tryz.prog 100 [.y8 a0] V.s (p_ref10_Has a0):=by
 refine callsO_comp mix Tryz.func100 gc100_ok fun r H=>?_
 rw [p_ref10_Has] at H
 conv=>whnf
 refine tst_c H (fun b1 H=>?_) (fun b1 H=>?_)
 ·conv=>whnf
  exact fin0_c (enc:=V.s) H (.inr rfl) (.cons (.tmp rfl) (.nil)) rfl rfl
 conv=>whnf
 refine tst_c H (fun b2 H=>?_) (fun b2 H=>?_)
 ·conv=>whnf
  exact fin0_c (enc:=V.s) H (.inr rfl) (.cons (.tmp rfl) (.nil)) rfl rfl
 conv=>whnf
 refine tst_c H (fun b3 H=>?_) (fun b3 H=>?_)
 ·conv=>whnf
  exact fin0_c (enc:=V.s) H (.inr rfl) (.cons (.tmp rfl) (.nil)) rfl rfl
 conv=>whnf
 refine tst_c H (fun b4 H=>?_) (fun b4 H=>?_)
 ·conv=>whnf
  refine Tst.T ?_;conv=>whnf
  exact fin0_c (enc:=V.s) H (.inr rfl) (.cons (.tmp rfl) (.nil)) rfl rfl
 conv=>whnf
 refine tst_c H (fun b5 H=>?_) (fun b5 H=>?_)
 ·conv=>whnf
  refine Tst.T ?_;conv=>whnf
  exact fin0_c (enc:=V.s) H (.inr rfl) (.cons (.tmp rfl) (.nil)) rfl rfl
 conv=>whnf
 refine tst_c H (fun b6 H=>?_) (fun b6 H=>?_)
 ·conv=>whnf
  refine Tst.T ?_;conv=>whnf
  exact fin0_c (enc:=V.s) H (.inr rfl) (.cons (.tmp rfl) (.nil)) rfl rfl
 conv=>whnf
 refine tst_c H (fun b7 H=>?_) (fun b7 H=>?_)
 ·conv=>whnf
  refine Tst.T ?_;conv=>whnf
  exact fin0_c (enc:=V.s) H (.inr rfl) (.cons (.tmp rfl) (.nil)) rfl rfl
 conv=>whnf
 refine tst_c H (fun b8 H=>?_) (fun b8 H=>?_)
 ·conv=>whnf
  refine Tst.T ?_;conv=>whnf
  exact fin0_c (enc:=V.s) H (.inr rfl) (.cons (.tmp rfl) (.nil)) rfl rfl
 conv=>whnf
 refine tst_c H (fun b9 H=>?_) (fun b9 H=>?_)
 ·conv=>whnf
  refine Tst.T ?_;conv=>whnf
  exact fin0_c (enc:=V.s) H (.inr rfl) (.cons (.tmp rfl) (.nil)) rfl rfl
 conv=>whnf
 refine tst_c H (fun b10 H=>?_) (fun b10 H=>?_)
 ·conv=>whnf
  exact fin0_c (enc:=V.s) H (.inr rfl) (.cons (.tmp rfl) (.nil)) rfl rfl
 conv=>whnf
 refine tst_c H (fun b11 H=>?_) (fun b11 H=>?_)
 ·conv=>whnf
  refine Tst.T ?_;conv=>whnf
  exact fin0_c (enc:=V.s) H (.inr rfl) (.cons (.tmp rfl) (.nil)) rfl rfl
 conv=>whnf
 refine tst_c H (fun b12 H=>?_) (fun b12 H=>?_)
 ·conv=>whnf
  refine Tst.T ?_;conv=>whnf
  exact fin0_c (enc:=V.s) H (.inr rfl) (.cons (.tmp rfl) (.nil)) rfl rfl
 conv=>whnf
 refine tst_c H (fun b13 H=>?_) (fun b13 H=>?_)
 ·conv=>whnf
  refine Tst.T ?_;conv=>whnf
  exact fin0_c (enc:=V.s) H (.inr rfl) (.cons (.tmp rfl) (.nil)) rfl rfl
 conv=>whnf
 refine tst_c H (fun b14 H=>?_) (fun b14 H=>?_)
 ·conv=>whnf
  exact fin0_c (enc:=V.s) H (.inr rfl) (.cons (.tmp rfl) (.nil)) rfl rfl
 conv=>whnf
 refine tst_c H (fun b15 H=>?_) (fun b15 H=>?_)
 ·conv=>whnf
  exact fin0_c (enc:=V.s) H (.inr rfl) (.cons (.tmp rfl) (.nil)) rfl rfl
 conv=>whnf
 refine tst_c H (fun b16 H=>?_) (fun b16 H=>?_)
 ·conv=>whnf
  exact fin0_c (enc:=V.s) H (.inr rfl) (.cons (.tmp rfl) (.nil)) rfl rfl
 conv=>whnf
 refine tst_c H (fun b17 H=>?_) (fun b17 H=>?_)
 ·conv=>whnf
  exact fin0_c (enc:=V.s) H (.inr rfl) (.cons (.tmp rfl) (.nil)) rfl rfl
 conv=>whnf
 refine tst_c H (fun b18 H=>?_) (fun b18 H=>?_)
 ·conv=>whnf
  exact fin0_c (enc:=V.s) H (.inr rfl) (.cons (.tmp rfl) (.nil)) rfl rfl
 conv=>whnf
 refine tst_c H (fun b19 H=>?_) (fun b19 H=>?_)
 ·conv=>whnf
  exact fin0_c (enc:=V.s) H (.inr rfl) (.cons (.tmp rfl) (.nil)) rfl rfl
 conv=>whnf
 refine tst_c H (fun b20 H=>?_) (fun b20 H=>?_)
 ·conv=>whnf
  exact fin0_c (enc:=V.s) H (.inr rfl) (.cons (.tmp rfl) (.nil)) rfl rfl
 conv=>whnf
 refine tst_c H (fun b21 H=>?_) (fun b21 H=>?_)
 ·conv=>whnf
  exact fin0_c (enc:=V.s) H (.inr rfl) (.cons (.tmp rfl) (.nil)) rfl rfl
 conv=>whnf
 refine tst_c H (fun b22 H=>?_) (fun b22 H=>?_)
 ·conv=>whnf
  exact fin0_c (enc:=V.s) H (.inr rfl) (.cons (.tmp rfl) (.nil)) rfl rfl
 conv=>whnf
 exact fin0_c (enc:=V.s) H (.inr rfl) (.cons (.tmp rfl) (.nil)) rfl rfl
end Go.Proofs.YtmmmcpeickfolaaGreat

namespace Go.Proofs.YtmmmcpeickfolaaGreat
open Go.RowKit
set_option maxRecDepth 100000
set_option maxHeartbeats 4000000
def gc165:BCode:=(.seq (R_ 0 [O_ 2 (.mv (b_ false)) 0]) (.seq (R_ 0 [O_ 3 (.mv (t_ 0)) 0,O_ 4 (.bin .eql (t_ 3) (i_ 1)) 0,O_ 5 (.mv (t_ 4)) 0,⟨(some 6),.mv (t_ 0),(some (5,false)),0⟩,⟨(some 7),.bin .eql (t_ 6) (i_ 2),(some (5,false)),0⟩,O_ 8 (.pick (t_ 5) (b_ true) (t_ 7)) 0,O_ 9 (.mv (t_ 8)) 0,⟨(some 10),.mv (t_ 0),(some (9,false)),0⟩,⟨(some 11),.bin .eql (t_ 10) (i_ 4),(some (9,false)),0⟩,O_ 12 (.pick (t_ 9) (b_ true) (t_ 11)) 0,O_ 13 (.mv (t_ 12)) 0,⟨(some 14),.mv (t_ 0),(some (13,false)),0⟩,⟨(some 15),.bin .eql (t_ 14) (i_ 6),(some (13,false)),0⟩,O_ 16 (.pick (t_ 13) (b_ true) (t_ 15)) 0,O_ 2 (.mv (t_ 16)) 0]) .ret))
theorem gc165_ok:compF Tryz.prog Tryz.f165=some (gc165.er,17,[.tmp 2]):=by unfold gc165;kernel_rfl
theorem p_ref01_wide_v (a0:Int):CallsO Tryz.prog 165 [.i a0] V.b (p_ref01_wide a0):=by
 refine callsO_comp mix Tryz.func165 gc165_ok fun r H=>?_
 rw [p_ref01_wide] at H
 conv=>whnf
 refine tst_c H (fun b1 H=>?_) (fun b1 H=>?_)
 ·conv=>whnf
  iterate 8 (refine Tst.T ?_;conv=>whnf)
  exact fb_ H
 conv=>whnf
 iterate 2 (refine Tst.F ?_;conv=>whnf)
 refine tst_c H (fun b2 H=>?_) (fun b2 H=>?_)
 ·conv=>whnf
  iterate 5 (refine Tst.T ?_;conv=>whnf)
  exact fb_ H
 conv=>whnf
 iterate 2 (refine Tst.F ?_;conv=>whnf)
 refine tst_c H (fun b3 H=>?_) (fun b3 H=>?_)
 ·conv=>whnf
  iterate 2 (refine Tst.T ?_;conv=>whnf)
  exact fb_ H
 conv=>whnf
 iterate 2 (refine Tst.F ?_;conv=>whnf)
 exact fb_ H
end Go.Proofs.YtmmmcpeickfolaaGreat

namespace Go.Proofs.YtmmmcpeickfolaaGreat
open Go.RowKit
end Go.Proofs.YtmmmcpeickfolaaGreat

namespace Go.Proofs.YtmmmcpeickfolaaGreat
open Go.RowKit
end Go.Proofs.YtmmmcpeickfolaaGreat

namespace Go.Proofs.YtmmmcpeickfolaaGreat
open Go.RowKit
set_option maxRecDepth 100000
set_option maxHeartbeats 4000000
def gc38:BCode:=(.seq (R_ 1 [O_ 1 (.bx (t_ 0)) 0,O_ 2 (.mv (b_ false)) 1]) (.seq (R_ 0 [O_ 3 (.fa 1 (t_ 1)) 0,O_ 4 (.ld 1 false (t_ 3)) 0,O_ 5 (.lent (t_ 4)) 0,O_ 6 (.bin .leq (t_ 5) (i_ 100)) 0,O_ 7 (.mv (t_ 6)) 0,⟨(some 8),.fa 2 (t_ 1),(some (7,true)),0⟩,⟨(some 9),.ld 1 false (t_ 8),(some (7,true)),0⟩,⟨(some 10),.lent (t_ 9),(some (7,true)),0⟩,⟨(some 11),.bin .leq (t_ 10) (i_ 100),(some (7,true)),0⟩,O_ 12 (.pick (t_ 7) (t_ 11) (b_ false)) 0,O_ 13 (.mv (t_ 12)) 0,⟨(some 14),.fa 3 (t_ 1),(some (13,true)),0⟩,⟨(some 15),.ld 1 false (t_ 14),(some (13,true)),0⟩,⟨(some 16),.lent (t_ 15),(some (13,true)),0⟩,⟨(some 17),.bin .leq (t_ 16) (i_ 100),(some (13,true)),0⟩,O_ 18 (.pick (t_ 13) (t_ 17) (b_ false)) 0,O_ 2 (.mv (t_ 18)) 0]) .ret))
theorem gc38_ok:compF Tryz.prog Tryz.f38=some (gc38.er,19,[.tmp 2]):=by unfold gc38;kernel_rfl
theorem p_ref10_Light_v (a0:StanzaStanza):CallsO Tryz.prog 38 [.agg [.y8 a0.Kind,.s a0.User,.s a0.Res,.s a0.Name,.i a0.Show,.i a0.Prio,.i a0.Code,.i a0.N]] V.b (p_ref10_Light a0):=by
 refine callsO_comp mix Tryz.func38 gc38_ok fun r H=>?_
 rw [p_ref10_Light] at H
 conv=>whnf
 refine tst_d H (fun b1 H=>?_) (fun b1 H=>?_)
 ·conv=>whnf
  iterate 9 (refine Tst.F ?_;conv=>whnf)
  exact fb_ H
 conv=>whnf
 iterate 4 (refine Tst.T ?_;conv=>whnf)
 refine tst_c H (fun b2 H=>?_) (fun b2 H=>?_)
 ·conv=>whnf
  iterate 4 (refine Tst.T ?_;conv=>whnf)
  exact fb_ H
 conv=>whnf
 iterate 4 (refine Tst.F ?_;conv=>whnf)
 exact fb_ H
def gc154:BCode:=(.seq (R_ 0 [O_ 4 (.mv (.const (.slice none 0 0))) 0,O_ 5 (.mv (i_ 0)) 0]) (.seq (.seq (R_ 0 [O_ 6 (.mv (t_ 0)) 0,O_ 7 (.lent (t_ 6)) 0,O_ 8 (.mv (t_ 1)) 0,O_ 9 (.bin .gtr (t_ 7) (t_ 8)) 0,O_ 10 (.mv (t_ 9)) 0,⟨(some 11),.mv (t_ 0),(some (10,false)),0⟩,⟨(some 12),.lent (t_ 11),(some (10,false)),0⟩,⟨(some 13),.bin .gtr (t_ 12) (i_ 255),(some (10,false)),0⟩,O_ 14 (.pick (t_ 10) (b_ true) (t_ 13)) 0]) (.cond (t_ 14) (.seq (R_ 0 [O_ 4 (.mv (.const (.slice none 0 0))) 0,O_ 5 (.mv (i_ 5)) 0]) .ret) .skip)) (.seq (R_ 2 [O_ 15 (.mv (t_ 0)) 0,O_ 16 (.lent (t_ 15)) 0,O_ 17 (.cvi .u8 (t_ 16)) 0,O_ 18 (.bs 1 1 [(.lit (.int .u8 0))] [(0,(t_ 17))]) 0,O_ 19 (.mv (t_ 0)) 1,O_ 20 (.ap 1 1 (t_ 18) (t_ 19)) 1,O_ 4 (.mv (t_ 20)) 2,O_ 5 (.mv (i_ 0)) 2]) .ret)))
theorem gc154_ok:compF Tryz.prog Tryz.f154=some (gc154.er,21,[.tmp 4,.tmp 5]):=by unfold gc154;kernel_rfl
theorem p_ref01_Say_v (a0:ByteArray) (a1:Int):CallsO Tryz.prog 154 [.s a0,.i a1] (fun r:(List Int) × Int=>.tup [(fun l:List Int=>V.sl (l.map V.y8) false) r.1,V.i r.2]) (p_ref01_Say a0 a1):=by
 refine callsO_comp mix Tryz.func154 gc154_ok fun r H=>?_
 rw [p_ref01_Say] at H
 conv=>whnf
 refine tst_c H (fun b1 H=>?_) (fun b1 H=>?_)
 ·conv=>whnf
  iterate 4 (refine Tst.T ?_;conv=>whnf)
  refine finR_c (enc:=(fun r:(List Int) × Int=>.tup [(fun l:List Int=>V.sl (l.map V.y8) false) r.1,V.i r.2])) H ?_;conv=>whnf
  exact ⟨_,.tup (.cons (.c (.slw)) (.cons (.c (.id rfl)) (.nil)))⟩
 conv=>whnf
 iterate 3 (refine Tst.F ?_;conv=>whnf)
 refine tst_c H (fun b2 H=>?_) (fun b2 H=>?_)
 ·conv=>whnf
  refine finR_c (enc:=(fun r:(List Int) × Int=>.tup [(fun l:List Int=>V.sl (l.map V.y8) false) r.1,V.i r.2])) H ?_;conv=>whnf
  exact ⟨_,.tup (.cons (.c (.slw)) (.cons (.c (.id rfl)) (.nil)))⟩
 conv=>whnf
 refine Ari.w ?_;conv=>whnf
 refine appD_c (f:=V.y8) H (fun _=>rfl) rfl rfl rfl rfl (srcText _) (by decide) rfl (fun l3 H=>?_) (fun l3 H=>?_)
 ·conv=>whnf
  refine finR_c (enc:=(fun r:(List Int) × Int=>.tup [(fun l:List Int=>V.sl (l.map V.y8) false) r.1,V.i r.2])) H ?_;conv=>whnf
  exact ⟨_,.tup (.cons (.c (fzown (f:=V.y8) (l:=l3) rfl rfl (fun _=>rfl) (fun _=>rfl))) (.cons (.c (.id rfl)) (.nil)))⟩
 conv=>whnf
 refine finR_c (enc:=(fun r:(List Int) × Int=>.tup [(fun l:List Int=>V.sl (l.map V.y8) false) r.1,V.i r.2])) H ?_;conv=>whnf
 exact ⟨_,.tup (.cons (.c (fzown (f:=V.y8) (l:=l3) rfl rfl (fun _=>rfl) (fun _=>rfl))) (.cons (.c (.id rfl)) (.nil)))⟩
def gc155:BCode:=(.seq (R_ 0 [O_ 4 (.mv (.const (.slice none 0 0))) 0,O_ 5 (.mv (i_ 0)) 0]) (.seq (.seq (R_ 0 [O_ 8 (.mv (t_ 1)) 0,O_ 9 (.cl 165 [(t_ 8)]) 0,O_ 10 (.un .not (t_ 9)) 0]) (.cond (t_ 10) (.seq (R_ 0 [O_ 4 (.mv (.const (.slice none 0 0))) 0,O_ 5 (.mv (i_ 2)) 0]) .ret) .skip)) (.seq (.seq (R_ 0 [O_ 11 (.mv (t_ 0)) 0,O_ 12 (.bin .lss (t_ 11) (i_ 0)) 0]) (.cond (t_ 12) (.seq (R_ 0 [O_ 4 (.mv (.const (.slice none 0 0))) 0,O_ 5 (.mv (i_ 8)) 0]) .ret) .skip)) (.seq (R_ 0 [O_ 6 (.mv (.const (.slice none 0 0))) 0]) (.seq (.seq (R_ 0 [O_ 7 (.mv (i_ 0)) 0]) (.block 0 (.loop (.seq (.seq (R_ 0 [O_ 13 (.mv (t_ 7)) 0,O_ 14 (.mv (t_ 1)) 0,O_ 15 (.bin .lss (t_ 13) (t_ 14)) 0]) (.cond (t_ 15) .skip (.exit 0))) (.seq (.block 1 (.seq (R_ 2 [O_ 18 (.mv (t_ 0)) 0,O_ 19 (.bin .rem (t_ 18) (i_ 256)) 0,O_ 20 (.cvi .u8 (t_ 19)) 0,O_ 21 (.bs 1 1 [(.lit (.int .u8 0))] [(0,(t_ 20))]) 0,O_ 22 (.mv (t_ 6)) 1,O_ 23 (.ap 1 1 (t_ 21) (t_ 22)) 1,O_ 6 (.mv (t_ 23)) 2]) (R_ 0 [O_ 24 (.mv (t_ 0)) 0,O_ 25 (.bin .quo (t_ 24) (i_ 256)) 0,O_ 0 (.mv (t_ 25)) 0]))) (R_ 0 [O_ 16 (.mv (t_ 7)) 0,O_ 17 (.bin .add (t_ 16) (i_ 1)) 0,O_ 7 (.mv (t_ 17)) 0])))))) (.seq (.seq (R_ 0 [O_ 26 (.mv (t_ 0)) 0,O_ 27 (.bin .gtr (t_ 26) (i_ 0)) 0]) (.cond (t_ 27) (.seq (R_ 0 [O_ 4 (.mv (.const (.slice none 0 0))) 0,O_ 5 (.mv (i_ 8)) 0]) .ret) .skip)) (.seq (R_ 0 [O_ 28 (.mv (t_ 6)) 0,O_ 4 (.mv (t_ 28)) 0,O_ 5 (.mv (i_ 0)) 0]) .ret)))))))
theorem gc155_ok:compF Tryz.prog Tryz.f155=some (gc155.er,29,[.tmp 4,.tmp 5]):=by unfold gc155;kernel_rfl
theorem p_ref01_Lay_v (a0:Int) (a1:Int):CallsO Tryz.prog 155 [.i a0,.i a1] (fun r:(List Int) × Int=>.tup [(fun l:List Int=>V.sl (l.map V.y8) false) r.1,V.i r.2]) (p_ref01_Lay a0 a1):=by
 refine callsO_comp mix Tryz.func155 gc155_ok fun r H=>?_
 rw [p_ref01_Lay] at H
 conv=>whnf
 refine ask_c (p_ref01_wide_v _) H rfl rfl (fun v1 H=>?_);conv=>whnf
 refine Tst.not ?_
 refine tst_d H (fun b2 H=>?_) (fun b2 H=>?_)
 ·conv=>whnf
  refine finR_c (enc:=(fun r:(List Int) × Int=>.tup [(fun l:List Int=>V.sl (l.map V.y8) false) r.1,V.i r.2])) H ?_;conv=>whnf
  exact ⟨_,.tup (.cons (.c (.slw)) (.cons (.c (.id rfl)) (.nil)))⟩
 conv=>whnf
 refine tst_c H (fun b3 H=>?_) (fun b3 H=>?_)
 ·conv=>whnf
  refine finR_c (enc:=(fun r:(List Int) × Int=>.tup [(fun l:List Int=>V.sl (l.map V.y8) false) r.1,V.i r.2])) H ?_;conv=>whnf
  exact ⟨_,.tup (.cons (.c (.slw)) (.cons (.c (.id rfl)) (.nil)))⟩
 conv=>whnf
 obtain ⟨o5,HL6,HQ7⟩:=bind_c H
 refine loop_c [0,6,7] [13,14,15,16,17,18,19,20,21,22,23,24,25] [13,14,15,16,17,18,19,20,21,22,23,24,25] (fun n vals st=>(∃ y9 y10,p_ref01_Lay_l1  a1 n y9 [] y10=some o5∧vals=[.i y9,.sl (List.map V.y8 []) true,.i y10]∧st=[])∨(∃ y13 y14 y15,p_ref01_Lay_l1  a1 n y13 y14 y15=some o5∧vals=[.i y13,.osl 0 0 (List.length y14) 1 false,.i y15]∧st=[.live (cellsM V.y8 y14) (cellsM V.y8 y14).length])∨(∃ y16 y17 y18,p_ref01_Lay_l1  a1 n y16 y17 y18=some o5∧vals=[.i y16,.osl 0 0 (List.length y17) 1 true,.i y18]∧st=[.live (cellsM V.y8 y17) (cellsM V.y8 y17).length])) fuel 0 [] (.inl (⟨_,_,HL6,rfl,rfl⟩)) (Nat.zero_le _) rfl (by kernel_rfl) (by kernel_rfl) rfl trivial ?_
 rintro (_ | n8) _ _ (⟨y9,y10,H,rfl,rfl⟩ | ⟨y13,y14,y15,H,rfl,rfl⟩ | ⟨y16,y17,y18,H,rfl,rfl⟩)
 ·rw [p_ref01_Lay_l1] at H;cases H
 ·rw [p_ref01_Lay_l1] at H;cases H
 ·rw [p_ref01_Lay_l1] at H;cases H
 ·rw [p_ref01_Lay_l1] at H
  conv=>whnf
  refine tst_d H (fun b11 H=>?_) (fun b11 H=>?_)
  ·conv=>whnf
   obtain rfl:=Option.some.inj H
   have H:=HQ7
   try dsimp only at H
   refine tst_c H (fun b19 H=>?_) (fun b19 H=>?_)
   ·conv=>whnf
    refine finR_c (enc:=(fun r:(List Int) × Int=>.tup [(fun l:List Int=>V.sl (l.map V.y8) false) r.1,V.i r.2])) H ?_;conv=>whnf
    exact ⟨_,.tup (.cons (.c (.slw)) (.cons (.c (.id rfl)) (.nil)))⟩
   conv=>whnf
   refine finR_c (enc:=(fun r:(List Int) × Int=>.tup [(fun l:List Int=>V.sl (l.map V.y8) false) r.1,V.i r.2])) H ?_;conv=>whnf
   exact ⟨_,.tup (.cons (.c (.slw)) (.cons (.c (.id rfl)) (.nil)))⟩
  conv=>whnf
  refine ⟨by decide,?_⟩;conv=>whnf
  refine Ari.w ?_;conv=>whnf
  refine appD_c (f:=V.y8) H (fun _=>rfl) rfl rfl rfl rfl (.v (srcM (f:=V.y8) (fun _=>rfl) [] true)) (by decide) rfl (fun l12 H=>?_) (fun l12 H=>?_)
  ·conv=>whnf
   refine ⟨by decide,Ari.w ?_⟩;conv=>whnf
   refine Ari.w ?_;conv=>whnf
   exact again_c [13,14,15,16,17,18,19,20,21,22,23,24,25] n8 1 [] (.inr (.inr (⟨_,_,_,H,rfl,rfl⟩))) (Nat.lt_succ_self _) (Nat.zero_le _) rfl (by kernel_rfl) (by kernel_rfl) rfl (wkB_live0 rfl (cellsM_idlt (f:=V.y8) (fun _=>rfl) _) rfl trivial)
  conv=>whnf
  refine ⟨by decide,Ari.w ?_⟩;conv=>whnf
  refine Ari.w ?_;conv=>whnf
  exact again_c [13,14,15,16,17,18,19,20,21,22,23,24,25] n8 1 [1] (.inr (.inl (⟨_,_,_,H,rfl,rfl⟩))) (Nat.lt_succ_self _) (Nat.zero_le _) rfl (by kernel_rfl) (by kernel_rfl) rfl (wkB_live0 rfl (cellsM_idlt (f:=V.y8) (fun _=>rfl) _) rfl trivial)
 ·rw [p_ref01_Lay_l1] at H
  conv=>whnf
  refine tst_d H (fun b20 H=>?_) (fun b20 H=>?_)
  ·conv=>whnf
   obtain rfl:=Option.some.inj H
   have H:=HQ7
   try dsimp only at H
   refine tst_c H (fun b22 H=>?_) (fun b22 H=>?_)
   ·conv=>whnf
    refine finR_c (enc:=(fun r:(List Int) × Int=>.tup [(fun l:List Int=>V.sl (l.map V.y8) false) r.1,V.i r.2])) H ?_;conv=>whnf
    exact ⟨_,.tup (.cons (.c (.slw)) (.cons (.c (.id rfl)) (.nil)))⟩
   conv=>whnf
   refine finR_c (enc:=(fun r:(List Int) × Int=>.tup [(fun l:List Int=>V.sl (l.map V.y8) false) r.1,V.i r.2])) H ?_;conv=>whnf
   exact ⟨_,.tup (.cons (.c (fzown (f:=V.y8) (l:=y14) rfl rfl (fun _=>rfl) (fun _=>rfl))) (.cons (.c (.id rfl)) (.nil)))⟩
  conv=>whnf
  refine ⟨by decide,?_⟩;conv=>whnf
  refine Ari.w ?_;conv=>whnf
  refine appD_c (f:=V.y8) H (fun _=>rfl) rfl rfl rfl rfl (.v (srcOwn (f:=V.y8) (l:=y14) (fun _=>rfl) rfl rfl rfl)) (by decide) rfl (fun l21 H=>?_) (fun l21 H=>?_)
  ·conv=>whnf
   refine ⟨by decide,Ari.w ?_⟩;conv=>whnf
   refine Ari.w ?_;conv=>whnf
   exact again_c [13,14,15,16,17,18,19,20,21,22,23,24,25] n8 1 [1] (.inr (.inr (⟨_,_,_,H,rfl,rfl⟩))) (Nat.lt_succ_self _) (Nat.zero_le _) rfl (by kernel_rfl) (by kernel_rfl) rfl (wkB_live0 rfl (cellsM_idlt (f:=V.y8) (fun _=>rfl) _) rfl trivial)
  conv=>whnf
  refine ⟨by decide,Ari.w ?_⟩;conv=>whnf
  refine Ari.w ?_;conv=>whnf
  exact again_c [13,14,15,16,17,18,19,20,21,22,23,24,25] n8 1 [2] (.inr (.inl (⟨_,_,_,H,rfl,rfl⟩))) (Nat.lt_succ_self _) (Nat.zero_le _) rfl (by kernel_rfl) (by kernel_rfl) rfl (wkB_live0 rfl (cellsM_idlt (f:=V.y8) (fun _=>rfl) _) rfl trivial)
 rw [p_ref01_Lay_l1] at H
 conv=>whnf
 refine tst_d H (fun b23 H=>?_) (fun b23 H=>?_)
 ·conv=>whnf
  obtain rfl:=Option.some.inj H
  have H:=HQ7
  try dsimp only at H
  refine tst_c H (fun b25 H=>?_) (fun b25 H=>?_)
  ·conv=>whnf
   refine finR_c (enc:=(fun r:(List Int) × Int=>.tup [(fun l:List Int=>V.sl (l.map V.y8) false) r.1,V.i r.2])) H ?_;conv=>whnf
   exact ⟨_,.tup (.cons (.c (.slw)) (.cons (.c (.id rfl)) (.nil)))⟩
  conv=>whnf
  refine finR_c (enc:=(fun r:(List Int) × Int=>.tup [(fun l:List Int=>V.sl (l.map V.y8) false) r.1,V.i r.2])) H ?_;conv=>whnf
  exact ⟨_,.tup (.cons (.c (fzown (f:=V.y8) (l:=y17) rfl rfl (fun _=>rfl) (fun _=>rfl))) (.cons (.c (.id rfl)) (.nil)))⟩
 conv=>whnf
 refine ⟨by decide,?_⟩;conv=>whnf
 refine Ari.w ?_;conv=>whnf
 refine appD_c (f:=V.y8) H (fun _=>rfl) rfl rfl rfl rfl (.v (srcOwn (f:=V.y8) (l:=y17) (fun _=>rfl) rfl rfl rfl)) (by decide) rfl (fun l24 H=>?_) (fun l24 H=>?_)
 ·conv=>whnf
  refine ⟨by decide,Ari.w ?_⟩;conv=>whnf
  refine Ari.w ?_;conv=>whnf
  exact again_c [13,14,15,16,17,18,19,20,21,22,23,24,25] n8 1 [1] (.inr (.inr (⟨_,_,_,H,rfl,rfl⟩))) (Nat.lt_succ_self _) (Nat.zero_le _) rfl (by kernel_rfl) (by kernel_rfl) rfl (wkB_live0 rfl (cellsM_idlt (f:=V.y8) (fun _=>rfl) _) rfl trivial)
 conv=>whnf
 refine ⟨by decide,Ari.w ?_⟩;conv=>whnf
 refine Ari.w ?_;conv=>whnf
 exact again_c [13,14,15,16,17,18,19,20,21,22,23,24,25] n8 1 [2] (.inr (.inl (⟨_,_,_,H,rfl,rfl⟩))) (Nat.lt_succ_self _) (Nat.zero_le _) rfl (by kernel_rfl) (by kernel_rfl) rfl (wkB_live0 rfl (cellsM_idlt (f:=V.y8) (fun _=>rfl) _) rfl trivial)
end Go.Proofs.YtmmmcpeickfolaaGreat

