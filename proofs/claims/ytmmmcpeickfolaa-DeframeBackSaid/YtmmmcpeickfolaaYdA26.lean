/- DeframeBack: for every input the call returns true, and its arguments read as they did. -/
import Derived.Test.YtmmmcpeickfolaaYdA24
import Derived.Test.YtmmmcpeickfolaaYdA25
import Derived.Test.YtmmmcpeickfolaaYdA13
import Derived.KernelRfl
import Derived.Test.YtmmmcpeickfolaaYdA14
import Derived.Test.YtmmmcpeickfolaaYdA16
import Derived.Test.YtmmmcpeickfolaaRows
set_option linter.all false
namespace Go.Proofs.Ytmmmcpeickfolaa
open Go.RowKit
set_option maxRecDepth 1000000
set_option maxHeartbeats 4000000
def gc15:BCode:=(.seq (R_ 1 [O_ 1 (.bx (t_ 0)) 0,O_ 2 (.mv (i_ 0)) 1]) (.seq (.seq (R_ 0 [O_ 4 (.ld 3 true (t_ 1)) 0,O_ 5 (.cl 44 [(t_ 4)]) 0]) (.cond (t_ 5) (.seq (R_ 0 [O_ 2 (.mv (i_ 0)) 0]) .ret) .skip)) (.seq (R_ 0 [O_ 3 (.mv (i_ 2)) 0]) (.seq (.seq (R_ 0 [O_ 6 (.fa 0 (t_ 1)) 0,O_ 7 (.ld 1 false (t_ 6)) 0,O_ 8 (.lent (t_ 7)) 0,O_ 9 (.bin .geq (t_ 8) (i_ 2)) 0]) (.cond (t_ 9) (.reg 0 [O_ 10 (.mv (t_ 3)) 0,O_ 11 (.fa 0 (t_ 1)) 0,O_ 12 (.ld 1 false (t_ 11)) 0,O_ 13 (.ixt (t_ 12) (i_ 0)) 0,O_ 14 (.cvi .i64 (t_ 13)) 0,O_ 15 (.bin .shl (t_ 14) (.const (.int .u64 8))) 0,O_ 16 (.fa 0 (t_ 1)) 0,O_ 17 (.ld 1 false (t_ 16)) 0,O_ 18 (.ixt (t_ 17) (i_ 1)) 0,O_ 19 (.cvi .i64 (t_ 18)) 0,O_ 20 (.bin .or (t_ 15) (t_ 19)) 0,O_ 21 (.bin .add (t_ 10) (t_ 20)) 0,O_ 3 (.mv (t_ 21)) 0] (some [[],[],[1],[1,2],[2,1,3],[3,1,2,4],[],[6],[6,7],[7,6,8],[8,6,7,9,4,2,1,3,5],[5,3,1,2,4,9,7,6,8,10,0],[0,10,8,6,7,9,4,2,1,3,5,11]]) 0 []) .skip)) (.seq (R_ 0 [O_ 22 (.mv (t_ 3)) 0,O_ 23 (.fa 0 (t_ 1)) 0,O_ 24 (.ld 1 false (t_ 23)) 0,O_ 25 (.lent (t_ 24)) 0,O_ 26 (.bin .sub (t_ 22) (t_ 25)) 0,O_ 2 (.mv (t_ 26)) 0]) .ret)))))
theorem gc15_ok:compF Try.prog Try.f15=some (gc15.er,27,[.tmp 2]):=by unfold gc15;kernel_rfl
theorem p_deframe_Need_v (a0:DeframeState):CallsO Try.prog 15 [.agg [.s a0.Buf,.i a0.Bad,.i a0.Seen]] V.i (p_deframe_Need a0):=by
 refine callsO_comp mix Try.func15 gc15_ok fun r H=>?_
 rw [p_deframe_Need] at H
 conv=>whnf
 refine ask_c (p_deframe_State_deaf_v _) H rfl rfl (fun v1 H=>?_);conv=>whnf
 refine tst_c H (fun b2 H=>?_) (fun b2 H=>?_)
 ·conv=>whnf
  exact fi_ H
 conv=>whnf
 refine tst_d H (fun b3 H=>?_) (fun b3 H=>?_)
 ·conv=>whnf
  refine Ari.w ?_;conv=>whnf
  exact fi_ H
 conv=>whnf
 refine ixt_c H (fun c4 H=>?_);conv=>whnf
 refine Ari.w ?_;conv=>whnf
 refine Shl.ok (by decide) ?_;conv=>whnf
 refine ixt_c H (fun c5 H=>?_);conv=>whnf
 iterate 2 (refine Ari.w ?_;conv=>whnf)
 refine FootQ.mk ⟨rfl,?_⟩;conv=>whnf
 refine Ari.w ?_;conv=>whnf
 exact fi_ H
def gc7:BCode:=(.seq (R_ 0 [O_ 0 (.mv (b_ false)) 0]) (.seq (R_ 1 [O_ 14 (.bd [(.lit (.string ⟨#[]⟩)),(.lit (.int .i64 0)),(.lit (.int .i64 0))] []) 0,O_ 15 (.cl 8 [(t_ 14),(.const (.string ⟨#[0,1]⟩))]) 0,O_ 13 (.mv (t_ 15)) 0,O_ 16 (.ex (t_ 13) 0) 0,O_ 17 (.ex (t_ 13) 1) 0,O_ 1 (.al (.agg [(.lit (.string ⟨#[]⟩)),(.lit (.int .i64 0)),(.lit (.int .i64 0))])) 0,U_ (.st 3 (t_ 1) (t_ 16)) 1,O_ 2 (.mv (t_ 17)) 1]) (.seq (R_ 1 [O_ 19 (.ld 3 true (t_ 1)) 0,O_ 20 (.cl 8 [(t_ 19),(.const (.string ⟨#[2,0,2,16,120,0]⟩))]) 0,O_ 18 (.mv (t_ 20)) 0,O_ 21 (.ex (t_ 18) 0) 0,O_ 22 (.ex (t_ 18) 1) 0,O_ 3 (.al (.agg [(.lit (.string ⟨#[]⟩)),(.lit (.int .i64 0)),(.lit (.int .i64 0))])) 0,U_ (.st 3 (t_ 3) (t_ 21)) 1,O_ 4 (.mv (t_ 22)) 1]) (.seq (R_ 1 [O_ 24 (.ld 3 true (t_ 3)) 0,O_ 25 (.cl 8 [(t_ 24),(.const (.string ⟨#[0,120]⟩))]) 0,O_ 23 (.mv (t_ 25)) 0,O_ 26 (.ex (t_ 23) 0) 0,O_ 27 (.ex (t_ 23) 1) 0,O_ 5 (.al (.agg [(.lit (.string ⟨#[]⟩)),(.lit (.int .i64 0)),(.lit (.int .i64 0))])) 0,U_ (.st 3 (t_ 5) (t_ 26)) 1,O_ 6 (.mv (t_ 27)) 1]) (.seq (R_ 1 [O_ 29 (.ld 3 true (t_ 5)) 0,O_ 30 (.cl 32 [(t_ 29),(.const (.string ⟨#[0,1,2]⟩))]) 0,O_ 28 (.mv (t_ 30)) 0,O_ 31 (.ex (t_ 28) 0) 0,O_ 32 (.ex (t_ 28) 1) 0,O_ 7 (.al (.agg [(.lit (.string ⟨#[]⟩)),(.lit (.int .i64 0)),(.lit (.int .i64 0))])) 0,U_ (.st 3 (t_ 7) (t_ 31)) 1,O_ 8 (.mv (t_ 32)) 1]) (.seq (R_ 1 [O_ 34 (.bd [(.lit (.int .u8 0)),(.lit (.string ⟨#[]⟩)),(.lit (.string ⟨#[]⟩)),(.lit (.string ⟨#[]⟩)),(.lit (.int .i64 0)),(.lit (.int .i64 0)),(.lit (.int .i64 0)),(.lit (.int .i64 0))] [(0,1,(.const (.int .u8 2)))]) 0,O_ 35 (.bd [(.lit (.int .u8 0)),(.lit (.string ⟨#[]⟩)),(.lit (.string ⟨#[]⟩)),(.lit (.string ⟨#[]⟩)),(.lit (.int .i64 0)),(.lit (.int .i64 0)),(.lit (.int .i64 0)),(.lit (.int .i64 0))] [(0,1,(.const (.int .u8 15))),(7,1,(i_ 1))]) 0,O_ 36 (.bs 8 2 [(.lit (.int .u8 0)),(.lit (.string ⟨#[]⟩)),(.lit (.string ⟨#[]⟩)),(.lit (.string ⟨#[]⟩)),(.lit (.int .i64 0)),(.lit (.int .i64 0)),(.lit (.int .i64 0)),(.lit (.int .i64 0)),(.lit (.int .u8 0)),(.lit (.string ⟨#[]⟩)),(.lit (.string ⟨#[]⟩)),(.lit (.string ⟨#[]⟩)),(.lit (.int .i64 0)),(.lit (.int .i64 0)),(.lit (.int .i64 0)),(.lit (.int .i64 0))] [(0,(t_ 34)),(1,(t_ 35))]) 0,O_ 37 (.cl 14 [(t_ 36)]) 1,O_ 33 (.mv (t_ 37)) 1,O_ 38 (.ex (t_ 33) 0) 1,O_ 39 (.ex (t_ 33) 1) 1,O_ 9 (.mv (t_ 38)) 1,O_ 10 (.mv (t_ 39)) 1]) (.seq (R_ 1 [O_ 41 (.bd [(.lit (.int .u8 0)),(.lit (.string ⟨#[]⟩)),(.lit (.string ⟨#[]⟩)),(.lit (.string ⟨#[]⟩)),(.lit (.int .i64 0)),(.lit (.int .i64 0)),(.lit (.int .i64 0)),(.lit (.int .i64 0))] []) 0,O_ 42 (.bs 8 1 [(.lit (.int .u8 0)),(.lit (.string ⟨#[]⟩)),(.lit (.string ⟨#[]⟩)),(.lit (.string ⟨#[]⟩)),(.lit (.int .i64 0)),(.lit (.int .i64 0)),(.lit (.int .i64 0)),(.lit (.int .i64 0))] [(0,(t_ 41))]) 0,O_ 43 (.cl 14 [(t_ 42)]) 1,O_ 40 (.mv (t_ 43)) 1,O_ 44 (.ex (t_ 40) 0) 1,O_ 45 (.ex (t_ 40) 1) 1,O_ 11 (.mv (t_ 44)) 1,O_ 12 (.mv (t_ 45)) 1]) (.seq (R_ 0 [O_ 46 (.mv (t_ 2)) 0,O_ 47 (.lens (t_ 46)) 0,O_ 48 (.bin .eql (t_ 47) (i_ 0)) 0,O_ 49 (.mv (t_ 48)) 0,⟨(some 50),.ld 3 true (t_ 1),(some (49,true)),0⟩,⟨(some 51),.cl 15 [(t_ 50)],(some (49,true)),0⟩,⟨(some 52),.bin .eql (t_ 51) (i_ 1),(some (49,true)),0⟩,O_ 53 (.pick (t_ 49) (t_ 52) (b_ false)) 0,O_ 54 (.mv (t_ 53)) 0,⟨(some 55),.mv (t_ 4),(some (54,true)),0⟩,⟨(some 56),.lens (t_ 55),(some (54,true)),0⟩,⟨(some 57),.bin .eql (t_ 56) (i_ 2),(some (54,true)),0⟩,O_ 58 (.pick (t_ 54) (t_ 57) (b_ false)) 0,O_ 59 (.mv (t_ 58)) 0,⟨(some 60),.mv (t_ 4),(some (59,true)),0⟩,⟨(some 61),.ixs 9 (t_ 60) (i_ 0),(some (59,true)),0⟩,⟨(some 62),.fa 0 (t_ 61),(some (59,true)),0⟩,⟨(some 63),.fa 0 (t_ 62),(some (59,true)),0⟩,⟨(some 64),.ld 1 false (t_ 63),(some (59,true)),0⟩,⟨(some 65),.bin .eql (t_ 64) (.const (.int .u8 2)),(some (59,true)),0⟩,O_ 66 (.pick (t_ 59) (t_ 65) (b_ false)) 0,O_ 67 (.mv (t_ 66)) 0,⟨(some 68),.mv (t_ 4),(some (67,true)),0⟩,⟨(some 69),.ixs 9 (t_ 68) (i_ 0),(some (67,true)),0⟩,⟨(some 70),.fa 8 (t_ 69),(some (67,true)),0⟩,⟨(some 71),.ld 1 false (t_ 70),(some (67,true)),0⟩,⟨(some 72),.bin .eql (t_ 71) (i_ 0),(some (67,true)),0⟩,O_ 73 (.pick (t_ 67) (t_ 72) (b_ false)) 0,O_ 74 (.mv (t_ 73)) 0,⟨(some 75),.mv (t_ 4),(some (74,true)),0⟩,⟨(some 76),.ixs 9 (t_ 75) (i_ 1),(some (74,true)),0⟩,⟨(some 77),.fa 8 (t_ 76),(some (74,true)),0⟩,⟨(some 78),.ld 1 false (t_ 77),(some (74,true)),0⟩,⟨(some 79),.bin .eql (t_ 78) (i_ 12),(some (74,true)),0⟩,O_ 80 (.pick (t_ 74) (t_ 79) (b_ false)) 0,O_ 81 (.mv (t_ 80)) 0,⟨(some 82),.fa 0 (t_ 3),(some (81,true)),0⟩,⟨(some 83),.ld 1 false (t_ 82),(some (81,true)),0⟩,⟨(some 84),.bin .eql (t_ 83) (.const (.string ⟨#[0]⟩)),(some (81,true)),0⟩,O_ 85 (.pick (t_ 81) (t_ 84) (b_ false)) 0,O_ 86 (.mv (t_ 85)) 0,⟨(some 87),.fa 2 (t_ 3),(some (86,true)),0⟩,⟨(some 88),.ld 1 false (t_ 87),(some (86,true)),0⟩,⟨(some 89),.bin .eql (t_ 88) (i_ 2),(some (86,true)),0⟩,O_ 90 (.pick (t_ 86) (t_ 89) (b_ false)) 0,O_ 91 (.mv (t_ 90)) 0,⟨(some 92),.ld 3 true (t_ 3),(some (91,true)),0⟩,⟨(some 93),.cl 15 [(t_ 92)],(some (91,true)),0⟩,⟨(some 94),.bin .eql (t_ 93) (i_ 1),(some (91,true)),0⟩,O_ 95 (.pick (t_ 91) (t_ 94) (b_ false)) 0,O_ 96 (.mv (t_ 95)) 0,⟨(some 97),.fa 1 (t_ 5),(some (96,true)),0⟩,⟨(some 98),.ld 1 false (t_ 97),(some (96,true)),0⟩,⟨(some 99),.bin .eql (t_ 98) (i_ 4),(some (96,true)),0⟩,O_ 100 (.pick (t_ 96) (t_ 99) (b_ false)) 0,O_ 101 (.mv (t_ 100)) 0,⟨(some 102),.mv (t_ 6),(some (101,true)),0⟩,⟨(some 103),.lens (t_ 102),(some (101,true)),0⟩,⟨(some 104),.bin .eql (t_ 103) (i_ 0),(some (101,true)),0⟩,O_ 105 (.pick (t_ 101) (t_ 104) (b_ false)) 0,O_ 106 (.mv (t_ 105)) 0,⟨(some 107),.ld 3 true (t_ 7),(some (106,true)),0⟩,⟨(some 108),.ld 3 true (t_ 5),(some (106,true)),0⟩,⟨(some 109),.eqa false [2,1,1] (t_ 107) (t_ 108),(some (106,true)),0⟩,O_ 110 (.pick (t_ 106) (t_ 109) (b_ false)) 0,O_ 111 (.mv (t_ 110)) 0,⟨(some 112),.mv (t_ 8),(some (111,true)),0⟩,⟨(some 113),.lens (t_ 112),(some (111,true)),0⟩,⟨(some 114),.bin .eql (t_ 113) (i_ 0),(some (111,true)),0⟩,O_ 115 (.pick (t_ 111) (t_ 114) (b_ false)) 0,O_ 116 (.mv (t_ 115)) 0,⟨(some 117),.mv (t_ 9),(some (116,true)),0⟩,⟨(some 118),.bin .eql (t_ 117) (.const (.string ⟨#[0,1,2,0,7,15,0,0,0,0,0,1]⟩)),(some (116,true)),0⟩,O_ 119 (.pick (t_ 116) (t_ 118) (b_ false)) 0,O_ 120 (.mv (t_ 119)) 0,⟨(some 121),.mv (t_ 10),(some (120,true)),0⟩,⟨(some 122),.bin .eql (t_ 121) (i_ 0),(some (120,true)),0⟩,O_ 123 (.pick (t_ 120) (t_ 122) (b_ false)) 0,O_ 124 (.mv (t_ 123)) 0,⟨(some 125),.mv (t_ 12),(some (124,true)),0⟩,⟨(some 126),.bin .eql (t_ 125) (i_ 12),(some (124,true)),0⟩,O_ 127 (.pick (t_ 124) (t_ 126) (b_ false)) 0,O_ 128 (.mv (t_ 127)) 0,⟨(some 129),.ld 3 true (t_ 3),(some (128,true)),0⟩,⟨(some 130),.cl 9 [(t_ 129)],(some (128,true)),0⟩,⟨(some 131),.bin .eql (t_ 130) (i_ 0),(some (128,true)),0⟩,O_ 132 (.pick (t_ 128) (t_ 131) (b_ false)) 0,O_ 133 (.mv (t_ 132)) 0,⟨(some 134),.bd [(.lit (.string ⟨#[]⟩)),(.lit (.int .i64 0)),(.lit (.int .i64 0))] [(2,1,(.const (.int .i64 (-1))))],(some (133,true)),0⟩,⟨(some 135),.cl 9 [(t_ 134)],(some (133,true)),0⟩,⟨(some 136),.bin .eql (t_ 135) (i_ 8),(some (133,true)),0⟩,O_ 137 (.pick (t_ 133) (t_ 136) (b_ false)) 0,O_ 138 (.mv (t_ 137)) 0,O_ 139 (.pick (t_ 138) (b_ true) (b_ false)) 0,O_ 140 (.mv (t_ 139)) 0,O_ 141 (.pick (t_ 140) (b_ true) (b_ false)) 0,O_ 142 (.mv (t_ 141)) 0,O_ 143 (.pick (t_ 142) (b_ true) (b_ false)) 0,O_ 0 (.mv (t_ 143)) 0]) .ret))))))))
theorem gc7_ok:compF Try.prog Try.f7=some (gc7.er,144,[.tmp 0]):=by unfold gc7;kernel_rfl
theorem p_law12_awake_t:CallsO Try.prog 7 [] V.b (tru? (p_law12_awake)):=by
 refine callsO_comp mix Try.func7 gc7_ok fun r H=>?_
 have H1:=tru_of H
 clear H
 obtain ⟨rfl,H⟩:=H1
 rw [p_law12_awake] at H
 conv=>whnf
 refine ask_c (p_deframe_Feed_v _ _) H rfl rfl (fun v1 H=>?_);conv=>whnf
 refine lq_ ?_;conv=>whnf
 refine ask_c (p_deframe_Feed_v _ _) H rfl rfl (fun v2 H=>?_);conv=>whnf
 refine lq_ ?_;conv=>whnf
 refine ask_c (p_deframe_Feed_v _ _) H rfl rfl (fun v3 H=>?_);conv=>whnf
 refine lq_ ?_;conv=>whnf
 refine ask_c (p_deframe_Texts_v _ _) H rfl rfl (fun v4 H=>?_);conv=>whnf
 refine lq_ ?_;conv=>whnf
 refine askF_c (p_deframe_Encode_v _) H (.cons (.c (fzown (f:=StanzaStanza.v) (l:=[(StanzaStanza.mk (2:Int) (⟨#[]⟩ : ByteArray) (⟨#[]⟩ : ByteArray) (⟨#[]⟩ : ByteArray) (0:Int) (0:Int) (0:Int) (0:Int)),(StanzaStanza.mk (15:Int) (⟨#[]⟩ : ByteArray) (⟨#[]⟩ : ByteArray) (⟨#[]⟩ : ByteArray) (0:Int) (0:Int) (0:Int) (1:Int))]) rfl rfl (fun _=>rfl) (fun _=>rfl))) (.nil)) (fun v5 H=>?_);conv=>whnf
 refine askF_c (p_deframe_Encode_v _) H (.cons (.c (fzown (f:=StanzaStanza.v) (l:=[(StanzaStanza.mk (0:Int) (⟨#[]⟩ : ByteArray) (⟨#[]⟩ : ByteArray) (⟨#[]⟩ : ByteArray) (0:Int) (0:Int) (0:Int) (0:Int))]) rfl rfl (fun _=>rfl) (fun _=>rfl))) (.nil)) (fun v6 H=>?_);conv=>whnf
 refine LenQ.M ?_;conv=>whnf
 refine tstT_c H (fun b7 H=>?_);conv=>whnf
 refine Tst.T ?_;conv=>whnf
 refine ask_c (p_deframe_Need_v _) H rfl rfl (fun v8 H=>?_);conv=>whnf
 iterate 2 (refine Tst.T ?_;conv=>whnf)
 refine tstT_c H (fun b9 H=>?_);conv=>whnf
 refine Tst.T ?_;conv=>whnf
 refine LenQ.M ?_;conv=>whnf
 iterate 2 (refine Tst.T ?_;conv=>whnf)
 refine tstT_c H (fun b10 H=>?_);conv=>whnf
 refine Tst.T ?_;conv=>whnf
 refine ixs_c (f:=DeframeItem.v) H (fun _=>rfl) (fun x11 H=>?_);conv=>whnf
 refine Tst.T ?_;conv=>whnf
 refine lq_ ?_;conv=>whnf
 refine Tst.T ?_;conv=>whnf
 refine lq_ ?_;conv=>whnf
 iterate 3 (refine Tst.T ?_;conv=>whnf)
 refine tstT_c H (fun b12 H=>?_);conv=>whnf
 refine Tst.T ?_;conv=>whnf
 refine ixs_c (f:=DeframeItem.v) H (fun _=>rfl) (fun x13 H=>?_);conv=>whnf
 refine Tst.T ?_;conv=>whnf
 refine lq_ ?_;conv=>whnf
 iterate 3 (refine Tst.T ?_;conv=>whnf)
 refine tstT_c H (fun b14 H=>?_);conv=>whnf
 refine Tst.T ?_;conv=>whnf
 refine ixs_c (f:=DeframeItem.v) H (fun _=>rfl) (fun x15 H=>?_);conv=>whnf
 refine Tst.T ?_;conv=>whnf
 refine lq_ ?_;conv=>whnf
 iterate 3 (refine Tst.T ?_;conv=>whnf)
 refine tstT_c H (fun b16 H=>?_);conv=>whnf
 iterate 3 (refine Tst.T ?_;conv=>whnf)
 refine tstT_c H (fun b17 H=>?_);conv=>whnf
 iterate 3 (refine Tst.T ?_;conv=>whnf)
 refine tstT_c H (fun b18 H=>?_);conv=>whnf
 refine Tst.T ?_;conv=>whnf
 refine ask_c (p_deframe_Need_v _) H rfl rfl (fun v19 H=>?_);conv=>whnf
 iterate 2 (refine Tst.T ?_;conv=>whnf)
 refine tstT_c H (fun b20 H=>?_);conv=>whnf
 iterate 3 (refine Tst.T ?_;conv=>whnf)
 refine tstT_c H (fun b21 H=>?_);conv=>whnf
 refine Tst.T ?_;conv=>whnf
 refine LenQ.M ?_;conv=>whnf
 iterate 2 (refine Tst.T ?_;conv=>whnf)
 refine tstT_c H (fun b22 H=>?_);conv=>whnf
 iterate 3 (refine Tst.T ?_;conv=>whnf)
 refine tstT_c H (fun b23 H=>?_);conv=>whnf
 refine Tst.T ?_;conv=>whnf
 refine LenQ.M ?_;conv=>whnf
 iterate 2 (refine Tst.T ?_;conv=>whnf)
 refine tstT_c H (fun b24 H=>?_);conv=>whnf
 iterate 2 (refine Tst.T ?_;conv=>whnf)
 refine tstT_c H (fun b25 H=>?_);conv=>whnf
 iterate 2 (refine Tst.T ?_;conv=>whnf)
 refine tstT_c H (fun b26 H=>?_);conv=>whnf
 iterate 2 (refine Tst.T ?_;conv=>whnf)
 refine tstT_c H (fun b27 H=>?_);conv=>whnf
 refine Tst.T ?_;conv=>whnf
 refine ask_c (p_deframe_Check_v _) H rfl rfl (fun v28 H=>?_);conv=>whnf
 iterate 2 (refine Tst.T ?_;conv=>whnf)
 refine tstT_c H (fun b29 H=>?_);conv=>whnf
 refine Tst.T ?_;conv=>whnf
 refine ask_c (p_deframe_Check_v _) H rfl rfl (fun v30 H=>?_);conv=>whnf
 iterate 2 (refine Tst.T ?_;conv=>whnf)
 refine tstT_c H (fun b31 H=>?_);conv=>whnf
 iterate 2 (refine Tst.T ?_;conv=>whnf)
 exact fb_ H
theorem p_law12_awake_true:p_law12_awake=some true:=by kernel_rfl
theorem p_law12_awake_v:CallsO Try.prog 7 [] V.b p_law12_awake:=tru_closed p_law12_awake_t p_law12_awake_true
end Go.Proofs.Ytmmmcpeickfolaa

namespace Go.Proofs.Ytmmmcpeickfolaa
open Go.ChangeShapes Go.WideShapes Go.ChangeAt Go.RowKit Go.Joins Go.Deep
end Go.Proofs.Ytmmmcpeickfolaa

namespace Go.Proofs.Ytmmmcpeickfolaa
open Go.RowKit Go.Deep
theorem deframeBack_all (l:List StanzaStanza) (h:∀ x ∈ l,StanzaStanza.Wf x):p_law12_DeframeBack l=some true:=deframeBack_pure p_law12_awake_true l fun x hx=>bounds_u8 (h x hx).Kind
end Go.Proofs.Ytmmmcpeickfolaa

namespace Go.Proofs.Ytmmmcpeickfolaa
open Go.RowKit
set_option maxRecDepth 100000
set_option maxHeartbeats 4000000
def gc12:BCode:=(.seq (R_ 1 [O_ 1 (.bx (t_ 0)) 0,O_ 2 (.mv (b_ false)) 1]) (.seq (R_ 0 [O_ 3 (.fa 1 (t_ 1)) 0,O_ 4 (.ld 1 false (t_ 3)) 0,O_ 5 (.lent (t_ 4)) 0,O_ 6 (.bin .leq (t_ 5) (i_ 100)) 0,O_ 7 (.mv (t_ 6)) 0,⟨(some 8),.fa 2 (t_ 1),(some (7,true)),0⟩,⟨(some 9),.ld 1 false (t_ 8),(some (7,true)),0⟩,⟨(some 10),.lent (t_ 9),(some (7,true)),0⟩,⟨(some 11),.bin .leq (t_ 10) (i_ 100),(some (7,true)),0⟩,O_ 12 (.pick (t_ 7) (t_ 11) (b_ false)) 0,O_ 13 (.mv (t_ 12)) 0,⟨(some 14),.fa 3 (t_ 1),(some (13,true)),0⟩,⟨(some 15),.ld 1 false (t_ 14),(some (13,true)),0⟩,⟨(some 16),.lent (t_ 15),(some (13,true)),0⟩,⟨(some 17),.bin .leq (t_ 16) (i_ 100),(some (13,true)),0⟩,O_ 18 (.pick (t_ 13) (t_ 17) (b_ false)) 0,O_ 2 (.mv (t_ 18)) 0]) .ret))
theorem gc12_ok:compF Try.prog Try.f12=some (gc12.er,19,[.tmp 2]):=by unfold gc12;kernel_rfl
theorem p_ref10_Light_v (a0:StanzaStanza):CallsO Try.prog 12 [.agg [.y8 a0.Kind,.s a0.User,.s a0.Res,.s a0.Name,.i a0.Show,.i a0.Prio,.i a0.Code,.i a0.N]] V.b (p_ref10_Light a0):=by
 refine callsO_comp mix Try.func12 gc12_ok fun r H=>?_
 rw [p_ref10_Light] at H
 conv=>whnf
 refine tst_d H (fun b1 H=>?_) (fun b1 H=>?_)
 ·conv=>whnf
  iterate 9 (refine Tst.F ?_;conv=>whnf)
  exact fb_ H
 conv=>whnf
 iterate 4 (refine Tst.T ?_;conv=>whnf)
 refine tst_c H (fun b2 H=>?_) (fun b2 H=>?_)
 ·conv=>whnf
  iterate 4 (refine Tst.T ?_;conv=>whnf)
  exact fb_ H
 conv=>whnf
 iterate 4 (refine Tst.F ?_;conv=>whnf)
 exact fb_ H
end Go.Proofs.Ytmmmcpeickfolaa

namespace Go.Proofs.Ytmmmcpeickfolaa
open Go.RowKit
set_option maxRecDepth 1000000
set_option maxHeartbeats 4000000
def gc4:BCode:=(.seq (R_ 0 [O_ 2 (.mv (b_ false)) 0]) (.seq (.seq (R_ 0 [O_ 14 (.mv (t_ 0)) 0,O_ 15 (.lens (t_ 14)) 0,O_ 16 (.bin .gtr (t_ 15) (i_ 12)) 0]) (.cond (t_ 16) (.seq (R_ 0 [O_ 17 (.cl 7 []) 0,O_ 2 (.mv (t_ 17)) 0]) .ret) .skip)) (.seq (R_ 0 [O_ 3 (.mv (.const (.slice none 0 0))) 0]) (.seq (.seq (R_ 0 [O_ 4 (.mv (i_ 0)) 0]) (.block 0 (.loop (.seq (.seq (R_ 0 [O_ 18 (.mv (t_ 4)) 0,O_ 19 (.mv (t_ 0)) 0,O_ 20 (.lens (t_ 19)) 0,O_ 21 (.bin .lss (t_ 18) (t_ 20)) 0]) (.cond (t_ 21) .skip (.exit 0))) (.seq (.block 1 (.seq (.seq (R_ 0 [O_ 24 (.mv (t_ 0)) 0,O_ 25 (.mv (t_ 4)) 0,O_ 26 (.ixs 8 (t_ 24) (t_ 25)) 0,O_ 27 (.ld 8 true (t_ 26)) 0,O_ 28 (.cl 12 [(t_ 27)]) 0,O_ 29 (.un .not (t_ 28)) 0]) (.cond (t_ 29) (.seq (R_ 0 [O_ 30 (.cl 7 []) 0,O_ 2 (.mv (t_ 30)) 0]) .ret) .skip)) (.seq (R_ 0 [O_ 31 (.mv (t_ 0)) 0,O_ 32 (.mv (t_ 4)) 0,O_ 33 (.ixs 8 (t_ 31) (t_ 32)) 0,O_ 34 (.ld 8 true (t_ 33)) 0,O_ 35 (.cl 13 [(t_ 34)]) 0,O_ 36 (.bin .eql (t_ 35) (i_ 0)) 0]) (.cond (t_ 36) (R_ 2 [O_ 37 (.mv (t_ 3)) 0,O_ 38 (.mv (t_ 0)) 0,O_ 39 (.mv (t_ 4)) 0,O_ 40 (.ixs 8 (t_ 38) (t_ 39)) 0,O_ 41 (.ld 8 true (t_ 40)) 0,O_ 42 (.bs 8 1 [(.lit (.int .u8 0)),(.lit (.string ⟨#[]⟩)),(.lit (.string ⟨#[]⟩)),(.lit (.string ⟨#[]⟩)),(.lit (.int .i64 0)),(.lit (.int .i64 0)),(.lit (.int .i64 0)),(.lit (.int .i64 0))] [(0,(t_ 41))]) 0,O_ 43 (.ap 8 88 (t_ 37) (t_ 42)) 1,O_ 3 (.mv (t_ 43)) 2]) .skip)))) (R_ 0 [O_ 22 (.mv (t_ 4)) 0,O_ 23 (.bin .add (t_ 22) (i_ 1)) 0,O_ 4 (.mv (t_ 23)) 0])))))) (.seq (R_ 0 [O_ 45 (.mv (t_ 3)) 0,O_ 46 (.cl 14 [(t_ 45)]) 0,O_ 44 (.mv (t_ 46)) 0,O_ 47 (.ex (t_ 44) 0) 0,O_ 48 (.ex (t_ 44) 1) 0,O_ 5 (.mv (t_ 47)) 0,O_ 6 (.mv (t_ 48)) 0]) (.seq (.seq (R_ 0 [O_ 49 (.mv (t_ 6)) 0,O_ 50 (.bin .neq (t_ 49) (i_ 0)) 0]) (.cond (t_ 50) (.seq (R_ 0 [O_ 2 (.mv (b_ false)) 0]) .ret) .skip)) (.seq (R_ 1 [O_ 7 (.al (.agg [(.lit (.string ⟨#[]⟩)),(.lit (.int .i64 0)),(.lit (.int .i64 0))])) 0]) (.seq (R_ 0 [O_ 8 (.mv (i_ 0)) 0]) (.seq (.seq (R_ 0 [O_ 9 (.mv (i_ 0)) 0]) (.block 2 (.loop (.seq (.seq (R_ 0 [O_ 51 (.mv (t_ 9)) 0,O_ 52 (.mv (t_ 5)) 0,O_ 53 (.lent (t_ 52)) 0,O_ 54 (.bin .lss (t_ 51) (t_ 53)) 0]) (.cond (t_ 54) .skip (.exit 2))) (.block 3 (.seq (R_ 0 [O_ 55 (.ld 3 true (t_ 7)) 0,O_ 56 (.cl 15 [(t_ 55)]) 0,O_ 10 (.mv (t_ 56)) 0]) (.seq (.seq (R_ 0 [O_ 57 (.mv (t_ 10)) 0,O_ 58 (.bin .lss (t_ 57) (i_ 1)) 0,O_ 59 (.mv (t_ 58)) 0,⟨(some 60),.mv (t_ 10),(some (59,false)),0⟩,⟨(some 61),.mv (t_ 5),(some (59,false)),0⟩,⟨(some 62),.lent (t_ 61),(some (59,false)),0⟩,⟨(some 63),.mv (t_ 9),(some (59,false)),0⟩,⟨(some 64),.bin .sub (t_ 62) (t_ 63),(some (59,false)),0⟩,⟨(some 65),.bin .gtr (t_ 60) (t_ 64),(some (59,false)),0⟩,O_ 66 (.pick (t_ 59) (b_ true) (t_ 65)) 0]) (.cond (t_ 66) (.seq (R_ 0 [O_ 2 (.mv (b_ false)) 0]) .ret) .skip)) (.seq (.reg 1 [O_ 68 (.ld 3 true (t_ 7)) 0,O_ 69 (.mv (t_ 5)) 0,O_ 70 (.mv (t_ 9)) 0,O_ 71 (.mv (t_ 9)) 0,O_ 72 (.mv (t_ 10)) 0,O_ 73 (.bin .add (t_ 71) (t_ 72)) 0,O_ 74 (.slt (t_ 69) (some (t_ 70)) (some (t_ 73))) 0,O_ 75 (.cl 8 [(t_ 68),(t_ 74)]) 0,O_ 67 (.mv (t_ 75)) 0,O_ 76 (.ex (t_ 67) 0) 0,O_ 77 (.ex (t_ 67) 1) 0,O_ 11 (.al (.agg [(.lit (.string ⟨#[]⟩)),(.lit (.int .i64 0)),(.lit (.int .i64 0))])) 0,U_ (.st 3 (t_ 11) (t_ 76)) 1,O_ 12 (.mv (t_ 77)) 1] (some [[],[],[],[],[],[4,3],[3,4,5,2,1],[1,2,5,4,3,6,0],[0,6,3,4,5,2,1,7],[7,1,2,5,4,3,6,0,8],[7,1,2,5,4,3,6,0,8],[],[8,0,6,3,4,5,2,1,7,9,11],[11,9,12,8,0,6,3,4,5,2,1,7,10]]) 0 []) (.seq (R_ 0 [O_ 78 (.ld 3 true (t_ 11)) 0,U_ (.st 3 (t_ 7) (t_ 78)) 0]) (.seq (R_ 0 [O_ 79 (.mv (t_ 9)) 0,O_ 80 (.mv (t_ 10)) 0,O_ 81 (.bin .add (t_ 79) (t_ 80)) 0,O_ 9 (.mv (t_ 81)) 0]) (.seq (R_ 0 [O_ 13 (.mv (i_ 0)) 0]) (.block 4 (.loop (.seq (.seq (R_ 0 [O_ 82 (.mv (t_ 13)) 0,O_ 83 (.mv (t_ 12)) 0,O_ 84 (.lens (t_ 83)) 0,O_ 85 (.bin .lss (t_ 82) (t_ 84)) 0]) (.cond (t_ 85) .skip (.exit 4))) (.seq (.block 5 (.seq (.seq (.reg 0 [O_ 88 (.mv (t_ 8)) 0,O_ 89 (.mv (t_ 3)) 0,O_ 90 (.lens (t_ 89)) 0,O_ 91 (.bin .geq (t_ 88) (t_ 90)) 0,O_ 92 (.mv (t_ 91)) 0,⟨(some 93),.mv (t_ 12),(some (92,false)),0⟩,⟨(some 94),.mv (t_ 13),(some (92,false)),0⟩,⟨(some 95),.ixs 9 (t_ 93) (t_ 94),(some (92,false)),0⟩,⟨(some 96),.fa 8 (t_ 95),(some (92,false)),0⟩,⟨(some 97),.ld 1 false (t_ 96),(some (92,false)),0⟩,⟨(some 98),.bin .neq (t_ 97) (i_ 0),(some (92,false)),0⟩,O_ 99 (.pick (t_ 92) (b_ true) (t_ 98)) 0,O_ 100 (.mv (t_ 99)) 0,⟨(some 101),.mv (t_ 12),(some (100,false)),0⟩,⟨(some 102),.mv (t_ 13),(some (100,false)),0⟩,⟨(some 103),.ixs 9 (t_ 101) (t_ 102),(some (100,false)),0⟩,⟨(some 104),.fa 0 (t_ 103),(some (100,false)),0⟩,⟨(some 105),.ld 8 true (t_ 104),(some (100,false)),0⟩,⟨(some 106),.mv (t_ 3),(some (100,false)),0⟩,⟨(some 107),.mv (t_ 8),(some (100,false)),0⟩,⟨(some 108),.ixs 8 (t_ 106) (t_ 107),(some (100,false)),0⟩,⟨(some 109),.ld 8 true (t_ 108),(some (100,false)),0⟩,⟨(some 110),.eqa true [1,2,2,2,1,1,1,1] (t_ 105) (t_ 109),(some (100,false)),0⟩,O_ 111 (.pick (t_ 100) (b_ true) (t_ 110)) 0] (some [[],[],[1],[1,2,0],[0,2,1,3],[3,1,2,0,4],[3,1,2,0,4],[6,4,0,2,1,3,5],[5,3,1,2,0,4,6,7],[7,6,4,0,2,1,3,5,8],[8,5,3,1,2,0,4,6,7,9],[9,7,6,5,8,10,3,1,2,0,4],[4,0,2,1,3,10,8,5,6,7,9,11],[11,9,7,6,5,8,10,3,1,2,0,4,12],[11,9,7,6,5,8,10,3,1,2,0,4,12],[14,12,4,0,2,1,3,10,8,5,6,7,9,11,13],[13,11,9,7,6,5,8,10,3,1,2,0,4,12,14,15],[15,14,12,4,0,2,1,3,10,8,5,6,7,9,11,13,16],[11,9,7,6,5,8,10,3,1,2,0,4,12],[11,9,7,6,5,8,10,3,1,2,0,4,12],[19,12,4,0,2,1,3,10,8,5,6,7,9,11,18],[18,11,9,7,6,5,8,10,3,1,2,0,4,12,19,20],[20,19,18,21,16,13,11,9,7,6,5,8,10,3,1,2,0,4,12,14,15,17],[17,15,14,13,16,21,18,19,20,22,11,9,7,6,5,8,10,3,1,2,0,4,12]]) 0 []) (.cond (t_ 111) (.seq (R_ 0 [O_ 2 (.mv (b_ false)) 0]) .ret) .skip)) (R_ 0 [O_ 112 (.mv (t_ 8)) 0,O_ 113 (.bin .add (t_ 112) (i_ 1)) 0,O_ 8 (.mv (t_ 113)) 0]))) (R_ 0 [O_ 86 (.mv (t_ 13)) 0,O_ 87 (.bin .add (t_ 86) (i_ 1)) 0,O_ 13 (.mv (t_ 87)) 0])))))))))))))))) (.seq (R_ 0 [O_ 114 (.mv (t_ 8)) 0,O_ 115 (.mv (t_ 3)) 0,O_ 116 (.lens (t_ 115)) 0,O_ 117 (.bin .eql (t_ 114) (t_ 116)) 0,O_ 118 (.mv (t_ 117)) 0,⟨(some 119),.ld 3 true (t_ 7),(some (118,true)),0⟩,⟨(some 120),.mv (t_ 3),(some (118,true)),0⟩,⟨(some 121),.lens (t_ 120),(some (118,true)),0⟩,⟨(some 122),.bd [(.lit (.string ⟨#[]⟩)),(.lit (.int .i64 0)),(.lit (.int .i64 0))] [(2,1,(t_ 121))],(some (118,true)),0⟩,⟨(some 123),.eqa false [2,1,1] (t_ 119) (t_ 122),(some (118,true)),0⟩,O_ 124 (.pick (t_ 118) (t_ 123) (b_ false)) 0,O_ 125 (.mv (t_ 124)) 0,⟨(some 126),.cl 7 [],(some (125,true)),0⟩,O_ 127 (.pick (t_ 125) (t_ 126) (b_ false)) 0,O_ 2 (.mv (t_ 127)) 0]) .ret))))))))))
theorem gc4_ok:compF Try.prog Try.f4=some (gc4.er,128,[.tmp 2]):=by unfold gc4;kernel_rfl
theorem p_law12_DeframeBack_v {u1:Bool} (a0:List StanzaStanza):CallsO Try.prog 4 [.sl (List.map StanzaStanza.v a0) u1] V.b (tru? (p_law12_DeframeBack a0)):=by
 refine callsO_comp mix Try.func4 gc4_ok fun r H=>?_
 have H1:=tru_of H
 clear H
 obtain ⟨rfl,H⟩:=H1
 rw [p_law12_DeframeBack] at H
 conv=>whnf
 refine LenQ.M ?_;conv=>whnf
 refine tst_c H (fun b1 H=>?_) (fun b1 H=>?_)
 ·conv=>whnf
  refine ask_c (p_law12_awake_v) H rfl rfl (fun v2 H=>?_);conv=>whnf
  exact fb_ H
 conv=>whnf
 obtain ⟨o4,HL5,HQ6⟩:=bind_c H
 refine loop_c [2,3,4] [18,19,20,21,22,23,24,25,26,27,28,29,30,31,32,33,34,35,36,37,38,39,40,41,42,43] [18,19,20,21,22,23,24,25,26,27,28,29,30,31,32,33,34,35,36,37,38,39,40,41,42,43] (fun n vals st=>(∃ y8,p_law12_DeframeBack_l1  a0 n [] y8=some o4∧vals=[.b false,.sl (List.map StanzaStanza.v []) true,.i y8]∧st=[])∨(∃ y18 y19,p_law12_DeframeBack_l1  a0 n y18 y19=some o4∧vals=[.b false,.osl 0 0 (List.length y18) 8 false,.i y19]∧st=[.live (cellsM StanzaStanza.v y18) (cellsM StanzaStanza.v y18).length])) fuel 0 [] (.inl (⟨_,HL5,rfl,rfl⟩)) (Nat.zero_le _) rfl (by kernel_rfl) (by kernel_rfl) rfl trivial ?_
 rintro (_ | n7) _ _ (⟨y8,H,rfl,rfl⟩ | ⟨y18,y19,H,rfl,rfl⟩)
 ·rw [p_law12_DeframeBack_l1] at H;cases H
 ·rw [p_law12_DeframeBack_l1] at H;cases H
 ·rw [p_law12_DeframeBack_l1] at H
  conv=>whnf
  refine LenQ.M ?_;conv=>whnf
  refine tst_c H (fun b9 H=>?_) (fun b9 H=>?_)
  ·conv=>whnf
   refine ixs_c (f:=StanzaStanza.v) H (fun _=>rfl) (fun x10 H=>?_);conv=>whnf
   refine ask_c (p_ref10_Light_v _) H rfl rfl (fun v11 H=>?_);conv=>whnf
   refine Tst.not ?_
   refine tst_d H (fun b12 H=>?_) (fun b12 H=>?_)
   ·conv=>whnf
    refine ask_c (p_law12_awake_v) H rfl rfl (fun v20 H=>?_);conv=>whnf
    obtain rfl:=Option.some.inj H
    have H:=HQ6
    try dsimp only at H
    exact fb_ H
   conv=>whnf
   refine ixs_c (f:=StanzaStanza.v) H (fun _=>rfl) (fun x13 H=>?_);conv=>whnf
   refine ask_c (p_stanza_Check_v _) H rfl rfl (fun v14 H=>?_);conv=>whnf
   refine tst_d H (fun b15 H=>?_) (fun b15 H=>?_)
   ·conv=>whnf
    refine Ari.w ?_;conv=>whnf
    exact again_c [18,19,20,21,22,23,24,25,26,27,28,29,30,31,32,33,34,35,36,37,38,39,40,41,42,43] n7 0 [] (.inl (⟨_,H,rfl,rfl⟩)) (Nat.lt_succ_self _) (Nat.zero_le _) rfl (by kernel_rfl) (by kernel_rfl) rfl trivial
   conv=>whnf
   refine ixs_c (f:=StanzaStanza.v) H (fun _=>rfl) (fun x16 H=>?_);conv=>whnf
   refine appN_c (f:=StanzaStanza.v) H (fun _=>rfl) (srcM (f:=StanzaStanza.v) (fun _=>rfl) [] true) rfl (.v (srcOwn (f:=StanzaStanza.v) (l:=[x16]) (fun _=>rfl) rfl rfl rfl)) (by decide) rfl (by simp) (fun l17 H=>?_);conv=>whnf
   refine Ari.w ?_;conv=>whnf
   exact again_c [18,19,20,21,22,23,24,25,26,27,28,29,30,31,32,33,34,35,36,37,38,39,40,41,42,43] n7 1 [1] (.inr (⟨_,_,H,rfl,rfl⟩)) (Nat.lt_succ_self _) (Nat.zero_le _) rfl (by kernel_rfl) (by kernel_rfl) rfl (wkB_live0 rfl (cellsM_idlt (f:=StanzaStanza.v) (fun _=>rfl) _) rfl trivial)
  conv=>whnf
  obtain rfl:=Option.some.inj H
  have H:=HQ6
  try dsimp only at H
  refine ask_c (p_deframe_Encode_v _) H rfl rfl (fun v21 H=>?_);conv=>whnf
  refine tstF_c H (fun b22 H=>?_);conv=>whnf
  obtain ⟨o24,HL25,HQ26⟩:=bind_c H
  refine loop_c [2,8,9] [10,11,12,13,51,52,53,54,55,56,57,58,59,60,61,62,63,64,65,66,67,68,69,70,71,72,73,74,75,76,77,78,79,80,81,82,83,84,85,86,87,88,89,90,91,92,93,94,95,96,97,98,99,100,101,102,103,104,105,106,107,108,109,110,111,112,113] [10,11,12,13,51,52,53,54,55,56,57,58,59,60,61,62,63,64,65,66,67,68,69,70,71,72,73,74,75,76,77,78,79,80,81,82,83,84,85,86,87,88,89,90,91,92,93,94,95,96,97,98,99,100,101,102,103,104,105,106,107,108,109,110,111,112,113] (fun n vals st=>(∃ y28 y29 y30,p_law12_DeframeBack_l2  [] v21.1 n y28 y29 y30=some o24∧vals=[.b false,.i y28,.i y29]∧st=[.live [.s y30.Buf,.i y30.Bad,.i y30.Seen] 0])) fuel 1 [] (⟨_,_,_,HL25,rfl,rfl⟩) (Nat.zero_le _) rfl (by kernel_rfl) (by kernel_rfl) rfl ⟨⟨rfl,rfl,rfl⟩,trivial⟩ ?_
  rintro (_ | n27) _ _ (⟨y28,y29,y30,H,rfl,rfl⟩)
  ·rw [p_law12_DeframeBack_l2] at H;cases H
  rw [p_law12_DeframeBack_l2] at H
  conv=>whnf
  refine tst_d H (fun b31 H=>?_) (fun b31 H=>?_)
  ·conv=>whnf
   obtain rfl:=Option.some.inj H
   have H:=HQ26
   try dsimp only at H
   refine LenQ.ok ?_;conv=>whnf
   refine tstT_c H (fun b49 H=>?_);conv=>whnf
   iterate 2 (refine Tst.T ?_;conv=>whnf)
   refine LenQ.ok ?_;conv=>whnf
   iterate 3 (refine Tst.T ?_;conv=>whnf)
   refine tstT_c H (fun b50 H=>?_);conv=>whnf
   refine ask_c (p_law12_awake_v) H rfl rfl (fun v51 H=>?_);conv=>whnf
   refine Tst.T ?_;conv=>whnf
   exact fb_ H
  conv=>whnf
  refine ask_c (p_deframe_Need_v _) H rfl rfl (fun v32 H=>?_);conv=>whnf
  refine tst_c H (fun b33 H=>?_) (fun b33 H=>?_)
  ·conv=>whnf
   iterate 7 (refine Tst.T ?_;conv=>whnf)
   obtain rfl:=Option.some.inj H
   have H:=HQ26
   try dsimp only at H
   exact fb_ H
  conv=>whnf
  iterate 4 (refine Tst.F ?_;conv=>whnf)
  refine Ari.w ?_;conv=>whnf
  iterate 2 (refine Tst.F ?_;conv=>whnf)
  refine tst_c H (fun b34 H=>?_) (fun b34 H=>?_)
  ·conv=>whnf
   obtain rfl:=Option.some.inj H
   have H:=HQ26
   try dsimp only at H
   exact fb_ H
  conv=>whnf
  refine Ari.w ?_;conv=>whnf
  refine slt_c H (fun s35 H=>?_);conv=>whnf
  refine ask_c (p_deframe_Feed_v _ _) H rfl rfl (fun v36 H=>?_);conv=>whnf
  refine lq_ ?_;conv=>whnf
  refine FootQ.mk ⟨rfl,?_⟩;conv=>whnf
  refine lq_ ?_;conv=>whnf
  refine Ari.w ?_;conv=>whnf
  obtain ⟨o38,HL39,HQ40⟩:=bind_c H
  refine loop_c [2,8,13] [82,83,84,85,86,87,88,89,90,91,92,93,94,95,96,97,98,99,100,101,102,103,104,105,106,107,108,109,110,111,112,113,11] [82,83,84,85,86,87,88,89,90,91,92,93,94,95,96,97,98,99,100,101,102,103,104,105,106,107,108,109,110,111,112,113,11] (fun n vals st=>(∃ y42 y43,p_law12_DeframeBack_l3  [] v36.2 n y42 y43=some o38∧vals=[.b false,.i y42,.i y43]∧st=[.live [.s v36.1.Buf,.i v36.1.Bad,.i v36.1.Seen] 0])) fuel 1 [] (⟨_,_,HL39,rfl,rfl⟩) (Nat.zero_le _) rfl (by kernel_rfl) (by kernel_rfl) rfl ⟨⟨rfl,rfl,rfl⟩,trivial⟩ ?_
  rintro (_ | n41) _ _ (⟨y42,y43,H,rfl,rfl⟩)
  ·rw [p_law12_DeframeBack_l3] at H;cases H
  rw [p_law12_DeframeBack_l3] at H
  conv=>whnf
  refine LenQ.M ?_;conv=>whnf
  refine tst_d H (fun b44 H=>?_) (fun b44 H=>?_)
  ·conv=>whnf
   obtain rfl:=Option.some.inj H
   have H:=HQ40
   try dsimp only at H
   exact again_c [10,11,12,13,51,52,53,54,55,56,57,58,59,60,61,62,63,64,65,66,67,68,69,70,71,72,73,74,75,76,77,78,79,80,81,82,83,84,85,86,87,88,89,90,91,92,93,94,95,96,97,98,99,100,101,102,103,104,105,106,107,108,109,110,111,112,113] n27 1 [] (⟨_,_,_,H,rfl,rfl⟩) (Nat.lt_succ_self _) (Nat.zero_le _) rfl (by kernel_rfl) (by kernel_rfl) rfl ⟨⟨rfl,rfl,rfl⟩,trivial⟩
  conv=>whnf
  refine LenQ.ok ?_;conv=>whnf
  refine tst_c H (fun b45 H=>?_) (fun b45 H=>?_)
  ·conv=>whnf
   iterate 17 (refine Tst.T ?_;conv=>whnf)
   refine FootQ.mk ⟨rfl,?_⟩;conv=>whnf
   refine Tst.T ?_;conv=>whnf
   obtain rfl:=Option.some.inj H
   have H:=HQ40
   try dsimp only at H
   obtain rfl:=Option.some.inj H
   have H:=HQ26
   try dsimp only at H
   exact fb_ H
  conv=>whnf
  iterate 2 (refine Tst.F ?_;conv=>whnf)
  refine ixs_c (f:=DeframeItem.v) H (fun _=>rfl) (fun x46 H=>?_);conv=>whnf
  refine Tst.F ?_;conv=>whnf
  refine lq_ ?_;conv=>whnf
  iterate 3 (refine Tst.F ?_;conv=>whnf)
  refine tst_d H (fun b47 H=>?_) (fun b47 H=>?_)
  ·conv=>whnf
   iterate 2 (refine Tst.F ?_;conv=>whnf)
   refine ixs_c (f:=DeframeItem.v) H (fun _=>rfl) (fun x48 H=>?_);conv=>whnf
   refine Tst.F ?_;conv=>whnf
   refine lq_ ?_;conv=>whnf
   iterate 4 (refine Tst.F ?_;conv=>whnf)
   exact nil_at H
  conv=>whnf
  iterate 10 (refine Tst.T ?_;conv=>whnf)
  refine FootQ.mk ⟨rfl,?_⟩;conv=>whnf
  refine Tst.T ?_;conv=>whnf
  obtain rfl:=Option.some.inj H
  have H:=HQ40
  try dsimp only at H
  obtain rfl:=Option.some.inj H
  have H:=HQ26
  try dsimp only at H
  exact fb_ H
 rw [p_law12_DeframeBack_l1] at H
 conv=>whnf
 refine LenQ.M ?_;conv=>whnf
 refine tst_c H (fun b52 H=>?_) (fun b52 H=>?_)
 ·conv=>whnf
  refine ixs_c (f:=StanzaStanza.v) H (fun _=>rfl) (fun x53 H=>?_);conv=>whnf
  refine ask_c (p_ref10_Light_v _) H rfl rfl (fun v54 H=>?_);conv=>whnf
  refine Tst.not ?_
  refine tst_d H (fun b55 H=>?_) (fun b55 H=>?_)
  ·conv=>whnf
   refine ask_c (p_law12_awake_v) H rfl rfl (fun v61 H=>?_);conv=>whnf
   obtain rfl:=Option.some.inj H
   have H:=HQ6
   try dsimp only at H
   exact fb_ H
  conv=>whnf
  refine ixs_c (f:=StanzaStanza.v) H (fun _=>rfl) (fun x56 H=>?_);conv=>whnf
  refine ask_c (p_stanza_Check_v _) H rfl rfl (fun v57 H=>?_);conv=>whnf
  refine tst_d H (fun b58 H=>?_) (fun b58 H=>?_)
  ·conv=>whnf
   refine Ari.w ?_;conv=>whnf
   exact again_c [18,19,20,21,22,23,24,25,26,27,28,29,30,31,32,33,34,35,36,37,38,39,40,41,42,43] n7 1 [] (.inr (⟨_,_,H,rfl,rfl⟩)) (Nat.lt_succ_self _) (Nat.zero_le _) rfl (by kernel_rfl) (by kernel_rfl) rfl (wkB_live0 rfl (cellsM_idlt (f:=StanzaStanza.v) (fun _=>rfl) _) rfl trivial)
  conv=>whnf
  refine ixs_c (f:=StanzaStanza.v) H (fun _=>rfl) (fun x59 H=>?_);conv=>whnf
  refine appO_c (f:=StanzaStanza.v) H (fun _=>rfl) rfl (Nat.le_refl _) (.v (srcOwn (f:=StanzaStanza.v) (l:=[x59]) (fun _=>rfl) rfl rfl rfl)) (by decide) rfl (by simp) (fun l60 H=>?_);conv=>whnf
  refine Ari.w ?_;conv=>whnf
  exact again_c [18,19,20,21,22,23,24,25,26,27,28,29,30,31,32,33,34,35,36,37,38,39,40,41,42,43] n7 1 [2] (.inr (⟨_,_,H,rfl,rfl⟩)) (Nat.lt_succ_self _) (Nat.zero_le _) rfl (by kernel_rfl) (by kernel_rfl) rfl (wkB_live0 rfl (cellsM_idlt (f:=StanzaStanza.v) (fun _=>rfl) _) rfl trivial)
 conv=>whnf
 obtain rfl:=Option.some.inj H
 have H:=HQ6
 try dsimp only at H
 refine askF_c (p_deframe_Encode_v _) H (.cons (.c (fzown (f:=StanzaStanza.v) (l:=y18) rfl rfl (fun _=>rfl) (fun _=>rfl))) (.nil)) (fun v62 H=>?_);conv=>whnf
 refine tstF_c H (fun b63 H=>?_);conv=>whnf
 obtain ⟨o65,HL66,HQ67⟩:=bind_c H
 refine loop_c [2,8,9] [10,11,12,13,51,52,53,54,55,56,57,58,59,60,61,62,63,64,65,66,67,68,69,70,71,72,73,74,75,76,77,78,79,80,81,82,83,84,85,86,87,88,89,90,91,92,93,94,95,96,97,98,99,100,101,102,103,104,105,106,107,108,109,110,111,112,113,45] [10,11,12,13,51,52,53,54,55,56,57,58,59,60,61,62,63,64,65,66,67,68,69,70,71,72,73,74,75,76,77,78,79,80,81,82,83,84,85,86,87,88,89,90,91,92,93,94,95,96,97,98,99,100,101,102,103,104,105,106,107,108,109,110,111,112,113,45] (fun n vals st=>(∃ y69 y70 y71,p_law12_DeframeBack_l2  y18 v62.1 n y69 y70 y71=some o65∧vals=[.b false,.i y69,.i y70]∧st=[.live (cellsM StanzaStanza.v y18) (cellsM StanzaStanza.v y18).length,.live [.s y71.Buf,.i y71.Bad,.i y71.Seen] 0])) fuel 2 [] (⟨_,_,_,HL66,rfl,rfl⟩) (Nat.zero_le _) rfl (by kernel_rfl) (by kernel_rfl) rfl (wkB_live0 rfl (cellsM_idlt (f:=StanzaStanza.v) (fun _=>rfl) _) rfl ⟨⟨rfl,rfl,rfl⟩,trivial⟩) ?_
 rintro (_ | n68) _ _ (⟨y69,y70,y71,H,rfl,rfl⟩)
 ·rw [p_law12_DeframeBack_l2] at H;cases H
 rw [p_law12_DeframeBack_l2] at H
 conv=>whnf
 refine tst_d H (fun b72 H=>?_) (fun b72 H=>?_)
 ·conv=>whnf
  obtain rfl:=Option.some.inj H
  have H:=HQ67
  try dsimp only at H
  refine tstT_c H (fun b93 H=>?_);conv=>whnf
  iterate 5 (refine Tst.T ?_;conv=>whnf)
  refine tstT_c H (fun b94 H=>?_);conv=>whnf
  refine ask_c (p_law12_awake_v) H rfl rfl (fun v95 H=>?_);conv=>whnf
  refine Tst.T ?_;conv=>whnf
  exact fb_ H
 conv=>whnf
 refine ask_c (p_deframe_Need_v _) H rfl rfl (fun v73 H=>?_);conv=>whnf
 refine tst_c H (fun b74 H=>?_) (fun b74 H=>?_)
 ·conv=>whnf
  iterate 7 (refine Tst.T ?_;conv=>whnf)
  obtain rfl:=Option.some.inj H
  have H:=HQ67
  try dsimp only at H
  exact fb_ H
 conv=>whnf
 iterate 4 (refine Tst.F ?_;conv=>whnf)
 refine Ari.w ?_;conv=>whnf
 iterate 2 (refine Tst.F ?_;conv=>whnf)
 refine tst_c H (fun b75 H=>?_) (fun b75 H=>?_)
 ·conv=>whnf
  obtain rfl:=Option.some.inj H
  have H:=HQ67
  try dsimp only at H
  exact fb_ H
 conv=>whnf
 refine Ari.w ?_;conv=>whnf
 refine slt_c H (fun s76 H=>?_);conv=>whnf
 refine ask_c (p_deframe_Feed_v _ _) H rfl rfl (fun v77 H=>?_);conv=>whnf
 refine lq_ ?_;conv=>whnf
 refine FootQ.mk ⟨rfl,?_⟩;conv=>whnf
 refine lq_ ?_;conv=>whnf
 refine Ari.w ?_;conv=>whnf
 obtain ⟨o79,HL80,HQ81⟩:=bind_c H
 refine loop_c [2,8,13] [82,83,84,85,86,87,88,89,90,91,92,93,94,95,96,97,98,99,100,101,102,103,104,105,106,107,108,109,110,111,112,113,11] [82,83,84,85,86,87,88,89,90,91,92,93,94,95,96,97,98,99,100,101,102,103,104,105,106,107,108,109,110,111,112,113,11] (fun n vals st=>(∃ y83 y84,p_law12_DeframeBack_l3  y18 v77.2 n y83 y84=some o79∧vals=[.b false,.i y83,.i y84]∧st=[.live (cellsM StanzaStanza.v y18) (cellsM StanzaStanza.v y18).length,.live [.s v77.1.Buf,.i v77.1.Bad,.i v77.1.Seen] 0])) fuel 2 [] (⟨_,_,HL80,rfl,rfl⟩) (Nat.zero_le _) rfl (by kernel_rfl) (by kernel_rfl) rfl (wkB_live0 rfl (cellsM_idlt (f:=StanzaStanza.v) (fun _=>rfl) _) rfl ⟨⟨rfl,rfl,rfl⟩,trivial⟩) ?_
 rintro (_ | n82) _ _ (⟨y83,y84,H,rfl,rfl⟩)
 ·rw [p_law12_DeframeBack_l3] at H;cases H
 rw [p_law12_DeframeBack_l3] at H
 conv=>whnf
 refine LenQ.M ?_;conv=>whnf
 refine tst_d H (fun b85 H=>?_) (fun b85 H=>?_)
 ·conv=>whnf
  obtain rfl:=Option.some.inj H
  have H:=HQ81
  try dsimp only at H
  exact again_c [10,11,12,13,51,52,53,54,55,56,57,58,59,60,61,62,63,64,65,66,67,68,69,70,71,72,73,74,75,76,77,78,79,80,81,82,83,84,85,86,87,88,89,90,91,92,93,94,95,96,97,98,99,100,101,102,103,104,105,106,107,108,109,110,111,112,113,45] n68 2 [] (⟨_,_,_,H,rfl,rfl⟩) (Nat.lt_succ_self _) (Nat.zero_le _) rfl (by kernel_rfl) (by kernel_rfl) rfl (wkB_live0 rfl (cellsM_idlt (f:=StanzaStanza.v) (fun _=>rfl) _) rfl ⟨⟨rfl,rfl,rfl⟩,trivial⟩)
 conv=>whnf
 refine tst_c H (fun b86 H=>?_) (fun b86 H=>?_)
 ·conv=>whnf
  iterate 17 (refine Tst.T ?_;conv=>whnf)
  refine FootQ.mk ⟨rfl,?_⟩;conv=>whnf
  refine Tst.T ?_;conv=>whnf
  obtain rfl:=Option.some.inj H
  have H:=HQ81
  try dsimp only at H
  obtain rfl:=Option.some.inj H
  have H:=HQ67
  try dsimp only at H
  exact fb_ H
 conv=>whnf
 iterate 2 (refine Tst.F ?_;conv=>whnf)
 refine ixs_c (f:=DeframeItem.v) H (fun _=>rfl) (fun x87 H=>?_);conv=>whnf
 refine Tst.F ?_;conv=>whnf
 refine lq_ ?_;conv=>whnf
 iterate 3 (refine Tst.F ?_;conv=>whnf)
 refine tst_c H (fun b88 H=>?_) (fun b88 H=>?_)
 ·conv=>whnf
  iterate 10 (refine Tst.T ?_;conv=>whnf)
  refine FootQ.mk ⟨rfl,?_⟩;conv=>whnf
  refine Tst.T ?_;conv=>whnf
  obtain rfl:=Option.some.inj H
  have H:=HQ81
  try dsimp only at H
  obtain rfl:=Option.some.inj H
  have H:=HQ67
  try dsimp only at H
  exact fb_ H
 conv=>whnf
 iterate 2 (refine Tst.F ?_;conv=>whnf)
 refine ixs_c (f:=DeframeItem.v) H (fun _=>rfl) (fun x89 H=>?_);conv=>whnf
 refine Tst.F ?_;conv=>whnf
 refine lq_ ?_;conv=>whnf
 iterate 4 (refine Tst.F ?_;conv=>whnf)
 refine ⟨rfl,ixo_c H (fun x90 h91 H=>?_)⟩;conv=>whnf
 refine Tst.F ?_;conv=>whnf
 refine ldo_c (f:=StanzaStanza.v) (es:=8) h91 (fun _=>rfl) 0 (by omega) (by decide) ?_;conv=>whnf
 iterate 2 (refine Tst.F ?_;conv=>whnf)
 refine FootQ.mk ⟨rfl,?_⟩;conv=>whnf
 refine Tst.not ?_
 refine tst_d H (fun b92 H=>?_) (fun b92 H=>?_)
 ·conv=>whnf
  obtain rfl:=Option.some.inj H
  have H:=HQ81
  try dsimp only at H
  obtain rfl:=Option.some.inj H
  have H:=HQ67
  try dsimp only at H
  exact fb_ H
 conv=>whnf
 iterate 2 (refine Ari.w ?_;conv=>whnf)
 exact again_c [82,83,84,85,86,87,88,89,90,91,92,93,94,95,96,97,98,99,100,101,102,103,104,105,106,107,108,109,110,111,112,113,11] n82 2 [] (⟨_,_,H,rfl,rfl⟩) (Nat.lt_succ_self _) (Nat.zero_le _) rfl (by kernel_rfl) (by kernel_rfl) rfl (wkB_live0 rfl (cellsM_idlt (f:=StanzaStanza.v) (fun _=>rfl) _) rfl ⟨⟨rfl,rfl,rfl⟩,trivial⟩)
end Go.Proofs.Ytmmmcpeickfolaa

namespace Go.Proofs.Ytmmmcpeickfolaa
open Go.ChangeShapes Go.WideShapes Go.ChangeAt Go.RowKit Go.Joins Go.Deep
theorem deframeBack_named:Try.pinned.checked.prog.funcNamed Rows.deframeBackRow.func=some 4:=by kernel_rfl
theorem deframeBack_closed:joinedFacts Try.pinned.checked.prog 4 Try.f4 Rows.deframeBackSpec Rows.deframeBackRow=true:=by kernel_rfl
end Go.Proofs.Ytmmmcpeickfolaa

namespace Go.Proofs.Ytmmmcpeickfolaa
open Go.ChangeShapes Go.WideShapes Go.ChangeAt Go.RowKit Go.Joins Go.Deep
set_option maxRecDepth 100000 in
theorem deframeBack_lifted (os:Os) (started:os.Started) (H:Type) (enc:TypeId × Value→H) :
  ReturnsInHanded {} Try.checked os 4 .any (Rows.deframeBackSpec.pre6 enc Try.prog Try.f4 Rows.deframeBackRow.domain false) (Rows.deframeBackSpec.post enc Try.prog Try.f4 false true false false):=by
 refine returnsInHanded_of_change_shaped (C:=Try.checked) own0 started (by kernel_rfl) Try.func4
  (ChangeSpec.witness6 (enc:=enc) (C:=Try.checked) false ⟨#[],#[.slice none 0 0],[]⟩ 8 (by kernel_rfl) (by kernel_rfl) (by kernel_rfl) (by kernel_rfl)) ?_
 intro W base args ds gs before hval0 hW hcnd _ hsh _
 have hval:∀ (j:Nat) t v,Try.f4.params[j]?=some t→args[j]?=some v→Value.okWide Try.prog W .any base t v:=hval0
 have hW':=hW
 obtain ⟨p,q,hA0,hV,rfl,hfz,hnd⟩:=hW
 have hA:DataW.TrodAll enc Try.prog W 0 (fun _=>true) true Try.f4.params.toList args.toList ds p:=hA0
 rw [Try.params4] at hA hval
 have hA2:=hA
 obtain ⟨v0,d0,rfl,rfl,h0⟩:=trodAll_one hA
 obtain ⟨rfl,rfl⟩:=trodVars_none hV
 obtain ⟨fu0,hf0⟩:=h0
 obtain ⟨q0,l0,k0,rfl⟩:=okWide_slice Try.underlying34 (hval 0 _ v0 rfl rfl)
 obtain ⟨a0,w0,r0⟩:=rd_T34 hf0
 have hx0:Rep (MW W) noBk _ _:=r0.2 0 (by simp [Value.cells]) (by simp)
 refine (rep_one (callsO_true (p_law12_DeframeBack_v a0) (tru_ok (deframeBack_all a0 w0))) (maxLen_cell W hsh) (repAr1 hx0)).mono ?_
 rintro e W' ⟨rfl,bel⟩
 refine ⟨_,rfl,_,_,_,[],p,[],hW',?_,?_,?_,?_,?_⟩
 ·exact trodAll_mk1 (shut_bool Try.underlying4 true)
 ·exact trodAll_below laid0 bel (by
   intro t ht
   simp at ht
   rcases ht with rfl <;> exact ⟨by kernel_rfl,of_decide_eq_true (by kernel_rfl)⟩) hA2
 ·rfl
 ·exact bel.frame _
 ·exact fun h=>by cases h
theorem deframeBack_holds:Rows.DeframeBackSaid :=
 OpenClaim.holds_of_wide 4 Try.f4 rfl rfl rfl rfl rfl rfl rfl ⟨rfl,rfl,rfl,rfl,rfl⟩ rfl rfl rfl rfl rfl deframeBack_named Try.func4 deframeBack_closed
  (of_decide_eq_true (by kernel_rfl)) (by unfold Func.isWrapper;first | (rw [if_pos (by decide +kernel)];kernel_rfl) | (rw [if_neg (by decide +kernel)];exact ⟨rfl,rfl⟩))
  (fun os started H enc _=>deframeBack_lifted os started H enc)
#print axioms deframeBack_holds
end Go.Proofs.Ytmmmcpeickfolaa

