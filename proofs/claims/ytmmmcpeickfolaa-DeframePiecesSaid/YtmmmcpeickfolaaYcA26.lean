/- DeframePieces: for every input the call returns true, and its arguments read as they did. -/
import Derived.Test.YtmmmcpeickfolaaYcA24
import Derived.Test.YtmmmcpeickfolaaYcA25
import Derived.Test.YtmmmcpeickfolaaYcA13
import Derived.KernelRfl
import Derived.Test.YtmmmcpeickfolaaYcA14
import Derived.Test.YtmmmcpeickfolaaRows
set_option linter.all false
namespace Go.Proofs.Ytmmmcpeickfolaa
open Go.RowKit
set_option maxRecDepth 1000000
set_option maxHeartbeats 4000000
def gc15:BCode:=(.seq (R_ 1 [O_ 1 (.bx (t_ 0)) 0,O_ 2 (.mv (i_ 0)) 1]) (.seq (.seq (R_ 0 [O_ 4 (.ld 3 true (t_ 1)) 0,O_ 5 (.cl 44 [(t_ 4)]) 0]) (.cond (t_ 5) (.seq (R_ 0 [O_ 2 (.mv (i_ 0)) 0]) .ret) .skip)) (.seq (R_ 0 [O_ 3 (.mv (i_ 2)) 0]) (.seq (.seq (R_ 0 [O_ 6 (.fa 0 (t_ 1)) 0,O_ 7 (.ld 1 false (t_ 6)) 0,O_ 8 (.lent (t_ 7)) 0,O_ 9 (.bin .geq (t_ 8) (i_ 2)) 0]) (.cond (t_ 9) (.reg 0 [O_ 10 (.mv (t_ 3)) 0,O_ 11 (.fa 0 (t_ 1)) 0,O_ 12 (.ld 1 false (t_ 11)) 0,O_ 13 (.ixt (t_ 12) (i_ 0)) 0,O_ 14 (.cvi .i64 (t_ 13)) 0,O_ 15 (.bin .shl (t_ 14) (.const (.int .u64 8))) 0,O_ 16 (.fa 0 (t_ 1)) 0,O_ 17 (.ld 1 false (t_ 16)) 0,O_ 18 (.ixt (t_ 17) (i_ 1)) 0,O_ 19 (.cvi .i64 (t_ 18)) 0,O_ 20 (.bin .or (t_ 15) (t_ 19)) 0,O_ 21 (.bin .add (t_ 10) (t_ 20)) 0,O_ 3 (.mv (t_ 21)) 0] (some [[],[],[1],[1,2],[2,1,3],[3,1,2,4],[],[6],[6,7],[7,6,8],[8,6,7,9,4,2,1,3,5],[5,3,1,2,4,9,7,6,8,10,0],[0,10,8,6,7,9,4,2,1,3,5,11]]) 0 []) .skip)) (.seq (R_ 0 [O_ 22 (.mv (t_ 3)) 0,O_ 23 (.fa 0 (t_ 1)) 0,O_ 24 (.ld 1 false (t_ 23)) 0,O_ 25 (.lent (t_ 24)) 0,O_ 26 (.bin .sub (t_ 22) (t_ 25)) 0,O_ 2 (.mv (t_ 26)) 0]) .ret)))))
theorem gc15_ok:compF Try.prog Try.f15=some (gc15.er,27,[.tmp 2]):=by unfold gc15;kernel_rfl
theorem p_deframe_Need_v (a0:DeframeState):CallsO Try.prog 15 [.agg [.s a0.Buf,.i a0.Bad,.i a0.Seen]] V.i (p_deframe_Need a0):=by
 refine callsO_comp mix Try.func15 gc15_ok fun r H=>?_
 rw [p_deframe_Need] at H
 conv=>whnf
 refine ask_c (p_deframe_State_deaf_v _) H rfl rfl (fun v1 H=>?_);conv=>whnf
 refine tst_c H (fun b2 H=>?_) (fun b2 H=>?_)
 ·conv=>whnf
  exact fi_ H
 conv=>whnf
 refine tst_d H (fun b3 H=>?_) (fun b3 H=>?_)
 ·conv=>whnf
  refine Ari.w ?_;conv=>whnf
  exact fi_ H
 conv=>whnf
 refine ixt_c H (fun c4 H=>?_);conv=>whnf
 refine Ari.w ?_;conv=>whnf
 refine Shl.ok (by decide) ?_;conv=>whnf
 refine ixt_c H (fun c5 H=>?_);conv=>whnf
 iterate 2 (refine Ari.w ?_;conv=>whnf)
 refine FootQ.mk ⟨rfl,?_⟩;conv=>whnf
 refine Ari.w ?_;conv=>whnf
 exact fi_ H
def gc7:BCode:=(.seq (R_ 0 [O_ 0 (.mv (b_ false)) 0]) (.seq (R_ 1 [O_ 14 (.bd [(.lit (.string ⟨#[]⟩)),(.lit (.int .i64 0)),(.lit (.int .i64 0))] []) 0,O_ 15 (.cl 8 [(t_ 14),(.const (.string ⟨#[0,1]⟩))]) 0,O_ 13 (.mv (t_ 15)) 0,O_ 16 (.ex (t_ 13) 0) 0,O_ 17 (.ex (t_ 13) 1) 0,O_ 1 (.al (.agg [(.lit (.string ⟨#[]⟩)),(.lit (.int .i64 0)),(.lit (.int .i64 0))])) 0,U_ (.st 3 (t_ 1) (t_ 16)) 1,O_ 2 (.mv (t_ 17)) 1]) (.seq (R_ 1 [O_ 19 (.ld 3 true (t_ 1)) 0,O_ 20 (.cl 8 [(t_ 19),(.const (.string ⟨#[2,0,2,16,120,0]⟩))]) 0,O_ 18 (.mv (t_ 20)) 0,O_ 21 (.ex (t_ 18) 0) 0,O_ 22 (.ex (t_ 18) 1) 0,O_ 3 (.al (.agg [(.lit (.string ⟨#[]⟩)),(.lit (.int .i64 0)),(.lit (.int .i64 0))])) 0,U_ (.st 3 (t_ 3) (t_ 21)) 1,O_ 4 (.mv (t_ 22)) 1]) (.seq (R_ 1 [O_ 24 (.ld 3 true (t_ 3)) 0,O_ 25 (.cl 8 [(t_ 24),(.const (.string ⟨#[0,120]⟩))]) 0,O_ 23 (.mv (t_ 25)) 0,O_ 26 (.ex (t_ 23) 0) 0,O_ 27 (.ex (t_ 23) 1) 0,O_ 5 (.al (.agg [(.lit (.string ⟨#[]⟩)),(.lit (.int .i64 0)),(.lit (.int .i64 0))])) 0,U_ (.st 3 (t_ 5) (t_ 26)) 1,O_ 6 (.mv (t_ 27)) 1]) (.seq (R_ 1 [O_ 29 (.ld 3 true (t_ 5)) 0,O_ 30 (.cl 32 [(t_ 29),(.const (.string ⟨#[0,1,2]⟩))]) 0,O_ 28 (.mv (t_ 30)) 0,O_ 31 (.ex (t_ 28) 0) 0,O_ 32 (.ex (t_ 28) 1) 0,O_ 7 (.al (.agg [(.lit (.string ⟨#[]⟩)),(.lit (.int .i64 0)),(.lit (.int .i64 0))])) 0,U_ (.st 3 (t_ 7) (t_ 31)) 1,O_ 8 (.mv (t_ 32)) 1]) (.seq (R_ 1 [O_ 34 (.bd [(.lit (.int .u8 0)),(.lit (.string ⟨#[]⟩)),(.lit (.string ⟨#[]⟩)),(.lit (.string ⟨#[]⟩)),(.lit (.int .i64 0)),(.lit (.int .i64 0)),(.lit (.int .i64 0)),(.lit (.int .i64 0))] [(0,1,(.const (.int .u8 2)))]) 0,O_ 35 (.bd [(.lit (.int .u8 0)),(.lit (.string ⟨#[]⟩)),(.lit (.string ⟨#[]⟩)),(.lit (.string ⟨#[]⟩)),(.lit (.int .i64 0)),(.lit (.int .i64 0)),(.lit (.int .i64 0)),(.lit (.int .i64 0))] [(0,1,(.const (.int .u8 15))),(7,1,(i_ 1))]) 0,O_ 36 (.bs 8 2 [(.lit (.int .u8 0)),(.lit (.string ⟨#[]⟩)),(.lit (.string ⟨#[]⟩)),(.lit (.string ⟨#[]⟩)),(.lit (.int .i64 0)),(.lit (.int .i64 0)),(.lit (.int .i64 0)),(.lit (.int .i64 0)),(.lit (.int .u8 0)),(.lit (.string ⟨#[]⟩)),(.lit (.string ⟨#[]⟩)),(.lit (.string ⟨#[]⟩)),(.lit (.int .i64 0)),(.lit (.int .i64 0)),(.lit (.int .i64 0)),(.lit (.int .i64 0))] [(0,(t_ 34)),(1,(t_ 35))]) 0,O_ 37 (.cl 14 [(t_ 36)]) 1,O_ 33 (.mv (t_ 37)) 1,O_ 38 (.ex (t_ 33) 0) 1,O_ 39 (.ex (t_ 33) 1) 1,O_ 9 (.mv (t_ 38)) 1,O_ 10 (.mv (t_ 39)) 1]) (.seq (R_ 1 [O_ 41 (.bd [(.lit (.int .u8 0)),(.lit (.string ⟨#[]⟩)),(.lit (.string ⟨#[]⟩)),(.lit (.string ⟨#[]⟩)),(.lit (.int .i64 0)),(.lit (.int .i64 0)),(.lit (.int .i64 0)),(.lit (.int .i64 0))] []) 0,O_ 42 (.bs 8 1 [(.lit (.int .u8 0)),(.lit (.string ⟨#[]⟩)),(.lit (.string ⟨#[]⟩)),(.lit (.string ⟨#[]⟩)),(.lit (.int .i64 0)),(.lit (.int .i64 0)),(.lit (.int .i64 0)),(.lit (.int .i64 0))] [(0,(t_ 41))]) 0,O_ 43 (.cl 14 [(t_ 42)]) 1,O_ 40 (.mv (t_ 43)) 1,O_ 44 (.ex (t_ 40) 0) 1,O_ 45 (.ex (t_ 40) 1) 1,O_ 11 (.mv (t_ 44)) 1,O_ 12 (.mv (t_ 45)) 1]) (.seq (R_ 0 [O_ 46 (.mv (t_ 2)) 0,O_ 47 (.lens (t_ 46)) 0,O_ 48 (.bin .eql (t_ 47) (i_ 0)) 0,O_ 49 (.mv (t_ 48)) 0,⟨(some 50),.ld 3 true (t_ 1),(some (49,true)),0⟩,⟨(some 51),.cl 15 [(t_ 50)],(some (49,true)),0⟩,⟨(some 52),.bin .eql (t_ 51) (i_ 1),(some (49,true)),0⟩,O_ 53 (.pick (t_ 49) (t_ 52) (b_ false)) 0,O_ 54 (.mv (t_ 53)) 0,⟨(some 55),.mv (t_ 4),(some (54,true)),0⟩,⟨(some 56),.lens (t_ 55),(some (54,true)),0⟩,⟨(some 57),.bin .eql (t_ 56) (i_ 2),(some (54,true)),0⟩,O_ 58 (.pick (t_ 54) (t_ 57) (b_ false)) 0,O_ 59 (.mv (t_ 58)) 0,⟨(some 60),.mv (t_ 4),(some (59,true)),0⟩,⟨(some 61),.ixs 9 (t_ 60) (i_ 0),(some (59,true)),0⟩,⟨(some 62),.fa 0 (t_ 61),(some (59,true)),0⟩,⟨(some 63),.fa 0 (t_ 62),(some (59,true)),0⟩,⟨(some 64),.ld 1 false (t_ 63),(some (59,true)),0⟩,⟨(some 65),.bin .eql (t_ 64) (.const (.int .u8 2)),(some (59,true)),0⟩,O_ 66 (.pick (t_ 59) (t_ 65) (b_ false)) 0,O_ 67 (.mv (t_ 66)) 0,⟨(some 68),.mv (t_ 4),(some (67,true)),0⟩,⟨(some 69),.ixs 9 (t_ 68) (i_ 0),(some (67,true)),0⟩,⟨(some 70),.fa 8 (t_ 69),(some (67,true)),0⟩,⟨(some 71),.ld 1 false (t_ 70),(some (67,true)),0⟩,⟨(some 72),.bin .eql (t_ 71) (i_ 0),(some (67,true)),0⟩,O_ 73 (.pick (t_ 67) (t_ 72) (b_ false)) 0,O_ 74 (.mv (t_ 73)) 0,⟨(some 75),.mv (t_ 4),(some (74,true)),0⟩,⟨(some 76),.ixs 9 (t_ 75) (i_ 1),(some (74,true)),0⟩,⟨(some 77),.fa 8 (t_ 76),(some (74,true)),0⟩,⟨(some 78),.ld 1 false (t_ 77),(some (74,true)),0⟩,⟨(some 79),.bin .eql (t_ 78) (i_ 12),(some (74,true)),0⟩,O_ 80 (.pick (t_ 74) (t_ 79) (b_ false)) 0,O_ 81 (.mv (t_ 80)) 0,⟨(some 82),.fa 0 (t_ 3),(some (81,true)),0⟩,⟨(some 83),.ld 1 false (t_ 82),(some (81,true)),0⟩,⟨(some 84),.bin .eql (t_ 83) (.const (.string ⟨#[0]⟩)),(some (81,true)),0⟩,O_ 85 (.pick (t_ 81) (t_ 84) (b_ false)) 0,O_ 86 (.mv (t_ 85)) 0,⟨(some 87),.fa 2 (t_ 3),(some (86,true)),0⟩,⟨(some 88),.ld 1 false (t_ 87),(some (86,true)),0⟩,⟨(some 89),.bin .eql (t_ 88) (i_ 2),(some (86,true)),0⟩,O_ 90 (.pick (t_ 86) (t_ 89) (b_ false)) 0,O_ 91 (.mv (t_ 90)) 0,⟨(some 92),.ld 3 true (t_ 3),(some (91,true)),0⟩,⟨(some 93),.cl 15 [(t_ 92)],(some (91,true)),0⟩,⟨(some 94),.bin .eql (t_ 93) (i_ 1),(some (91,true)),0⟩,O_ 95 (.pick (t_ 91) (t_ 94) (b_ false)) 0,O_ 96 (.mv (t_ 95)) 0,⟨(some 97),.fa 1 (t_ 5),(some (96,true)),0⟩,⟨(some 98),.ld 1 false (t_ 97),(some (96,true)),0⟩,⟨(some 99),.bin .eql (t_ 98) (i_ 4),(some (96,true)),0⟩,O_ 100 (.pick (t_ 96) (t_ 99) (b_ false)) 0,O_ 101 (.mv (t_ 100)) 0,⟨(some 102),.mv (t_ 6),(some (101,true)),0⟩,⟨(some 103),.lens (t_ 102),(some (101,true)),0⟩,⟨(some 104),.bin .eql (t_ 103) (i_ 0),(some (101,true)),0⟩,O_ 105 (.pick (t_ 101) (t_ 104) (b_ false)) 0,O_ 106 (.mv (t_ 105)) 0,⟨(some 107),.ld 3 true (t_ 7),(some (106,true)),0⟩,⟨(some 108),.ld 3 true (t_ 5),(some (106,true)),0⟩,⟨(some 109),.eqa false [2,1,1] (t_ 107) (t_ 108),(some (106,true)),0⟩,O_ 110 (.pick (t_ 106) (t_ 109) (b_ false)) 0,O_ 111 (.mv (t_ 110)) 0,⟨(some 112),.mv (t_ 8),(some (111,true)),0⟩,⟨(some 113),.lens (t_ 112),(some (111,true)),0⟩,⟨(some 114),.bin .eql (t_ 113) (i_ 0),(some (111,true)),0⟩,O_ 115 (.pick (t_ 111) (t_ 114) (b_ false)) 0,O_ 116 (.mv (t_ 115)) 0,⟨(some 117),.mv (t_ 9),(some (116,true)),0⟩,⟨(some 118),.bin .eql (t_ 117) (.const (.string ⟨#[0,1,2,0,7,15,0,0,0,0,0,1]⟩)),(some (116,true)),0⟩,O_ 119 (.pick (t_ 116) (t_ 118) (b_ false)) 0,O_ 120 (.mv (t_ 119)) 0,⟨(some 121),.mv (t_ 10),(some (120,true)),0⟩,⟨(some 122),.bin .eql (t_ 121) (i_ 0),(some (120,true)),0⟩,O_ 123 (.pick (t_ 120) (t_ 122) (b_ false)) 0,O_ 124 (.mv (t_ 123)) 0,⟨(some 125),.mv (t_ 12),(some (124,true)),0⟩,⟨(some 126),.bin .eql (t_ 125) (i_ 12),(some (124,true)),0⟩,O_ 127 (.pick (t_ 124) (t_ 126) (b_ false)) 0,O_ 128 (.mv (t_ 127)) 0,⟨(some 129),.ld 3 true (t_ 3),(some (128,true)),0⟩,⟨(some 130),.cl 9 [(t_ 129)],(some (128,true)),0⟩,⟨(some 131),.bin .eql (t_ 130) (i_ 0),(some (128,true)),0⟩,O_ 132 (.pick (t_ 128) (t_ 131) (b_ false)) 0,O_ 133 (.mv (t_ 132)) 0,⟨(some 134),.bd [(.lit (.string ⟨#[]⟩)),(.lit (.int .i64 0)),(.lit (.int .i64 0))] [(2,1,(.const (.int .i64 (-1))))],(some (133,true)),0⟩,⟨(some 135),.cl 9 [(t_ 134)],(some (133,true)),0⟩,⟨(some 136),.bin .eql (t_ 135) (i_ 8),(some (133,true)),0⟩,O_ 137 (.pick (t_ 133) (t_ 136) (b_ false)) 0,O_ 138 (.mv (t_ 137)) 0,O_ 139 (.pick (t_ 138) (b_ true) (b_ false)) 0,O_ 140 (.mv (t_ 139)) 0,O_ 141 (.pick (t_ 140) (b_ true) (b_ false)) 0,O_ 142 (.mv (t_ 141)) 0,O_ 143 (.pick (t_ 142) (b_ true) (b_ false)) 0,O_ 0 (.mv (t_ 143)) 0]) .ret))))))))
theorem gc7_ok:compF Try.prog Try.f7=some (gc7.er,144,[.tmp 0]):=by unfold gc7;kernel_rfl
theorem p_law12_awake_t:CallsO Try.prog 7 [] V.b (tru? (p_law12_awake)):=by
 refine callsO_comp mix Try.func7 gc7_ok fun r H=>?_
 have H1:=tru_of H
 clear H
 obtain ⟨rfl,H⟩:=H1
 rw [p_law12_awake] at H
 conv=>whnf
 refine ask_c (p_deframe_Feed_v _ _) H rfl rfl (fun v1 H=>?_);conv=>whnf
 refine lq_ ?_;conv=>whnf
 refine ask_c (p_deframe_Feed_v _ _) H rfl rfl (fun v2 H=>?_);conv=>whnf
 refine lq_ ?_;conv=>whnf
 refine ask_c (p_deframe_Feed_v _ _) H rfl rfl (fun v3 H=>?_);conv=>whnf
 refine lq_ ?_;conv=>whnf
 refine ask_c (p_deframe_Texts_v _ _) H rfl rfl (fun v4 H=>?_);conv=>whnf
 refine lq_ ?_;conv=>whnf
 refine askF_c (p_deframe_Encode_v _) H (.cons (.c (fzown (f:=StanzaStanza.v) (l:=[(StanzaStanza.mk (2:Int) (⟨#[]⟩ : ByteArray) (⟨#[]⟩ : ByteArray) (⟨#[]⟩ : ByteArray) (0:Int) (0:Int) (0:Int) (0:Int)),(StanzaStanza.mk (15:Int) (⟨#[]⟩ : ByteArray) (⟨#[]⟩ : ByteArray) (⟨#[]⟩ : ByteArray) (0:Int) (0:Int) (0:Int) (1:Int))]) rfl rfl (fun _=>rfl) (fun _=>rfl))) (.nil)) (fun v5 H=>?_);conv=>whnf
 refine askF_c (p_deframe_Encode_v _) H (.cons (.c (fzown (f:=StanzaStanza.v) (l:=[(StanzaStanza.mk (0:Int) (⟨#[]⟩ : ByteArray) (⟨#[]⟩ : ByteArray) (⟨#[]⟩ : ByteArray) (0:Int) (0:Int) (0:Int) (0:Int))]) rfl rfl (fun _=>rfl) (fun _=>rfl))) (.nil)) (fun v6 H=>?_);conv=>whnf
 refine LenQ.M ?_;conv=>whnf
 refine tstT_c H (fun b7 H=>?_);conv=>whnf
 refine Tst.T ?_;conv=>whnf
 refine ask_c (p_deframe_Need_v _) H rfl rfl (fun v8 H=>?_);conv=>whnf
 iterate 2 (refine Tst.T ?_;conv=>whnf)
 refine tstT_c H (fun b9 H=>?_);conv=>whnf
 refine Tst.T ?_;conv=>whnf
 refine LenQ.M ?_;conv=>whnf
 iterate 2 (refine Tst.T ?_;conv=>whnf)
 refine tstT_c H (fun b10 H=>?_);conv=>whnf
 refine Tst.T ?_;conv=>whnf
 refine ixs_c (f:=DeframeItem.v) H (fun _=>rfl) (fun x11 H=>?_);conv=>whnf
 refine Tst.T ?_;conv=>whnf
 refine lq_ ?_;conv=>whnf
 refine Tst.T ?_;conv=>whnf
 refine lq_ ?_;conv=>whnf
 iterate 3 (refine Tst.T ?_;conv=>whnf)
 refine tstT_c H (fun b12 H=>?_);conv=>whnf
 refine Tst.T ?_;conv=>whnf
 refine ixs_c (f:=DeframeItem.v) H (fun _=>rfl) (fun x13 H=>?_);conv=>whnf
 refine Tst.T ?_;conv=>whnf
 refine lq_ ?_;conv=>whnf
 iterate 3 (refine Tst.T ?_;conv=>whnf)
 refine tstT_c H (fun b14 H=>?_);conv=>whnf
 refine Tst.T ?_;conv=>whnf
 refine ixs_c (f:=DeframeItem.v) H (fun _=>rfl) (fun x15 H=>?_);conv=>whnf
 refine Tst.T ?_;conv=>whnf
 refine lq_ ?_;conv=>whnf
 iterate 3 (refine Tst.T ?_;conv=>whnf)
 refine tstT_c H (fun b16 H=>?_);conv=>whnf
 iterate 3 (refine Tst.T ?_;conv=>whnf)
 refine tstT_c H (fun b17 H=>?_);conv=>whnf
 iterate 3 (refine Tst.T ?_;conv=>whnf)
 refine tstT_c H (fun b18 H=>?_);conv=>whnf
 refine Tst.T ?_;conv=>whnf
 refine ask_c (p_deframe_Need_v _) H rfl rfl (fun v19 H=>?_);conv=>whnf
 iterate 2 (refine Tst.T ?_;conv=>whnf)
 refine tstT_c H (fun b20 H=>?_);conv=>whnf
 iterate 3 (refine Tst.T ?_;conv=>whnf)
 refine tstT_c H (fun b21 H=>?_);conv=>whnf
 refine Tst.T ?_;conv=>whnf
 refine LenQ.M ?_;conv=>whnf
 iterate 2 (refine Tst.T ?_;conv=>whnf)
 refine tstT_c H (fun b22 H=>?_);conv=>whnf
 iterate 3 (refine Tst.T ?_;conv=>whnf)
 refine tstT_c H (fun b23 H=>?_);conv=>whnf
 refine Tst.T ?_;conv=>whnf
 refine LenQ.M ?_;conv=>whnf
 iterate 2 (refine Tst.T ?_;conv=>whnf)
 refine tstT_c H (fun b24 H=>?_);conv=>whnf
 iterate 2 (refine Tst.T ?_;conv=>whnf)
 refine tstT_c H (fun b25 H=>?_);conv=>whnf
 iterate 2 (refine Tst.T ?_;conv=>whnf)
 refine tstT_c H (fun b26 H=>?_);conv=>whnf
 iterate 2 (refine Tst.T ?_;conv=>whnf)
 refine tstT_c H (fun b27 H=>?_);conv=>whnf
 refine Tst.T ?_;conv=>whnf
 refine ask_c (p_deframe_Check_v _) H rfl rfl (fun v28 H=>?_);conv=>whnf
 iterate 2 (refine Tst.T ?_;conv=>whnf)
 refine tstT_c H (fun b29 H=>?_);conv=>whnf
 refine Tst.T ?_;conv=>whnf
 refine ask_c (p_deframe_Check_v _) H rfl rfl (fun v30 H=>?_);conv=>whnf
 iterate 2 (refine Tst.T ?_;conv=>whnf)
 refine tstT_c H (fun b31 H=>?_);conv=>whnf
 iterate 2 (refine Tst.T ?_;conv=>whnf)
 exact fb_ H
theorem p_law12_awake_true:p_law12_awake=some true:=by kernel_rfl
theorem p_law12_awake_v:CallsO Try.prog 7 [] V.b p_law12_awake:=tru_closed p_law12_awake_t p_law12_awake_true
def gc11:BCode:=(.seq (R_ 0 [O_ 2 (.mv (.const (.slice none 0 0))) 0]) (.seq (R_ 0 [O_ 3 (.mv (.const (.slice none 0 0))) 0]) (.seq (.seq (R_ 0 [O_ 4 (.mv (i_ 0)) 0]) (.block 0 (.loop (.seq (.seq (R_ 0 [O_ 5 (.mv (t_ 4)) 0,O_ 6 (.mv (t_ 0)) 0,O_ 7 (.lens (t_ 6)) 0,O_ 8 (.bin .lss (t_ 5) (t_ 7)) 0]) (.cond (t_ 8) .skip (.exit 0))) (.seq (.block 1 (.reg 2 [O_ 11 (.mv (t_ 3)) 0,O_ 12 (.mv (t_ 0)) 0,O_ 13 (.mv (t_ 4)) 0,O_ 14 (.ixs 9 (t_ 12) (t_ 13)) 0,O_ 15 (.fa 0 (t_ 14)) 0,O_ 16 (.ld 8 true (t_ 15)) 0,O_ 17 (.mv (t_ 0)) 0,O_ 18 (.mv (t_ 4)) 0,O_ 19 (.ixs 9 (t_ 17) (t_ 18)) 0,O_ 20 (.fa 8 (t_ 19)) 0,O_ 21 (.ld 1 false (t_ 20)) 0,O_ 22 (.bd [(.lit (.int .u8 0)),(.lit (.string ⟨#[]⟩)),(.lit (.string ⟨#[]⟩)),(.lit (.string ⟨#[]⟩)),(.lit (.int .i64 0)),(.lit (.int .i64 0)),(.lit (.int .i64 0)),(.lit (.int .i64 0)),(.lit (.int .i64 0))] [(0,8,(t_ 16)),(8,1,(t_ 21))]) 0,O_ 23 (.bs 9 1 [(.lit (.int .u8 0)),(.lit (.string ⟨#[]⟩)),(.lit (.string ⟨#[]⟩)),(.lit (.string ⟨#[]⟩)),(.lit (.int .i64 0)),(.lit (.int .i64 0)),(.lit (.int .i64 0)),(.lit (.int .i64 0)),(.lit (.int .i64 0))] [(0,(t_ 22))]) 0,O_ 24 (.ap 9 96 (t_ 11) (t_ 23)) 1,O_ 3 (.mv (t_ 24)) 2] (some [[],[],[],[2,1],[1,2,3],[3,2,1,4],[],[],[7,6],[6,7,8],[8,7,6,9],[9,6,7,8,10,4,1,2,3,5],[5,3,2,1,4,10,8,7,6,9,11],[11,9,6,7,8,10,4,1,2,3,5,12,0],[0,12,5,3,2,1,4,10,8,7,6,9,11,13]]) 0 [])) (R_ 0 [O_ 9 (.mv (t_ 4)) 0,O_ 10 (.bin .add (t_ 9) (i_ 1)) 0,O_ 4 (.mv (t_ 10)) 0])))))) (.seq (R_ 0 [O_ 25 (.mv (t_ 3)) 0,O_ 2 (.mv (t_ 25)) 0]) .ret))))
theorem gc11_ok:compF Try.prog Try.f11=some (gc11.er,26,[.tmp 2]):=by unfold gc11;kernel_rfl
theorem p_law12_Items_v {u1:Bool} (a0:List DeframeItem):CallsO Try.prog 11 [.sl (List.map DeframeItem.v a0) u1] (fun l:List DeframeItem=>V.sl (l.map DeframeItem.v) false) (p_law12_Items a0):=by
 refine callsO_comp mix Try.func11 gc11_ok fun r H=>?_
 rw [p_law12_Items] at H
 conv=>whnf
 obtain ⟨o2,HL3,HQ4⟩:=bind_c H
 refine loop_c [3,4] [5,6,7,8,9,10,11,12,13,14,15,16,17,18,19,20,21,22,23,24] [5,6,7,8,9,10,11,12,13,14,15,16,17,18,19,20,21,22,23,24] (fun n vals st=>(∃ y6,p_law12_Items_l1  a0 n [] y6=some o2∧vals=[.sl (List.map DeframeItem.v []) true,.i y6]∧st=[])∨(∃ y11 y12,p_law12_Items_l1  a0 n y11 y12=some o2∧vals=[.osl 0 0 (List.length y11) 9 false,.i y12]∧st=[.live (cellsM DeframeItem.v y11) (cellsM DeframeItem.v y11).length])) fuel 0 [] (.inl (⟨_,HL3,rfl,rfl⟩)) (Nat.zero_le _) rfl (by kernel_rfl) (by kernel_rfl) rfl trivial ?_
 rintro (_ | n5) _ _ (⟨y6,H,rfl,rfl⟩ | ⟨y11,y12,H,rfl,rfl⟩)
 ·rw [p_law12_Items_l1] at H;cases H
 ·rw [p_law12_Items_l1] at H;cases H
 ·rw [p_law12_Items_l1] at H
  conv=>whnf
  refine LenQ.M ?_;conv=>whnf
  refine tst_d H (fun b7 H=>?_) (fun b7 H=>?_)
  ·conv=>whnf
   obtain rfl:=Option.some.inj H
   have H:=HQ4
   try dsimp only at H
   refine finR_c (enc:=(fun l:List DeframeItem=>V.sl (l.map DeframeItem.v) false)) H ?_;conv=>whnf
   exact ⟨_,.v (.c (.slw))⟩
  conv=>whnf
  refine ixs_c (f:=DeframeItem.v) H (fun _=>rfl) (fun x8 H=>?_);conv=>whnf
  refine lq_ ?_;conv=>whnf
  refine ixs_c (f:=DeframeItem.v) H (fun _=>rfl) (fun x9 H=>?_);conv=>whnf
  refine lq_ ?_;conv=>whnf
  refine appN_c (f:=DeframeItem.v) H (fun _=>rfl) (srcM (f:=DeframeItem.v) (fun _=>rfl) [] true) rfl (.v (srcOwn (f:=DeframeItem.v) (l:=[(DeframeItem.mk x8.S x9.E)]) (fun _=>rfl) rfl rfl rfl)) (by decide) rfl (by simp) (fun l10 H=>?_);conv=>whnf
  refine FootQ.mk ⟨rfl,?_⟩;conv=>whnf
  refine Ari.w ?_;conv=>whnf
  exact again_c [5,6,7,8,9,10,11,12,13,14,15,16,17,18,19,20,21,22,23,24] n5 1 [1] (.inr (⟨_,_,H,rfl,rfl⟩)) (Nat.lt_succ_self _) (Nat.zero_le _) rfl (by kernel_rfl) (by kernel_rfl) rfl (wkB_live0 rfl (cellsM_idlt (f:=DeframeItem.v) (fun _=>rfl) _) rfl trivial)
 rw [p_law12_Items_l1] at H
 conv=>whnf
 refine LenQ.M ?_;conv=>whnf
 refine tst_d H (fun b13 H=>?_) (fun b13 H=>?_)
 ·conv=>whnf
  obtain rfl:=Option.some.inj H
  have H:=HQ4
  try dsimp only at H
  refine finR_c (enc:=(fun l:List DeframeItem=>V.sl (l.map DeframeItem.v) false)) H ?_;conv=>whnf
  exact ⟨_,.v (.c (fzown (f:=DeframeItem.v) (l:=y11) rfl rfl (fun _=>rfl) (fun _=>rfl)))⟩
 conv=>whnf
 refine ixs_c (f:=DeframeItem.v) H (fun _=>rfl) (fun x14 H=>?_);conv=>whnf
 refine lq_ ?_;conv=>whnf
 refine ixs_c (f:=DeframeItem.v) H (fun _=>rfl) (fun x15 H=>?_);conv=>whnf
 refine lq_ ?_;conv=>whnf
 refine appO_c (f:=DeframeItem.v) H (fun _=>rfl) rfl (Nat.le_refl _) (.v (srcOwn (f:=DeframeItem.v) (l:=[(DeframeItem.mk x14.S x15.E)]) (fun _=>rfl) rfl rfl rfl)) (by decide) rfl (by simp) (fun l16 H=>?_);conv=>whnf
 refine FootQ.mk ⟨rfl,?_⟩;conv=>whnf
 refine Ari.w ?_;conv=>whnf
 exact again_c [5,6,7,8,9,10,11,12,13,14,15,16,17,18,19,20,21,22,23,24] n5 1 [2] (.inr (⟨_,_,H,rfl,rfl⟩)) (Nat.lt_succ_self _) (Nat.zero_le _) rfl (by kernel_rfl) (by kernel_rfl) rfl (wkB_live0 rfl (cellsM_idlt (f:=DeframeItem.v) (fun _=>rfl) _) rfl trivial)
def gc10:BCode:=(.seq (R_ 0 [O_ 4 (.mv (b_ false)) 0]) (.seq (.seq (R_ 0 [O_ 6 (.mv (t_ 0)) 0,O_ 7 (.lens (t_ 6)) 0,O_ 8 (.mv (t_ 1)) 0,O_ 9 (.lens (t_ 8)) 0,O_ 10 (.bin .neq (t_ 7) (t_ 9)) 0]) (.cond (t_ 10) (.seq (R_ 0 [O_ 4 (.mv (b_ false)) 0]) .ret) .skip)) (.seq (.seq (R_ 0 [O_ 5 (.mv (i_ 0)) 0]) (.block 0 (.loop (.seq (.seq (R_ 0 [O_ 11 (.mv (t_ 5)) 0,O_ 12 (.mv (t_ 0)) 0,O_ 13 (.lens (t_ 12)) 0,O_ 14 (.bin .lss (t_ 11) (t_ 13)) 0]) (.cond (t_ 14) .skip (.exit 0))) (.seq (.block 1 (.seq (.reg 0 [O_ 17 (.mv (t_ 0)) 0,O_ 18 (.mv (t_ 5)) 0,O_ 19 (.ixs 9 (t_ 17) (t_ 18)) 0,O_ 20 (.ld 9 true (t_ 19)) 0,O_ 21 (.mv (t_ 1)) 0,O_ 22 (.mv (t_ 5)) 0,O_ 23 (.ixs 9 (t_ 21) (t_ 22)) 0,O_ 24 (.ld 9 true (t_ 23)) 0,O_ 25 (.eqa true [1,2,2,2,1,1,1,1,1] (t_ 20) (t_ 24)) 0] (some [[],[],[1,0],[0,1,2],[],[],[5,4],[4,5,6],[6,5,4,7,2,1,0,3]]) 0 []) (.cond (t_ 25) (.seq (R_ 0 [O_ 4 (.mv (b_ false)) 0]) .ret) .skip))) (R_ 0 [O_ 15 (.mv (t_ 5)) 0,O_ 16 (.bin .add (t_ 15) (i_ 1)) 0,O_ 5 (.mv (t_ 16)) 0])))))) (.seq (R_ 0 [O_ 4 (.mv (b_ true)) 0]) .ret))))
theorem gc10_ok:compF Try.prog Try.f10=some (gc10.er,26,[.tmp 4]):=by unfold gc10;kernel_rfl
theorem p_ref12_SameItems_v {u1 u2:Bool} (a0:List DeframeItem) (a1:List DeframeItem):CallsO Try.prog 10 [.sl (List.map DeframeItem.v a0) u1,.sl (List.map DeframeItem.v a1) u2] V.b (p_ref12_SameItems a0 a1):=by
 refine callsO_comp mix Try.func10 gc10_ok fun r H=>?_
 rw [p_ref12_SameItems] at H
 conv=>whnf
 iterate 2 (refine LenQ.M ?_;conv=>whnf)
 refine tst_c H (fun b1 H=>?_) (fun b1 H=>?_)
 ·conv=>whnf
  exact fb_ H
 conv=>whnf
 obtain ⟨o3,HL4,HQ5⟩:=bind_c H
 refine loop_c [4,5] [11,12,13,14,15,16,17,18,19,20,21,22,23,24,25] [11,12,13,14,15,16,17,18,19,20,21,22,23,24,25] (fun n vals st=>(∃ y7,p_ref12_SameItems_l1  a0 a1 n y7=some o3∧vals=[.b false,.i y7]∧st=[])) fuel 0 [] (⟨_,HL4,rfl,rfl⟩) (Nat.zero_le _) rfl (by kernel_rfl) (by kernel_rfl) rfl trivial ?_
 rintro (_ | n6) _ _ (⟨y7,H,rfl,rfl⟩)
 ·rw [p_ref12_SameItems_l1] at H;cases H
 rw [p_ref12_SameItems_l1] at H
 conv=>whnf
 refine LenQ.M ?_;conv=>whnf
 refine tst_d H (fun b8 H=>?_) (fun b8 H=>?_)
 ·conv=>whnf
  obtain rfl:=Option.some.inj H
  have H:=HQ5
  try dsimp only at H
  exact fb_ H
 conv=>whnf
 refine ixs_c (f:=DeframeItem.v) H (fun _=>rfl) (fun x9 H=>?_);conv=>whnf
 refine ixs_c (f:=DeframeItem.v) H (fun _=>rfl) (fun x10 H=>?_);conv=>whnf
 refine FootQ.mk ⟨rfl,?_⟩;conv=>whnf
 refine Tst.not ?_
 refine tst_d H (fun b11 H=>?_) (fun b11 H=>?_)
 ·conv=>whnf
  obtain rfl:=Option.some.inj H
  have H:=HQ5
  try dsimp only at H
  exact fb_ H
 conv=>whnf
 refine Ari.w ?_;conv=>whnf
 exact again_c [11,12,13,14,15,16,17,18,19,20,21,22,23,24,25] n6 0 [] (⟨_,H,rfl,rfl⟩) (Nat.lt_succ_self _) (Nat.zero_le _) rfl (by kernel_rfl) (by kernel_rfl) rfl trivial
end Go.Proofs.Ytmmmcpeickfolaa

namespace Go.Proofs.Ytmmmcpeickfolaa
open Go.ChangeShapes Go.WideShapes Go.ChangeAt Go.RowKit Go.Joins Go.Deep
structure StanzaStanza.Wf (x:StanzaStanza):Prop where
 Kind:(Lit.int .u8 x.Kind).wf=true
 Show:(Lit.int .i64 x.Show).wf=true
 Prio:(Lit.int .i64 x.Prio).wf=true
 Code:(Lit.int .i64 x.Code).wf=true
 N:(Lit.int .i64 x.N).wf=true
end Go.Proofs.Ytmmmcpeickfolaa

namespace Go.Proofs.Ytmmmcpeickfolaa
open Go.RowKit Go.Deep
theorem deframePieces_all (b:ByteArray) (c:Int) (h:(Lit.int .u8 c).wf=true):p_law12_DeframePieces b c=some true:=deframePieces_pure p_law12_awake_true b c (bounds_u8 h)
end Go.Proofs.Ytmmmcpeickfolaa

namespace Go.Proofs.Ytmmmcpeickfolaa
open Go.RowKit
set_option maxRecDepth 1000000
set_option maxHeartbeats 4000000
def gc3:BCode:=(.seq (R_ 0 [O_ 4 (.mv (b_ false)) 0]) (.seq (.seq (R_ 0 [O_ 17 (.mv (t_ 0)) 0,O_ 18 (.lent (t_ 17)) 0,O_ 19 (.bin .gtr (t_ 18) (i_ 300)) 0]) (.cond (t_ 19) (.seq (R_ 0 [O_ 20 (.cl 7 []) 0,O_ 4 (.mv (t_ 20)) 0]) .ret) .skip)) (.seq (R_ 0 [O_ 21 (.mv (t_ 1)) 0,O_ 22 (.cvi .i64 (t_ 21)) 0,O_ 23 (.mv (t_ 0)) 0,O_ 24 (.lent (t_ 23)) 0,O_ 25 (.bin .add (t_ 24) (i_ 1)) 0,O_ 26 (.bin .rem (t_ 22) (t_ 25)) 0,O_ 5 (.mv (t_ 26)) 0]) (.seq (R_ 1 [O_ 28 (.bd [(.lit (.string ⟨#[]⟩)),(.lit (.int .i64 0)),(.lit (.int .i64 0))] []) 0,O_ 29 (.mv (t_ 0)) 0,O_ 30 (.cl 8 [(t_ 28),(t_ 29)]) 0,O_ 27 (.mv (t_ 30)) 0,O_ 31 (.ex (t_ 27) 0) 0,O_ 32 (.ex (t_ 27) 1) 0,O_ 6 (.al (.agg [(.lit (.string ⟨#[]⟩)),(.lit (.int .i64 0)),(.lit (.int .i64 0))])) 0,U_ (.st 3 (t_ 6) (t_ 31)) 1,O_ 7 (.mv (t_ 32)) 1]) (.seq (R_ 1 [O_ 34 (.bd [(.lit (.string ⟨#[]⟩)),(.lit (.int .i64 0)),(.lit (.int .i64 0))] []) 0,O_ 35 (.mv (t_ 0)) 0,O_ 36 (.mv (t_ 5)) 0,O_ 37 (.slt (t_ 35) none (some (t_ 36))) 0,O_ 38 (.cl 8 [(t_ 34),(t_ 37)]) 0,O_ 33 (.mv (t_ 38)) 0,O_ 39 (.ex (t_ 33) 0) 0,O_ 40 (.ex (t_ 33) 1) 0,O_ 8 (.al (.agg [(.lit (.string ⟨#[]⟩)),(.lit (.int .i64 0)),(.lit (.int .i64 0))])) 0,U_ (.st 3 (t_ 8) (t_ 39)) 1,O_ 9 (.mv (t_ 40)) 1]) (.seq (.reg 0 [O_ 42 (.ld 3 true (t_ 8)) 0,O_ 43 (.mv (t_ 0)) 0,O_ 44 (.mv (t_ 5)) 0,O_ 45 (.slt (t_ 43) (some (t_ 44)) none) 0,O_ 46 (.cl 8 [(t_ 42),(t_ 45)]) 0,O_ 41 (.mv (t_ 46)) 0,O_ 47 (.ex (t_ 41) 0) 0,O_ 48 (.ex (t_ 41) 1) 0,U_ (.st 3 (t_ 8) (t_ 47)) 0,O_ 10 (.mv (t_ 48)) 0] (some [[],[],[],[2,1],[1,2,3,0],[0,3,2,1,4],[4,1,2,3,0,5],[4,1,2,3,0,5],[5,0,3,2,1,4,6],[6,8,5,0,3,2,1,4,7]]) 0 []) (.seq (R_ 1 [O_ 11 (.al (.agg [(.lit (.string ⟨#[]⟩)),(.lit (.int .i64 0)),(.lit (.int .i64 0))])) 0]) (.seq (R_ 0 [O_ 12 (.mv (.const (.slice none 0 0))) 0]) (.seq (.seq (R_ 0 [O_ 13 (.mv (i_ 0)) 0]) (.block 0 (.loop (.seq (.seq (R_ 0 [O_ 49 (.mv (t_ 13)) 0,O_ 50 (.mv (t_ 0)) 0,O_ 51 (.lent (t_ 50)) 0,O_ 52 (.bin .lss (t_ 49) (t_ 51)) 0]) (.cond (t_ 52) .skip (.exit 0))) (.seq (.block 1 (.seq (.reg 1 [O_ 56 (.ld 3 true (t_ 11)) 0,O_ 57 (.mv (t_ 0)) 0,O_ 58 (.mv (t_ 13)) 0,O_ 59 (.mv (t_ 13)) 0,O_ 60 (.bin .add (t_ 59) (i_ 1)) 0,O_ 61 (.slt (t_ 57) (some (t_ 58)) (some (t_ 60))) 0,O_ 62 (.cl 8 [(t_ 56),(t_ 61)]) 0,O_ 55 (.mv (t_ 62)) 0,O_ 63 (.ex (t_ 55) 0) 0,O_ 64 (.ex (t_ 55) 1) 0,O_ 14 (.al (.agg [(.lit (.string ⟨#[]⟩)),(.lit (.int .i64 0)),(.lit (.int .i64 0))])) 0,U_ (.st 3 (t_ 14) (t_ 63)) 1,O_ 15 (.mv (t_ 64)) 1] (some [[],[],[],[],[3],[3,4,2,1],[1,2,4,3,5,0],[0,5,3,4,2,1,6],[6,1,2,4,3,5,0,7],[6,1,2,4,3,5,0,7],[],[7,0,5,3,4,2,1,6,8,10],[10,8,11,7,0,5,3,4,2,1,6,9]]) 0 []) (.seq (.seq (R_ 0 [O_ 65 (.mv (t_ 15)) 0,O_ 66 (.lens (t_ 65)) 0,O_ 67 (.bin .gtr (t_ 66) (i_ 1)) 0,O_ 68 (.mv (t_ 67)) 0,⟨(some 69),.ld 3 true (t_ 14),(some (68,false)),0⟩,⟨(some 70),.cl 9 [(t_ 69)],(some (68,false)),0⟩,⟨(some 71),.bin .neq (t_ 70) (i_ 0),(some (68,false)),0⟩,O_ 72 (.pick (t_ 68) (b_ true) (t_ 71)) 0]) (.cond (t_ 72) (.seq (R_ 0 [O_ 4 (.mv (b_ false)) 0]) .ret) .skip)) (.reg 1 [O_ 73 (.ld 3 true (t_ 14)) 0,O_ 74 (.mv (t_ 12)) 0,O_ 75 (.mv (t_ 15)) 0,O_ 76 (.ap 9 96 (t_ 74) (t_ 75)) 0,U_ (.st 3 (t_ 11) (t_ 73)) 1,O_ 12 (.mv (t_ 76)) 1] (some [[],[],[],[2,1],[1,2,3,0],[0,4,1,2,3]]) 0 [])))) (R_ 0 [O_ 53 (.mv (t_ 13)) 0,O_ 54 (.bin .add (t_ 53) (i_ 1)) 0,O_ 13 (.mv (t_ 54)) 0])))))) (.seq (R_ 2 [O_ 77 (.mv (.const (.slice none 0 0))) 0,O_ 78 (.mv (t_ 9)) 0,O_ 79 (.ap 9 96 (t_ 77) (t_ 78)) 0,O_ 80 (.mv (t_ 10)) 1,O_ 81 (.ap 9 96 (t_ 79) (t_ 80)) 1,O_ 16 (.mv (t_ 81)) 2]) (.seq (R_ 0 [O_ 82 (.ld 3 true (t_ 6)) 0,O_ 83 (.ld 3 true (t_ 8)) 0,O_ 84 (.eqa false [2,1,1] (t_ 82) (t_ 83)) 0,O_ 85 (.mv (t_ 84)) 0,⟨(some 86),.ld 3 true (t_ 6),(some (85,true)),0⟩,⟨(some 87),.ld 3 true (t_ 11),(some (85,true)),0⟩,⟨(some 88),.eqa false [2,1,1] (t_ 86) (t_ 87),(some (85,true)),0⟩,O_ 89 (.pick (t_ 85) (t_ 88) (b_ false)) 0,O_ 90 (.mv (t_ 89)) 0,⟨(some 91),.mv (t_ 7),(some (90,true)),0⟩,⟨(some 92),.cl 11 [(t_ 91)],(some (90,true)),0⟩,⟨(some 93),.mv (t_ 16),(some (90,true)),0⟩,⟨(some 94),.cl 11 [(t_ 93)],(some (90,true)),0⟩,⟨(some 95),.cl 10 [(t_ 92),(t_ 94)],(some (90,true)),0⟩,O_ 96 (.pick (t_ 90) (t_ 95) (b_ false)) 0,O_ 97 (.mv (t_ 96)) 0,⟨(some 98),.mv (t_ 7),(some (97,true)),0⟩,⟨(some 99),.cl 11 [(t_ 98)],(some (97,true)),0⟩,⟨(some 100),.mv (t_ 12),(some (97,true)),0⟩,⟨(some 101),.cl 11 [(t_ 100)],(some (97,true)),0⟩,⟨(some 102),.cl 10 [(t_ 99),(t_ 101)],(some (97,true)),0⟩,O_ 103 (.pick (t_ 97) (t_ 102) (b_ false)) 0,O_ 104 (.mv (t_ 103)) 0,⟨(some 105),.fa 2 (t_ 6),(some (104,true)),0⟩,⟨(some 106),.ld 1 false (t_ 105),(some (104,true)),0⟩,⟨(some 107),.mv (t_ 7),(some (104,true)),0⟩,⟨(some 108),.lens (t_ 107),(some (104,true)),0⟩,⟨(some 109),.bin .eql (t_ 106) (t_ 108),(some (104,true)),0⟩,O_ 110 (.pick (t_ 104) (t_ 109) (b_ false)) 0,O_ 111 (.mv (t_ 110)) 0,⟨(some 112),.cl 7 [],(some (111,true)),0⟩,O_ 113 (.pick (t_ 111) (t_ 112) (b_ false)) 0,O_ 4 (.mv (t_ 113)) 0]) .ret)))))))))))
theorem gc3_ok:compF Try.prog Try.f3=some (gc3.er,114,[.tmp 4]):=by unfold gc3;kernel_rfl
theorem p_law12_DeframePieces_v (a0:ByteArray) (a1:Int):CallsO Try.prog 3 [.s a0,.y8 a1] V.b (tru? (p_law12_DeframePieces a0 a1)):=by
 refine callsO_comp mix Try.func3 gc3_ok fun r H=>?_
 have H1:=tru_of H
 clear H
 obtain ⟨rfl,H⟩:=H1
 rw [p_law12_DeframePieces] at H
 conv=>whnf
 refine tst_c H (fun b1 H=>?_) (fun b1 H=>?_)
 ·conv=>whnf
  refine ask_c (p_law12_awake_v) H rfl rfl (fun v2 H=>?_);conv=>whnf
  exact fb_ H
 conv=>whnf
 iterate 2 (refine Ari.w ?_;conv=>whnf)
 refine ne0_c H (fun H=>?_);conv=>whnf
 refine ask_c (p_deframe_Feed_v _ _) H rfl rfl (fun v4 H=>?_);conv=>whnf
 refine lq_ ?_;conv=>whnf
 refine slt_c H (fun s5 H=>?_);conv=>whnf
 refine ask_c (p_deframe_Feed_v _ _) H rfl rfl (fun v6 H=>?_);conv=>whnf
 refine lq_ ?_;conv=>whnf
 refine slt_c H (fun s7 H=>?_);conv=>whnf
 refine ask_c (p_deframe_Feed_v _ _) H rfl rfl (fun v8 H=>?_);conv=>whnf
 refine lq_ ?_;conv=>whnf
 refine FootQ.mk ⟨rfl,?_⟩;conv=>whnf
 obtain ⟨o10,HL11,HQ12⟩:=bind_c H
 refine loop_c [4,12,13] [14,15,49,50,51,52,53,54,55,56,57,58,59,60,61,62,63,64,65,66,67,68,69,70,71,72,73,74,75,76] [14,15,49,50,51,52,53,54,55,56,57,58,59,60,61,62,63,64,65,66,67,68,69,70,71,72,73,74,75,76] (fun n vals st=>(∃ y14 y15,p_law12_DeframePieces_l1  a0 n [] y14 y15=some o10∧vals=[.b false,.sl (List.map DeframeItem.v []) true,.i y14]∧st=[.live [.s v4.1.Buf,.i v4.1.Bad,.i v4.1.Seen] 0,.live [.s v8.1.Buf,.i v8.1.Bad,.i v8.1.Seen] 0,.live [.s y15.Buf,.i y15.Bad,.i y15.Seen] 0])∨(∃ y23 y24 y25,p_law12_DeframePieces_l1  a0 n y23 y24 y25=some o10∧vals=[.b false,.osl 3 0 (List.length y23) 9 false,.i y24]∧st=[.live [.s v4.1.Buf,.i v4.1.Bad,.i v4.1.Seen] 0,.live [.s v8.1.Buf,.i v8.1.Bad,.i v8.1.Seen] 0,.live [.s y25.Buf,.i y25.Bad,.i y25.Seen] 0,.live (cellsM DeframeItem.v y23) (cellsM DeframeItem.v y23).length])) fuel 3 [] (.inl (⟨_,_,HL11,rfl,rfl⟩)) (Nat.zero_le _) rfl (by kernel_rfl) (by kernel_rfl) rfl ⟨⟨rfl,rfl,rfl⟩,⟨⟨rfl,rfl,rfl⟩,⟨⟨rfl,rfl,rfl⟩,trivial⟩⟩⟩ ?_
 rintro (_ | n13) _ _ (⟨y14,y15,H,rfl,rfl⟩ | ⟨y23,y24,y25,H,rfl,rfl⟩)
 ·rw [p_law12_DeframePieces_l1] at H;cases H
 ·rw [p_law12_DeframePieces_l1] at H;cases H
 ·rw [p_law12_DeframePieces_l1] at H
  conv=>whnf
  refine tst_c H (fun b16 H=>?_) (fun b16 H=>?_)
  ·conv=>whnf
   refine Ari.w ?_;conv=>whnf
   refine slt_c H (fun s17 H=>?_);conv=>whnf
   refine ask_c (p_deframe_Feed_v _ _) H rfl rfl (fun v18 H=>?_);conv=>whnf
   refine lq_ ?_;conv=>whnf
   refine FootQ.mk ⟨rfl,?_⟩;conv=>whnf
   refine LenQ.M ?_;conv=>whnf
   refine tst_c H (fun b19 H=>?_) (fun b19 H=>?_)
   ·conv=>whnf
    iterate 4 (refine Tst.T ?_;conv=>whnf)
    obtain rfl:=Option.some.inj H
    have H:=HQ12
    try dsimp only at H
    exact fb_ H
   conv=>whnf
   refine Tst.F ?_;conv=>whnf
   refine ask_c (p_deframe_Check_v _) H rfl rfl (fun v20 H=>?_);conv=>whnf
   iterate 2 (refine Tst.F ?_;conv=>whnf)
   refine tst_c H (fun b21 H=>?_) (fun b21 H=>?_)
   ·conv=>whnf
    obtain rfl:=Option.some.inj H
    have H:=HQ12
    try dsimp only at H
    exact fb_ H
   conv=>whnf
   refine appE_c (f:=DeframeItem.v) H (fun _=>rfl) rfl (.v (srcM (f:=DeframeItem.v) (fun _=>rfl) _ _)) (by decide) rfl (fun H=>?_) (fun l22 H=>?_)
   ·conv=>whnf
    refine lq_ ?_;conv=>whnf
    refine FootQ.mk ⟨rfl,?_⟩;conv=>whnf
    refine Ari.w ?_;conv=>whnf
    exact again_c [14,15,49,50,51,52,53,54,55,56,57,58,59,60,61,62,63,64,65,66,67,68,69,70,71,72,73,74,75,76] n13 3 [] (.inl (⟨_,_,H,rfl,rfl⟩)) (Nat.lt_succ_self _) (Nat.zero_le _) rfl (by kernel_rfl) (by kernel_rfl) rfl ⟨⟨rfl,rfl,rfl⟩,⟨⟨rfl,rfl,rfl⟩,⟨⟨rfl,rfl,rfl⟩,trivial⟩⟩⟩
   conv=>whnf
   refine lq_ ?_;conv=>whnf
   refine FootQ.mk ⟨rfl,?_⟩;conv=>whnf
   refine Ari.w ?_;conv=>whnf
   exact again_c [14,15,49,50,51,52,53,54,55,56,57,58,59,60,61,62,63,64,65,66,67,68,69,70,71,72,73,74,75,76] n13 4 [0,1,2,4] (.inr (⟨_,_,_,H,rfl,rfl⟩)) (Nat.lt_succ_self _) (Nat.zero_le _) rfl (by kernel_rfl) (by kernel_rfl) rfl ⟨⟨rfl,rfl,rfl⟩,⟨⟨rfl,rfl,rfl⟩,⟨⟨rfl,rfl,rfl⟩,wkB_live0 rfl (cellsM_idlt (f:=DeframeItem.v) (fun _=>rfl) _) rfl trivial⟩⟩⟩
  conv=>whnf
  obtain rfl:=Option.some.inj H
  have H:=HQ12
  try dsimp only at H
  refine appE_c (f:=DeframeItem.v) H (fun _=>rfl) rfl (.v (srcM (f:=DeframeItem.v) (fun _=>rfl) _ _)) (by decide) rfl (fun H=>?_) (fun l26 H=>?_)
  ·conv=>whnf
   refine appE_c (f:=DeframeItem.v) H (fun _=>rfl) rfl (.v (srcM (f:=DeframeItem.v) (fun _=>rfl) _ _)) (by decide) rfl (fun H=>?_) (fun l52 H=>?_)
   ·conv=>whnf
    refine tstT_c H (fun b65 H=>?_);conv=>whnf
    iterate 3 (refine Tst.T ?_;conv=>whnf)
    refine tstT_c H (fun b66 H=>?_);conv=>whnf
    refine Tst.T ?_;conv=>whnf
    refine ask_c (p_law12_Items_v _) H rfl rfl (fun v67 H=>?_);conv=>whnf
    iterate 2 (refine Tst.T ?_;conv=>whnf)
    refine ask_c (p_law12_Items_v _) H rfl rfl (fun v68 H=>?_);conv=>whnf
    refine Tst.T ?_;conv=>whnf
    refine ask_c (p_ref12_SameItems_v _ _) H rfl rfl (fun v69 H=>?_);conv=>whnf
    refine Tst.T ?_;conv=>whnf
    refine tstT_c H (fun b70 H=>?_);conv=>whnf
    refine Tst.T ?_;conv=>whnf
    refine ask_c (p_law12_Items_v _) H rfl rfl (fun v71 H=>?_);conv=>whnf
    iterate 2 (refine Tst.T ?_;conv=>whnf)
    refine ask_c (p_law12_Items_v _) H rfl rfl (fun v72 H=>?_);conv=>whnf
    refine Tst.T ?_;conv=>whnf
    refine ask_c (p_ref12_SameItems_v _ _) H rfl rfl (fun v73 H=>?_);conv=>whnf
    refine Tst.T ?_;conv=>whnf
    refine tstT_c H (fun b74 H=>?_);conv=>whnf
    iterate 3 (refine Tst.T ?_;conv=>whnf)
    refine LenQ.M ?_;conv=>whnf
    iterate 2 (refine Tst.T ?_;conv=>whnf)
    refine tstT_c H (fun b75 H=>?_);conv=>whnf
    refine ask_c (p_law12_awake_v) H rfl rfl (fun v76 H=>?_);conv=>whnf
    refine Tst.T ?_;conv=>whnf
    exact fb_ H
   conv=>whnf
   refine tstT_c H (fun b53 H=>?_);conv=>whnf
   iterate 3 (refine Tst.T ?_;conv=>whnf)
   refine tstT_c H (fun b54 H=>?_);conv=>whnf
   refine Tst.T ?_;conv=>whnf
   refine ask_c (p_law12_Items_v _) H rfl rfl (fun v55 H=>?_);conv=>whnf
   iterate 2 (refine Tst.T ?_;conv=>whnf)
   refine askF_c (p_law12_Items_v _) H (.cons (.c (fzown (f:=DeframeItem.v) (l:=l52) rfl rfl (fun _=>rfl) (fun _=>rfl))) (.nil)) (fun v56 H=>?_);conv=>whnf
   refine Tst.T ?_;conv=>whnf
   refine ask_c (p_ref12_SameItems_v _ _) H rfl rfl (fun v57 H=>?_);conv=>whnf
   refine Tst.T ?_;conv=>whnf
   refine tstT_c H (fun b58 H=>?_);conv=>whnf
   refine Tst.T ?_;conv=>whnf
   refine ask_c (p_law12_Items_v _) H rfl rfl (fun v59 H=>?_);conv=>whnf
   iterate 2 (refine Tst.T ?_;conv=>whnf)
   refine ask_c (p_law12_Items_v _) H rfl rfl (fun v60 H=>?_);conv=>whnf
   refine Tst.T ?_;conv=>whnf
   refine ask_c (p_ref12_SameItems_v _ _) H rfl rfl (fun v61 H=>?_);conv=>whnf
   refine Tst.T ?_;conv=>whnf
   refine tstT_c H (fun b62 H=>?_);conv=>whnf
   iterate 3 (refine Tst.T ?_;conv=>whnf)
   refine LenQ.M ?_;conv=>whnf
   iterate 2 (refine Tst.T ?_;conv=>whnf)
   refine tstT_c H (fun b63 H=>?_);conv=>whnf
   refine ask_c (p_law12_awake_v) H rfl rfl (fun v64 H=>?_);conv=>whnf
   refine Tst.T ?_;conv=>whnf
   exact fb_ H
  conv=>whnf
  refine appP_c (f:=DeframeItem.v) H (fun _=>rfl) rfl rfl (.v (srcM (f:=DeframeItem.v) (fun _=>rfl) _ _)) (by decide) rfl (fun l27 H=>?_) (fun l27 H=>?_)
  ·conv=>whnf
   refine tstT_c H (fun b40 H=>?_);conv=>whnf
   iterate 3 (refine Tst.T ?_;conv=>whnf)
   refine tstT_c H (fun b41 H=>?_);conv=>whnf
   refine Tst.T ?_;conv=>whnf
   refine ask_c (p_law12_Items_v _) H rfl rfl (fun v42 H=>?_);conv=>whnf
   iterate 2 (refine Tst.T ?_;conv=>whnf)
   refine askF_c (p_law12_Items_v _) H (.cons (.c (fzown (f:=DeframeItem.v) (l:=l27) rfl rfl (fun _=>rfl) (fun _=>rfl))) (.nil)) (fun v43 H=>?_);conv=>whnf
   refine Tst.T ?_;conv=>whnf
   refine ask_c (p_ref12_SameItems_v _ _) H rfl rfl (fun v44 H=>?_);conv=>whnf
   refine Tst.T ?_;conv=>whnf
   refine tstT_c H (fun b45 H=>?_);conv=>whnf
   refine Tst.T ?_;conv=>whnf
   refine ask_c (p_law12_Items_v _) H rfl rfl (fun v46 H=>?_);conv=>whnf
   iterate 2 (refine Tst.T ?_;conv=>whnf)
   refine ask_c (p_law12_Items_v _) H rfl rfl (fun v47 H=>?_);conv=>whnf
   refine Tst.T ?_;conv=>whnf
   refine ask_c (p_ref12_SameItems_v _ _) H rfl rfl (fun v48 H=>?_);conv=>whnf
   refine Tst.T ?_;conv=>whnf
   refine tstT_c H (fun b49 H=>?_);conv=>whnf
   iterate 3 (refine Tst.T ?_;conv=>whnf)
   refine LenQ.M ?_;conv=>whnf
   iterate 2 (refine Tst.T ?_;conv=>whnf)
   refine tstT_c H (fun b50 H=>?_);conv=>whnf
   refine ask_c (p_law12_awake_v) H rfl rfl (fun v51 H=>?_);conv=>whnf
   refine Tst.T ?_;conv=>whnf
   exact fb_ H
  conv=>whnf
  refine tstT_c H (fun b28 H=>?_);conv=>whnf
  iterate 3 (refine Tst.T ?_;conv=>whnf)
  refine tstT_c H (fun b29 H=>?_);conv=>whnf
  refine Tst.T ?_;conv=>whnf
  refine ask_c (p_law12_Items_v _) H rfl rfl (fun v30 H=>?_);conv=>whnf
  iterate 2 (refine Tst.T ?_;conv=>whnf)
  refine askF_c (p_law12_Items_v _) H (.cons (.c (fzown (f:=DeframeItem.v) (l:=l27) rfl rfl (fun _=>rfl) (fun _=>rfl))) (.nil)) (fun v31 H=>?_);conv=>whnf
  refine Tst.T ?_;conv=>whnf
  refine ask_c (p_ref12_SameItems_v _ _) H rfl rfl (fun v32 H=>?_);conv=>whnf
  refine Tst.T ?_;conv=>whnf
  refine tstT_c H (fun b33 H=>?_);conv=>whnf
  refine Tst.T ?_;conv=>whnf
  refine ask_c (p_law12_Items_v _) H rfl rfl (fun v34 H=>?_);conv=>whnf
  iterate 2 (refine Tst.T ?_;conv=>whnf)
  refine ask_c (p_law12_Items_v _) H rfl rfl (fun v35 H=>?_);conv=>whnf
  refine Tst.T ?_;conv=>whnf
  refine ask_c (p_ref12_SameItems_v _ _) H rfl rfl (fun v36 H=>?_);conv=>whnf
  refine Tst.T ?_;conv=>whnf
  refine tstT_c H (fun b37 H=>?_);conv=>whnf
  iterate 3 (refine Tst.T ?_;conv=>whnf)
  refine LenQ.M ?_;conv=>whnf
  iterate 2 (refine Tst.T ?_;conv=>whnf)
  refine tstT_c H (fun b38 H=>?_);conv=>whnf
  refine ask_c (p_law12_awake_v) H rfl rfl (fun v39 H=>?_);conv=>whnf
  refine Tst.T ?_;conv=>whnf
  exact fb_ H
 rw [p_law12_DeframePieces_l1] at H
 conv=>whnf
 refine tst_c H (fun b77 H=>?_) (fun b77 H=>?_)
 ·conv=>whnf
  refine Ari.w ?_;conv=>whnf
  refine slt_c H (fun s78 H=>?_);conv=>whnf
  refine ask_c (p_deframe_Feed_v _ _) H rfl rfl (fun v79 H=>?_);conv=>whnf
  refine lq_ ?_;conv=>whnf
  refine FootQ.mk ⟨rfl,?_⟩;conv=>whnf
  refine LenQ.M ?_;conv=>whnf
  refine tst_c H (fun b80 H=>?_) (fun b80 H=>?_)
  ·conv=>whnf
   iterate 4 (refine Tst.T ?_;conv=>whnf)
   obtain rfl:=Option.some.inj H
   have H:=HQ12
   try dsimp only at H
   exact fb_ H
  conv=>whnf
  refine Tst.F ?_;conv=>whnf
  refine ask_c (p_deframe_Check_v _) H rfl rfl (fun v81 H=>?_);conv=>whnf
  iterate 2 (refine Tst.F ?_;conv=>whnf)
  refine tst_c H (fun b82 H=>?_) (fun b82 H=>?_)
  ·conv=>whnf
   obtain rfl:=Option.some.inj H
   have H:=HQ12
   try dsimp only at H
   exact fb_ H
  conv=>whnf
  refine appP_c (f:=DeframeItem.v) H (fun _=>rfl) rfl rfl (.v (srcM (f:=DeframeItem.v) (fun _=>rfl) _ _)) (by decide) rfl (fun l83 H=>?_) (fun l83 H=>?_)
  ·conv=>whnf
   refine lq_ ?_;conv=>whnf
   refine FootQ.mk ⟨rfl,?_⟩;conv=>whnf
   refine Ari.w ?_;conv=>whnf
   exact again_c [14,15,49,50,51,52,53,54,55,56,57,58,59,60,61,62,63,64,65,66,67,68,69,70,71,72,73,74,75,76] n13 4 [] (.inr (⟨_,_,_,H,rfl,rfl⟩)) (Nat.lt_succ_self _) (Nat.zero_le _) rfl (by kernel_rfl) (by kernel_rfl) rfl ⟨⟨rfl,rfl,rfl⟩,⟨⟨rfl,rfl,rfl⟩,⟨⟨rfl,rfl,rfl⟩,wkB_live0 rfl (cellsM_idlt (f:=DeframeItem.v) (fun _=>rfl) _) rfl trivial⟩⟩⟩
  conv=>whnf
  refine lq_ ?_;conv=>whnf
  refine FootQ.mk ⟨rfl,?_⟩;conv=>whnf
  refine Ari.w ?_;conv=>whnf
  exact again_c [14,15,49,50,51,52,53,54,55,56,57,58,59,60,61,62,63,64,65,66,67,68,69,70,71,72,73,74,75,76] n13 4 [0,1,2,5] (.inr (⟨_,_,_,H,rfl,rfl⟩)) (Nat.lt_succ_self _) (Nat.zero_le _) rfl (by kernel_rfl) (by kernel_rfl) rfl ⟨⟨rfl,rfl,rfl⟩,⟨⟨rfl,rfl,rfl⟩,⟨⟨rfl,rfl,rfl⟩,wkB_live0 rfl (cellsM_idlt (f:=DeframeItem.v) (fun _=>rfl) _) rfl trivial⟩⟩⟩
 conv=>whnf
 obtain rfl:=Option.some.inj H
 have H:=HQ12
 try dsimp only at H
 refine appE_c (f:=DeframeItem.v) H (fun _=>rfl) rfl (.v (srcM (f:=DeframeItem.v) (fun _=>rfl) _ _)) (by decide) rfl (fun H=>?_) (fun l84 H=>?_)
 ·conv=>whnf
  refine appE_c (f:=DeframeItem.v) H (fun _=>rfl) rfl (.v (srcM (f:=DeframeItem.v) (fun _=>rfl) _ _)) (by decide) rfl (fun H=>?_) (fun l110 H=>?_)
  ·conv=>whnf
   refine tstT_c H (fun b123 H=>?_);conv=>whnf
   iterate 3 (refine Tst.T ?_;conv=>whnf)
   refine tstT_c H (fun b124 H=>?_);conv=>whnf
   refine Tst.T ?_;conv=>whnf
   refine ask_c (p_law12_Items_v _) H rfl rfl (fun v125 H=>?_);conv=>whnf
   iterate 2 (refine Tst.T ?_;conv=>whnf)
   refine ask_c (p_law12_Items_v _) H rfl rfl (fun v126 H=>?_);conv=>whnf
   refine Tst.T ?_;conv=>whnf
   refine ask_c (p_ref12_SameItems_v _ _) H rfl rfl (fun v127 H=>?_);conv=>whnf
   refine Tst.T ?_;conv=>whnf
   refine tstT_c H (fun b128 H=>?_);conv=>whnf
   refine Tst.T ?_;conv=>whnf
   refine ask_c (p_law12_Items_v _) H rfl rfl (fun v129 H=>?_);conv=>whnf
   iterate 2 (refine Tst.T ?_;conv=>whnf)
   refine askF_c (p_law12_Items_v _) H (.cons (.c (fzown (f:=DeframeItem.v) (l:=y23) rfl rfl (fun _=>rfl) (fun _=>rfl))) (.nil)) (fun v130 H=>?_);conv=>whnf
   refine Tst.T ?_;conv=>whnf
   refine ask_c (p_ref12_SameItems_v _ _) H rfl rfl (fun v131 H=>?_);conv=>whnf
   refine Tst.T ?_;conv=>whnf
   refine tstT_c H (fun b132 H=>?_);conv=>whnf
   iterate 3 (refine Tst.T ?_;conv=>whnf)
   refine LenQ.M ?_;conv=>whnf
   iterate 2 (refine Tst.T ?_;conv=>whnf)
   refine tstT_c H (fun b133 H=>?_);conv=>whnf
   refine ask_c (p_law12_awake_v) H rfl rfl (fun v134 H=>?_);conv=>whnf
   refine Tst.T ?_;conv=>whnf
   exact fb_ H
  conv=>whnf
  refine tstT_c H (fun b111 H=>?_);conv=>whnf
  iterate 3 (refine Tst.T ?_;conv=>whnf)
  refine tstT_c H (fun b112 H=>?_);conv=>whnf
  refine Tst.T ?_;conv=>whnf
  refine ask_c (p_law12_Items_v _) H rfl rfl (fun v113 H=>?_);conv=>whnf
  iterate 2 (refine Tst.T ?_;conv=>whnf)
  refine askF_c (p_law12_Items_v _) H (.cons (.c (fzown (f:=DeframeItem.v) (l:=l110) rfl rfl (fun _=>rfl) (fun _=>rfl))) (.nil)) (fun v114 H=>?_);conv=>whnf
  refine Tst.T ?_;conv=>whnf
  refine ask_c (p_ref12_SameItems_v _ _) H rfl rfl (fun v115 H=>?_);conv=>whnf
  refine Tst.T ?_;conv=>whnf
  refine tstT_c H (fun b116 H=>?_);conv=>whnf
  refine Tst.T ?_;conv=>whnf
  refine ask_c (p_law12_Items_v _) H rfl rfl (fun v117 H=>?_);conv=>whnf
  iterate 2 (refine Tst.T ?_;conv=>whnf)
  refine askF_c (p_law12_Items_v _) H (.cons (.c (fzown (f:=DeframeItem.v) (l:=y23) rfl rfl (fun _=>rfl) (fun _=>rfl))) (.nil)) (fun v118 H=>?_);conv=>whnf
  refine Tst.T ?_;conv=>whnf
  refine ask_c (p_ref12_SameItems_v _ _) H rfl rfl (fun v119 H=>?_);conv=>whnf
  refine Tst.T ?_;conv=>whnf
  refine tstT_c H (fun b120 H=>?_);conv=>whnf
  iterate 3 (refine Tst.T ?_;conv=>whnf)
  refine LenQ.M ?_;conv=>whnf
  iterate 2 (refine Tst.T ?_;conv=>whnf)
  refine tstT_c H (fun b121 H=>?_);conv=>whnf
  refine ask_c (p_law12_awake_v) H rfl rfl (fun v122 H=>?_);conv=>whnf
  refine Tst.T ?_;conv=>whnf
  exact fb_ H
 conv=>whnf
 refine appP_c (f:=DeframeItem.v) H (fun _=>rfl) rfl rfl (.v (srcM (f:=DeframeItem.v) (fun _=>rfl) _ _)) (by decide) rfl (fun l85 H=>?_) (fun l85 H=>?_)
 ·conv=>whnf
  refine tstT_c H (fun b98 H=>?_);conv=>whnf
  iterate 3 (refine Tst.T ?_;conv=>whnf)
  refine tstT_c H (fun b99 H=>?_);conv=>whnf
  refine Tst.T ?_;conv=>whnf
  refine ask_c (p_law12_Items_v _) H rfl rfl (fun v100 H=>?_);conv=>whnf
  iterate 2 (refine Tst.T ?_;conv=>whnf)
  refine askF_c (p_law12_Items_v _) H (.cons (.c (fzown (f:=DeframeItem.v) (l:=l85) rfl rfl (fun _=>rfl) (fun _=>rfl))) (.nil)) (fun v101 H=>?_);conv=>whnf
  refine Tst.T ?_;conv=>whnf
  refine ask_c (p_ref12_SameItems_v _ _) H rfl rfl (fun v102 H=>?_);conv=>whnf
  refine Tst.T ?_;conv=>whnf
  refine tstT_c H (fun b103 H=>?_);conv=>whnf
  refine Tst.T ?_;conv=>whnf
  refine ask_c (p_law12_Items_v _) H rfl rfl (fun v104 H=>?_);conv=>whnf
  iterate 2 (refine Tst.T ?_;conv=>whnf)
  refine askF_c (p_law12_Items_v _) H (.cons (.c (fzown (f:=DeframeItem.v) (l:=y23) rfl rfl (fun _=>rfl) (fun _=>rfl))) (.nil)) (fun v105 H=>?_);conv=>whnf
  refine Tst.T ?_;conv=>whnf
  refine ask_c (p_ref12_SameItems_v _ _) H rfl rfl (fun v106 H=>?_);conv=>whnf
  refine Tst.T ?_;conv=>whnf
  refine tstT_c H (fun b107 H=>?_);conv=>whnf
  iterate 3 (refine Tst.T ?_;conv=>whnf)
  refine LenQ.M ?_;conv=>whnf
  iterate 2 (refine Tst.T ?_;conv=>whnf)
  refine tstT_c H (fun b108 H=>?_);conv=>whnf
  refine ask_c (p_law12_awake_v) H rfl rfl (fun v109 H=>?_);conv=>whnf
  refine Tst.T ?_;conv=>whnf
  exact fb_ H
 conv=>whnf
 refine tstT_c H (fun b86 H=>?_);conv=>whnf
 iterate 3 (refine Tst.T ?_;conv=>whnf)
 refine tstT_c H (fun b87 H=>?_);conv=>whnf
 refine Tst.T ?_;conv=>whnf
 refine ask_c (p_law12_Items_v _) H rfl rfl (fun v88 H=>?_);conv=>whnf
 iterate 2 (refine Tst.T ?_;conv=>whnf)
 refine askF_c (p_law12_Items_v _) H (.cons (.c (fzown (f:=DeframeItem.v) (l:=l85) rfl rfl (fun _=>rfl) (fun _=>rfl))) (.nil)) (fun v89 H=>?_);conv=>whnf
 refine Tst.T ?_;conv=>whnf
 refine ask_c (p_ref12_SameItems_v _ _) H rfl rfl (fun v90 H=>?_);conv=>whnf
 refine Tst.T ?_;conv=>whnf
 refine tstT_c H (fun b91 H=>?_);conv=>whnf
 refine Tst.T ?_;conv=>whnf
 refine ask_c (p_law12_Items_v _) H rfl rfl (fun v92 H=>?_);conv=>whnf
 iterate 2 (refine Tst.T ?_;conv=>whnf)
 refine askF_c (p_law12_Items_v _) H (.cons (.c (fzown (f:=DeframeItem.v) (l:=y23) rfl rfl (fun _=>rfl) (fun _=>rfl))) (.nil)) (fun v93 H=>?_);conv=>whnf
 refine Tst.T ?_;conv=>whnf
 refine ask_c (p_ref12_SameItems_v _ _) H rfl rfl (fun v94 H=>?_);conv=>whnf
 refine Tst.T ?_;conv=>whnf
 refine tstT_c H (fun b95 H=>?_);conv=>whnf
 iterate 3 (refine Tst.T ?_;conv=>whnf)
 refine LenQ.M ?_;conv=>whnf
 iterate 2 (refine Tst.T ?_;conv=>whnf)
 refine tstT_c H (fun b96 H=>?_);conv=>whnf
 refine ask_c (p_law12_awake_v) H rfl rfl (fun v97 H=>?_);conv=>whnf
 refine Tst.T ?_;conv=>whnf
 exact fb_ H
end Go.Proofs.Ytmmmcpeickfolaa

namespace Go.Proofs.Ytmmmcpeickfolaa
open Go.ChangeShapes Go.WideShapes Go.ChangeAt Go.RowKit Go.Joins Go.Deep
theorem deframePieces_named:Try.pinned.checked.prog.funcNamed Rows.deframePiecesRow.func=some 3:=by kernel_rfl
theorem deframePieces_closed:joinedFacts Try.pinned.checked.prog 3 Try.f3 Rows.deframePiecesSpec Rows.deframePiecesRow=true:=by kernel_rfl
end Go.Proofs.Ytmmmcpeickfolaa

namespace Go.Proofs.Ytmmmcpeickfolaa
open Go.ChangeShapes Go.WideShapes Go.ChangeAt Go.RowKit Go.Joins Go.Deep
set_option maxRecDepth 100000 in
theorem deframePieces_lifted (os:Os) (started:os.Started) (H:Type) (enc:TypeId × Value→H) :
  ReturnsInHanded {} Try.checked os 3 .any (Rows.deframePiecesSpec.pre6 enc Try.prog Try.f3 Rows.deframePiecesRow.domain false) (Rows.deframePiecesSpec.post enc Try.prog Try.f3 false true false false):=by
 refine returnsInHanded_of_change_shaped (C:=Try.checked) own0 started (by kernel_rfl) Try.func3
  (ChangeSpec.witness6 (enc:=enc) (C:=Try.checked) false ⟨#[],#[.string ⟨#[]⟩,.int .u8 0],[]⟩ 8 (by kernel_rfl) (by kernel_rfl) (by kernel_rfl) (by kernel_rfl)) ?_
 intro W base args ds gs before hval0 hW hcnd _ hsh _
 have hval:∀ (j:Nat) t v,Try.f3.params[j]?=some t→args[j]?=some v→Value.okWide Try.prog W .any base t v:=hval0
 have hW':=hW
 obtain ⟨p,q,hA0,hV,rfl,hfz,hnd⟩:=hW
 have hA:DataW.TrodAll enc Try.prog W 0 (fun _=>true) true Try.f3.params.toList args.toList ds p:=hA0
 rw [Try.params3] at hA hval
 have hA2:=hA
 obtain ⟨v0,v1,d0,d1,p0,p1,rfl,rfl,hp,h0,h1⟩:=trodAll_two hA
 obtain ⟨rfl,rfl⟩:=trodVars_none hV
 obtain ⟨fu0,hf0⟩:=h0
 obtain ⟨q0,rfl⟩:=okWide_string Try.underlying9 (hval 0 _ v0 rfl rfl)
 obtain ⟨a0,r0⟩:=rd_string Try.underlying9 hf0
 have hx0:Rep (MW W) noBk _ _:=r0.2 0 (by simp [Value.cells]) (by simp)
 obtain ⟨fu1,hf1⟩:=h1
 obtain ⟨q1,rfl⟩:=okWide_int Try.underlying5 (hval 1 _ v1 rfl rfl)
 obtain ⟨a1,w1,r1⟩:=rd_int Try.underlying5 hf1
 have hx1:Rep (MW W) noBk _ _:=r1.2 0 (by simp [Value.cells]) (by simp)
 refine (rep_one (callsO_true (p_law12_DeframePieces_v a0 a1) (tru_ok (deframePieces_all a0 a1 w1))) (maxLen_cell W hsh) (repAr2 hx0 hx1)).mono ?_
 rintro e W' ⟨rfl,bel⟩
 refine ⟨_,rfl,_,_,_,[],p,[],hW',?_,?_,?_,?_,?_⟩
 ·exact trodAll_mk1 (shut_bool Try.underlying4 true)
 ·exact trodAll_below laid0 bel (by
   intro t ht
   simp at ht
   rcases ht with rfl | rfl <;> exact ⟨by kernel_rfl,of_decide_eq_true (by kernel_rfl)⟩) hA2
 ·rfl
 ·exact bel.frame _
 ·exact fun h=>by cases h
theorem deframePieces_holds:Rows.DeframePiecesSaid :=
 OpenClaim.holds_of_wide 3 Try.f3 rfl rfl rfl rfl rfl rfl rfl ⟨rfl,rfl,rfl,rfl,rfl⟩ rfl rfl rfl rfl rfl deframePieces_named Try.func3 deframePieces_closed
  (of_decide_eq_true (by kernel_rfl)) (by unfold Func.isWrapper;first | (rw [if_pos (by decide +kernel)];kernel_rfl) | (rw [if_neg (by decide +kernel)];exact ⟨rfl,rfl⟩))
  (fun os started H enc _=>deframePieces_lifted os started H enc)
#print axioms deframePieces_holds
end Go.Proofs.Ytmmmcpeickfolaa

