/- A part of the proof: 6 texts joined. -/
import Derived.Test.YtdbigmjlhkgeoaaGreatZeA17
import Derived.Test.YtdbigmjlhkgeoaaGreatZeA20
import Derived.Test.YtdbigmjlhkgeoaaGreatZeA21
import Derived.Test.YtdbigmjlhkgeoaaGreatZeA11
import Derived.KernelRfl
import Derived.Test.YtdbigmjlhkgeoaaGreatZeA12
import Derived.Test.YtdbigmjlhkgeoaaGreatZeA19
import Derived.Test.YtdbigmjlhkgeoaaGreatZeA15
set_option linter.all false
namespace Go.Proofs.YtdbigmjlhkgeoaaGreat
open Go.RowKit
set_option maxRecDepth 1000000
set_option maxHeartbeats 4000000
def gc8:BCode:=(.seq (R_ 0 [O_ 0 (.mv (b_ false)) 0]) (.seq (R_ 0 [O_ 24 (.cl 10 [(.const (.slice none 0 0)),(i_ 3),(i_ 9)]) 0,O_ 23 (.mv (t_ 24)) 0,O_ 25 (.ex (t_ 23) 0) 0,O_ 26 (.ex (t_ 23) 1) 0,O_ 1 (.mv (t_ 25)) 0,O_ 2 (.mv (t_ 26)) 0]) (.seq (R_ 0 [O_ 28 (.mv (t_ 1)) 0,O_ 29 (.cl 10 [(t_ 28),(i_ 1),(i_ 9)]) 0,O_ 27 (.mv (t_ 29)) 0,O_ 30 (.ex (t_ 27) 0) 0,O_ 31 (.ex (t_ 27) 1) 0,O_ 1 (.mv (t_ 30)) 0,O_ 3 (.mv (t_ 31)) 0]) (.seq (R_ 0 [O_ 33 (.mv (t_ 1)) 0,O_ 34 (.cl 14 [(t_ 33),(i_ 3),(.const (.string ⟨#[97,64,98]⟩)),(.const (.string ⟨#[120]⟩))]) 0,O_ 32 (.mv (t_ 34)) 0,O_ 35 (.ex (t_ 32) 0) 0,O_ 36 (.ex (t_ 32) 1) 0,O_ 4 (.mv (t_ 35)) 0,O_ 5 (.mv (t_ 36)) 0]) (.seq (R_ 0 [O_ 38 (.mv (t_ 4)) 0,O_ 39 (.cl 14 [(t_ 38),(i_ 1),(.const (.string ⟨#[97,64,98]⟩)),(.const (.string ⟨#[120]⟩))]) 0,O_ 37 (.mv (t_ 39)) 0,O_ 40 (.ex (t_ 37) 0) 0,O_ 41 (.ex (t_ 37) 1) 0,O_ 6 (.mv (t_ 40)) 0,O_ 7 (.mv (t_ 41)) 0]) (.seq (R_ 0 [O_ 43 (.mv (t_ 4)) 0,O_ 44 (.cl 18 [(t_ 43),(i_ 1),(i_ 50)]) 0,O_ 42 (.mv (t_ 44)) 0,O_ 45 (.ex (t_ 42) 0) 0,O_ 46 (.ex (t_ 42) 1) 0,O_ 8 (.mv (t_ 45)) 0,O_ 9 (.mv (t_ 46)) 0]) (.seq (R_ 0 [O_ 48 (.mv (t_ 8)) 0,O_ 49 (.cl 20 [(t_ 48),(i_ 1),(i_ 20)]) 0,O_ 47 (.mv (t_ 49)) 0,O_ 50 (.ex (t_ 47) 0) 0,O_ 51 (.ex (t_ 47) 1) 0,O_ 8 (.mv (t_ 50)) 0,O_ 10 (.mv (t_ 51)) 0]) (.seq (R_ 0 [O_ 53 (.mv (t_ 8)) 0,O_ 54 (.cl 20 [(t_ 53),(i_ 1),(i_ 31)]) 0,O_ 52 (.mv (t_ 54)) 0,O_ 55 (.ex (t_ 52) 0) 0,O_ 56 (.ex (t_ 52) 1) 0,O_ 11 (.mv (t_ 55)) 0,O_ 12 (.mv (t_ 56)) 0]) (.seq (R_ 0 [O_ 58 (.mv (t_ 8)) 0,O_ 59 (.cl 22 [(t_ 58),(i_ 1),(.const (.string ⟨#[0,1,2,0,0]⟩))]) 0,O_ 57 (.mv (t_ 59)) 0,O_ 60 (.ex (t_ 57) 0) 0,O_ 61 (.ex (t_ 57) 1) 0,O_ 62 (.ex (t_ 57) 2) 0,O_ 13 (.mv (t_ 60)) 0,O_ 14 (.mv (t_ 61)) 0,O_ 15 (.mv (t_ 62)) 0]) (.seq (R_ 1 [O_ 64 (.mv (t_ 13)) 0,O_ 65 (.cl 12 [(t_ 64),(i_ 3)]) 0,O_ 63 (.mv (t_ 65)) 0,O_ 66 (.ex (t_ 63) 0) 0,O_ 67 (.ex (t_ 63) 1) 0,O_ 68 (.ex (t_ 63) 2) 0,O_ 17 (.al (.agg [(.lit (.int .i64 0)),(.lit (.int .i64 0)),(.lit (.string ⟨#[]⟩)),(.lit (.string ⟨#[]⟩)),(.lit (.int .i64 0)),(.lit (.string ⟨#[]⟩)),(.lit (.int .i64 0)),(.lit (.int .i64 0))])) 0,O_ 16 (.mv (t_ 66)) 1,U_ (.st 8 (t_ 17) (t_ 67)) 1,O_ 18 (.mv (t_ 68)) 1]) (.seq (R_ 0 [O_ 70 (.mv (t_ 13)) 0,O_ 71 (.cl 28 [(t_ 70),(.const (.string ⟨#[97,64,98,32,120]⟩))]) 0,O_ 69 (.mv (t_ 71)) 0,O_ 72 (.ex (t_ 69) 0) 0,O_ 73 (.ex (t_ 69) 1) 0,O_ 19 (.mv (t_ 72)) 0,O_ 20 (.mv (t_ 73)) 0]) (.seq (R_ 1 [O_ 75 (.mv (t_ 8)) 0,O_ 76 (.cl 26 [(t_ 75),(i_ 1)]) 0,O_ 74 (.mv (t_ 76)) 0,O_ 77 (.ex (t_ 74) 0) 0,O_ 78 (.ex (t_ 74) 1) 0,O_ 21 (.al (.agg [(.lit (.int .i64 0)),(.lit (.int .i64 0)),(.lit (.string ⟨#[]⟩)),(.lit (.string ⟨#[]⟩)),(.lit (.int .i64 0)),(.lit (.string ⟨#[]⟩)),(.lit (.int .i64 0)),(.lit (.int .i64 0))])) 0,U_ (.st 8 (t_ 21) (t_ 77)) 1,O_ 22 (.mv (t_ 78)) 1]) (.seq (R_ 2 [O_ 79 (.mv (t_ 2)) 0,O_ 80 (.bin .eql (t_ 79) (i_ 0)) 0,O_ 81 (.mv (t_ 80)) 0,⟨(some 82),.mv (t_ 3),(some (81,true)),0⟩,⟨(some 83),.bin .eql (t_ 82) (i_ 0),(some (81,true)),0⟩,O_ 84 (.pick (t_ 81) (t_ 83) (b_ false)) 0,O_ 85 (.mv (t_ 84)) 0,⟨(some 86),.mv (t_ 5),(some (85,true)),0⟩,⟨(some 87),.bin .eql (t_ 86) (i_ 0),(some (85,true)),0⟩,O_ 88 (.pick (t_ 85) (t_ 87) (b_ false)) 0,O_ 89 (.mv (t_ 88)) 0,⟨(some 90),.mv (t_ 7),(some (89,true)),0⟩,⟨(some 91),.bin .eql (t_ 90) (i_ 13),(some (89,true)),0⟩,O_ 92 (.pick (t_ 89) (t_ 91) (b_ false)) 0,O_ 93 (.mv (t_ 92)) 0,⟨(some 94),.mv (t_ 9),(some (93,true)),0⟩,O_ 95 (.pick (t_ 93) (t_ 94) (b_ false)) 0,O_ 96 (.mv (t_ 95)) 0,⟨(some 97),.mv (t_ 10),(some (96,true)),0⟩,O_ 98 (.pick (t_ 96) (t_ 97) (b_ false)) 0,O_ 99 (.mv (t_ 98)) 0,⟨(some 100),.mv (t_ 12),(some (99,true)),0⟩,⟨(some 101),.un .not (t_ 100),(some (99,true)),0⟩,O_ 102 (.pick (t_ 99) (t_ 101) (b_ false)) 0,O_ 103 (.mv (t_ 102)) 0,⟨(some 104),.fa 4 (t_ 21),(some (103,true)),0⟩,⟨(some 105),.ld 1 false (t_ 104),(some (103,true)),0⟩,⟨(some 106),.bin .eql (t_ 105) (i_ 30),(some (103,true)),0⟩,O_ 107 (.pick (t_ 103) (t_ 106) (b_ false)) 0,O_ 108 (.mv (t_ 107)) 0,⟨(some 109),.mv (t_ 22),(some (108,true)),0⟩,O_ 110 (.pick (t_ 108) (t_ 109) (b_ false)) 0,O_ 111 (.mv (t_ 110)) 0,⟨(some 112),.mv (t_ 14),(some (111,true)),0⟩,⟨(some 113),.lens (t_ 112),(some (111,true)),0⟩,⟨(some 114),.bin .eql (t_ 113) (i_ 1),(some (111,true)),0⟩,O_ 115 (.pick (t_ 111) (t_ 114) (b_ false)) 0,O_ 116 (.mv (t_ 115)) 0,⟨(some 117),.mv (t_ 15),(some (116,true)),0⟩,⟨(some 118),.bin .eql (t_ 117) (i_ 4),(some (116,true)),0⟩,O_ 119 (.pick (t_ 116) (t_ 118) (b_ false)) 0,O_ 120 (.mv (t_ 119)) 0,⟨(some 121),.mv (t_ 16),(some (120,true)),0⟩,⟨(some 122),.lens (t_ 121),(some (120,true)),0⟩,⟨(some 123),.bin .eql (t_ 122) (i_ 1),(some (120,true)),0⟩,O_ 124 (.pick (t_ 120) (t_ 123) (b_ false)) 0,O_ 125 (.mv (t_ 124)) 0,⟨(some 126),.mv (t_ 18),(some (125,true)),0⟩,O_ 127 (.pick (t_ 125) (t_ 126) (b_ false)) 0,O_ 128 (.mv (t_ 127)) 0,⟨(some 129),.ld 8 true (t_ 17),(some (128,true)),0⟩,⟨(some 130),.cl 35 [(t_ 129)],(some (128,true)),0⟩,⟨(some 131),.bin .eql (t_ 130) (.const (.string ⟨#[97,64,98,32,120]⟩)),(some (128,true)),0⟩,O_ 132 (.pick (t_ 128) (t_ 131) (b_ false)) 0,O_ 133 (.mv (t_ 132)) 0,⟨(some 134),.mv (t_ 19),(some (133,true)),0⟩,⟨(some 135),.bin .eql (t_ 134) (i_ 3),(some (133,true)),0⟩,O_ 136 (.pick (t_ 133) (t_ 135) (b_ false)) 0,O_ 137 (.mv (t_ 136)) 0,⟨(some 138),.mv (t_ 20),(some (137,true)),0⟩,O_ 139 (.pick (t_ 137) (t_ 138) (b_ false)) 0,O_ 140 (.mv (t_ 139)) 0,⟨(some 141),.mv (t_ 13),(some (140,true)),0⟩,⟨(some 142),.cl 33 [(t_ 141),(.const (.string ⟨#[97,64,98]⟩))],(some (140,true)),0⟩,⟨(some 143),.bs 1 1 [(.lit (.int .i64 0))] [(0,(i_ 3))],(some (140,true)),0⟩,⟨(some 144),.cl 32 [(t_ 142),(t_ 143)],(some (140,true)),1⟩,O_ 145 (.pick (t_ 140) (t_ 144) (b_ false)) 1,O_ 146 (.mv (t_ 145)) 1,⟨(some 147),.mv (t_ 13),(some (146,true)),1⟩,⟨(some 148),.cl 30 [(t_ 147)],(some (146,true)),1⟩,⟨(some 149),.bin .eql (t_ 148) (i_ 0),(some (146,true)),1⟩,O_ 150 (.pick (t_ 146) (t_ 149) (b_ false)) 1,O_ 151 (.mv (t_ 150)) 1,⟨(some 152),.bd [(.lit (.int .i64 0)),(.lit (.int .i64 0)),(.lit (.string ⟨#[]⟩)),(.lit (.string ⟨#[]⟩)),(.lit (.int .i64 0)),(.lit (.string ⟨#[]⟩)),(.lit (.int .i64 0)),(.lit (.int .i64 0))] [(0,1,(.const (.int .i64 (-1))))],(some (151,true)),1⟩,⟨(some 153),.bs 8 1 [(.lit (.int .i64 0)),(.lit (.int .i64 0)),(.lit (.string ⟨#[]⟩)),(.lit (.string ⟨#[]⟩)),(.lit (.int .i64 0)),(.lit (.string ⟨#[]⟩)),(.lit (.int .i64 0)),(.lit (.int .i64 0))] [(0,(t_ 152))],(some (151,true)),1⟩,⟨(some 154),.cl 30 [(t_ 153)],(some (151,true)),2⟩,⟨(some 155),.bin .eql (t_ 154) (i_ 8),(some (151,true)),2⟩,O_ 156 (.pick (t_ 151) (t_ 155) (b_ false)) 2,O_ 157 (.mv (t_ 156)) 2,⟨(some 158),.mv (t_ 16),(some (157,true)),2⟩,⟨(some 159),.mv (t_ 13),(some (157,true)),2⟩,⟨(some 160),.cl 37 [(t_ 158),(t_ 159)],(some (157,true)),2⟩,⟨(some 161),.un .not (t_ 160),(some (157,true)),2⟩,O_ 162 (.pick (t_ 157) (t_ 161) (b_ false)) 2,O_ 163 (.mv (t_ 162)) 2,⟨(some 164),.mv (t_ 13),(some (163,true)),2⟩,⟨(some 165),.mv (t_ 13),(some (163,true)),2⟩,⟨(some 166),.cl 37 [(t_ 164),(t_ 165)],(some (163,true)),2⟩,O_ 167 (.pick (t_ 163) (t_ 166) (b_ false)) 2,O_ 168 (.mv (t_ 167)) 2,O_ 169 (.pick (t_ 168) (b_ true) (b_ false)) 2,O_ 170 (.mv (t_ 169)) 2,O_ 171 (.pick (t_ 170) (b_ true) (b_ false)) 2,O_ 0 (.mv (t_ 171)) 2]) .ret)))))))))))))
theorem gc8_ok:compF Tryz.prog Tryz.f8=some (gc8.er,172,[.tmp 0]):=by unfold gc8;kernel_rfl
theorem p_law31_awake_t:CallsO Tryz.prog 8 [] V.b (tru? (p_law31_awake)):=by
 refine callsO_comp mix Tryz.func8 gc8_ok fun r H=>?_
 have H1:=tru_of H
 clear H
 obtain ⟨rfl,H⟩:=H1
 rw [p_law31_awake] at H
 conv=>whnf
 refine ask_c (p_conns_Open_v _ _ _) H rfl rfl (fun v1 H=>?_);conv=>whnf
 refine ask_c (p_conns_Open_v _ _ _) H rfl rfl (fun v2 H=>?_);conv=>whnf
 refine ask_c (p_conns_Login_v _ _ _ _) H rfl rfl (fun v3 H=>?_);conv=>whnf
 refine ask_c (p_conns_Login_v _ _ _ _) H rfl rfl (fun v4 H=>?_);conv=>whnf
 refine ask_c (p_conns_Give_v _ _ _) H rfl rfl (fun v5 H=>?_);conv=>whnf
 refine ask_c (p_conns_Spend_v _ _ _) H rfl rfl (fun v6 H=>?_);conv=>whnf
 refine ask_c (p_conns_Spend_v _ _ _) H rfl rfl (fun v7 H=>?_);conv=>whnf
 refine ask_c (p_conns_Feed_v _ _ _) H rfl rfl (fun v8 H=>?_);conv=>whnf
 refine ask_c (p_conns_Close_v _ _) H rfl rfl (fun v9 H=>?_);conv=>whnf
 refine lq_ ?_;conv=>whnf
 refine ask_c (p_conns_ByKey_v _ _) H rfl rfl (fun v10 H=>?_);conv=>whnf
 refine ask_c (p_conns_Find_v _ _) H rfl rfl (fun v11 H=>?_);conv=>whnf
 refine lq_ ?_;conv=>whnf
 refine tstT_c H (fun b12 H=>?_);conv=>whnf
 iterate 2 (refine Tst.T ?_;conv=>whnf)
 refine tstT_c H (fun b13 H=>?_);conv=>whnf
 iterate 2 (refine Tst.T ?_;conv=>whnf)
 refine tstT_c H (fun b14 H=>?_);conv=>whnf
 iterate 2 (refine Tst.T ?_;conv=>whnf)
 refine tstT_c H (fun b15 H=>?_);conv=>whnf
 refine Tst.T ?_;conv=>whnf
 refine tstT_c H (fun b16 H=>?_);conv=>whnf
 refine Tst.T ?_;conv=>whnf
 refine tstT_c H (fun b17 H=>?_);conv=>whnf
 iterate 2 (refine Tst.T ?_;conv=>whnf)
 refine Tst.not ?_
 refine tstF_c H (fun b18 H=>?_);conv=>whnf
 iterate 3 (refine Tst.T ?_;conv=>whnf)
 refine tstT_c H (fun b19 H=>?_);conv=>whnf
 refine Tst.T ?_;conv=>whnf
 refine tstT_c H (fun b20 H=>?_);conv=>whnf
 refine Tst.T ?_;conv=>whnf
 refine LenQ.M ?_;conv=>whnf
 iterate 2 (refine Tst.T ?_;conv=>whnf)
 refine tstT_c H (fun b21 H=>?_);conv=>whnf
 iterate 2 (refine Tst.T ?_;conv=>whnf)
 refine tstT_c H (fun b22 H=>?_);conv=>whnf
 refine Tst.T ?_;conv=>whnf
 refine LenQ.M ?_;conv=>whnf
 iterate 2 (refine Tst.T ?_;conv=>whnf)
 refine tstT_c H (fun b23 H=>?_);conv=>whnf
 refine Tst.T ?_;conv=>whnf
 refine tstT_c H (fun b24 H=>?_);conv=>whnf
 refine Tst.T ?_;conv=>whnf
 refine ask_c (p_conns_Key_v _) H rfl rfl (fun v25 H=>?_);conv=>whnf
 iterate 2 (refine Tst.T ?_;conv=>whnf)
 refine tstT_c H (fun b26 H=>?_);conv=>whnf
 iterate 2 (refine Tst.T ?_;conv=>whnf)
 refine tstT_c H (fun b27 H=>?_);conv=>whnf
 refine Tst.T ?_;conv=>whnf
 refine tstT_c H (fun b28 H=>?_);conv=>whnf
 refine Tst.T ?_;conv=>whnf
 refine ask_c (p_conns_Sessions_v _ _) H rfl rfl (fun v29 H=>?_);conv=>whnf
 iterate 2 (refine Tst.T ?_;conv=>whnf)
 refine askF_c (p_ref01_SameInts_v _ _) H (.cons (.c (.id rfl)) (.cons (.c (fzown (f:=V.i) (l:=[(3:Int)]) rfl rfl (fun _=>rfl) (fun _=>rfl))) (.nil))) (fun v30 H=>?_);conv=>whnf
 refine Tst.T ?_;conv=>whnf
 refine tstT_c H (fun b31 H=>?_);conv=>whnf
 refine Tst.T ?_;conv=>whnf
 refine ask_c (p_conns_Check_v _) H rfl rfl (fun v32 H=>?_);conv=>whnf
 iterate 2 (refine Tst.T ?_;conv=>whnf)
 refine tstT_c H (fun b33 H=>?_);conv=>whnf
 iterate 2 (refine Tst.T ?_;conv=>whnf)
 refine askF_c (p_conns_Check_v _) H (.cons (.c (fzown (f:=ConnsConn.v) (l:=[(ConnsConn.mk (-1:Int) (0:Int) (⟨#[]⟩ : ByteArray) (⟨#[]⟩ : ByteArray) (0:Int) (DeframeState.mk (⟨#[]⟩ : ByteArray) (0:Int) (0:Int)))]) rfl rfl (fun _=>rfl) (fun _=>rfl))) (.nil)) (fun v34 H=>?_);conv=>whnf
 iterate 2 (refine Tst.T ?_;conv=>whnf)
 refine tstT_c H (fun b35 H=>?_);conv=>whnf
 iterate 2 (refine Tst.T ?_;conv=>whnf)
 refine ask_c (p_conns_Same_v _ _) H rfl rfl (fun v36 H=>?_);conv=>whnf
 iterate 2 (refine Tst.T ?_;conv=>whnf)
 refine Tst.not ?_
 refine tstF_c H (fun b37 H=>?_);conv=>whnf
 iterate 2 (refine Tst.T ?_;conv=>whnf)
 refine ask_c (p_conns_Same_v _ _) H rfl rfl (fun v38 H=>?_);conv=>whnf
 refine Tst.T ?_;conv=>whnf
 refine tstT_c H (fun b39 H=>?_);conv=>whnf
 refine Tst.T ?_;conv=>whnf
 exact fb_ H
theorem p_law31_awake_true:p_law31_awake=some true:=by kernel_rfl
theorem p_law31_awake_v:CallsO Tryz.prog 8 [] V.b p_law31_awake:=tru_closed p_law31_awake_t p_law31_awake_true
end Go.Proofs.YtdbigmjlhkgeoaaGreat

namespace Go.Proofs.YtdbigmjlhkgeoaaGreat
open Go.ChangeShapes Go.WideShapes Go.ChangeAt Go.RowKit Go.Joins Go.Deep
structure Law31Deed.Wf (x:Law31Deed):Prop where
 Kind:(Lit.int .u8 x.Kind).wf=true
 ID:(Lit.int .u8 x.ID).wf=true
 Who:(Lit.int .u8 x.Who).wf=true
 N:(Lit.int .u16 x.N).wf=true
set_option maxRecDepth 100000 in
theorem rd_T87 {H:Type} {enc:TypeId × Value→H} {W:World} {spare:Nat→Bool} {held:Bool} {fuel:Nat} {cs:List Value} {y:DataW H × List MemPlace} (h:DataW.trod enc Tryz.prog W 0 spare held fuel 87 cs=some y):∃ x:Law31Deed,Law31Deed.Wf x∧RepL (MW W) noBk cs [.y8 x.Kind,.y8 x.ID,.y8 x.Who,.lit (.int .u16 x.N)]:=by
 obtain ⟨xs,n,_,_,hl,hx,hall⟩:=DataW.trod_struct Tryz.underlying87 h
 have hce:Tryz.prog.cellsOf 87=4:=by kernel_rfl
 rw [hce] at hl
 match cs,hl,hall with
 | [c0,c1,c2,c3],_,hall =>
  obtain ⟨y0,hy0⟩:=get_some hx (show 0 < 4 by omega)
  have g0:DataW.trod enc Tryz.prog W 0 spare held n 5 [c0]=some y0:=by
   have hz:Tryz.prog.cellsOf 5=1:=by kernel_rfl
   have g:DataW.trod enc Tryz.prog W 0 spare held n 5 (([c0,c1,c2,c3].drop 0).take (Tryz.prog.cellsOf 5))=some y0:=(hall 0 _ rfl).trans hy0
   rw [hz] at g;exact g
  obtain ⟨x0,w0,r0⟩:=rd_int Tryz.underlying5 g0
  obtain ⟨y1,hy1⟩:=get_some hx (show 1 < 4 by omega)
  have g1:DataW.trod enc Tryz.prog W 0 spare held n 5 [c1]=some y1:=by
   have hz:Tryz.prog.cellsOf 5=1:=by kernel_rfl
   have g:DataW.trod enc Tryz.prog W 0 spare held n 5 (([c0,c1,c2,c3].drop 1).take (Tryz.prog.cellsOf 5))=some y1:=(hall 1 _ rfl).trans hy1
   rw [hz] at g;exact g
  obtain ⟨x1,w1,r1⟩:=rd_int Tryz.underlying5 g1
  obtain ⟨y2,hy2⟩:=get_some hx (show 2 < 4 by omega)
  have g2:DataW.trod enc Tryz.prog W 0 spare held n 5 [c2]=some y2:=by
   have hz:Tryz.prog.cellsOf 5=1:=by kernel_rfl
   have g:DataW.trod enc Tryz.prog W 0 spare held n 5 (([c0,c1,c2,c3].drop 2).take (Tryz.prog.cellsOf 5))=some y2:=(hall 2 _ rfl).trans hy2
   rw [hz] at g;exact g
  obtain ⟨x2,w2,r2⟩:=rd_int Tryz.underlying5 g2
  obtain ⟨y3,hy3⟩:=get_some hx (show 3 < 4 by omega)
  have g3:DataW.trod enc Tryz.prog W 0 spare held n 85 [c3]=some y3:=by
   have hz:Tryz.prog.cellsOf 85=1:=by kernel_rfl
   have g:DataW.trod enc Tryz.prog W 0 spare held n 85 (([c0,c1,c2,c3].drop 3).take (Tryz.prog.cellsOf 85))=some y3:=(hall 3 _ rfl).trans hy3
   rw [hz] at g;exact g
  obtain ⟨x3,w3,r3⟩:=rd_int Tryz.underlying85 g3
  exact ⟨⟨x0,x1,x2,x3⟩,⟨w0,w1,w2,w3⟩,repL_app r0 (repL_app r1 (repL_app r2 (repL_app r3 (repL_nil))))⟩
theorem rd_T81 {H:Type} {enc:TypeId × Value→H} {W:World} {spare:Nat→Bool} {held:Bool} {fuel:Nat} {cs:List Value} {y:DataW H × List MemPlace} (h:DataW.trod enc Tryz.prog W 0 spare held fuel 81 cs=some y):∃ x:List Law31Deed,(∀ z ∈ x,Law31Deed.Wf z)∧RepL (MW W) noBk cs [(fun l:List Law31Deed=>V.sl (l.map Law31Deed.v) false) x] :=
 rd_slice (f:=Law31Deed.v) (es:=4) (wf:=Law31Deed.Wf) Tryz.underlying81 (fun _=>rfl) (by intro a v hv;simp [V.cells] at hv;first | (subst hv;rfl) | (rcases hv with rfl | rfl | rfl | rfl <;> rfl)) (by omega) (by kernel_rfl) (fun n cs y h=>rd_T87 h) h
end Go.Proofs.YtdbigmjlhkgeoaaGreat

namespace Go.Proofs.YtdbigmjlhkgeoaaGreat
open Go.RowKit Go.Deep
theorem repAr3 {m:Mem} {a b c:Value} {x y z:V} (h1:Rep m noBk a x) (h2:Rep m noBk b y) (h3:Rep m noBk c z):RepA m noBk #[a,b,c] [x,y,z] :=
 ⟨rfl,fun j g1 g2=>match j,g1 with
  | 0,_=>h1
  | 1,_=>h2
  | 2,_=>h3
  | j + 3,g=>absurd g (by simp)⟩
theorem connsChanges_all (st:List ConnsConn) (a:Law31Ask):p_law31_ConnsChanges st a=some true:=connsChanges_pure p_law31_awake_true st a
theorem connsTells_all (st q:List ConnsConn) (a:Law31Ask):p_law31_ConnsTells st q a=some true:=connsTells_pure p_law31_awake_true st q a
theorem connsBack_all (l:List Law31Deed) (b:ByteArray) (c:Int) (h:∀ x ∈ l,Law31Deed.Wf x) (hc:(Lit.int .u8 c).wf=true):p_law31_ConnsBack l b c=some true:=connsBack_pure p_law31_awake_true l b c (fun x hx=>(bounds_u8 (h x hx).ID).1) (bounds_u8 hc)
end Go.Proofs.YtdbigmjlhkgeoaaGreat

namespace Go.Proofs.YtdbigmjlhkgeoaaGreat
open Go.RowKit
set_option maxRecDepth 100000
set_option maxHeartbeats 4000000
def gc61:BCode:=(.seq (R_ 1 [O_ 1 (.bx (t_ 0)) 0,O_ 2 (.mv (i_ 0)) 1]) (.seq (R_ 0 [O_ 7 (.fa 0 (t_ 1)) 0,O_ 8 (.ld 1 false (t_ 7)) 0,O_ 9 (.cl 73 [(t_ 8)]) 0,O_ 6 (.mv (t_ 9)) 0,O_ 10 (.ex (t_ 6) 0) 0,O_ 11 (.ex (t_ 6) 1) 0,O_ 12 (.ex (t_ 6) 2) 0,O_ 3 (.mv (t_ 10)) 0,O_ 4 (.mv (t_ 11)) 0,O_ 5 (.mv (t_ 12)) 0]) (.seq (.block 0 (.seq (R_ 0 [O_ 14 (.fa 1 (t_ 1)) 0,O_ 15 (.ld 1 false (t_ 14)) 0,O_ 16 (.bin .neq (t_ 15) (i_ 0)) 0,O_ 17 (.mv (t_ 16)) 0,⟨(some 18),.fa 0 (t_ 1),(some (17,true)),0⟩,⟨(some 19),.ld 1 false (t_ 18),(some (17,true)),0⟩,⟨(some 20),.bin .neq (t_ 19) (.const (.string ⟨#[]⟩)),(some (17,true)),0⟩,O_ 21 (.pick (t_ 17) (t_ 20) (b_ false)) 0,O_ 13 (.mv (t_ 21)) 0]) (.cond (t_ 13) (.seq (R_ 0 [O_ 2 (.mv (i_ 4)) 0]) .ret) (.seq (R_ 0 [O_ 23 (.mv (t_ 5)) 0,O_ 24 (.bin .neq (t_ 23) (i_ 3)) 0,O_ 22 (.mv (t_ 24)) 0]) (.cond (t_ 22) (.seq (R_ 0 [O_ 2 (.mv (i_ 5)) 0]) .ret) (.seq (R_ 0 [O_ 26 (.fa 2 (t_ 1)) 0,O_ 27 (.ld 1 false (t_ 26)) 0,O_ 28 (.bin .lss (t_ 27) (i_ 0)) 0,O_ 25 (.mv (t_ 28)) 0]) (.cond (t_ 25) (.seq (R_ 0 [O_ 2 (.mv (i_ 8)) 0]) .ret) .skip))))))) (.seq (R_ 0 [O_ 2 (.mv (i_ 0)) 0]) .ret))))
theorem gc61_ok:compF Tryz.prog Tryz.f61=some (gc61.er,29,[.tmp 2]):=by unfold gc61;kernel_rfl
theorem p_ref12_Check_v (a0:DeframeState):CallsO Tryz.prog 61 [.agg [.s a0.Buf,.i a0.Bad,.i a0.Seen]] V.i (p_ref12_Check a0):=by
 refine callsO_comp mix Tryz.func61 gc61_ok fun r H=>?_
 rw [p_ref12_Check] at H
 conv=>whnf
 refine ask_c (p_ref11_Get_v _) H rfl rfl (fun v1 H=>?_);conv=>whnf
 refine tst_d H (fun b2 H=>?_) (fun b2 H=>?_)
 ·conv=>whnf
  iterate 4 (refine Tst.F ?_;conv=>whnf)
  refine tst_c H (fun b6 H=>?_) (fun b6 H=>?_)
  ·conv=>whnf
   exact fi_ H
  conv=>whnf
  refine tst_c H (fun b7 H=>?_) (fun b7 H=>?_)
  ·conv=>whnf
   exact fi_ H
  conv=>whnf
  exact fi_ H
 conv=>whnf
 iterate 3 (refine Tst.T ?_;conv=>whnf)
 refine Tst.not ?_
 refine tst_d H (fun b3 H=>?_) (fun b3 H=>?_)
 ·conv=>whnf
  exact fi_ H
 conv=>whnf
 refine tst_c H (fun b4 H=>?_) (fun b4 H=>?_)
 ·conv=>whnf
  exact fi_ H
 conv=>whnf
 refine tst_c H (fun b5 H=>?_) (fun b5 H=>?_)
 ·conv=>whnf
  exact fi_ H
 conv=>whnf
 exact fi_ H
def gc70:BCode:=(.seq (R_ 2 [O_ 2 (.bx (t_ 0)) 0,O_ 4 (.al (.agg [(.lit (.string ⟨#[]⟩)),(.lit (.int .i64 0)),(.lit (.int .i64 0))])) 1,O_ 5 (.mv (.const (.slice none 0 0))) 2]) (.seq (.seq (R_ 0 [O_ 12 (.fa 1 (t_ 2)) 0,O_ 13 (.ld 1 false (t_ 12)) 0,O_ 14 (.bin .neq (t_ 13) (i_ 0)) 0,O_ 15 (.mv (t_ 14)) 0,⟨(some 16),.ld 3 true (t_ 2),(some (15,false)),0⟩,⟨(some 17),.cl 61 [(t_ 16)],(some (15,false)),0⟩,⟨(some 18),.bin .neq (t_ 17) (i_ 0),(some (15,false)),0⟩,O_ 19 (.pick (t_ 15) (b_ true) (t_ 18)) 0]) (.cond (t_ 19) (.seq (R_ 0 [O_ 20 (.ld 3 true (t_ 2)) 0,U_ (.st 3 (t_ 4) (t_ 20)) 0,O_ 5 (.mv (.const (.slice none 0 0))) 0]) .ret) .skip)) (.seq (R_ 0 [O_ 21 (.fa 0 (t_ 2)) 0,O_ 22 (.ld 1 false (t_ 21)) 0,O_ 23 (.mv (t_ 1)) 0,O_ 24 (.bin .add (t_ 22) (t_ 23)) 0,O_ 6 (.mv (t_ 24)) 0]) (.seq (R_ 0 [O_ 7 (.mv (.const (.slice none 0 0))) 0]) (.seq (.seq (R_ 0 [O_ 8 (.mv (i_ 0)) 0]) (.block 0 (.loop (.seq (.seq (R_ 0 [O_ 25 (.mv (t_ 8)) 0,O_ 26 (.mv (t_ 1)) 0,O_ 27 (.lent (t_ 26)) 0,O_ 28 (.bin .leq (t_ 25) (t_ 27)) 0]) (.cond (t_ 28) .skip (.exit 0))) (.seq (.block 1 (.seq (R_ 0 [O_ 32 (.mv (t_ 6)) 0,O_ 33 (.cl 73 [(t_ 32)]) 0,O_ 31 (.mv (t_ 33)) 0,O_ 34 (.ex (t_ 31) 0) 0,O_ 35 (.ex (t_ 31) 1) 0,O_ 36 (.ex (t_ 31) 2) 0,O_ 9 (.mv (t_ 34)) 0,O_ 10 (.mv (t_ 35)) 0,O_ 11 (.mv (t_ 36)) 0]) (.seq (.seq (R_ 0 [O_ 37 (.mv (t_ 11)) 0,O_ 38 (.bin .eql (t_ 37) (i_ 3)) 0]) (.cond (t_ 38) (.exit 0) .skip)) (.seq (.seq (R_ 0 [O_ 39 (.mv (t_ 11)) 0,O_ 40 (.bin .neq (t_ 39) (i_ 0)) 0]) (.cond (t_ 40) (.seq (R_ 0 [O_ 41 (.mv (t_ 11)) 0,O_ 42 (.fa 2 (t_ 2)) 0,O_ 43 (.ld 1 false (t_ 42)) 0,O_ 44 (.bd [(.lit (.string ⟨#[]⟩)),(.lit (.int .i64 0)),(.lit (.int .i64 0))] [(1,1,(t_ 41)),(2,1,(t_ 43))]) 0,O_ 45 (.mv (t_ 7)) 0,U_ (.st 3 (t_ 4) (t_ 44)) 0,O_ 5 (.mv (t_ 45)) 0]) .ret) .skip)) (.seq (R_ 2 [O_ 46 (.mv (t_ 7)) 0,O_ 47 (.mv (t_ 9)) 0,O_ 48 (.bs 1 1 [(.lit (.string ⟨#[]⟩))] [(0,(t_ 47))]) 0,O_ 49 (.ap 1 16 (t_ 46) (t_ 48)) 1,O_ 7 (.mv (t_ 49)) 2]) (.seq (R_ 0 [O_ 50 (.fa 2 (t_ 2)) 0,O_ 51 (.ld 1 false (t_ 50)) 0,O_ 52 (.bin .add (t_ 51) (i_ 1)) 0,O_ 53 (.fa 2 (t_ 2)) 0,U_ (.st 1 (t_ 53) (t_ 52)) 0]) (R_ 0 [O_ 54 (.mv (t_ 6)) 0,O_ 55 (.mv (t_ 10)) 0,O_ 56 (.slt (t_ 54) (some (t_ 55)) none) 0,O_ 6 (.mv (t_ 56)) 0]))))))) (R_ 0 [O_ 29 (.mv (t_ 8)) 0,O_ 30 (.bin .add (t_ 29) (i_ 1)) 0,O_ 8 (.mv (t_ 30)) 0])))))) (.seq (R_ 0 [O_ 57 (.mv (t_ 6)) 0,O_ 58 (.fa 0 (t_ 2)) 0,U_ (.st 1 (t_ 58) (t_ 57)) 0]) (.seq (R_ 0 [O_ 59 (.ld 3 true (t_ 2)) 0,O_ 60 (.mv (t_ 7)) 0,U_ (.st 3 (t_ 4) (t_ 59)) 0,O_ 5 (.mv (t_ 60)) 0]) .ret)))))))
theorem gc70_ok:compF Tryz.prog Tryz.f70=some (gc70.er,61,[.cell 4 3 true,.tmp 5]):=by unfold gc70;kernel_rfl
theorem p_ref12_Texts_v (a0:DeframeState) (a1:ByteArray):CallsO Tryz.prog 70 [.agg [.s a0.Buf,.i a0.Bad,.i a0.Seen],.s a1] (fun r:DeframeState × (List ByteArray)=>.tup [DeframeState.v r.1,(fun l:List ByteArray=>V.sl (l.map V.s) false) r.2]) (p_ref12_Texts a0 a1):=by
 refine callsO_comp mix Tryz.func70 gc70_ok fun r H=>?_
 rw [p_ref12_Texts] at H
 conv=>whnf
 refine tst_c H (fun b1 H=>?_) (fun b1 H=>?_)
 ·conv=>whnf
  iterate 4 (refine Tst.T ?_;conv=>whnf)
  refine lq_ ?_;conv=>whnf
  refine finR_c (enc:=(fun r:DeframeState × (List ByteArray)=>.tup [DeframeState.v r.1,(fun l:List ByteArray=>V.sl (l.map V.s) false) r.2])) H ?_;conv=>whnf
  exact ⟨_,.tup (.cons (fzagg (.cons (.id rfl) (.cons (.id rfl) (.cons (.id rfl) (.nil)))) rfl) (.cons (.c (.slw)) (.nil)))⟩
 conv=>whnf
 refine Tst.F ?_;conv=>whnf
 refine ask_c (p_ref12_Check_v _) H rfl rfl (fun v2 H=>?_);conv=>whnf
 iterate 2 (refine Tst.F ?_;conv=>whnf)
 refine tst_c H (fun b3 H=>?_) (fun b3 H=>?_)
 ·conv=>whnf
  refine lq_ ?_;conv=>whnf
  refine finR_c (enc:=(fun r:DeframeState × (List ByteArray)=>.tup [DeframeState.v r.1,(fun l:List ByteArray=>V.sl (l.map V.s) false) r.2])) H ?_;conv=>whnf
  exact ⟨_,.tup (.cons (fzagg (.cons (.id rfl) (.cons (.id rfl) (.cons (.id rfl) (.nil)))) rfl) (.cons (.c (.slw)) (.nil)))⟩
 conv=>whnf
 refine cat_c H (fun s4 H=>?_);conv=>whnf
 obtain ⟨o6,HL7,HQ8⟩:=bind_c H
 refine loop_c [5,6,7,8] [9,10,11,25,26,27,28,29,30,31,32,33,34,35,36,37,38,39,40,41,42,43,44,45,46,47,48,49,50,51,52,53,54,55,56,12,21] [9,10,11,25,26,27,28,29,30,31,32,33,34,35,36,37,38,39,40,41,42,43,44,45,46,47,48,49,50,51,52,53,54,55,56,12,21] (fun n vals st=>(∃ y10 y11 y12,p_ref12_Texts_l1  a1 n y10 [] y11 y12=some o6∧vals=[.sl (List.map V.s []) true,.s y10,.sl (List.map V.s []) true,.i y11]∧st=[.live [.s y12.Buf,.i y12.Bad,.i y12.Seen] 0,.live [.s (⟨#[]⟩ : ByteArray),.i (0:Int),.i (0:Int)] 0])∨(∃ y19 y20 y21 y22,p_ref12_Texts_l1  a1 n y19 y20 y21 y22=some o6∧vals=[.sl (List.map V.s []) true,.s y19,.osl 2 0 (List.length y20) 1 false,.i y21]∧st=[.live [.s y22.Buf,.i y22.Bad,.i y22.Seen] 0,.live [.s (⟨#[]⟩ : ByteArray),.i (0:Int),.i (0:Int)] 0,.live (cellsM V.s y20) (cellsM V.s y20).length])) fuel 2 [] (.inl (⟨_,_,_,HL7,rfl,rfl⟩)) (Nat.zero_le _) rfl (by kernel_rfl) (by kernel_rfl) rfl ⟨⟨rfl,rfl,rfl⟩,⟨⟨rfl,rfl,rfl⟩,trivial⟩⟩ ?_
 rintro (_ | n9) _ _ (⟨y10,y11,y12,H,rfl,rfl⟩ | ⟨y19,y20,y21,y22,H,rfl,rfl⟩)
 ·rw [p_ref12_Texts_l1] at H;cases H
 ·rw [p_ref12_Texts_l1] at H;cases H
 ·rw [p_ref12_Texts_l1] at H
  conv=>whnf
  refine tst_d H (fun b13 H=>?_) (fun b13 H=>?_)
  ·conv=>whnf
   obtain rfl:=Option.some.inj H
   have H:=HQ8
   try dsimp only at H
   refine lq_ ?_;conv=>whnf
   refine lq_ ?_;conv=>whnf
   refine finR_c (enc:=(fun r:DeframeState × (List ByteArray)=>.tup [DeframeState.v r.1,(fun l:List ByteArray=>V.sl (l.map V.s) false) r.2])) H ?_;conv=>whnf
   exact ⟨_,.tup (.cons (fzagg (.cons (.id rfl) (.cons (.id rfl) (.cons (.id rfl) (.nil)))) rfl) (.cons (.c (.slw)) (.nil)))⟩
  conv=>whnf
  refine ask_c (p_ref11_Get_v _) H rfl rfl (fun v14 H=>?_);conv=>whnf
  refine tst_c H (fun b15 H=>?_) (fun b15 H=>?_)
  ·conv=>whnf
   obtain rfl:=Option.some.inj H
   have H:=HQ8
   try dsimp only at H
   refine lq_ ?_;conv=>whnf
   refine lq_ ?_;conv=>whnf
   refine finR_c (enc:=(fun r:DeframeState × (List ByteArray)=>.tup [DeframeState.v r.1,(fun l:List ByteArray=>V.sl (l.map V.s) false) r.2])) H ?_;conv=>whnf
   exact ⟨_,.tup (.cons (fzagg (.cons (.id rfl) (.cons (.id rfl) (.cons (.id rfl) (.nil)))) rfl) (.cons (.c (.slw)) (.nil)))⟩
  conv=>whnf
  refine tst_c H (fun b16 H=>?_) (fun b16 H=>?_)
  ·conv=>whnf
   refine lq_ ?_;conv=>whnf
   obtain rfl:=Option.some.inj H
   have H:=HQ8
   try dsimp only at H
   refine finR_c (enc:=(fun r:DeframeState × (List ByteArray)=>.tup [DeframeState.v r.1,(fun l:List ByteArray=>V.sl (l.map V.s) false) r.2])) H ?_;conv=>whnf
   exact ⟨_,.tup (.cons (fzagg (.cons (.id rfl) (.cons (.id rfl) (.cons (.id rfl) (.nil)))) rfl) (.cons (.c (.slw)) (.nil)))⟩
  conv=>whnf
  refine appN_c (f:=V.s) H (fun _=>rfl) (srcM (f:=V.s) (fun _=>rfl) [] true) rfl (.v (srcOwn (f:=V.s) (l:=[v14.1]) (fun _=>rfl) rfl rfl rfl)) (by decide) rfl (by simp) (fun l17 H=>?_);conv=>whnf
  refine Ari.w ?_;conv=>whnf
  refine lq_ ?_;conv=>whnf
  refine slt_c H (fun s18 H=>?_);conv=>whnf
  refine Ari.w ?_;conv=>whnf
  exact again_c [9,10,11,25,26,27,28,29,30,31,32,33,34,35,36,37,38,39,40,41,42,43,44,45,46,47,48,49,50,51,52,53,54,55,56,12,21] n9 3 [0,1,3] (.inr (⟨_,_,_,_,H,rfl,rfl⟩)) (Nat.lt_succ_self _) (Nat.zero_le _) rfl (by kernel_rfl) (by kernel_rfl) rfl ⟨⟨rfl,rfl,rfl⟩,⟨⟨rfl,rfl,rfl⟩,wkB_live0 rfl (cellsM_idlt (f:=V.s) (fun _=>rfl) _) rfl trivial⟩⟩
 rw [p_ref12_Texts_l1] at H
 conv=>whnf
 refine tst_d H (fun b23 H=>?_) (fun b23 H=>?_)
 ·conv=>whnf
  obtain rfl:=Option.some.inj H
  have H:=HQ8
  try dsimp only at H
  refine lq_ ?_;conv=>whnf
  refine lq_ ?_;conv=>whnf
  refine finR_c (enc:=(fun r:DeframeState × (List ByteArray)=>.tup [DeframeState.v r.1,(fun l:List ByteArray=>V.sl (l.map V.s) false) r.2])) H ?_;conv=>whnf
  exact ⟨_,.tup (.cons (fzagg (.cons (.id rfl) (.cons (.id rfl) (.cons (.id rfl) (.nil)))) rfl) (.cons (.c (fzown (f:=V.s) (l:=y20) rfl rfl (fun _=>rfl) (fun _=>rfl))) (.nil)))⟩
 conv=>whnf
 refine ask_c (p_ref11_Get_v _) H rfl rfl (fun v24 H=>?_);conv=>whnf
 refine tst_c H (fun b25 H=>?_) (fun b25 H=>?_)
 ·conv=>whnf
  obtain rfl:=Option.some.inj H
  have H:=HQ8
  try dsimp only at H
  refine lq_ ?_;conv=>whnf
  refine lq_ ?_;conv=>whnf
  refine finR_c (enc:=(fun r:DeframeState × (List ByteArray)=>.tup [DeframeState.v r.1,(fun l:List ByteArray=>V.sl (l.map V.s) false) r.2])) H ?_;conv=>whnf
  exact ⟨_,.tup (.cons (fzagg (.cons (.id rfl) (.cons (.id rfl) (.cons (.id rfl) (.nil)))) rfl) (.cons (.c (fzown (f:=V.s) (l:=y20) rfl rfl (fun _=>rfl) (fun _=>rfl))) (.nil)))⟩
 conv=>whnf
 refine tst_c H (fun b26 H=>?_) (fun b26 H=>?_)
 ·conv=>whnf
  refine lq_ ?_;conv=>whnf
  obtain rfl:=Option.some.inj H
  have H:=HQ8
  try dsimp only at H
  refine finR_c (enc:=(fun r:DeframeState × (List ByteArray)=>.tup [DeframeState.v r.1,(fun l:List ByteArray=>V.sl (l.map V.s) false) r.2])) H ?_;conv=>whnf
  exact ⟨_,.tup (.cons (fzagg (.cons (.id rfl) (.cons (.id rfl) (.cons (.id rfl) (.nil)))) rfl) (.cons (.c (fzown (f:=V.s) (l:=y20) rfl rfl (fun _=>rfl) (fun _=>rfl))) (.nil)))⟩
 conv=>whnf
 refine appO_c (f:=V.s) H (fun _=>rfl) rfl (Nat.le_refl _) (.v (srcOwn (f:=V.s) (l:=[v24.1]) (fun _=>rfl) rfl rfl rfl)) (by decide) rfl (by simp) (fun l27 H=>?_);conv=>whnf
 refine Ari.w ?_;conv=>whnf
 refine lq_ ?_;conv=>whnf
 refine slt_c H (fun s28 H=>?_);conv=>whnf
 refine Ari.w ?_;conv=>whnf
 exact again_c [9,10,11,25,26,27,28,29,30,31,32,33,34,35,36,37,38,39,40,41,42,43,44,45,46,47,48,49,50,51,52,53,54,55,56,12,21] n9 3 [0,1,4] (.inr (⟨_,_,_,_,H,rfl,rfl⟩)) (Nat.lt_succ_self _) (Nat.zero_le _) rfl (by kernel_rfl) (by kernel_rfl) rfl ⟨⟨rfl,rfl,rfl⟩,⟨⟨rfl,rfl,rfl⟩,wkB_live0 rfl (cellsM_idlt (f:=V.s) (fun _=>rfl) _) rfl trivial⟩⟩
def gc81:BCode:=(.seq (R_ 0 [O_ 2 (.mv (b_ false)) 0]) (.seq (R_ 0 [O_ 3 (.mv (t_ 0)) 0,O_ 4 (.bin .geq (t_ 3) (.const (.int .u8 1))) 0,O_ 5 (.mv (t_ 4)) 0,⟨(some 6),.mv (t_ 0),(some (5,true)),0⟩,⟨(some 7),.bin .leq (t_ 6) (.const (.int .u8 15)),(some (5,true)),0⟩,O_ 8 (.pick (t_ 5) (t_ 7) (b_ false)) 0,O_ 9 (.mv (t_ 8)) 0,⟨(some 10),.mv (t_ 0),(some (9,false)),0⟩,⟨(some 11),.bin .geq (t_ 10) (.const (.int .u8 32)),(some (9,false)),0⟩,⟨(some 12),.mv (t_ 11),(some (9,false)),0⟩,⟨(some 13),.mv (t_ 0),(some (12,true)),0⟩,⟨(some 14),.bin .leq (t_ 13) (.const (.int .u8 41)),(some (12,true)),0⟩,⟨(some 15),.pick (t_ 12) (t_ 14) (b_ false),(some (9,false)),0⟩,O_ 16 (.pick (t_ 9) (b_ true) (t_ 15)) 0,O_ 2 (.mv (t_ 16)) 0]) .ret))
theorem gc81_ok:compF Tryz.prog Tryz.f81=some (gc81.er,17,[.tmp 2]):=by unfold gc81;kernel_rfl
theorem p_ref10_known_v (a0:Int):CallsO Tryz.prog 81 [.y8 a0] V.b (p_ref10_known a0):=by
 refine callsO_comp mix Tryz.func81 gc81_ok fun r H=>?_
 rw [p_ref10_known] at H
 conv=>whnf
 refine tst_d H (fun b1 H=>?_) (fun b1 H=>?_)
 ·conv=>whnf
  iterate 5 (refine Tst.F ?_;conv=>whnf)
  refine tst_c H (fun b4 H=>?_) (fun b4 H=>?_)
  ·conv=>whnf
   refine Tst.T ?_;conv=>whnf
   refine Tst.F ?_;conv=>whnf
   refine Tst.T ?_;conv=>whnf
   refine Tst.F ?_;conv=>whnf
   exact fb_ H
  conv=>whnf
  iterate 4 (refine Tst.F ?_;conv=>whnf)
  exact fb_ H
 conv=>whnf
 iterate 2 (refine Tst.T ?_;conv=>whnf)
 refine tst_c H (fun b2 H=>?_) (fun b2 H=>?_)
 ·conv=>whnf
  iterate 4 (refine Tst.T ?_;conv=>whnf)
  exact fb_ H
 conv=>whnf
 iterate 2 (refine Tst.F ?_;conv=>whnf)
 refine tst_c H (fun b3 H=>?_) (fun b3 H=>?_)
 ·conv=>whnf
  refine Tst.T ?_;conv=>whnf
  refine Tst.F ?_;conv=>whnf
  refine Tst.T ?_;conv=>whnf
  refine Tst.F ?_;conv=>whnf
  exact fb_ H
 conv=>whnf
 iterate 4 (refine Tst.F ?_;conv=>whnf)
 exact fb_ H
def gc82:BCode:=(.seq (R_ 1 [O_ 2 (.al (.agg [(.lit (.string ⟨#[]⟩)),(.lit (.int .i64 0)),(.lit (.int .i64 0))])) 0]) (.seq (R_ 0 [O_ 3 (.mv (t_ 0)) 0,O_ 4 (.bd [(.lit (.string ⟨#[]⟩)),(.lit (.int .i64 0)),(.lit (.int .i64 0))] [(0,1,(t_ 3))]) 0,U_ (.st 3 (t_ 2) (t_ 4)) 0]) .ret))
theorem gc82_ok:compF Tryz.prog Tryz.f82=some (gc82.er,5,[.cell 2 3 true]):=by unfold gc82;kernel_rfl
theorem p_ref01_Open_v (a0:ByteArray):CallsO Tryz.prog 82 [.s a0] OctetRead.v (p_ref01_Open a0):=by
 refine callsO_comp mix Tryz.func82 gc82_ok fun r H=>?_
 rw [p_ref01_Open] at H
 conv=>whnf
 refine lq_ ?_;conv=>whnf
 exact fin0_c (enc:=OctetRead.v) H (.inr rfl) (.cons (.cell rfl rfl (Nat.le_of_ble_eq_true rfl)) (.nil)) rfl rfl
def gc83:BCode:=(.seq (R_ 0 [O_ 2 (.mv (.const (.string ⟨#[]⟩))) 0]) (.seq (.seq (R_ 0 [O_ 3 (.mv (t_ 0)) 0]) (.block 0 (.seq (R_ 0 [O_ 5 (.bin .eql (t_ 3) (.const (.int .u8 1))) 0,O_ 4 (.mv (t_ 5)) 0]) (.cond (t_ 4) (.seq (R_ 0 [O_ 2 (.mv (.const (.string ⟨#[117,114]⟩))) 0]) .ret) (.seq (R_ 0 [O_ 7 (.bin .eql (t_ 3) (.const (.int .u8 3))) 0,O_ 6 (.mv (t_ 7)) 0]) (.cond (t_ 6) (.seq (R_ 0 [O_ 2 (.mv (.const (.string ⟨#[115,112]⟩))) 0]) .ret) (.seq (R_ 0 [O_ 9 (.bin .eql (t_ 3) (.const (.int .u8 5))) 0,O_ 8 (.mv (t_ 9)) 0]) (.cond (t_ 8) (.seq (R_ 0 [O_ 2 (.mv (.const (.string ⟨#[117,115,112]⟩))) 0]) .ret) (.seq (.seq (R_ 0 [O_ 11 (.bin .eql (t_ 3) (.const (.int .u8 6))) 0,O_ 10 (.mv (t_ 11)) 0]) (.cond (t_ 10) .skip (.seq (R_ 0 [O_ 12 (.bin .eql (t_ 3) (.const (.int .u8 7))) 0,O_ 10 (.mv (t_ 12)) 0]) (.cond (t_ 10) .skip (.seq (R_ 0 [O_ 13 (.bin .eql (t_ 3) (.const (.int .u8 8))) 0,O_ 10 (.mv (t_ 13)) 0]) (.cond (t_ 10) .skip (.seq (R_ 0 [O_ 14 (.bin .eql (t_ 3) (.const (.int .u8 9))) 0,O_ 10 (.mv (t_ 14)) 0]) (.cond (t_ 10) .skip (.seq (R_ 0 [O_ 15 (.bin .eql (t_ 3) (.const (.int .u8 10))) 0,O_ 10 (.mv (t_ 15)) 0]) (.cond (t_ 10) .skip (.seq (R_ 0 [O_ 16 (.bin .eql (t_ 3) (.const (.int .u8 11))) 0,O_ 10 (.mv (t_ 16)) 0]) (.cond (t_ 10) .skip (R_ 0 [O_ 17 (.bin .eql (t_ 3) (.const (.int .u8 14))) 0,O_ 10 (.mv (t_ 17)) 0]))))))))))))) (.cond (t_ 10) (.seq (R_ 0 [O_ 2 (.mv (.const (.string ⟨#[117]⟩))) 0]) .ret) (.seq (.seq (R_ 0 [O_ 19 (.bin .eql (t_ 3) (.const (.int .u8 12))) 0,O_ 18 (.mv (t_ 19)) 0]) (.cond (t_ 18) .skip (.seq (R_ 0 [O_ 20 (.bin .eql (t_ 3) (.const (.int .u8 15))) 0,O_ 18 (.mv (t_ 20)) 0]) (.cond (t_ 18) .skip (.seq (R_ 0 [O_ 21 (.bin .eql (t_ 3) (.const (.int .u8 36))) 0,O_ 18 (.mv (t_ 21)) 0]) (.cond (t_ 18) .skip (R_ 0 [O_ 22 (.bin .eql (t_ 3) (.const (.int .u8 41))) 0,O_ 18 (.mv (t_ 22)) 0]))))))) (.cond (t_ 18) (.seq (R_ 0 [O_ 2 (.mv (.const (.string ⟨#[110]⟩))) 0]) .ret) (.seq (R_ 0 [O_ 24 (.bin .eql (t_ 3) (.const (.int .u8 13))) 0,O_ 23 (.mv (t_ 24)) 0]) (.cond (t_ 23) (.seq (R_ 0 [O_ 2 (.mv (.const (.string ⟨#[117,109]⟩))) 0]) .ret) (.seq (R_ 0 [O_ 26 (.bin .eql (t_ 3) (.const (.int .u8 32))) 0,O_ 25 (.mv (t_ 26)) 0]) (.cond (t_ 25) (.seq (R_ 0 [O_ 2 (.mv (.const (.string ⟨#[99,110]⟩))) 0]) .ret) (.seq (R_ 0 [O_ 28 (.bin .eql (t_ 3) (.const (.int .u8 33))) 0,O_ 27 (.mv (t_ 28)) 0]) (.cond (t_ 27) (.seq (R_ 0 [O_ 2 (.mv (.const (.string ⟨#[99,115,110]⟩))) 0]) .ret) (.seq (R_ 0 [O_ 30 (.bin .eql (t_ 3) (.const (.int .u8 34))) 0,O_ 29 (.mv (t_ 30)) 0]) (.cond (t_ 29) (.seq (R_ 0 [O_ 2 (.mv (.const (.string ⟨#[117,114,115,112,110]⟩))) 0]) .ret) (.seq (R_ 0 [O_ 32 (.bin .eql (t_ 3) (.const (.int .u8 35))) 0,O_ 31 (.mv (t_ 32)) 0]) (.cond (t_ 31) (.seq (R_ 0 [O_ 2 (.mv (.const (.string ⟨#[117,114,110]⟩))) 0]) .ret) (.seq (R_ 0 [O_ 34 (.bin .eql (t_ 3) (.const (.int .u8 38))) 0,O_ 33 (.mv (t_ 34)) 0]) (.cond (t_ 33) (.seq (R_ 0 [O_ 2 (.mv (.const (.string ⟨#[117,109,115,110]⟩))) 0]) .ret) (.seq (R_ 0 [O_ 36 (.bin .eql (t_ 3) (.const (.int .u8 39))) 0,O_ 35 (.mv (t_ 36)) 0]) (.cond (t_ 35) (.seq (R_ 0 [O_ 2 (.mv (.const (.string ⟨#[117,110]⟩))) 0]) .ret) (.seq (R_ 0 [O_ 38 (.bin .eql (t_ 3) (.const (.int .u8 40))) 0,O_ 37 (.mv (t_ 38)) 0]) (.cond (t_ 37) (.seq (R_ 0 [O_ 2 (.mv (.const (.string ⟨#[117,99]⟩))) 0]) .ret) .skip)))))))))))))))))))))))))))) (.seq (R_ 0 [O_ 2 (.mv (.const (.string ⟨#[]⟩))) 0]) .ret)))
theorem gc83_ok:compF Tryz.prog Tryz.f83=some (gc83.er,39,[.tmp 2]):=by unfold gc83;kernel_rfl
theorem p_ref10_Has_v (a0:Int):CallsO Tryz.prog 83 [.y8 a0] V.s (p_ref10_Has a0):=by
 refine callsO_comp mix Tryz.func83 gc83_ok fun r H=>?_
 rw [p_ref10_Has] at H
 conv=>whnf
 refine tst_c H (fun b1 H=>?_) (fun b1 H=>?_)
 ·conv=>whnf
  exact fin0_c (enc:=V.s) H (.inr rfl) (.cons (.tmp rfl) (.nil)) rfl rfl
 conv=>whnf
 refine tst_c H (fun b2 H=>?_) (fun b2 H=>?_)
 ·conv=>whnf
  exact fin0_c (enc:=V.s) H (.inr rfl) (.cons (.tmp rfl) (.nil)) rfl rfl
 conv=>whnf
 refine tst_c H (fun b3 H=>?_) (fun b3 H=>?_)
 ·conv=>whnf
  exact fin0_c (enc:=V.s) H (.inr rfl) (.cons (.tmp rfl) (.nil)) rfl rfl
 conv=>whnf
 refine tst_c H (fun b4 H=>?_) (fun b4 H=>?_)
 ·conv=>whnf
  refine Tst.T ?_;conv=>whnf
  exact fin0_c (enc:=V.s) H (.inr rfl) (.cons (.tmp rfl) (.nil)) rfl rfl
 conv=>whnf
 refine tst_c H (fun b5 H=>?_) (fun b5 H=>?_)
 ·conv=>whnf
  refine Tst.T ?_;conv=>whnf
  exact fin0_c (enc:=V.s) H (.inr rfl) (.cons (.tmp rfl) (.nil)) rfl rfl
 conv=>whnf
 refine tst_c H (fun b6 H=>?_) (fun b6 H=>?_)
 ·conv=>whnf
  refine Tst.T ?_;conv=>whnf
  exact fin0_c (enc:=V.s) H (.inr rfl) (.cons (.tmp rfl) (.nil)) rfl rfl
 conv=>whnf
 refine tst_c H (fun b7 H=>?_) (fun b7 H=>?_)
 ·conv=>whnf
  refine Tst.T ?_;conv=>whnf
  exact fin0_c (enc:=V.s) H (.inr rfl) (.cons (.tmp rfl) (.nil)) rfl rfl
 conv=>whnf
 refine tst_c H (fun b8 H=>?_) (fun b8 H=>?_)
 ·conv=>whnf
  refine Tst.T ?_;conv=>whnf
  exact fin0_c (enc:=V.s) H (.inr rfl) (.cons (.tmp rfl) (.nil)) rfl rfl
 conv=>whnf
 refine tst_c H (fun b9 H=>?_) (fun b9 H=>?_)
 ·conv=>whnf
  refine Tst.T ?_;conv=>whnf
  exact fin0_c (enc:=V.s) H (.inr rfl) (.cons (.tmp rfl) (.nil)) rfl rfl
 conv=>whnf
 refine tst_c H (fun b10 H=>?_) (fun b10 H=>?_)
 ·conv=>whnf
  exact fin0_c (enc:=V.s) H (.inr rfl) (.cons (.tmp rfl) (.nil)) rfl rfl
 conv=>whnf
 refine tst_c H (fun b11 H=>?_) (fun b11 H=>?_)
 ·conv=>whnf
  refine Tst.T ?_;conv=>whnf
  exact fin0_c (enc:=V.s) H (.inr rfl) (.cons (.tmp rfl) (.nil)) rfl rfl
 conv=>whnf
 refine tst_c H (fun b12 H=>?_) (fun b12 H=>?_)
 ·conv=>whnf
  refine Tst.T ?_;conv=>whnf
  exact fin0_c (enc:=V.s) H (.inr rfl) (.cons (.tmp rfl) (.nil)) rfl rfl
 conv=>whnf
 refine tst_c H (fun b13 H=>?_) (fun b13 H=>?_)
 ·conv=>whnf
  refine Tst.T ?_;conv=>whnf
  exact fin0_c (enc:=V.s) H (.inr rfl) (.cons (.tmp rfl) (.nil)) rfl rfl
 conv=>whnf
 refine tst_c H (fun b14 H=>?_) (fun b14 H=>?_)
 ·conv=>whnf
  exact fin0_c (enc:=V.s) H (.inr rfl) (.cons (.tmp rfl) (.nil)) rfl rfl
 conv=>whnf
 refine tst_c H (fun b15 H=>?_) (fun b15 H=>?_)
 ·conv=>whnf
  exact fin0_c (enc:=V.s) H (.inr rfl) (.cons (.tmp rfl) (.nil)) rfl rfl
 conv=>whnf
 refine tst_c H (fun b16 H=>?_) (fun b16 H=>?_)
 ·conv=>whnf
  exact fin0_c (enc:=V.s) H (.inr rfl) (.cons (.tmp rfl) (.nil)) rfl rfl
 conv=>whnf
 refine tst_c H (fun b17 H=>?_) (fun b17 H=>?_)
 ·conv=>whnf
  exact fin0_c (enc:=V.s) H (.inr rfl) (.cons (.tmp rfl) (.nil)) rfl rfl
 conv=>whnf
 refine tst_c H (fun b18 H=>?_) (fun b18 H=>?_)
 ·conv=>whnf
  exact fin0_c (enc:=V.s) H (.inr rfl) (.cons (.tmp rfl) (.nil)) rfl rfl
 conv=>whnf
 refine tst_c H (fun b19 H=>?_) (fun b19 H=>?_)
 ·conv=>whnf
  exact fin0_c (enc:=V.s) H (.inr rfl) (.cons (.tmp rfl) (.nil)) rfl rfl
 conv=>whnf
 refine tst_c H (fun b20 H=>?_) (fun b20 H=>?_)
 ·conv=>whnf
  exact fin0_c (enc:=V.s) H (.inr rfl) (.cons (.tmp rfl) (.nil)) rfl rfl
 conv=>whnf
 refine tst_c H (fun b21 H=>?_) (fun b21 H=>?_)
 ·conv=>whnf
  exact fin0_c (enc:=V.s) H (.inr rfl) (.cons (.tmp rfl) (.nil)) rfl rfl
 conv=>whnf
 refine tst_c H (fun b22 H=>?_) (fun b22 H=>?_)
 ·conv=>whnf
  exact fin0_c (enc:=V.s) H (.inr rfl) (.cons (.tmp rfl) (.nil)) rfl rfl
 conv=>whnf
 exact fin0_c (enc:=V.s) H (.inr rfl) (.cons (.tmp rfl) (.nil)) rfl rfl
end Go.Proofs.YtdbigmjlhkgeoaaGreat

namespace Go.Proofs.YtdbigmjlhkgeoaaGreat
open Go.RowKit
set_option maxRecDepth 100000
set_option maxHeartbeats 4000000
def gc31:BCode:=(.seq (R_ 0 [O_ 2 (.mv (i_ 0)) 0]) (.seq (.seq (R_ 0 [O_ 6 (.mv (t_ 0)) 0,O_ 7 (.lens (t_ 6)) 0,O_ 8 (.bin .gtr (t_ 7) (i_ 16)) 0]) (.cond (t_ 8) (.seq (R_ 0 [O_ 2 (.mv (i_ 5)) 0]) .ret) .skip)) (.seq (.seq (R_ 0 [O_ 9 (.mv (t_ 0)) 0,O_ 10 (.cl 60 [(t_ 9)]) 0,O_ 11 (.bin .neq (t_ 10) (i_ 0)) 0]) (.cond (t_ 11) (.seq (R_ 0 [O_ 12 (.mv (t_ 0)) 0,O_ 13 (.cl 60 [(t_ 12)]) 0,O_ 2 (.mv (t_ 13)) 0]) .ret) .skip)) (.seq (.seq (R_ 0 [O_ 3 (.mv (i_ 0)) 0]) (.block 0 (.loop (.seq (.seq (R_ 0 [O_ 14 (.mv (t_ 3)) 0,O_ 15 (.mv (t_ 0)) 0,O_ 16 (.lens (t_ 15)) 0,O_ 17 (.bin .lss (t_ 14) (t_ 16)) 0]) (.cond (t_ 17) .skip (.exit 0))) (.seq (.block 1 (.seq (R_ 0 [O_ 20 (.mv (t_ 0)) 0,O_ 21 (.mv (t_ 3)) 0,O_ 22 (.ixs 8 (t_ 20) (t_ 21)) 0,O_ 23 (.fa 5 (t_ 22)) 0,O_ 24 (.ld 3 true (t_ 23)) 0,O_ 25 (.cl 61 [(t_ 24)]) 0,O_ 26 (.bin .neq (t_ 25) (i_ 0)) 0]) (.cond (t_ 26) (.seq (R_ 0 [O_ 27 (.mv (t_ 0)) 0,O_ 28 (.mv (t_ 3)) 0,O_ 29 (.ixs 8 (t_ 27) (t_ 28)) 0,O_ 30 (.fa 5 (t_ 29)) 0,O_ 31 (.ld 3 true (t_ 30)) 0,O_ 32 (.cl 61 [(t_ 31)]) 0,O_ 2 (.mv (t_ 32)) 0]) .ret) .skip))) (R_ 0 [O_ 18 (.mv (t_ 3)) 0,O_ 19 (.bin .add (t_ 18) (i_ 1)) 0,O_ 3 (.mv (t_ 19)) 0])))))) (.seq (.seq (R_ 0 [O_ 4 (.mv (i_ 1)) 0]) (.block 2 (.loop (.seq (.seq (R_ 0 [O_ 33 (.mv (t_ 4)) 0,O_ 34 (.mv (t_ 0)) 0,O_ 35 (.lens (t_ 34)) 0,O_ 36 (.bin .lss (t_ 33) (t_ 35)) 0]) (.cond (t_ 36) .skip (.exit 2))) (.seq (.block 3 (.seq (.reg 0 [O_ 39 (.mv (t_ 0)) 0,O_ 40 (.mv (t_ 4)) 0,O_ 41 (.bin .sub (t_ 40) (i_ 1)) 0,O_ 42 (.ixs 8 (t_ 39) (t_ 41)) 0,O_ 43 (.fa 0 (t_ 42)) 0,O_ 44 (.ld 1 false (t_ 43)) 0,O_ 45 (.mv (t_ 0)) 0,O_ 46 (.mv (t_ 4)) 0,O_ 47 (.ixs 8 (t_ 45) (t_ 46)) 0,O_ 48 (.fa 0 (t_ 47)) 0,O_ 49 (.ld 1 false (t_ 48)) 0,O_ 50 (.bin .geq (t_ 44) (t_ 49)) 0] (some [[],[],[1],[1,2,0],[0,2,1,3],[3,1,2,0,4],[],[],[7,6],[6,7,8],[8,7,6,9],[9,6,7,8,10,4,0,2,1,3,5]]) 0 []) (.cond (t_ 50) (.seq (R_ 0 [O_ 2 (.mv (i_ 10)) 0]) .ret) .skip))) (R_ 0 [O_ 37 (.mv (t_ 4)) 0,O_ 38 (.bin .add (t_ 37) (i_ 1)) 0,O_ 4 (.mv (t_ 38)) 0])))))) (.seq (.seq (R_ 0 [O_ 5 (.mv (i_ 0)) 0]) (.block 4 (.loop (.seq (.seq (R_ 0 [O_ 51 (.mv (t_ 5)) 0,O_ 52 (.mv (t_ 0)) 0,O_ 53 (.lens (t_ 52)) 0,O_ 54 (.bin .lss (t_ 51) (t_ 53)) 0]) (.cond (t_ 54) .skip (.exit 4))) (.seq (.block 5 (.seq (R_ 0 [O_ 57 (.mv (t_ 0)) 0,O_ 58 (.mv (t_ 5)) 0,O_ 59 (.ixs 8 (t_ 57) (t_ 58)) 0,O_ 60 (.ld 8 true (t_ 59)) 0,O_ 61 (.cl 36 [(t_ 60)]) 0,O_ 62 (.bin .neq (t_ 61) (.const (.string ⟨#[]⟩))) 0,O_ 63 (.mv (t_ 62)) 0,⟨(some 64),.mv (t_ 0),(some (63,true)),0⟩,⟨(some 65),.mv (t_ 0),(some (63,true)),0⟩,⟨(some 66),.mv (t_ 5),(some (63,true)),0⟩,⟨(some 67),.ixs 8 (t_ 65) (t_ 66),(some (63,true)),0⟩,⟨(some 68),.ld 8 true (t_ 67),(some (63,true)),0⟩,⟨(some 69),.cl 36 [(t_ 68)],(some (63,true)),0⟩,⟨(some 70),.cl 50 [(t_ 64),(t_ 69)],(some (63,true)),0⟩,⟨(some 71),.mv (t_ 5),(some (63,true)),0⟩,⟨(some 72),.bin .neq (t_ 70) (t_ 71),(some (63,true)),0⟩,O_ 73 (.pick (t_ 63) (t_ 72) (b_ false)) 0]) (.cond (t_ 73) (.seq (R_ 0 [O_ 2 (.mv (i_ 13)) 0]) .ret) .skip))) (R_ 0 [O_ 55 (.mv (t_ 5)) 0,O_ 56 (.bin .add (t_ 55) (i_ 1)) 0,O_ 5 (.mv (t_ 56)) 0])))))) (.seq (R_ 0 [O_ 2 (.mv (i_ 0)) 0]) .ret)))))))
theorem gc31_ok:compF Tryz.prog Tryz.f31=some (gc31.er,74,[.tmp 2]):=by unfold gc31;kernel_rfl
theorem p_ref31_Check_v {u1:Bool} (a0:List ConnsConn):CallsO Tryz.prog 31 [.sl (List.map ConnsConn.v a0) u1] V.i (p_ref31_Check a0):=by
 refine callsO_comp mix Tryz.func31 gc31_ok fun r H=>?_
 rw [p_ref31_Check] at H
 conv=>whnf
 refine LenQ.M ?_;conv=>whnf
 refine tst_c H (fun b1 H=>?_) (fun b1 H=>?_)
 ·conv=>whnf
  exact fi_ H
 conv=>whnf
 refine ask_c (p_ref31_numbers_v _) H rfl rfl (fun v2 H=>?_);conv=>whnf
 refine tst_c H (fun b3 H=>?_) (fun b3 H=>?_)
 ·conv=>whnf
  refine ask_c (p_ref31_numbers_v _) H rfl rfl (fun v4 H=>?_);conv=>whnf
  exact fi_ H
 conv=>whnf
 obtain ⟨o6,HL7,HQ8⟩:=bind_c H
 refine loop_c [2,3] [14,15,16,17,18,19,20,21,22,23,24,25,26,27,28,29,30,31,32] [14,15,16,17,18,19,20,21,22,23,24,25,26,27,28,29,30,31,32] (fun n vals st=>(∃ y10,p_ref31_Check_l1  a0 n y10=some o6∧vals=[.i (0:Int),.i y10]∧st=[])) fuel 0 [] (⟨_,HL7,rfl,rfl⟩) (Nat.zero_le _) rfl (by kernel_rfl) (by kernel_rfl) rfl trivial ?_
 rintro (_ | n9) _ _ (⟨y10,H,rfl,rfl⟩)
 ·rw [p_ref31_Check_l1] at H;cases H
 rw [p_ref31_Check_l1] at H
 conv=>whnf
 refine LenQ.M ?_;conv=>whnf
 refine tst_c H (fun b11 H=>?_) (fun b11 H=>?_)
 ·conv=>whnf
  refine ixs_c (f:=ConnsConn.v) H (fun _=>rfl) (fun x12 H=>?_);conv=>whnf
  refine lq_ ?_;conv=>whnf
  refine ask_c (p_ref12_Check_v _) H rfl rfl (fun v13 H=>?_);conv=>whnf
  refine tst_d H (fun b14 H=>?_) (fun b14 H=>?_)
  ·conv=>whnf
   refine Ari.w ?_;conv=>whnf
   exact again_c [14,15,16,17,18,19,20,21,22,23,24,25,26,27,28,29,30,31,32] n9 0 [] (⟨_,H,rfl,rfl⟩) (Nat.lt_succ_self _) (Nat.zero_le _) rfl (by kernel_rfl) (by kernel_rfl) rfl trivial
  conv=>whnf
  refine ixs_c (f:=ConnsConn.v) H (fun _=>rfl) (fun x15 H=>?_);conv=>whnf
  refine lq_ ?_;conv=>whnf
  refine ask_c (p_ref12_Check_v _) H rfl rfl (fun v16 H=>?_);conv=>whnf
  obtain rfl:=Option.some.inj H
  have H:=HQ8
  try dsimp only at H
  exact fi_ H
 conv=>whnf
 obtain rfl:=Option.some.inj H
 have H:=HQ8
 try dsimp only at H
 obtain ⟨o18,HL19,HQ20⟩:=bind_c H
 refine loop_c [2,4] [33,34,35,36,37,38,39,40,41,42,43,44,45,46,47,48,49,50] [33,34,35,36,37,38,39,40,41,42,43,44,45,46,47,48,49,50] (fun n vals st=>(∃ y22,p_ref31_Check_l2  a0 n y22=some o18∧vals=[.i (0:Int),.i y22]∧st=[])) fuel 0 [] (⟨_,HL19,rfl,rfl⟩) (Nat.zero_le _) rfl (by kernel_rfl) (by kernel_rfl) rfl trivial ?_
 rintro (_ | n21) _ _ (⟨y22,H,rfl,rfl⟩)
 ·rw [p_ref31_Check_l2] at H;cases H
 rw [p_ref31_Check_l2] at H
 conv=>whnf
 refine LenQ.M ?_;conv=>whnf
 refine tst_c H (fun b23 H=>?_) (fun b23 H=>?_)
 ·conv=>whnf
  refine Ari.w ?_;conv=>whnf
  refine ixs_c (f:=ConnsConn.v) H (fun _=>rfl) (fun x24 H=>?_);conv=>whnf
  refine lq_ ?_;conv=>whnf
  refine ixs_c (f:=ConnsConn.v) H (fun _=>rfl) (fun x25 H=>?_);conv=>whnf
  refine lq_ ?_;conv=>whnf
  refine FootQ.mk ⟨rfl,?_⟩;conv=>whnf
  refine tst_c H (fun b26 H=>?_) (fun b26 H=>?_)
  ·conv=>whnf
   obtain rfl:=Option.some.inj H
   have H:=HQ20
   try dsimp only at H
   exact fi_ H
  conv=>whnf
  refine Ari.w ?_;conv=>whnf
  exact again_c [33,34,35,36,37,38,39,40,41,42,43,44,45,46,47,48,49,50] n21 0 [] (⟨_,H,rfl,rfl⟩) (Nat.lt_succ_self _) (Nat.zero_le _) rfl (by kernel_rfl) (by kernel_rfl) rfl trivial
 conv=>whnf
 obtain rfl:=Option.some.inj H
 have H:=HQ20
 try dsimp only at H
 obtain ⟨o28,HL29,HQ30⟩:=bind_c H
 refine loop_c [2,5] [51,52,53,54,55,56,57,58,59,60,61,62,63,64,65,66,67,68,69,70,71,72,73] [51,52,53,54,55,56,57,58,59,60,61,62,63,64,65,66,67,68,69,70,71,72,73] (fun n vals st=>(∃ y32,p_ref31_Check_l3  a0 n y32=some o28∧vals=[.i (0:Int),.i y32]∧st=[])) fuel 0 [] (⟨_,HL29,rfl,rfl⟩) (Nat.zero_le _) rfl (by kernel_rfl) (by kernel_rfl) rfl trivial ?_
 rintro (_ | n31) _ _ (⟨y32,H,rfl,rfl⟩)
 ·rw [p_ref31_Check_l3] at H;cases H
 rw [p_ref31_Check_l3] at H
 conv=>whnf
 refine LenQ.M ?_;conv=>whnf
 refine tst_d H (fun b33 H=>?_) (fun b33 H=>?_)
 ·conv=>whnf
  obtain rfl:=Option.some.inj H
  have H:=HQ30
  try dsimp only at H
  exact fi_ H
 conv=>whnf
 refine ixs_c (f:=ConnsConn.v) H (fun _=>rfl) (fun x34 H=>?_);conv=>whnf
 refine ask_c (p_ref31_Key_v _) H rfl rfl (fun v35 H=>?_);conv=>whnf
 refine Tst.not ?_
 refine tst_c H (fun b36 H=>?_) (fun b36 H=>?_)
 ·conv=>whnf
  iterate 10 (refine Tst.F ?_;conv=>whnf)
  refine Ari.w ?_;conv=>whnf
  exact again_c [51,52,53,54,55,56,57,58,59,60,61,62,63,64,65,66,67,68,69,70,71,72,73] n31 0 [] (⟨_,H,rfl,rfl⟩) (Nat.lt_succ_self _) (Nat.zero_le _) rfl (by kernel_rfl) (by kernel_rfl) rfl trivial
 conv=>whnf
 iterate 3 (refine Tst.T ?_;conv=>whnf)
 refine ixs_c (f:=ConnsConn.v) H (fun _=>rfl) (fun x37 H=>?_);conv=>whnf
 iterate 2 (refine Tst.T ?_;conv=>whnf)
 refine ask_c (p_ref31_Key_v _) H rfl rfl (fun v38 H=>?_);conv=>whnf
 refine Tst.T ?_;conv=>whnf
 refine ask_c (p_ref31_keyed_v _ _) H rfl rfl (fun v39 H=>?_);conv=>whnf
 iterate 3 (refine Tst.T ?_;conv=>whnf)
 refine tst_c H (fun b40 H=>?_) (fun b40 H=>?_)
 ·conv=>whnf
  obtain rfl:=Option.some.inj H
  have H:=HQ30
  try dsimp only at H
  exact fi_ H
 conv=>whnf
 refine Ari.w ?_;conv=>whnf
 exact again_c [51,52,53,54,55,56,57,58,59,60,61,62,63,64,65,66,67,68,69,70,71,72,73] n31 0 [] (⟨_,H,rfl,rfl⟩) (Nat.lt_succ_self _) (Nat.zero_le _) rfl (by kernel_rfl) (by kernel_rfl) rfl trivial
def gc44:BCode:=(.seq (R_ 0 [O_ 4 (.mv (i_ 0)) 0]) (.seq (.seq (R_ 0 [O_ 5 (.mv (i_ 0)) 0]) (.block 0 (.loop (.seq (.seq (R_ 0 [O_ 6 (.mv (t_ 5)) 0,O_ 7 (.mv (t_ 0)) 0,O_ 8 (.lens (t_ 7)) 0,O_ 9 (.bin .lss (t_ 6) (t_ 8)) 0]) (.cond (t_ 9) .skip (.exit 0))) (.seq (.block 1 (.seq (R_ 0 [O_ 12 (.mv (t_ 0)) 0,O_ 13 (.mv (t_ 5)) 0,O_ 14 (.ixs 8 (t_ 12) (t_ 13)) 0,O_ 15 (.fa 0 (t_ 14)) 0,O_ 16 (.ld 1 false (t_ 15)) 0,O_ 17 (.mv (t_ 1)) 0,O_ 18 (.bin .eql (t_ 16) (t_ 17)) 0]) (.cond (t_ 18) (.seq (R_ 0 [O_ 19 (.mv (t_ 5)) 0,O_ 4 (.mv (t_ 19)) 0]) .ret) .skip))) (R_ 0 [O_ 10 (.mv (t_ 5)) 0,O_ 11 (.bin .add (t_ 10) (i_ 1)) 0,O_ 5 (.mv (t_ 11)) 0])))))) (.seq (R_ 0 [O_ 4 (.mv (.const (.int .i64 (-1)))) 0]) .ret)))
theorem gc44_ok:compF Tryz.prog Tryz.f44=some (gc44.er,20,[.tmp 4]):=by unfold gc44;kernel_rfl
theorem p_ref31_place_v {u1:Bool} (a0:List ConnsConn) (a1:Int):CallsO Tryz.prog 44 [.sl (List.map ConnsConn.v a0) u1,.i a1] V.i (p_ref31_place a0 a1):=by
 refine callsO_comp mix Tryz.func44 gc44_ok fun r H=>?_
 rw [p_ref31_place] at H
 conv=>whnf
 obtain ⟨o2,HL3,HQ4⟩:=bind_c H
 refine loop_c [4,5] [6,7,8,9,10,11,12,13,14,15,16,17,18,19] [6,7,8,9,10,11,12,13,14,15,16,17,18,19] (fun n vals st=>(∃ y6,p_ref31_place_l1  a0 a1 n y6=some o2∧vals=[.i (0:Int),.i y6]∧st=[])) fuel 0 [] (⟨_,HL3,rfl,rfl⟩) (Nat.zero_le _) rfl (by kernel_rfl) (by kernel_rfl) rfl trivial ?_
 rintro (_ | n5) _ _ (⟨y6,H,rfl,rfl⟩)
 ·rw [p_ref31_place_l1] at H;cases H
 rw [p_ref31_place_l1] at H
 conv=>whnf
 refine LenQ.M ?_;conv=>whnf
 refine tst_d H (fun b7 H=>?_) (fun b7 H=>?_)
 ·conv=>whnf
  obtain rfl:=Option.some.inj H
  have H:=HQ4
  try dsimp only at H
  exact fi_ H
 conv=>whnf
 refine ixs_c (f:=ConnsConn.v) H (fun _=>rfl) (fun x8 H=>?_);conv=>whnf
 refine lq_ ?_;conv=>whnf
 refine tst_c H (fun b9 H=>?_) (fun b9 H=>?_)
 ·conv=>whnf
  obtain rfl:=Option.some.inj H
  have H:=HQ4
  try dsimp only at H
  exact fi_ H
 conv=>whnf
 refine Ari.w ?_;conv=>whnf
 exact again_c [6,7,8,9,10,11,12,13,14,15,16,17,18,19] n5 0 [] (⟨_,H,rfl,rfl⟩) (Nat.lt_succ_self _) (Nat.zero_le _) rfl (by kernel_rfl) (by kernel_rfl) rfl trivial
def gc11:BCode:=(.seq (R_ 0 [O_ 6 (.mv (.const (.slice none 0 0))) 0,O_ 7 (.mv (i_ 0)) 0]) (.seq (.block 0 (.seq (R_ 0 [O_ 11 (.mv (t_ 0)) 0,O_ 12 (.cl 31 [(t_ 11)]) 0,O_ 13 (.bin .neq (t_ 12) (i_ 0)) 0,O_ 10 (.mv (t_ 13)) 0]) (.cond (t_ 10) (.seq (R_ 0 [O_ 14 (.mv (t_ 0)) 0,O_ 15 (.mv (t_ 0)) 0,O_ 16 (.cl 31 [(t_ 15)]) 0,O_ 6 (.mv (t_ 14)) 0,O_ 7 (.mv (t_ 16)) 0]) .ret) (.seq (R_ 0 [O_ 18 (.mv (t_ 1)) 0,O_ 19 (.cl 43 [(t_ 18),(i_ 0),(i_ 255)]) 0,O_ 20 (.un .not (t_ 19)) 0,O_ 21 (.mv (t_ 20)) 0,⟨(some 22),.mv (t_ 2),(some (21,false)),0⟩,⟨(some 23),.cl 43 [(t_ 22),(i_ 0),(i_ 65535)],(some (21,false)),0⟩,⟨(some 24),.un .not (t_ 23),(some (21,false)),0⟩,O_ 25 (.pick (t_ 21) (b_ true) (t_ 24)) 0,O_ 17 (.mv (t_ 25)) 0]) (.cond (t_ 17) (.seq (R_ 0 [O_ 26 (.mv (t_ 0)) 0,O_ 6 (.mv (t_ 26)) 0,O_ 7 (.mv (i_ 8)) 0]) .ret) (.seq (R_ 0 [O_ 28 (.mv (t_ 0)) 0,O_ 29 (.mv (t_ 1)) 0,O_ 30 (.cl 44 [(t_ 28),(t_ 29)]) 0,O_ 31 (.bin .geq (t_ 30) (i_ 0)) 0,O_ 27 (.mv (t_ 31)) 0]) (.cond (t_ 27) (.seq (R_ 0 [O_ 32 (.mv (t_ 0)) 0,O_ 6 (.mv (t_ 32)) 0,O_ 7 (.mv (i_ 13)) 0]) .ret) (.seq (R_ 0 [O_ 34 (.mv (t_ 0)) 0,O_ 35 (.lens (t_ 34)) 0,O_ 36 (.bin .geq (t_ 35) (i_ 16)) 0,O_ 33 (.mv (t_ 36)) 0]) (.cond (t_ 33) (.seq (R_ 0 [O_ 37 (.mv (t_ 0)) 0,O_ 6 (.mv (t_ 37)) 0,O_ 7 (.mv (i_ 7)) 0]) .ret) .skip))))))))) (.seq (R_ 0 [O_ 8 (.mv (i_ 0)) 0]) (.seq (.block 1 (.loop (.seq (.seq (R_ 0 [O_ 38 (.mv (t_ 8)) 0,O_ 39 (.mv (t_ 0)) 0,O_ 40 (.lens (t_ 39)) 0,O_ 41 (.bin .lss (t_ 38) (t_ 40)) 0,O_ 42 (.mv (t_ 41)) 0,⟨(some 43),.mv (t_ 0),(some (42,true)),0⟩,⟨(some 44),.mv (t_ 8),(some (42,true)),0⟩,⟨(some 45),.ixs 8 (t_ 43) (t_ 44),(some (42,true)),0⟩,⟨(some 46),.fa 0 (t_ 45),(some (42,true)),0⟩,⟨(some 47),.ld 1 false (t_ 46),(some (42,true)),0⟩,⟨(some 48),.mv (t_ 1),(some (42,true)),0⟩,⟨(some 49),.bin .lss (t_ 47) (t_ 48),(some (42,true)),0⟩,O_ 50 (.pick (t_ 42) (t_ 49) (b_ false)) 0]) (.cond (t_ 50) .skip (.exit 1))) (.block 2 (R_ 0 [O_ 51 (.mv (t_ 8)) 0,O_ 52 (.bin .add (t_ 51) (i_ 1)) 0,O_ 8 (.mv (t_ 52)) 0]))))) (.seq (R_ 0 [O_ 9 (.mv (.const (.slice none 0 0))) 0]) (.seq (.reg 4 [O_ 53 (.mv (t_ 9)) 0,O_ 54 (.mv (t_ 0)) 0,O_ 55 (.mv (t_ 8)) 0,O_ 56 (.sls 8 (t_ 54) none (some (t_ 55)) none) 0,O_ 57 (.ap 8 88 (t_ 53) (t_ 56)) 0,O_ 58 (.mv (t_ 1)) 1,O_ 59 (.mv (t_ 2)) 1,O_ 60 (.bd [(.lit (.int .i64 0)),(.lit (.int .i64 0)),(.lit (.string ⟨#[]⟩)),(.lit (.string ⟨#[]⟩)),(.lit (.int .i64 0)),(.lit (.string ⟨#[]⟩)),(.lit (.int .i64 0)),(.lit (.int .i64 0))] [(0,1,(t_ 58)),(1,1,(t_ 59))]) 1,O_ 61 (.bs 8 1 [(.lit (.int .i64 0)),(.lit (.int .i64 0)),(.lit (.string ⟨#[]⟩)),(.lit (.string ⟨#[]⟩)),(.lit (.int .i64 0)),(.lit (.string ⟨#[]⟩)),(.lit (.int .i64 0)),(.lit (.int .i64 0))] [(0,(t_ 60))]) 1,O_ 62 (.ap 8 88 (t_ 57) (t_ 61)) 2,O_ 63 (.mv (t_ 0)) 3,O_ 64 (.mv (t_ 8)) 3,O_ 65 (.sls 8 (t_ 63) (some (t_ 64)) none none) 3,O_ 66 (.ap 8 88 (t_ 62) (t_ 65)) 3,O_ 6 (.mv (t_ 66)) 4,O_ 7 (.mv (i_ 0)) 4] (some [[],[],[],[2,1],[1,2,3,0],[],[],[6,5],[5,6,7],[7,6,5,8,0,3,2,1,4],[],[],[11,10],[10,11,12,4,1,2,3,0,8,5,6,7,9],[9,7,6,5,8,0,3,2,1,4,12,11,10,13],[13,10,11,12,4,1,2,3,0,8,5,6,7,9,14]]) 0 []) .ret))))))
theorem gc11_ok:compF Tryz.prog Tryz.f11=some (gc11.er,67,[.tmp 6,.tmp 7]):=by unfold gc11;kernel_rfl
theorem p_ref31_Open_v {u1:Bool} (a0:List ConnsConn) (a1:Int) (a2:Int):CallsO Tryz.prog 11 [.sl (List.map ConnsConn.v a0) u1,.i a1,.i a2] (fun r:(List ConnsConn) × Int=>.tup [(fun l:List ConnsConn=>V.sl (l.map ConnsConn.v) false) r.1,V.i r.2]) (p_ref31_Open a0 a1 a2):=by
 refine callsO_comp mix Tryz.func11 gc11_ok fun r H=>?_
 rw [p_ref31_Open] at H
 conv=>whnf
 refine ask_c (p_ref31_Check_v _) H rfl rfl (fun v1 H=>?_);conv=>whnf
 refine tst_c H (fun b2 H=>?_) (fun b2 H=>?_)
 ·conv=>whnf
  refine ask_c (p_ref31_Check_v _) H rfl rfl (fun v3 H=>?_);conv=>whnf
  refine finR_c (enc:=(fun r:(List ConnsConn) × Int=>.tup [(fun l:List ConnsConn=>V.sl (l.map ConnsConn.v) false) r.1,V.i r.2])) H ?_;conv=>whnf
  exact ⟨_,.tup (.cons (.c (.slw)) (.cons (.c (.id rfl)) (.nil)))⟩
 conv=>whnf
 refine ask_c (p_ref31_in_v _ _ _) H rfl rfl (fun v4 H=>?_);conv=>whnf
 refine Tst.not ?_
 refine tst_d H (fun b5 H=>?_) (fun b5 H=>?_)
 ·conv=>whnf
  iterate 4 (refine Tst.T ?_;conv=>whnf)
  refine finR_c (enc:=(fun r:(List ConnsConn) × Int=>.tup [(fun l:List ConnsConn=>V.sl (l.map ConnsConn.v) false) r.1,V.i r.2])) H ?_;conv=>whnf
  exact ⟨_,.tup (.cons (.c (.slw)) (.cons (.c (.id rfl)) (.nil)))⟩
 conv=>whnf
 refine Tst.F ?_;conv=>whnf
 refine ask_c (p_ref31_in_v _ _ _) H rfl rfl (fun v6 H=>?_);conv=>whnf
 iterate 2 (refine Tst.F ?_;conv=>whnf)
 refine Tst.not ?_
 refine tst_d H (fun b7 H=>?_) (fun b7 H=>?_)
 ·conv=>whnf
  refine finR_c (enc:=(fun r:(List ConnsConn) × Int=>.tup [(fun l:List ConnsConn=>V.sl (l.map ConnsConn.v) false) r.1,V.i r.2])) H ?_;conv=>whnf
  exact ⟨_,.tup (.cons (.c (.slw)) (.cons (.c (.id rfl)) (.nil)))⟩
 conv=>whnf
 refine ask_c (p_ref31_place_v _ _) H rfl rfl (fun v8 H=>?_);conv=>whnf
 refine tst_c H (fun b9 H=>?_) (fun b9 H=>?_)
 ·conv=>whnf
  refine finR_c (enc:=(fun r:(List ConnsConn) × Int=>.tup [(fun l:List ConnsConn=>V.sl (l.map ConnsConn.v) false) r.1,V.i r.2])) H ?_;conv=>whnf
  exact ⟨_,.tup (.cons (.c (.slw)) (.cons (.c (.id rfl)) (.nil)))⟩
 conv=>whnf
 refine LenQ.M ?_;conv=>whnf
 refine tst_c H (fun b10 H=>?_) (fun b10 H=>?_)
 ·conv=>whnf
  refine finR_c (enc:=(fun r:(List ConnsConn) × Int=>.tup [(fun l:List ConnsConn=>V.sl (l.map ConnsConn.v) false) r.1,V.i r.2])) H ?_;conv=>whnf
  exact ⟨_,.tup (.cons (.c (.slw)) (.cons (.c (.id rfl)) (.nil)))⟩
 conv=>whnf
 obtain ⟨o12,HL13,HQ14⟩:=bind_c H
 refine loop_c [8] [38,39,40,41,42,43,44,45,46,47,48,49,50,51,52] [38,39,40,41,42,43,44,45,46,47,48,49,50,51,52] (fun n vals st=>(∃ y16,p_ref31_Open_l1  a0 a1 n y16=some o12∧vals=[.i y16]∧st=[])) fuel 0 [] (⟨_,HL13,rfl,rfl⟩) (Nat.zero_le _) rfl (by kernel_rfl) (by kernel_rfl) rfl trivial ?_
 rintro (_ | n15) _ _ (⟨y16,H,rfl,rfl⟩)
 ·rw [p_ref31_Open_l1] at H;cases H
 rw [p_ref31_Open_l1] at H
 conv=>whnf
 refine LenQ.M ?_;conv=>whnf
 refine tst_d H (fun b17 H=>?_) (fun b17 H=>?_)
 ·conv=>whnf
  iterate 8 (refine Tst.F ?_;conv=>whnf)
  obtain rfl:=Option.some.inj H
  have H:=HQ14
  try dsimp only at H
  refine slsH_c (f:=ConnsConn.v) H (fun _=>rfl) (fun x28 H=>?_);conv=>whnf
  refine appE_c (f:=ConnsConn.v) H (fun _=>rfl) rfl (.v (srcM (f:=ConnsConn.v) (fun _=>rfl) _ _)) (by decide) rfl (fun H=>?_) (fun l29 H=>?_)
  ·conv=>whnf
   refine appN_c (f:=ConnsConn.v) H (fun _=>rfl) (srcM (f:=ConnsConn.v) (fun _=>rfl) [] true) rfl (.v (srcOwn (f:=ConnsConn.v) (l:=[(ConnsConn.mk a1 a2 (⟨#[]⟩ : ByteArray) (⟨#[]⟩ : ByteArray) (0:Int) (DeframeState.mk (⟨#[]⟩ : ByteArray) (0:Int) (0:Int)))]) (fun _=>rfl) rfl rfl rfl)) (by decide) rfl (by simp) (fun l33 H=>?_);conv=>whnf
   refine slsE_c (f:=ConnsConn.v) H (fun _=>rfl) (fun x34 H=>?_);conv=>whnf
   refine appP_c (f:=ConnsConn.v) H (fun _=>rfl) rfl rfl (.v (srcM (f:=ConnsConn.v) (fun _=>rfl) _ _)) (by decide) rfl (fun l35 H=>?_) (fun l35 H=>?_)
   ·conv=>whnf
    refine FootQ.mk ⟨rfl,?_⟩;conv=>whnf
    refine finR_c (enc:=(fun r:(List ConnsConn) × Int=>.tup [(fun l:List ConnsConn=>V.sl (l.map ConnsConn.v) false) r.1,V.i r.2])) H ?_;conv=>whnf
    exact ⟨_,.tup (.cons (.c (fzown (f:=ConnsConn.v) (l:=l35) rfl rfl (fun _=>rfl) (fun _=>rfl))) (.cons (.c (.id rfl)) (.nil)))⟩
   conv=>whnf
   refine FootQ.mk ⟨rfl,?_⟩;conv=>whnf
   refine finR_c (enc:=(fun r:(List ConnsConn) × Int=>.tup [(fun l:List ConnsConn=>V.sl (l.map ConnsConn.v) false) r.1,V.i r.2])) H ?_;conv=>whnf
   exact ⟨_,.tup (.cons (.c (fzown (f:=ConnsConn.v) (l:=l35) rfl rfl (fun _=>rfl) (fun _=>rfl))) (.cons (.c (.id rfl)) (.nil)))⟩
  conv=>whnf
  refine appO_c (f:=ConnsConn.v) H (fun _=>rfl) rfl (Nat.le_refl _) (.v (srcOwn (f:=ConnsConn.v) (l:=[(ConnsConn.mk a1 a2 (⟨#[]⟩ : ByteArray) (⟨#[]⟩ : ByteArray) (0:Int) (DeframeState.mk (⟨#[]⟩ : ByteArray) (0:Int) (0:Int)))]) (fun _=>rfl) rfl rfl rfl)) (by decide) rfl (by simp) (fun l30 H=>?_);conv=>whnf
  refine slsE_c (f:=ConnsConn.v) H (fun _=>rfl) (fun x31 H=>?_);conv=>whnf
  refine appP_c (f:=ConnsConn.v) H (fun _=>rfl) rfl rfl (.v (srcM (f:=ConnsConn.v) (fun _=>rfl) _ _)) (by decide) rfl (fun l32 H=>?_) (fun l32 H=>?_)
  ·conv=>whnf
   refine FootQ.mk ⟨rfl,?_⟩;conv=>whnf
   refine finR_c (enc:=(fun r:(List ConnsConn) × Int=>.tup [(fun l:List ConnsConn=>V.sl (l.map ConnsConn.v) false) r.1,V.i r.2])) H ?_;conv=>whnf
   exact ⟨_,.tup (.cons (.c (fzown (f:=ConnsConn.v) (l:=l32) rfl rfl (fun _=>rfl) (fun _=>rfl))) (.cons (.c (.id rfl)) (.nil)))⟩
  conv=>whnf
  refine FootQ.mk ⟨rfl,?_⟩;conv=>whnf
  refine finR_c (enc:=(fun r:(List ConnsConn) × Int=>.tup [(fun l:List ConnsConn=>V.sl (l.map ConnsConn.v) false) r.1,V.i r.2])) H ?_;conv=>whnf
  exact ⟨_,.tup (.cons (.c (fzown (f:=ConnsConn.v) (l:=l32) rfl rfl (fun _=>rfl) (fun _=>rfl))) (.cons (.c (.id rfl)) (.nil)))⟩
 conv=>whnf
 iterate 2 (refine Tst.T ?_;conv=>whnf)
 refine ixs_c (f:=ConnsConn.v) H (fun _=>rfl) (fun x18 H=>?_);conv=>whnf
 refine Tst.T ?_;conv=>whnf
 refine lq_ ?_;conv=>whnf
 iterate 4 (refine Tst.T ?_;conv=>whnf)
 refine tst_c H (fun b19 H=>?_) (fun b19 H=>?_)
 ·conv=>whnf
  refine Ari.w ?_;conv=>whnf
  exact again_c [38,39,40,41,42,43,44,45,46,47,48,49,50,51,52] n15 0 [] (⟨_,H,rfl,rfl⟩) (Nat.lt_succ_self _) (Nat.zero_le _) rfl (by kernel_rfl) (by kernel_rfl) rfl trivial
 conv=>whnf
 obtain rfl:=Option.some.inj H
 have H:=HQ14
 try dsimp only at H
 refine slsH_c (f:=ConnsConn.v) H (fun _=>rfl) (fun x20 H=>?_);conv=>whnf
 refine appE_c (f:=ConnsConn.v) H (fun _=>rfl) rfl (.v (srcM (f:=ConnsConn.v) (fun _=>rfl) _ _)) (by decide) rfl (fun H=>?_) (fun l21 H=>?_)
 ·conv=>whnf
  refine appN_c (f:=ConnsConn.v) H (fun _=>rfl) (srcM (f:=ConnsConn.v) (fun _=>rfl) [] true) rfl (.v (srcOwn (f:=ConnsConn.v) (l:=[(ConnsConn.mk a1 a2 (⟨#[]⟩ : ByteArray) (⟨#[]⟩ : ByteArray) (0:Int) (DeframeState.mk (⟨#[]⟩ : ByteArray) (0:Int) (0:Int)))]) (fun _=>rfl) rfl rfl rfl)) (by decide) rfl (by simp) (fun l25 H=>?_);conv=>whnf
  refine slsE_c (f:=ConnsConn.v) H (fun _=>rfl) (fun x26 H=>?_);conv=>whnf
  refine appP_c (f:=ConnsConn.v) H (fun _=>rfl) rfl rfl (.v (srcM (f:=ConnsConn.v) (fun _=>rfl) _ _)) (by decide) rfl (fun l27 H=>?_) (fun l27 H=>?_)
  ·conv=>whnf
   refine FootQ.mk ⟨rfl,?_⟩;conv=>whnf
   refine finR_c (enc:=(fun r:(List ConnsConn) × Int=>.tup [(fun l:List ConnsConn=>V.sl (l.map ConnsConn.v) false) r.1,V.i r.2])) H ?_;conv=>whnf
   exact ⟨_,.tup (.cons (.c (fzown (f:=ConnsConn.v) (l:=l27) rfl rfl (fun _=>rfl) (fun _=>rfl))) (.cons (.c (.id rfl)) (.nil)))⟩
  conv=>whnf
  refine FootQ.mk ⟨rfl,?_⟩;conv=>whnf
  refine finR_c (enc:=(fun r:(List ConnsConn) × Int=>.tup [(fun l:List ConnsConn=>V.sl (l.map ConnsConn.v) false) r.1,V.i r.2])) H ?_;conv=>whnf
  exact ⟨_,.tup (.cons (.c (fzown (f:=ConnsConn.v) (l:=l27) rfl rfl (fun _=>rfl) (fun _=>rfl))) (.cons (.c (.id rfl)) (.nil)))⟩
 conv=>whnf
 refine appO_c (f:=ConnsConn.v) H (fun _=>rfl) rfl (Nat.le_refl _) (.v (srcOwn (f:=ConnsConn.v) (l:=[(ConnsConn.mk a1 a2 (⟨#[]⟩ : ByteArray) (⟨#[]⟩ : ByteArray) (0:Int) (DeframeState.mk (⟨#[]⟩ : ByteArray) (0:Int) (0:Int)))]) (fun _=>rfl) rfl rfl rfl)) (by decide) rfl (by simp) (fun l22 H=>?_);conv=>whnf
 refine slsE_c (f:=ConnsConn.v) H (fun _=>rfl) (fun x23 H=>?_);conv=>whnf
 refine appP_c (f:=ConnsConn.v) H (fun _=>rfl) rfl rfl (.v (srcM (f:=ConnsConn.v) (fun _=>rfl) _ _)) (by decide) rfl (fun l24 H=>?_) (fun l24 H=>?_)
 ·conv=>whnf
  refine FootQ.mk ⟨rfl,?_⟩;conv=>whnf
  refine finR_c (enc:=(fun r:(List ConnsConn) × Int=>.tup [(fun l:List ConnsConn=>V.sl (l.map ConnsConn.v) false) r.1,V.i r.2])) H ?_;conv=>whnf
  exact ⟨_,.tup (.cons (.c (fzown (f:=ConnsConn.v) (l:=l24) rfl rfl (fun _=>rfl) (fun _=>rfl))) (.cons (.c (.id rfl)) (.nil)))⟩
 conv=>whnf
 refine FootQ.mk ⟨rfl,?_⟩;conv=>whnf
 refine finR_c (enc:=(fun r:(List ConnsConn) × Int=>.tup [(fun l:List ConnsConn=>V.sl (l.map ConnsConn.v) false) r.1,V.i r.2])) H ?_;conv=>whnf
 exact ⟨_,.tup (.cons (.c (fzown (f:=ConnsConn.v) (l:=l24) rfl rfl (fun _=>rfl) (fun _=>rfl))) (.cons (.c (.id rfl)) (.nil)))⟩
end Go.Proofs.YtdbigmjlhkgeoaaGreat

namespace Go.Proofs.YtdbigmjlhkgeoaaGreat
open Go.RowKit
set_option maxRecDepth 100000
set_option maxHeartbeats 4000000
def gc27:BCode:=(.seq (R_ 1 [O_ 4 (.al (.agg [(.lit (.int .i64 0)),(.lit (.int .i64 0)),(.lit (.string ⟨#[]⟩)),(.lit (.string ⟨#[]⟩)),(.lit (.int .i64 0)),(.lit (.string ⟨#[]⟩)),(.lit (.int .i64 0)),(.lit (.int .i64 0))])) 0,O_ 5 (.mv (b_ false)) 1]) (.seq (R_ 0 [O_ 7 (.mv (t_ 0)) 0,O_ 8 (.mv (t_ 1)) 0,O_ 9 (.cl 44 [(t_ 7),(t_ 8)]) 0,O_ 6 (.mv (t_ 9)) 0]) (.seq (.seq (R_ 0 [O_ 10 (.mv (t_ 0)) 0,O_ 11 (.cl 31 [(t_ 10)]) 0,O_ 12 (.bin .neq (t_ 11) (i_ 0)) 0,O_ 13 (.mv (t_ 12)) 0,⟨(some 14),.mv (t_ 6),(some (13,false)),0⟩,⟨(some 15),.bin .lss (t_ 14) (i_ 0),(some (13,false)),0⟩,O_ 16 (.pick (t_ 13) (b_ true) (t_ 15)) 0]) (.cond (t_ 16) (.seq (R_ 0 [O_ 17 (.bd [(.lit (.int .i64 0)),(.lit (.int .i64 0)),(.lit (.string ⟨#[]⟩)),(.lit (.string ⟨#[]⟩)),(.lit (.int .i64 0)),(.lit (.string ⟨#[]⟩)),(.lit (.int .i64 0)),(.lit (.int .i64 0))] []) 0,U_ (.st 8 (t_ 4) (t_ 17)) 0,O_ 5 (.mv (b_ false)) 0]) .ret) .skip)) (.seq (R_ 0 [O_ 18 (.mv (t_ 0)) 0,O_ 19 (.mv (t_ 6)) 0,O_ 20 (.ixs 8 (t_ 18) (t_ 19)) 0,O_ 21 (.ld 8 true (t_ 20)) 0,U_ (.st 8 (t_ 4) (t_ 21)) 0,O_ 5 (.mv (b_ true)) 0]) .ret))))
theorem gc27_ok:compF Tryz.prog Tryz.f27=some (gc27.er,22,[.cell 4 8 true,.tmp 5]):=by unfold gc27;kernel_rfl
theorem p_ref31_Find_v {u1:Bool} (a0:List ConnsConn) (a1:Int):CallsO Tryz.prog 27 [.sl (List.map ConnsConn.v a0) u1,.i a1] (fun r:ConnsConn × Bool=>.tup [ConnsConn.v r.1,V.b r.2]) (p_ref31_Find a0 a1):=by
 refine callsO_comp mix Tryz.func27 gc27_ok fun r H=>?_
 rw [p_ref31_Find] at H
 conv=>whnf
 refine ask_c (p_ref31_place_v _ _) H rfl rfl (fun v1 H=>?_);conv=>whnf
 refine ask_c (p_ref31_Check_v _) H rfl rfl (fun v2 H=>?_);conv=>whnf
 refine tst_c H (fun b3 H=>?_) (fun b3 H=>?_)
 ·conv=>whnf
  iterate 3 (refine Tst.T ?_;conv=>whnf)
  refine lq_ ?_;conv=>whnf
  exact fin0_c (enc:=(fun r:ConnsConn × Bool=>.tup [ConnsConn.v r.1,V.b r.2])) H (.inr rfl) (.cons (.cell rfl rfl (Nat.le_of_ble_eq_true rfl)) (.cons (.tmp rfl) (.nil))) rfl rfl
 conv=>whnf
 iterate 2 (refine Tst.F ?_;conv=>whnf)
 refine tst_c H (fun b4 H=>?_) (fun b4 H=>?_)
 ·conv=>whnf
  refine lq_ ?_;conv=>whnf
  exact fin0_c (enc:=(fun r:ConnsConn × Bool=>.tup [ConnsConn.v r.1,V.b r.2])) H (.inr rfl) (.cons (.cell rfl rfl (Nat.le_of_ble_eq_true rfl)) (.cons (.tmp rfl) (.nil))) rfl rfl
 conv=>whnf
 refine ixs_c (f:=ConnsConn.v) H (fun _=>rfl) (fun x5 H=>?_);conv=>whnf
 refine lq_ ?_;conv=>whnf
 exact fin0_c (enc:=(fun r:ConnsConn × Bool=>.tup [ConnsConn.v r.1,V.b r.2])) H (.inr rfl) (.cons (.cell rfl rfl (Nat.le_of_ble_eq_true rfl)) (.cons (.tmp rfl) (.nil))) rfl rfl
def gc13:BCode:=(.seq (R_ 1 [O_ 4 (.mv (.const (.slice none 0 0))) 0,O_ 5 (.al (.agg [(.lit (.int .i64 0)),(.lit (.int .i64 0)),(.lit (.string ⟨#[]⟩)),(.lit (.string ⟨#[]⟩)),(.lit (.int .i64 0)),(.lit (.string ⟨#[]⟩)),(.lit (.int .i64 0)),(.lit (.int .i64 0))])) 0,O_ 6 (.mv (b_ false)) 1]) (.seq (R_ 1 [O_ 12 (.mv (t_ 0)) 0,O_ 13 (.mv (t_ 1)) 0,O_ 14 (.cl 27 [(t_ 12),(t_ 13)]) 0,O_ 11 (.mv (t_ 14)) 0,O_ 15 (.ex (t_ 11) 0) 0,O_ 16 (.ex (t_ 11) 1) 0,O_ 7 (.al (.agg [(.lit (.int .i64 0)),(.lit (.int .i64 0)),(.lit (.string ⟨#[]⟩)),(.lit (.string ⟨#[]⟩)),(.lit (.int .i64 0)),(.lit (.string ⟨#[]⟩)),(.lit (.int .i64 0)),(.lit (.int .i64 0))])) 0,U_ (.st 8 (t_ 7) (t_ 15)) 1,O_ 8 (.mv (t_ 16)) 1]) (.seq (.seq (R_ 0 [O_ 17 (.mv (t_ 8)) 0,O_ 18 (.un .not (t_ 17)) 0]) (.cond (t_ 18) (.seq (R_ 0 [O_ 19 (.mv (t_ 0)) 0,O_ 20 (.bd [(.lit (.int .i64 0)),(.lit (.int .i64 0)),(.lit (.string ⟨#[]⟩)),(.lit (.string ⟨#[]⟩)),(.lit (.int .i64 0)),(.lit (.string ⟨#[]⟩)),(.lit (.int .i64 0)),(.lit (.int .i64 0))] []) 0,O_ 4 (.mv (t_ 19)) 0,U_ (.st 8 (t_ 5) (t_ 20)) 0,O_ 6 (.mv (b_ false)) 0]) .ret) .skip)) (.seq (R_ 0 [O_ 21 (.mv (t_ 0)) 0,O_ 22 (.mv (t_ 1)) 0,O_ 23 (.cl 44 [(t_ 21),(t_ 22)]) 0,O_ 9 (.mv (t_ 23)) 0]) (.seq (R_ 0 [O_ 10 (.mv (.const (.slice none 0 0))) 0]) (.seq (.reg 2 [O_ 24 (.mv (t_ 10)) 0,O_ 25 (.mv (t_ 0)) 0,O_ 26 (.mv (t_ 9)) 0,O_ 27 (.sls 8 (t_ 25) none (some (t_ 26)) none) 0,O_ 28 (.ap 8 88 (t_ 24) (t_ 27)) 0,O_ 29 (.mv (t_ 0)) 1,O_ 30 (.mv (t_ 9)) 1,O_ 31 (.bin .add (t_ 30) (i_ 1)) 1,O_ 32 (.sls 8 (t_ 29) (some (t_ 31)) none none) 1,O_ 33 (.ap 8 88 (t_ 28) (t_ 32)) 1,O_ 34 (.ld 8 true (t_ 7)) 2,O_ 4 (.mv (t_ 33)) 2,U_ (.st 8 (t_ 5) (t_ 34)) 2,O_ 6 (.mv (b_ true)) 2] (some [[],[],[],[2,1],[1,2,3,0],[],[],[6],[6,7,5],[5,7,6,8,0,3,2,1,4],[],[4,1,2,3,0,8,6,7,5,9],[9,5,7,6,8,0,3,2,1,4,11,10],[10,11,4,1,2,3,0,8,6,7,5,9,12]]) 0 []) .ret))))))
theorem gc13_ok:compF Tryz.prog Tryz.f13=some (gc13.er,35,[.tmp 4,.cell 5 8 true,.tmp 6]):=by unfold gc13;kernel_rfl
theorem p_ref31_Close_v {u1:Bool} (a0:List ConnsConn) (a1:Int):CallsO Tryz.prog 13 [.sl (List.map ConnsConn.v a0) u1,.i a1] (fun r:(List ConnsConn) × ConnsConn × Bool=>.tup [(fun l:List ConnsConn=>V.sl (l.map ConnsConn.v) false) r.1,ConnsConn.v r.2.1,V.b r.2.2]) (p_ref31_Close a0 a1):=by
 refine callsO_comp mix Tryz.func13 gc13_ok fun r H=>?_
 rw [p_ref31_Close] at H
 conv=>whnf
 refine ask_c (p_ref31_Find_v _ _) H rfl rfl (fun v1 H=>?_);conv=>whnf
 refine lq_ ?_;conv=>whnf
 refine Tst.not ?_
 refine tst_d H (fun b2 H=>?_) (fun b2 H=>?_)
 ·conv=>whnf
  refine lq_ ?_;conv=>whnf
  refine finR_c (enc:=(fun r:(List ConnsConn) × ConnsConn × Bool=>.tup [(fun l:List ConnsConn=>V.sl (l.map ConnsConn.v) false) r.1,ConnsConn.v r.2.1,V.b r.2.2])) H ?_;conv=>whnf
  exact ⟨_,.tup (.cons (.c (.slw)) (.cons (fzagg (.cons (.id rfl) (.cons (.id rfl) (.cons (.id rfl) (.cons (.id rfl) (.cons (.id rfl) (.cons (.id rfl) (.cons (.id rfl) (.cons (.id rfl) (.nil))))))))) rfl) (.cons (.c (.id rfl)) (.nil))))⟩
 conv=>whnf
 refine ask_c (p_ref31_place_v _ _) H rfl rfl (fun v3 H=>?_);conv=>whnf
 refine slsH_c (f:=ConnsConn.v) H (fun _=>rfl) (fun x4 H=>?_);conv=>whnf
 refine appE_c (f:=ConnsConn.v) H (fun _=>rfl) rfl (.v (srcM (f:=ConnsConn.v) (fun _=>rfl) _ _)) (by decide) rfl (fun H=>?_) (fun l5 H=>?_)
 ·conv=>whnf
  refine Ari.w ?_;conv=>whnf
  refine slsE_c (f:=ConnsConn.v) H (fun _=>rfl) (fun x8 H=>?_);conv=>whnf
  refine appE_c (f:=ConnsConn.v) H (fun _=>rfl) rfl (.v (srcM (f:=ConnsConn.v) (fun _=>rfl) _ _)) (by decide) rfl (fun H=>?_) (fun l9 H=>?_)
  ·conv=>whnf
   refine lq_ ?_;conv=>whnf
   refine FootQ.mk ⟨rfl,?_⟩;conv=>whnf
   refine finR_c (enc:=(fun r:(List ConnsConn) × ConnsConn × Bool=>.tup [(fun l:List ConnsConn=>V.sl (l.map ConnsConn.v) false) r.1,ConnsConn.v r.2.1,V.b r.2.2])) H ?_;conv=>whnf
   exact ⟨_,.tup (.cons (.c (.slw)) (.cons (fzagg (.cons (.id rfl) (.cons (.id rfl) (.cons (.id rfl) (.cons (.id rfl) (.cons (.id rfl) (.cons (.id rfl) (.cons (.id rfl) (.cons (.id rfl) (.nil))))))))) rfl) (.cons (.c (.id rfl)) (.nil))))⟩
  conv=>whnf
  refine lq_ ?_;conv=>whnf
  refine FootQ.mk ⟨rfl,?_⟩;conv=>whnf
  refine finR_c (enc:=(fun r:(List ConnsConn) × ConnsConn × Bool=>.tup [(fun l:List ConnsConn=>V.sl (l.map ConnsConn.v) false) r.1,ConnsConn.v r.2.1,V.b r.2.2])) H ?_;conv=>whnf
  exact ⟨_,.tup (.cons (.c (fzown (f:=ConnsConn.v) (l:=l9) rfl rfl (fun _=>rfl) (fun _=>rfl))) (.cons (fzagg (.cons (.id rfl) (.cons (.id rfl) (.cons (.id rfl) (.cons (.id rfl) (.cons (.id rfl) (.cons (.id rfl) (.cons (.id rfl) (.cons (.id rfl) (.nil))))))))) rfl) (.cons (.c (.id rfl)) (.nil))))⟩
 conv=>whnf
 refine Ari.w ?_;conv=>whnf
 refine slsE_c (f:=ConnsConn.v) H (fun _=>rfl) (fun x6 H=>?_);conv=>whnf
 refine appP_c (f:=ConnsConn.v) H (fun _=>rfl) rfl rfl (.v (srcM (f:=ConnsConn.v) (fun _=>rfl) _ _)) (by decide) rfl (fun l7 H=>?_) (fun l7 H=>?_)
 ·conv=>whnf
  refine lq_ ?_;conv=>whnf
  refine FootQ.mk ⟨rfl,?_⟩;conv=>whnf
  refine finR_c (enc:=(fun r:(List ConnsConn) × ConnsConn × Bool=>.tup [(fun l:List ConnsConn=>V.sl (l.map ConnsConn.v) false) r.1,ConnsConn.v r.2.1,V.b r.2.2])) H ?_;conv=>whnf
  exact ⟨_,.tup (.cons (.c (fzown (f:=ConnsConn.v) (l:=l7) rfl rfl (fun _=>rfl) (fun _=>rfl))) (.cons (fzagg (.cons (.id rfl) (.cons (.id rfl) (.cons (.id rfl) (.cons (.id rfl) (.cons (.id rfl) (.cons (.id rfl) (.cons (.id rfl) (.cons (.id rfl) (.nil))))))))) rfl) (.cons (.c (.id rfl)) (.nil))))⟩
 conv=>whnf
 refine lq_ ?_;conv=>whnf
 refine FootQ.mk ⟨rfl,?_⟩;conv=>whnf
 refine finR_c (enc:=(fun r:(List ConnsConn) × ConnsConn × Bool=>.tup [(fun l:List ConnsConn=>V.sl (l.map ConnsConn.v) false) r.1,ConnsConn.v r.2.1,V.b r.2.2])) H ?_;conv=>whnf
 exact ⟨_,.tup (.cons (.c (fzown (f:=ConnsConn.v) (l:=l7) rfl rfl (fun _=>rfl) (fun _=>rfl))) (.cons (fzagg (.cons (.id rfl) (.cons (.id rfl) (.cons (.id rfl) (.cons (.id rfl) (.cons (.id rfl) (.cons (.id rfl) (.cons (.id rfl) (.cons (.id rfl) (.nil))))))))) rfl) (.cons (.c (.id rfl)) (.nil))))⟩
def gc51:BCode:=(.seq (R_ 1 [O_ 5 (.bx (t_ 2)) 0,O_ 6 (.mv (.const (.slice none 0 0))) 1]) (.seq (R_ 0 [O_ 7 (.mv (.const (.slice none 0 0))) 0]) (.seq (R_ 1 [O_ 8 (.mv (t_ 7)) 0,O_ 9 (.mv (t_ 0)) 0,O_ 10 (.ap 8 88 (t_ 8) (t_ 9)) 0,O_ 7 (.mv (t_ 10)) 1]) (.seq (R_ 0 [O_ 11 (.mv (t_ 7)) 0,O_ 12 (.mv (t_ 1)) 0,O_ 13 (.ld 8 true (t_ 5)) 0,O_ 14 (.ixs 8 (t_ 11) (t_ 12)) 0,U_ (.st 8 (t_ 14) (t_ 13)) 0]) (.seq (R_ 0 [O_ 15 (.mv (t_ 7)) 0,O_ 6 (.mv (t_ 15)) 0]) .ret)))))
theorem gc51_ok:compF Tryz.prog Tryz.f51=some (gc51.er,16,[.tmp 6]):=by unfold gc51;kernel_rfl
theorem p_ref31_with_v {u1:Bool} (a0:List ConnsConn) (a1:Int) (a2:ConnsConn):CallsO Tryz.prog 51 [.sl (List.map ConnsConn.v a0) u1,.i a1,.agg [.i a2.ID,.i a2.Source,.s a2.User,.s a2.Res,.i a2.Credit,.s a2.In.Buf,.i a2.In.Bad,.i a2.In.Seen]] (fun l:List ConnsConn=>V.sl (l.map ConnsConn.v) false) (p_ref31_with a0 a1 a2):=by
 refine callsO_comp mix Tryz.func51 gc51_ok fun r H=>?_
 rw [p_ref31_with] at H
 conv=>whnf
 refine appEs_c (f:=ConnsConn.v) H (fun _=>rfl) rfl (.v (srcM (f:=ConnsConn.v) (fun _=>rfl) _ _)) (by decide) rfl (fun H=>?_) (fun l1 H=>?_)
 ·conv=>whnf
  exact nil_at H
 conv=>whnf
 refine ⟨rfl,ixo_c H (fun x2 h3 H=>?_)⟩;conv=>whnf
 refine ⟨Nat.zero_le _,sto_c (f:=ConnsConn.v) (es:=8) h3 (x':=a2) (fun _=>rfl) 0 (by omega) (Nat.le_of_ble_eq_true rfl) (by rfl) ?_⟩;conv=>whnf
 refine finRz_c (enc:=(fun l:List ConnsConn=>V.sl (l.map ConnsConn.v) false)) [1] H ?_;conv=>whnf
 refine ⟨Nat.zero_le _,?_⟩;conv=>whnf
 exact ⟨_,.v (.c (fzc_made (f:=ConnsConn.v) (l:=(List.set l1 (Int.toNat a1) a2)) rfl rfl rfl (by simp) (fun _=>rfl) (fun _=>rfl)))⟩
def gc15:BCode:=(.seq (R_ 0 [O_ 8 (.mv (.const (.slice none 0 0))) 0,O_ 9 (.mv (i_ 0)) 0]) (.seq (R_ 0 [O_ 12 (.mv (t_ 0)) 0,O_ 13 (.mv (t_ 1)) 0,O_ 14 (.cl 44 [(t_ 12),(t_ 13)]) 0,O_ 10 (.mv (t_ 14)) 0]) (.seq (.block 0 (.seq (R_ 0 [O_ 16 (.mv (t_ 0)) 0,O_ 17 (.cl 31 [(t_ 16)]) 0,O_ 18 (.bin .neq (t_ 17) (i_ 0)) 0,O_ 15 (.mv (t_ 18)) 0]) (.cond (t_ 15) (.seq (R_ 0 [O_ 19 (.mv (t_ 0)) 0,O_ 20 (.mv (t_ 0)) 0,O_ 21 (.cl 31 [(t_ 20)]) 0,O_ 8 (.mv (t_ 19)) 0,O_ 9 (.mv (t_ 21)) 0]) .ret) (.seq (R_ 0 [O_ 23 (.mv (t_ 10)) 0,O_ 24 (.bin .lss (t_ 23) (i_ 0)) 0,O_ 22 (.mv (t_ 24)) 0]) (.cond (t_ 22) (.seq (R_ 0 [O_ 25 (.mv (t_ 0)) 0,O_ 8 (.mv (t_ 25)) 0,O_ 9 (.mv (i_ 6)) 0]) .ret) (.seq (R_ 0 [O_ 27 (.mv (t_ 0)) 0,O_ 28 (.mv (t_ 10)) 0,O_ 29 (.ixs 8 (t_ 27) (t_ 28)) 0,O_ 30 (.fa 2 (t_ 29)) 0,O_ 31 (.ld 1 false (t_ 30)) 0,O_ 32 (.bin .neq (t_ 31) (.const (.string ⟨#[]⟩))) 0,O_ 26 (.mv (t_ 32)) 0]) (.cond (t_ 26) (.seq (R_ 0 [O_ 33 (.mv (t_ 0)) 0,O_ 8 (.mv (t_ 33)) 0,O_ 9 (.mv (i_ 9)) 0]) .ret) (.seq (R_ 0 [O_ 35 (.mv (t_ 2)) 0,O_ 36 (.mv (t_ 3)) 0,O_ 37 (.cl 49 [(t_ 35),(t_ 36)]) 0,O_ 38 (.bin .eql (t_ 37) (.const (.string ⟨#[]⟩))) 0,O_ 34 (.mv (t_ 38)) 0]) (.cond (t_ 34) (.seq (R_ 0 [O_ 39 (.mv (t_ 0)) 0,O_ 8 (.mv (t_ 39)) 0,O_ 9 (.mv (i_ 11)) 0]) .ret) (.seq (R_ 0 [O_ 41 (.mv (t_ 0)) 0,O_ 42 (.mv (t_ 2)) 0,O_ 43 (.mv (t_ 3)) 0,O_ 44 (.cl 49 [(t_ 42),(t_ 43)]) 0,O_ 45 (.cl 50 [(t_ 41),(t_ 44)]) 0,O_ 46 (.bin .geq (t_ 45) (i_ 0)) 0,O_ 40 (.mv (t_ 46)) 0]) (.cond (t_ 40) (.seq (R_ 0 [O_ 47 (.mv (t_ 0)) 0,O_ 8 (.mv (t_ 47)) 0,O_ 9 (.mv (i_ 13)) 0]) .ret) .skip))))))))))) (.seq (R_ 1 [O_ 48 (.mv (t_ 0)) 0,O_ 49 (.mv (t_ 10)) 0,O_ 50 (.ixs 8 (t_ 48) (t_ 49)) 0,O_ 51 (.ld 8 true (t_ 50)) 0,O_ 11 (.al (.agg [(.lit (.int .i64 0)),(.lit (.int .i64 0)),(.lit (.string ⟨#[]⟩)),(.lit (.string ⟨#[]⟩)),(.lit (.int .i64 0)),(.lit (.string ⟨#[]⟩)),(.lit (.int .i64 0)),(.lit (.int .i64 0))])) 0,U_ (.st 8 (t_ 11) (t_ 51)) 1]) (.seq (R_ 0 [O_ 52 (.mv (t_ 2)) 0,O_ 53 (.mv (t_ 3)) 0,O_ 54 (.fa 2 (t_ 11)) 0,U_ (.st 1 (t_ 54) (t_ 52)) 0,O_ 55 (.fa 3 (t_ 11)) 0,U_ (.st 1 (t_ 55) (t_ 53)) 0]) (.seq (R_ 0 [O_ 56 (.mv (t_ 0)) 0,O_ 57 (.mv (t_ 10)) 0,O_ 58 (.ld 8 true (t_ 11)) 0,O_ 59 (.cl 51 [(t_ 56),(t_ 57),(t_ 58)]) 0,O_ 8 (.mv (t_ 59)) 0,O_ 9 (.mv (i_ 0)) 0]) .ret))))))
theorem gc15_ok:compF Tryz.prog Tryz.f15=some (gc15.er,60,[.tmp 8,.tmp 9]):=by unfold gc15;kernel_rfl
theorem p_ref31_Login_v {u1:Bool} (a0:List ConnsConn) (a1:Int) (a2:ByteArray) (a3:ByteArray):CallsO Tryz.prog 15 [.sl (List.map ConnsConn.v a0) u1,.i a1,.s a2,.s a3] (fun r:(List ConnsConn) × Int=>.tup [(fun l:List ConnsConn=>V.sl (l.map ConnsConn.v) false) r.1,V.i r.2]) (p_ref31_Login a0 a1 a2 a3):=by
 refine callsO_comp mix Tryz.func15 gc15_ok fun r H=>?_
 rw [p_ref31_Login] at H
 conv=>whnf
 refine ask_c (p_ref31_place_v _ _) H rfl rfl (fun v1 H=>?_);conv=>whnf
 refine ask_c (p_ref31_Check_v _) H rfl rfl (fun v2 H=>?_);conv=>whnf
 refine tst_c H (fun b3 H=>?_) (fun b3 H=>?_)
 ·conv=>whnf
  refine ask_c (p_ref31_Check_v _) H rfl rfl (fun v4 H=>?_);conv=>whnf
  refine finR_c (enc:=(fun r:(List ConnsConn) × Int=>.tup [(fun l:List ConnsConn=>V.sl (l.map ConnsConn.v) false) r.1,V.i r.2])) H ?_;conv=>whnf
  exact ⟨_,.tup (.cons (.c (.slw)) (.cons (.c (.id rfl)) (.nil)))⟩
 conv=>whnf
 refine tst_c H (fun b5 H=>?_) (fun b5 H=>?_)
 ·conv=>whnf
  refine finR_c (enc:=(fun r:(List ConnsConn) × Int=>.tup [(fun l:List ConnsConn=>V.sl (l.map ConnsConn.v) false) r.1,V.i r.2])) H ?_;conv=>whnf
  exact ⟨_,.tup (.cons (.c (.slw)) (.cons (.c (.id rfl)) (.nil)))⟩
 conv=>whnf
 refine ixs_c (f:=ConnsConn.v) H (fun _=>rfl) (fun x6 H=>?_);conv=>whnf
 refine lq_ ?_;conv=>whnf
 refine Tst.not ?_
 refine tst_d H (fun b7 H=>?_) (fun b7 H=>?_)
 ·conv=>whnf
  refine finR_c (enc:=(fun r:(List ConnsConn) × Int=>.tup [(fun l:List ConnsConn=>V.sl (l.map ConnsConn.v) false) r.1,V.i r.2])) H ?_;conv=>whnf
  exact ⟨_,.tup (.cons (.c (.slw)) (.cons (.c (.id rfl)) (.nil)))⟩
 conv=>whnf
 refine ask_c (p_ref23_Key_v _ _) H rfl rfl (fun v8 H=>?_);conv=>whnf
 refine tst_c H (fun b9 H=>?_) (fun b9 H=>?_)
 ·conv=>whnf
  refine finR_c (enc:=(fun r:(List ConnsConn) × Int=>.tup [(fun l:List ConnsConn=>V.sl (l.map ConnsConn.v) false) r.1,V.i r.2])) H ?_;conv=>whnf
  exact ⟨_,.tup (.cons (.c (.slw)) (.cons (.c (.id rfl)) (.nil)))⟩
 conv=>whnf
 refine ask_c (p_ref23_Key_v _ _) H rfl rfl (fun v10 H=>?_);conv=>whnf
 refine ask_c (p_ref31_keyed_v _ _) H rfl rfl (fun v11 H=>?_);conv=>whnf
 refine tst_c H (fun b12 H=>?_) (fun b12 H=>?_)
 ·conv=>whnf
  refine finR_c (enc:=(fun r:(List ConnsConn) × Int=>.tup [(fun l:List ConnsConn=>V.sl (l.map ConnsConn.v) false) r.1,V.i r.2])) H ?_;conv=>whnf
  exact ⟨_,.tup (.cons (.c (.slw)) (.cons (.c (.id rfl)) (.nil)))⟩
 conv=>whnf
 refine ixs_c (f:=ConnsConn.v) H (fun _=>rfl) (fun x13 H=>?_);conv=>whnf
 refine lq_ ?_;conv=>whnf
 refine lq_ ?_;conv=>whnf
 refine lq_ ?_;conv=>whnf
 refine ask_c (p_ref31_with_v _ _ _) H rfl rfl (fun v14 H=>?_);conv=>whnf
 exact fin0_c (enc:=(fun r:(List ConnsConn) × Int=>.tup [(fun l:List ConnsConn=>V.sl (l.map ConnsConn.v) false) r.1,V.i r.2])) H (.inr rfl) (.cons (.tmp rfl) (.cons (.tmp rfl) (.nil))) rfl rfl
def gc19:BCode:=(.seq (R_ 0 [O_ 6 (.mv (.const (.slice none 0 0))) 0,O_ 7 (.mv (b_ false)) 0]) (.seq (R_ 1 [O_ 11 (.mv (t_ 0)) 0,O_ 12 (.mv (t_ 1)) 0,O_ 13 (.cl 27 [(t_ 11),(t_ 12)]) 0,O_ 10 (.mv (t_ 13)) 0,O_ 14 (.ex (t_ 10) 0) 0,O_ 15 (.ex (t_ 10) 1) 0,O_ 8 (.al (.agg [(.lit (.int .i64 0)),(.lit (.int .i64 0)),(.lit (.string ⟨#[]⟩)),(.lit (.string ⟨#[]⟩)),(.lit (.int .i64 0)),(.lit (.string ⟨#[]⟩)),(.lit (.int .i64 0)),(.lit (.int .i64 0))])) 0,U_ (.st 8 (t_ 8) (t_ 14)) 1,O_ 9 (.mv (t_ 15)) 1]) (.seq (.seq (R_ 0 [O_ 16 (.mv (t_ 9)) 0,O_ 17 (.un .not (t_ 16)) 0,O_ 18 (.mv (t_ 17)) 0,⟨(some 19),.mv (t_ 2),(some (18,false)),0⟩,⟨(some 20),.bin .lss (t_ 19) (i_ 0),(some (18,false)),0⟩,O_ 21 (.pick (t_ 18) (b_ true) (t_ 20)) 0]) (.cond (t_ 21) (.seq (R_ 0 [O_ 22 (.mv (t_ 0)) 0,O_ 6 (.mv (t_ 22)) 0,O_ 7 (.mv (b_ false)) 0]) .ret) .skip)) (.seq (R_ 0 [O_ 23 (.fa 4 (t_ 8)) 0,O_ 24 (.ld 1 false (t_ 23)) 0,O_ 25 (.mv (t_ 2)) 0,O_ 26 (.fa 4 (t_ 8)) 0,O_ 27 (.ld 1 false (t_ 26)) 0,O_ 28 (.bin .sub (i_ 1048576) (t_ 27)) 0,O_ 29 (.mn false (t_ 25) (t_ 28)) 0,O_ 30 (.bin .add (t_ 24) (t_ 29)) 0,O_ 31 (.fa 4 (t_ 8)) 0,U_ (.st 1 (t_ 31) (t_ 30)) 0]) (.seq (.reg 0 [O_ 32 (.mv (t_ 0)) 0,O_ 33 (.mv (t_ 0)) 0,O_ 34 (.mv (t_ 1)) 0,O_ 35 (.cl 44 [(t_ 33),(t_ 34)]) 0,O_ 36 (.ld 8 true (t_ 8)) 0,O_ 37 (.cl 51 [(t_ 32),(t_ 35),(t_ 36)]) 0,O_ 6 (.mv (t_ 37)) 0,O_ 7 (.mv (b_ true)) 0] (some [[],[],[],[2,1],[],[4,1,2,3,0],[0,3,2,1,4,5],[5,4,1,2,3,0,6]]) 0 []) .ret)))))
theorem gc19_ok:compF Tryz.prog Tryz.f19=some (gc19.er,38,[.tmp 6,.tmp 7]):=by unfold gc19;kernel_rfl
theorem p_ref31_Give_v {u1:Bool} (a0:List ConnsConn) (a1:Int) (a2:Int):CallsO Tryz.prog 19 [.sl (List.map ConnsConn.v a0) u1,.i a1,.i a2] (fun r:(List ConnsConn) × Bool=>.tup [(fun l:List ConnsConn=>V.sl (l.map ConnsConn.v) false) r.1,V.b r.2]) (p_ref31_Give a0 a1 a2):=by
 refine callsO_comp mix Tryz.func19 gc19_ok fun r H=>?_
 rw [p_ref31_Give] at H
 conv=>whnf
 refine ask_c (p_ref31_Find_v _ _) H rfl rfl (fun v1 H=>?_);conv=>whnf
 refine lq_ ?_;conv=>whnf
 refine Tst.not ?_
 refine tst_d H (fun b2 H=>?_) (fun b2 H=>?_)
 ·conv=>whnf
  iterate 3 (refine Tst.T ?_;conv=>whnf)
  refine finR_c (enc:=(fun r:(List ConnsConn) × Bool=>.tup [(fun l:List ConnsConn=>V.sl (l.map ConnsConn.v) false) r.1,V.b r.2])) H ?_;conv=>whnf
  exact ⟨_,.tup (.cons (.c (.slw)) (.cons (.c (.id rfl)) (.nil)))⟩
 conv=>whnf
 iterate 2 (refine Tst.F ?_;conv=>whnf)
 refine tst_c H (fun b3 H=>?_) (fun b3 H=>?_)
 ·conv=>whnf
  refine finR_c (enc:=(fun r:(List ConnsConn) × Bool=>.tup [(fun l:List ConnsConn=>V.sl (l.map ConnsConn.v) false) r.1,V.b r.2])) H ?_;conv=>whnf
  exact ⟨_,.tup (.cons (.c (.slw)) (.cons (.c (.id rfl)) (.nil)))⟩
 conv=>whnf
 iterate 2 (refine Ari.w ?_;conv=>whnf)
 refine lq_ ?_;conv=>whnf
 refine ask_c (p_ref31_place_v _ _) H rfl rfl (fun v4 H=>?_);conv=>whnf
 refine ask_c (p_ref31_with_v _ _ _) H rfl rfl (fun v5 H=>?_);conv=>whnf
 refine FootQ.mk ⟨rfl,?_⟩;conv=>whnf
 exact fin0_c (enc:=(fun r:(List ConnsConn) × Bool=>.tup [(fun l:List ConnsConn=>V.sl (l.map ConnsConn.v) false) r.1,V.b r.2])) H (.inr rfl) (.cons (.tmp rfl) (.cons (.tmp rfl) (.nil))) rfl rfl
def gc21:BCode:=(.seq (R_ 0 [O_ 6 (.mv (.const (.slice none 0 0))) 0,O_ 7 (.mv (b_ false)) 0]) (.seq (R_ 1 [O_ 11 (.mv (t_ 0)) 0,O_ 12 (.mv (t_ 1)) 0,O_ 13 (.cl 27 [(t_ 11),(t_ 12)]) 0,O_ 10 (.mv (t_ 13)) 0,O_ 14 (.ex (t_ 10) 0) 0,O_ 15 (.ex (t_ 10) 1) 0,O_ 8 (.al (.agg [(.lit (.int .i64 0)),(.lit (.int .i64 0)),(.lit (.string ⟨#[]⟩)),(.lit (.string ⟨#[]⟩)),(.lit (.int .i64 0)),(.lit (.string ⟨#[]⟩)),(.lit (.int .i64 0)),(.lit (.int .i64 0))])) 0,U_ (.st 8 (t_ 8) (t_ 14)) 1,O_ 9 (.mv (t_ 15)) 1]) (.seq (.seq (R_ 0 [O_ 16 (.mv (t_ 9)) 0,O_ 17 (.un .not (t_ 16)) 0,O_ 18 (.mv (t_ 17)) 0,⟨(some 19),.mv (t_ 2),(some (18,false)),0⟩,⟨(some 20),.bin .lss (t_ 19) (i_ 0),(some (18,false)),0⟩,O_ 21 (.pick (t_ 18) (b_ true) (t_ 20)) 0,O_ 22 (.mv (t_ 21)) 0,⟨(some 23),.mv (t_ 2),(some (22,false)),0⟩,⟨(some 24),.fa 4 (t_ 8),(some (22,false)),0⟩,⟨(some 25),.ld 1 false (t_ 24),(some (22,false)),0⟩,⟨(some 26),.bin .gtr (t_ 23) (t_ 25),(some (22,false)),0⟩,O_ 27 (.pick (t_ 22) (b_ true) (t_ 26)) 0]) (.cond (t_ 27) (.seq (R_ 0 [O_ 28 (.mv (t_ 0)) 0,O_ 6 (.mv (t_ 28)) 0,O_ 7 (.mv (b_ false)) 0]) .ret) .skip)) (.seq (R_ 0 [O_ 29 (.fa 4 (t_ 8)) 0,O_ 30 (.ld 1 false (t_ 29)) 0,O_ 31 (.mv (t_ 2)) 0,O_ 32 (.bin .sub (t_ 30) (t_ 31)) 0,O_ 33 (.fa 4 (t_ 8)) 0,U_ (.st 1 (t_ 33) (t_ 32)) 0]) (.seq (.reg 0 [O_ 34 (.mv (t_ 0)) 0,O_ 35 (.mv (t_ 0)) 0,O_ 36 (.mv (t_ 1)) 0,O_ 37 (.cl 44 [(t_ 35),(t_ 36)]) 0,O_ 38 (.ld 8 true (t_ 8)) 0,O_ 39 (.cl 51 [(t_ 34),(t_ 37),(t_ 38)]) 0,O_ 6 (.mv (t_ 39)) 0,O_ 7 (.mv (b_ true)) 0] (some [[],[],[],[2,1],[],[4,1,2,3,0],[0,3,2,1,4,5],[5,4,1,2,3,0,6]]) 0 []) .ret)))))
theorem gc21_ok:compF Tryz.prog Tryz.f21=some (gc21.er,40,[.tmp 6,.tmp 7]):=by unfold gc21;kernel_rfl
theorem p_ref31_Spend_v {u1:Bool} (a0:List ConnsConn) (a1:Int) (a2:Int):CallsO Tryz.prog 21 [.sl (List.map ConnsConn.v a0) u1,.i a1,.i a2] (fun r:(List ConnsConn) × Bool=>.tup [(fun l:List ConnsConn=>V.sl (l.map ConnsConn.v) false) r.1,V.b r.2]) (p_ref31_Spend a0 a1 a2):=by
 refine callsO_comp mix Tryz.func21 gc21_ok fun r H=>?_
 rw [p_ref31_Spend] at H
 conv=>whnf
 refine ask_c (p_ref31_Find_v _ _) H rfl rfl (fun v1 H=>?_);conv=>whnf
 refine lq_ ?_;conv=>whnf
 refine Tst.not ?_
 refine tst_d H (fun b2 H=>?_) (fun b2 H=>?_)
 ·conv=>whnf
  iterate 8 (refine Tst.T ?_;conv=>whnf)
  refine finR_c (enc:=(fun r:(List ConnsConn) × Bool=>.tup [(fun l:List ConnsConn=>V.sl (l.map ConnsConn.v) false) r.1,V.b r.2])) H ?_;conv=>whnf
  exact ⟨_,.tup (.cons (.c (.slw)) (.cons (.c (.id rfl)) (.nil)))⟩
 conv=>whnf
 iterate 2 (refine Tst.F ?_;conv=>whnf)
 refine tst_c H (fun b3 H=>?_) (fun b3 H=>?_)
 ·conv=>whnf
  iterate 5 (refine Tst.T ?_;conv=>whnf)
  refine finR_c (enc:=(fun r:(List ConnsConn) × Bool=>.tup [(fun l:List ConnsConn=>V.sl (l.map ConnsConn.v) false) r.1,V.b r.2])) H ?_;conv=>whnf
  exact ⟨_,.tup (.cons (.c (.slw)) (.cons (.c (.id rfl)) (.nil)))⟩
 conv=>whnf
 iterate 4 (refine Tst.F ?_;conv=>whnf)
 refine tst_c H (fun b4 H=>?_) (fun b4 H=>?_)
 ·conv=>whnf
  refine finR_c (enc:=(fun r:(List ConnsConn) × Bool=>.tup [(fun l:List ConnsConn=>V.sl (l.map ConnsConn.v) false) r.1,V.b r.2])) H ?_;conv=>whnf
  exact ⟨_,.tup (.cons (.c (.slw)) (.cons (.c (.id rfl)) (.nil)))⟩
 conv=>whnf
 refine Ari.w ?_;conv=>whnf
 refine lq_ ?_;conv=>whnf
 refine ask_c (p_ref31_place_v _ _) H rfl rfl (fun v5 H=>?_);conv=>whnf
 refine ask_c (p_ref31_with_v _ _ _) H rfl rfl (fun v6 H=>?_);conv=>whnf
 refine FootQ.mk ⟨rfl,?_⟩;conv=>whnf
 exact fin0_c (enc:=(fun r:(List ConnsConn) × Bool=>.tup [(fun l:List ConnsConn=>V.sl (l.map ConnsConn.v) false) r.1,V.b r.2])) H (.inr rfl) (.cons (.tmp rfl) (.cons (.tmp rfl) (.nil))) rfl rfl
end Go.Proofs.YtdbigmjlhkgeoaaGreat

