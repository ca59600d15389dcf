/- TallyBytes: for every input the call returns true, and its arguments read as they did. -/
import Derived.Test.YtpkodpcfafipdaaGreatQtA13
import Derived.Test.YtpkodpcfafipdaaGreatQtA18
import Derived.Test.YtpkodpcfafipdaaGreatQtA17
import Derived.Test.YtpkodpcfafipdaaGreatQtA12
import Derived.KernelRfl
import Derived.Test.YtpkodpcfafipdaaGreatQtA14
import Derived.Test.YtpkodpcfafipdaaGreatQtA19
import Derived.Test.YtpkodpcfafipdaaGreatRows
set_option linter.all false
namespace Go.Proofs.YtpkodpcfafipdaaGreat
open Go.ChangeShapes Go.WideShapes Go.ChangeAt Go.RowKit Go.Joins Go.Deep
structure StanzaStanza.Wf (x:StanzaStanza):Prop where
 Kind:(Lit.int .u8 x.Kind).wf=true
 Show:(Lit.int .i64 x.Show).wf=true
 Prio:(Lit.int .i64 x.Prio).wf=true
 Code:(Lit.int .i64 x.Code).wf=true
 N:(Lit.int .i64 x.N).wf=true
set_option maxRecDepth 100000 in
theorem rd_T63 {H:Type} {enc:TypeId × Value→H} {W:World} {spare:Nat→Bool} {held:Bool} {fuel:Nat} {cs:List Value} {y:DataW H × List MemPlace} (h:DataW.trod enc Tryz.prog W 0 spare held fuel 63 cs=some y):∃ x:StanzaStanza,StanzaStanza.Wf x∧RepL (MW W) noBk cs [.y8 x.Kind,.s x.User,.s x.Res,.s x.Name,.i x.Show,.i x.Prio,.i x.Code,.i x.N]:=by
 obtain ⟨xs,n,_,_,hl,hx,hall⟩:=DataW.trod_struct Tryz.underlying63 h
 have hce:Tryz.prog.cellsOf 63=8:=by kernel_rfl
 rw [hce] at hl
 match cs,hl,hall with
 | [c0,c1,c2,c3,c4,c5,c6,c7],_,hall =>
  obtain ⟨y0,hy0⟩:=get_some hx (show 0 < 8 by omega)
  have g0:DataW.trod enc Tryz.prog W 0 spare held n 5 [c0]=some y0:=by
   have hz:Tryz.prog.cellsOf 5=1:=by kernel_rfl
   have g:DataW.trod enc Tryz.prog W 0 spare held n 5 (([c0,c1,c2,c3,c4,c5,c6,c7].drop 0).take (Tryz.prog.cellsOf 5))=some y0:=(hall 0 _ rfl).trans hy0
   rw [hz] at g;exact g
  obtain ⟨x0,w0,r0⟩:=rd_int Tryz.underlying5 g0
  obtain ⟨y1,hy1⟩:=get_some hx (show 1 < 8 by omega)
  have g1:DataW.trod enc Tryz.prog W 0 spare held n 9 [c1]=some y1:=by
   have hz:Tryz.prog.cellsOf 9=1:=by kernel_rfl
   have g:DataW.trod enc Tryz.prog W 0 spare held n 9 (([c0,c1,c2,c3,c4,c5,c6,c7].drop 1).take (Tryz.prog.cellsOf 9))=some y1:=(hall 1 _ rfl).trans hy1
   rw [hz] at g;exact g
  obtain ⟨x1,r1⟩:=rd_string Tryz.underlying9 g1
  obtain ⟨y2,hy2⟩:=get_some hx (show 2 < 8 by omega)
  have g2:DataW.trod enc Tryz.prog W 0 spare held n 9 [c2]=some y2:=by
   have hz:Tryz.prog.cellsOf 9=1:=by kernel_rfl
   have g:DataW.trod enc Tryz.prog W 0 spare held n 9 (([c0,c1,c2,c3,c4,c5,c6,c7].drop 2).take (Tryz.prog.cellsOf 9))=some y2:=(hall 2 _ rfl).trans hy2
   rw [hz] at g;exact g
  obtain ⟨x2,r2⟩:=rd_string Tryz.underlying9 g2
  obtain ⟨y3,hy3⟩:=get_some hx (show 3 < 8 by omega)
  have g3:DataW.trod enc Tryz.prog W 0 spare held n 9 [c3]=some y3:=by
   have hz:Tryz.prog.cellsOf 9=1:=by kernel_rfl
   have g:DataW.trod enc Tryz.prog W 0 spare held n 9 (([c0,c1,c2,c3,c4,c5,c6,c7].drop 3).take (Tryz.prog.cellsOf 9))=some y3:=(hall 3 _ rfl).trans hy3
   rw [hz] at g;exact g
  obtain ⟨x3,r3⟩:=rd_string Tryz.underlying9 g3
  obtain ⟨y4,hy4⟩:=get_some hx (show 4 < 8 by omega)
  have g4:DataW.trod enc Tryz.prog W 0 spare held n 3 [c4]=some y4:=by
   have hz:Tryz.prog.cellsOf 3=1:=by kernel_rfl
   have g:DataW.trod enc Tryz.prog W 0 spare held n 3 (([c0,c1,c2,c3,c4,c5,c6,c7].drop 4).take (Tryz.prog.cellsOf 3))=some y4:=(hall 4 _ rfl).trans hy4
   rw [hz] at g;exact g
  obtain ⟨x4,w4,r4⟩:=rd_int Tryz.underlying3 g4
  obtain ⟨y5,hy5⟩:=get_some hx (show 5 < 8 by omega)
  have g5:DataW.trod enc Tryz.prog W 0 spare held n 3 [c5]=some y5:=by
   have hz:Tryz.prog.cellsOf 3=1:=by kernel_rfl
   have g:DataW.trod enc Tryz.prog W 0 spare held n 3 (([c0,c1,c2,c3,c4,c5,c6,c7].drop 5).take (Tryz.prog.cellsOf 3))=some y5:=(hall 5 _ rfl).trans hy5
   rw [hz] at g;exact g
  obtain ⟨x5,w5,r5⟩:=rd_int Tryz.underlying3 g5
  obtain ⟨y6,hy6⟩:=get_some hx (show 6 < 8 by omega)
  have g6:DataW.trod enc Tryz.prog W 0 spare held n 3 [c6]=some y6:=by
   have hz:Tryz.prog.cellsOf 3=1:=by kernel_rfl
   have g:DataW.trod enc Tryz.prog W 0 spare held n 3 (([c0,c1,c2,c3,c4,c5,c6,c7].drop 6).take (Tryz.prog.cellsOf 3))=some y6:=(hall 6 _ rfl).trans hy6
   rw [hz] at g;exact g
  obtain ⟨x6,w6,r6⟩:=rd_int Tryz.underlying3 g6
  obtain ⟨y7,hy7⟩:=get_some hx (show 7 < 8 by omega)
  have g7:DataW.trod enc Tryz.prog W 0 spare held n 3 [c7]=some y7:=by
   have hz:Tryz.prog.cellsOf 3=1:=by kernel_rfl
   have g:DataW.trod enc Tryz.prog W 0 spare held n 3 (([c0,c1,c2,c3,c4,c5,c6,c7].drop 7).take (Tryz.prog.cellsOf 3))=some y7:=(hall 7 _ rfl).trans hy7
   rw [hz] at g;exact g
  obtain ⟨x7,w7,r7⟩:=rd_int Tryz.underlying3 g7
  exact ⟨⟨x0,x1,x2,x3,x4,x5,x6,x7⟩,⟨w0,w4,w5,w6,w7⟩,repL_app r0 (repL_app r1 (repL_app r2 (repL_app r3 (repL_app r4 (repL_app r5 (repL_app r6 (repL_app r7 (repL_nil))))))))⟩
theorem rd_T59 {H:Type} {enc:TypeId × Value→H} {W:World} {spare:Nat→Bool} {held:Bool} {fuel:Nat} {cs:List Value} {y:DataW H × List MemPlace} (h:DataW.trod enc Tryz.prog W 0 spare held fuel 59 cs=some y):∃ x:List StanzaStanza,(∀ z ∈ x,StanzaStanza.Wf z)∧RepL (MW W) noBk cs [(fun l:List StanzaStanza=>V.sl (l.map StanzaStanza.v) false) x] :=
 rd_slice (f:=StanzaStanza.v) (es:=8) (wf:=StanzaStanza.Wf) Tryz.underlying59 (fun _=>rfl) (by intro a v hv;simp [V.cells] at hv;first | (subst hv;rfl) | (rcases hv with rfl | rfl | rfl | rfl | rfl | rfl | rfl | rfl <;> rfl)) (by omega) (by kernel_rfl) (fun n cs y h=>rd_T63 h) h
end Go.Proofs.YtpkodpcfafipdaaGreat

namespace Go.Proofs.YtpkodpcfafipdaaGreat
open Go.RowKit
theorem tallyBytes_wf (l:List StanzaStanza) (h:∀ x ∈ l,StanzaStanza.Wf x):p_law36_TallyBytes l=some true :=
 tallyBytes_pure l fun x hx=>bounds_u8 (h x hx).Kind
end Go.Proofs.YtpkodpcfafipdaaGreat

namespace Go.Proofs.YtpkodpcfafipdaaGreat
open Go.RowKit
set_option maxRecDepth 100000
set_option maxHeartbeats 4000000
def gc24:BCode:=(.seq (R_ 0 [O_ 2 (.mv (.const (.string ⟨#[]⟩))) 0,O_ 3 (.mv (i_ 0)) 0]) (.seq (R_ 0 [O_ 4 (.mv (.const (.slice none 0 0))) 0]) (.seq (.seq (R_ 0 [O_ 9 (.mv (t_ 0)) 0,O_ 10 (.lens (t_ 9)) 0,O_ 11 (.mv (i_ 0)) 0]) (.block 0 (.loop (.seq (R_ 0 [O_ 12 (.bin .lss (t_ 11) (t_ 10)) 0]) (.seq (.cond (t_ 12) .skip (.exit 0)) (.seq (.block 1 (.seq (R_ 1 [O_ 13 (.ixs 8 (t_ 9) (t_ 11)) 0,O_ 14 (.ld 8 true (t_ 13)) 0,O_ 6 (.al (.agg [(.lit (.int .u8 0)),(.lit (.string ⟨#[]⟩)),(.lit (.string ⟨#[]⟩)),(.lit (.string ⟨#[]⟩)),(.lit (.int .i64 0)),(.lit (.int .i64 0)),(.lit (.int .i64 0)),(.lit (.int .i64 0))])) 0,U_ (.st 8 (t_ 6) (t_ 14)) 1]) (.seq (R_ 0 [O_ 16 (.ld 8 true (t_ 6)) 0,O_ 17 (.cl 26 [(t_ 16)]) 0,O_ 15 (.mv (t_ 17)) 0,O_ 18 (.ex (t_ 15) 0) 0,O_ 19 (.ex (t_ 15) 1) 0,O_ 7 (.mv (t_ 18)) 0,O_ 8 (.mv (t_ 19)) 0]) (.seq (.seq (R_ 0 [O_ 20 (.mv (t_ 8)) 0,O_ 21 (.bin .neq (t_ 20) (i_ 0)) 0]) (.cond (t_ 21) (.seq (R_ 0 [O_ 22 (.mv (t_ 8)) 0,O_ 2 (.mv (.const (.string ⟨#[]⟩))) 0,O_ 3 (.mv (t_ 22)) 0]) .ret) .skip)) (R_ 2 [O_ 23 (.mv (t_ 4)) 0,O_ 24 (.mv (t_ 7)) 0,O_ 25 (.bs 1 1 [(.lit (.string ⟨#[]⟩))] [(0,(t_ 24))]) 0,O_ 26 (.ap 1 16 (t_ 23) (t_ 25)) 1,O_ 4 (.mv (t_ 26)) 2]))))) (R_ 0 [O_ 27 (.bin .add (t_ 11) (i_ 1)) 0,O_ 11 (.mv (t_ 27)) 0]))))))) (.seq (R_ 0 [O_ 28 (.mv (t_ 4)) 0,O_ 29 (.cl 42 [(t_ 28)]) 0,O_ 30 (.ex (t_ 29) 0) 0,O_ 31 (.ex (t_ 29) 1) 0,O_ 2 (.mv (t_ 30)) 0,O_ 3 (.mv (t_ 31)) 0]) .ret))))
theorem gc24_ok:compF Tryz.prog Tryz.f24=some (gc24.er,32,[.tmp 2,.tmp 3]):=by unfold gc24;kernel_rfl
theorem p_deframe_Encode_v {u1:Bool} (a0:List StanzaStanza):CallsO Tryz.prog 24 [.sl (List.map StanzaStanza.v a0) u1] (fun r:ByteArray × Int=>.tup [V.s r.1,V.i r.2]) (p_deframe_Encode a0):=by
 refine callsO_comp mix Tryz.func24 gc24_ok fun r H=>?_
 rw [p_deframe_Encode] at H
 conv=>whnf
 refine LenQ.M ?_;conv=>whnf
 obtain ⟨o2,HL3,HQ4⟩:=bind_c H
 refine loop_c [2,3,4,11] [6,7,8,12,13,14,15,16,17,18,19,20,21,22,23,24,25,26,27] [6,7,8,12,13,14,15,16,17,18,19,20,21,22,23,24,25,26,27] (fun n vals st=>(∃ y6,p_deframe_Encode_l1  a0 (a0.length:Int) n [] y6=some o2∧vals=[.s (⟨#[]⟩ : ByteArray),.i (0:Int),.sl (List.map V.s []) true,.i y6]∧st=[])∨(∃ y12 y13,p_deframe_Encode_l1  a0 (a0.length:Int) n y12 y13=some o2∧vals=[.s (⟨#[]⟩ : ByteArray),.i (0:Int),.osl 0 0 (List.length y12) 1 false,.i y13]∧st=[.live (cellsM V.s y12) (cellsM V.s y12).length])) fuel 0 [] (.inl (⟨_,HL3,rfl,rfl⟩)) (Nat.zero_le _) rfl (by kernel_rfl) (by kernel_rfl) rfl trivial ?_
 rintro (_ | n5) _ _ (⟨y6,H,rfl,rfl⟩ | ⟨y12,y13,H,rfl,rfl⟩)
 ·rw [p_deframe_Encode_l1] at H;cases H
 ·rw [p_deframe_Encode_l1] at H;cases H
 ·rw [p_deframe_Encode_l1] at H
  conv=>whnf
  refine tst_d H (fun b7 H=>?_) (fun b7 H=>?_)
  ·conv=>whnf
   obtain rfl:=Option.some.inj H
   have H:=HQ4
   try dsimp only at H
   refine ask_c (p_frame_Join_v _) H rfl rfl (fun v14 H=>?_);conv=>whnf
   exact fin0_c (enc:=(fun r:ByteArray × Int=>.tup [V.s r.1,V.i r.2])) H (.inr rfl) (.cons (.tmp rfl) (.cons (.tmp rfl) (.nil))) rfl rfl
  conv=>whnf
  refine ixs_c (f:=StanzaStanza.v) H (fun _=>rfl) (fun x8 H=>?_);conv=>whnf
  refine lq_ ?_;conv=>whnf
  refine ask_c (p_stanza_Put_v _) H rfl rfl (fun v9 H=>?_);conv=>whnf
  refine tst_c H (fun b10 H=>?_) (fun b10 H=>?_)
  ·conv=>whnf
   obtain rfl:=Option.some.inj H
   have H:=HQ4
   try dsimp only at H
   exact fin0_c (enc:=(fun r:ByteArray × Int=>.tup [V.s r.1,V.i r.2])) H (.inr rfl) (.cons (.tmp rfl) (.cons (.tmp rfl) (.nil))) rfl rfl
  conv=>whnf
  refine appN_c (f:=V.s) H (fun _=>rfl) (srcM (f:=V.s) (fun _=>rfl) [] true) rfl (.v (srcOwn (f:=V.s) (l:=[v9.1]) (fun _=>rfl) rfl rfl rfl)) (by decide) rfl (by simp) (fun l11 H=>?_);conv=>whnf
  refine Ari.w ?_;conv=>whnf
  exact again_c [6,7,8,12,13,14,15,16,17,18,19,20,21,22,23,24,25,26,27] n5 1 [2] (.inr (⟨_,_,H,rfl,rfl⟩)) (Nat.lt_succ_self _) (Nat.zero_le _) rfl (by kernel_rfl) (by kernel_rfl) rfl (wkB_live0 rfl (cellsM_idlt (f:=V.s) (fun _=>rfl) _) rfl trivial)
 rw [p_deframe_Encode_l1] at H
 conv=>whnf
 refine tst_d H (fun b15 H=>?_) (fun b15 H=>?_)
 ·conv=>whnf
  obtain rfl:=Option.some.inj H
  have H:=HQ4
  try dsimp only at H
  refine askF_c (p_frame_Join_v _) H (.cons (.c (fzown (f:=V.s) (l:=y12) rfl rfl (fun _=>rfl) (fun _=>rfl))) (.nil)) (fun v20 H=>?_);conv=>whnf
  exact fin0_c (enc:=(fun r:ByteArray × Int=>.tup [V.s r.1,V.i r.2])) H (.inr rfl) (.cons (.tmp rfl) (.cons (.tmp rfl) (.nil))) rfl rfl
 conv=>whnf
 refine ixs_c (f:=StanzaStanza.v) H (fun _=>rfl) (fun x16 H=>?_);conv=>whnf
 refine lq_ ?_;conv=>whnf
 refine ask_c (p_stanza_Put_v _) H rfl rfl (fun v17 H=>?_);conv=>whnf
 refine tst_c H (fun b18 H=>?_) (fun b18 H=>?_)
 ·conv=>whnf
  obtain rfl:=Option.some.inj H
  have H:=HQ4
  try dsimp only at H
  exact fin0_c (enc:=(fun r:ByteArray × Int=>.tup [V.s r.1,V.i r.2])) H (.inr rfl) (.cons (.tmp rfl) (.cons (.tmp rfl) (.nil))) rfl rfl
 conv=>whnf
 refine appO_c (f:=V.s) H (fun _=>rfl) rfl (Nat.le_refl _) (.v (srcOwn (f:=V.s) (l:=[v17.1]) (fun _=>rfl) rfl rfl rfl)) (by decide) rfl (by simp) (fun l19 H=>?_);conv=>whnf
 refine Ari.w ?_;conv=>whnf
 exact again_c [6,7,8,12,13,14,15,16,17,18,19,20,21,22,23,24,25,26,27] n5 1 [3] (.inr (⟨_,_,H,rfl,rfl⟩)) (Nat.lt_succ_self _) (Nat.zero_le _) rfl (by kernel_rfl) (by kernel_rfl) rfl (wkB_live0 rfl (cellsM_idlt (f:=V.s) (fun _=>rfl) _) rfl trivial)
end Go.Proofs.YtpkodpcfafipdaaGreat

namespace Go.Proofs.YtpkodpcfafipdaaGreat
open Go.RowKit
set_option maxRecDepth 1000000
set_option maxHeartbeats 4000000
def gc6:BCode:=(.seq (R_ 0 [O_ 2 (.mv (b_ false)) 0]) (.seq (.seq (R_ 0 [O_ 9 (.mv (t_ 0)) 0,O_ 10 (.lens (t_ 9)) 0,O_ 11 (.bin .gtr (t_ 10) (i_ 20)) 0]) (.cond (t_ 11) (.seq (R_ 0 [O_ 12 (.cl 8 []) 0,O_ 2 (.mv (t_ 12)) 0]) .ret) .skip)) (.seq (.reg 0 [O_ 13 (.cl 9 []) 0,O_ 3 (.mv (t_ 13)) 0] none 2 []) (.seq (.seq (R_ 0 [O_ 14 (.mv (t_ 3)) 0,O_ 15 (.eqp false (t_ 14) (.const (.pointer none))) 0]) (.cond (t_ 15) (.seq (R_ 0 [O_ 2 (.mv (b_ false)) 0]) .ret) .skip)) (.seq (R_ 1 [O_ 4 (.al (.agg [(.lit (.int .i64 0)),(.sl [] true),(.sl [] true)])) 0]) (.seq (R_ 0 [O_ 5 (.mv (.const (.slice none 0 0))) 0]) (.seq (.seq (R_ 0 [O_ 6 (.mv (i_ 0)) 0]) (.block 0 (.loop (.seq (.seq (R_ 0 [O_ 16 (.mv (t_ 6)) 0,O_ 17 (.mv (t_ 0)) 0,O_ 18 (.lens (t_ 17)) 0,O_ 19 (.bin .lss (t_ 16) (t_ 18)) 0]) (.cond (t_ 19) .skip (.exit 0))) (.seq (.block 1 (.seq (.seq (R_ 0 [O_ 22 (.mv (t_ 0)) 0,O_ 23 (.mv (t_ 6)) 0,O_ 24 (.ixs 8 (t_ 22) (t_ 23)) 0,O_ 25 (.ld 8 true (t_ 24)) 0,O_ 26 (.cl 22 [(t_ 25)]) 0,O_ 27 (.un .not (t_ 26)) 0]) (.cond (t_ 27) (.seq (R_ 0 [O_ 28 (.cl 8 []) 0,O_ 2 (.mv (t_ 28)) 0]) .ret) .skip)) (.seq (.reg 2 [O_ 29 (.fa 1 (t_ 4)) 0,O_ 30 (.ld 1 false (t_ 29)) 0,O_ 31 (.mv (t_ 6)) 0,O_ 32 (.mv (t_ 0)) 0,O_ 33 (.mv (t_ 6)) 0,O_ 34 (.ixs 8 (t_ 32) (t_ 33)) 0,O_ 35 (.ld 8 true (t_ 34)) 0,O_ 36 (.bd [(.lit (.int .i64 0)),(.lit (.int .u8 0)),(.lit (.string ⟨#[]⟩)),(.lit (.string ⟨#[]⟩)),(.lit (.string ⟨#[]⟩)),(.lit (.int .i64 0)),(.lit (.int .i64 0)),(.lit (.int .i64 0)),(.lit (.int .i64 0))] [(0,1,(t_ 31)),(1,8,(t_ 35))]) 0,O_ 37 (.bs 9 1 [(.lit (.int .i64 0)),(.lit (.int .u8 0)),(.lit (.string ⟨#[]⟩)),(.lit (.string ⟨#[]⟩)),(.lit (.string ⟨#[]⟩)),(.lit (.int .i64 0)),(.lit (.int .i64 0)),(.lit (.int .i64 0)),(.lit (.int .i64 0))] [(0,(t_ 36))]) 0,O_ 38 (.ap 9 96 (t_ 30) (t_ 37)) 1,O_ 39 (.fa 1 (t_ 4)) 2,U_ (.st 1 (t_ 39) (t_ 38)) 2] (some [[],[0],[],[],[],[4,3],[3,4,5],[5,4,3,6,2],[2,6,3,4,5,7],[7,5,4,3,6,2,8,0,1],[9,8,7,6,5,4,3,2,1,0],[0,1,2,3,4,5,6,7,8,9,10]]) 0 []) (.seq (R_ 0 [O_ 40 (.mv (t_ 0)) 0,O_ 41 (.mv (t_ 6)) 0,O_ 42 (.ixs 8 (t_ 40) (t_ 41)) 0,O_ 43 (.ld 8 true (t_ 42)) 0,O_ 44 (.cl 23 [(t_ 43)]) 0,O_ 45 (.bin .eql (t_ 44) (i_ 0)) 0]) (.cond (t_ 45) (R_ 2 [O_ 46 (.mv (t_ 5)) 0,O_ 47 (.mv (t_ 0)) 0,O_ 48 (.mv (t_ 6)) 0,O_ 49 (.ixs 8 (t_ 47) (t_ 48)) 0,O_ 50 (.ld 8 true (t_ 49)) 0,O_ 51 (.bs 8 1 [(.lit (.int .u8 0)),(.lit (.string ⟨#[]⟩)),(.lit (.string ⟨#[]⟩)),(.lit (.string ⟨#[]⟩)),(.lit (.int .i64 0)),(.lit (.int .i64 0)),(.lit (.int .i64 0)),(.lit (.int .i64 0))] [(0,(t_ 50))]) 0,O_ 52 (.ap 8 88 (t_ 46) (t_ 51)) 1,O_ 5 (.mv (t_ 52)) 2]) .skip))))) (R_ 0 [O_ 20 (.mv (t_ 6)) 0,O_ 21 (.bin .add (t_ 20) (i_ 1)) 0,O_ 6 (.mv (t_ 21)) 0])))))) (.seq (R_ 0 [O_ 53 (.mv (t_ 3)) 0,O_ 54 (.ld 3 true (t_ 4)) 0,O_ 55 (.cl 10 [(t_ 53),(t_ 54)]) 0]) (.seq (R_ 0 [O_ 57 (.mv (t_ 5)) 0,O_ 58 (.cl 24 [(t_ 57)]) 0,O_ 56 (.mv (t_ 58)) 0,O_ 59 (.ex (t_ 56) 0) 0,O_ 60 (.ex (t_ 56) 1) 0,O_ 7 (.mv (t_ 59)) 0,O_ 8 (.mv (t_ 60)) 0]) (.seq (R_ 0 [O_ 61 (.mv (t_ 8)) 0,O_ 62 (.bin .eql (t_ 61) (i_ 0)) 0,O_ 63 (.mv (t_ 62)) 0,⟨(some 64),.mv (t_ 3),(some (63,true)),0⟩,⟨(some 65),.cl 19 [(t_ 64),(.const (.string ⟨#[98,121,116,101,115]⟩))],(some (63,true)),0⟩,⟨(some 66),.mv (t_ 7),(some (63,true)),0⟩,⟨(some 67),.lent (t_ 66),(some (63,true)),0⟩,⟨(some 68),.bin .eql (t_ 65) (t_ 67),(some (63,true)),0⟩,O_ 69 (.pick (t_ 63) (t_ 68) (b_ false)) 0,O_ 70 (.mv (t_ 69)) 0,⟨(some 71),.mv (t_ 3),(some (70,true)),0⟩,⟨(some 72),.cl 19 [(t_ 71),(.const (.string ⟨#[115,97,105,100]⟩))],(some (70,true)),0⟩,⟨(some 73),.mv (t_ 0),(some (70,true)),0⟩,⟨(some 74),.lens (t_ 73),(some (70,true)),0⟩,⟨(some 75),.bin .eql (t_ 72) (t_ 74),(some (70,true)),0⟩,O_ 76 (.pick (t_ 70) (t_ 75) (b_ false)) 0,O_ 77 (.mv (t_ 76)) 0,⟨(some 78),.mv (t_ 3),(some (77,true)),0⟩,⟨(some 79),.cl 19 [(t_ 78),(.const (.string ⟨#[115,116,101,112,115]⟩))],(some (77,true)),0⟩,⟨(some 80),.bin .eql (t_ 79) (i_ 1),(some (77,true)),0⟩,O_ 81 (.pick (t_ 77) (t_ 80) (b_ false)) 0,O_ 82 (.mv (t_ 81)) 0,⟨(some 83),.mv (t_ 3),(some (82,true)),0⟩,⟨(some 84),.cl 19 [(t_ 83),(.const (.string ⟨#[119,114,111,110,103]⟩))],(some (82,true)),0⟩,⟨(some 85),.bin .eql (t_ 84) (i_ 0),(some (82,true)),0⟩,O_ 86 (.pick (t_ 82) (t_ 85) (b_ false)) 0,O_ 87 (.mv (t_ 86)) 0,⟨(some 88),.cl 8 [],(some (87,true)),0⟩,O_ 89 (.pick (t_ 87) (t_ 88) (b_ false)) 0,O_ 2 (.mv (t_ 89)) 0]) .ret))))))))))
theorem gc6_ok:compF Tryz.prog Tryz.f6=some (gc6.er,90,[.tmp 2]):=by unfold gc6;kernel_rfl
theorem p_law36_TallyBytes_v {u1:Bool} (a0:List StanzaStanza):CallsO Tryz.prog 6 [.sl (List.map StanzaStanza.v a0) u1] V.b (tru? (p_law36_TallyBytes a0)):=by
 refine callsO_comp mix Tryz.func6 gc6_ok fun r H=>?_
 have H1:=tru_of H
 clear H
 obtain ⟨rfl,H⟩:=H1
 rw [p_law36_TallyBytes] at H
 conv=>whnf
 refine LenQ.M ?_;conv=>whnf
 refine tst_c H (fun b1 H=>?_) (fun b1 H=>?_)
 ·conv=>whnf
  refine ask_c (p_law36_awake_v) H rfl rfl (fun v2 H=>?_);conv=>whnf
  exact fb_ H
 conv=>whnf
 refine askN_c 0 1 (fun s hs=>p_tally_New_o  s hs) H rfl rfl rfl rfl (fun s=>(belowL_app (cellsM_idlt (f:=SyncatomicInt64.v) (fun _=>rfl) _) rfl)) (.nil) (fun y3 H=>?_);conv=>whnf
 refine Tst.F ?_;conv=>whnf
 obtain ⟨o5,HL6,HQ7⟩:=bind_c H
 refine loop_c [2,5,6,4] [16,17,18,19,20,21,22,23,24,25,26,27,28,29,30,31,32,33,34,35,36,37,38,39,40,41,42,43,44,45,46,47,48,49,50,51,52,13,14] [16,17,18,19,20,21,22,23,24,25,26,27,28,29,30,31,32,33,34,35,36,37,38,39,40,41,42,43,44,45,46,47,48,49,50,51,52,13,14] (fun n vals st=>(∃ y9 y10,p_law36_TallyBytes_l1  a0 n [] y9 y10=some o5∧vals=[.b false,.sl (List.map StanzaStanza.v []) true,.i y9,.ptr 1 0]∧st=[.live (cellsM SyncatomicInt64.v y3.counts++([.lit (.int .u32 y3.once.done.v_),.lit (.int .i32 y3.once.m.mu.state),.lit (.int .u32 y3.once.m.mu.sema),.sl (List.map V.s y3.names) false])) 0,.live [.i y10.E,.sl (List.map Ref33Said.v y10.Said) true,.sl (List.map V.i y10.Shut) true] 0])∨(∃ y22 y23 y24,p_law36_TallyBytes_l1  a0 n y22 y23 y24=some o5∧vals=[.b false,.osl 3 0 (List.length y22) 8 false,.i y23,.ptr 1 0]∧st=[.live (cellsM SyncatomicInt64.v y3.counts++([.lit (.int .u32 y3.once.done.v_),.lit (.int .i32 y3.once.m.mu.state),.lit (.int .u32 y3.once.m.mu.sema),.sl (List.map V.s y3.names) false])) 0,.live [.i y24.E,.osl 2 0 (List.length y24.Said) 9 false,.sl (List.map V.i y24.Shut) true] 0,.live (cellsM Ref33Said.v y24.Said) (cellsM Ref33Said.v y24.Said).length,.live (cellsM StanzaStanza.v y22) (cellsM StanzaStanza.v y22).length])∨(∃ y25 y26,p_law36_TallyBytes_l1  a0 n [] y25 y26=some o5∧vals=[.b false,.sl (List.map StanzaStanza.v []) true,.i y25,.ptr 1 0]∧st=[.live (cellsM SyncatomicInt64.v y3.counts++([.lit (.int .u32 y3.once.done.v_),.lit (.int .i32 y3.once.m.mu.state),.lit (.int .u32 y3.once.m.mu.sema),.sl (List.map V.s y3.names) false])) 0,.live [.i y26.E,.osl 2 0 (List.length y26.Said) 9 false,.sl (List.map V.i y26.Shut) true] 0,.live (cellsM Ref33Said.v y26.Said) (cellsM Ref33Said.v y26.Said).length])∨(∃ y51 y52 y53,p_law36_TallyBytes_l1  a0 n y51 y52 y53=some o5∧vals=[.b false,.osl 2 0 (List.length y51) 8 false,.i y52,.ptr 1 0]∧st=[.live (cellsM SyncatomicInt64.v y3.counts++([.lit (.int .u32 y3.once.done.v_),.lit (.int .i32 y3.once.m.mu.state),.lit (.int .u32 y3.once.m.mu.sema),.sl (List.map V.s y3.names) false])) 0,.live [.i y53.E,.osl 3 0 (List.length y53.Said) 9 false,.sl (List.map V.i y53.Shut) true] 0,.live (cellsM StanzaStanza.v y51) (cellsM StanzaStanza.v y51).length,.live (cellsM Ref33Said.v y53.Said) (cellsM Ref33Said.v y53.Said).length])) fuel 2 [0,2] (.inl (⟨_,_,HL6,rfl,rfl⟩)) (Nat.zero_le _) rfl (by kernel_rfl) (by kernel_rfl) rfl (by exact wkB_live0 rfl (belowL_app (cellsM_idlt (f:=SyncatomicInt64.v) (fun _=>rfl) _) rfl) rfl ⟨⟨rfl,rfl,rfl⟩,trivial⟩) ?_
 rintro (_ | n8) _ _ (⟨y9,y10,H,rfl,rfl⟩ | ⟨y22,y23,y24,H,rfl,rfl⟩ | ⟨y25,y26,H,rfl,rfl⟩ | ⟨y51,y52,y53,H,rfl,rfl⟩)
 ·rw [p_law36_TallyBytes_l1] at H;cases H
 ·rw [p_law36_TallyBytes_l1] at H;cases H
 ·rw [p_law36_TallyBytes_l1] at H;cases H
 ·rw [p_law36_TallyBytes_l1] at H;cases H
 ·rw [p_law36_TallyBytes_l1] at H
  conv=>whnf
  refine LenQ.M ?_;conv=>whnf
  refine tst_c H (fun b11 H=>?_) (fun b11 H=>?_)
  ·conv=>whnf
   refine ixs_c (f:=StanzaStanza.v) H (fun _=>rfl) (fun x12 H=>?_);conv=>whnf
   refine ask_c (p_ref10_Light_v _) H rfl rfl (fun v13 H=>?_);conv=>whnf
   refine Tst.not ?_
   refine tst_d H (fun b14 H=>?_) (fun b14 H=>?_)
   ·conv=>whnf
    refine ask_c (p_law36_awake_v) H rfl rfl (fun v27 H=>?_);conv=>whnf
    obtain rfl:=Option.some.inj H
    have H:=HQ7
    try dsimp only at H
    exact fb_ H
   conv=>whnf
   refine ixs_c (f:=StanzaStanza.v) H (fun _=>rfl) (fun x15 H=>?_);conv=>whnf
   refine appN_c (f:=Ref33Said.v) H (fun _=>rfl) (srcM (f:=Ref33Said.v) (fun _=>rfl) _ _) rfl (.v (srcOwn (f:=Ref33Said.v) (l:=[(Ref33Said.mk y9 x15)]) (fun _=>rfl) rfl rfl rfl)) (by decide) rfl (by simp) (fun l16 H=>?_);conv=>whnf
   refine lq_ ?_;conv=>whnf
   refine FootQ.mk ⟨rfl,?_⟩;conv=>whnf
   refine ixs_c (f:=StanzaStanza.v) H (fun _=>rfl) (fun x17 H=>?_);conv=>whnf
   refine ask_c (p_stanza_Check_v _) H rfl rfl (fun v18 H=>?_);conv=>whnf
   refine tst_d H (fun b19 H=>?_) (fun b19 H=>?_)
   ·conv=>whnf
    refine Ari.w ?_;conv=>whnf
    exact again_c [16,17,18,19,20,21,22,23,24,25,26,27,28,29,30,31,32,33,34,35,36,37,38,39,40,41,42,43,44,45,46,47,48,49,50,51,52,13,14] n8 3 [0,1,3] (.inr (.inr (.inl (⟨_,_,H,rfl,rfl⟩)))) (Nat.lt_succ_self _) (Nat.zero_le _) rfl (by kernel_rfl) (by kernel_rfl) rfl (by exact wkB_live0 rfl (belowL_app (cellsM_idlt (f:=SyncatomicInt64.v) (fun _=>rfl) _) rfl) rfl ⟨⟨rfl,rfl,rfl⟩,wkB_live0 rfl (cellsM_idlt (f:=Ref33Said.v) (fun _=>rfl) _) rfl trivial⟩)
   conv=>whnf
   refine ixs_c (f:=StanzaStanza.v) H (fun _=>rfl) (fun x20 H=>?_);conv=>whnf
   refine appN_c (f:=StanzaStanza.v) H (fun _=>rfl) (srcM (f:=StanzaStanza.v) (fun _=>rfl) [] true) rfl (.v (srcOwn (f:=StanzaStanza.v) (l:=[x20]) (fun _=>rfl) rfl rfl rfl)) (by decide) rfl (by simp) (fun l21 H=>?_);conv=>whnf
   refine Ari.w ?_;conv=>whnf
   exact again_c [16,17,18,19,20,21,22,23,24,25,26,27,28,29,30,31,32,33,34,35,36,37,38,39,40,41,42,43,44,45,46,47,48,49,50,51,52,13,14] n8 4 [0,1,3,5] (.inr (.inl (⟨_,_,_,H,rfl,rfl⟩))) (Nat.lt_succ_self _) (Nat.zero_le _) rfl (by kernel_rfl) (by kernel_rfl) rfl (by exact wkB_live0 rfl (belowL_app (cellsM_idlt (f:=SyncatomicInt64.v) (fun _=>rfl) _) rfl) rfl ⟨⟨rfl,rfl,rfl⟩,wkB_live0 rfl (cellsM_idlt (f:=Ref33Said.v) (fun _=>rfl) _) rfl (wkB_live0 rfl (cellsM_idlt (f:=StanzaStanza.v) (fun _=>rfl) _) rfl trivial)⟩)
  conv=>whnf
  obtain rfl:=Option.some.inj H
  have H:=HQ7
  try dsimp only at H
  refine askCo_c [0] (fun s hs=>p_tally_Tally_Note_p1_0 _ _ s hs) H (fun _=>rfl) rfl ⟨rfl,trivial⟩ rfl (closed_cons (belowL_app (cellsM_idlt (f:=SyncatomicInt64.v) (fun _=>rfl) _) rfl) closed_nil) (fun s=>(closed_cons (belowL_app (cellsM_idlt (f:=SyncatomicInt64.v) (fun _=>rfl) _) rfl) closed_nil)) (fun _=>rfl) (.kp rfl (.kp rfl (.nil))) (fun v28 H=>?_);conv=>whnf
  refine ask_c (p_deframe_Encode_v _) H rfl rfl (fun v29 H=>?_);conv=>whnf
  refine tstT_c H (fun b30 H=>?_);conv=>whnf
  refine Tst.T ?_;conv=>whnf
  refine askCo_c [0] (fun s hs=>p_tally_Tally_Get_p1_0 _ _ s hs) H (fun _=>rfl) rfl ⟨rfl,trivial⟩ rfl (closed_cons (belowL_app (cellsM_idlt (f:=SyncatomicInt64.v) (fun _=>rfl) _) rfl) closed_nil) (fun s=>(closed_cons (belowL_app (cellsM_idlt (f:=SyncatomicInt64.v) (fun _=>rfl) _) rfl) closed_nil)) (fun _=>rfl) (.kp rfl (.kp rfl (.nil))) (fun v31 H=>?_);conv=>whnf
  iterate 4 (refine Tst.T ?_;conv=>whnf)
  refine tstT_c H (fun b32 H=>?_);conv=>whnf
  refine Tst.T ?_;conv=>whnf
  refine askCo_c [0] (fun s hs=>p_tally_Tally_Get_p1_0 _ _ s hs) H (fun _=>rfl) rfl ⟨rfl,trivial⟩ rfl (closed_cons (belowL_app (cellsM_idlt (f:=SyncatomicInt64.v) (fun _=>rfl) _) rfl) closed_nil) (fun s=>(closed_cons (belowL_app (cellsM_idlt (f:=SyncatomicInt64.v) (fun _=>rfl) _) rfl) closed_nil)) (fun _=>rfl) (.kp rfl (.kp rfl (.nil))) (fun v33 H=>?_);conv=>whnf
  iterate 2 (refine Tst.T ?_;conv=>whnf)
  refine LenQ.M ?_;conv=>whnf
  iterate 2 (refine Tst.T ?_;conv=>whnf)
  refine tstT_c H (fun b34 H=>?_);conv=>whnf
  refine Tst.T ?_;conv=>whnf
  refine askCo_c [0] (fun s hs=>p_tally_Tally_Get_p1_0 _ _ s hs) H (fun _=>rfl) rfl ⟨rfl,trivial⟩ rfl (closed_cons (belowL_app (cellsM_idlt (f:=SyncatomicInt64.v) (fun _=>rfl) _) rfl) closed_nil) (fun s=>(closed_cons (belowL_app (cellsM_idlt (f:=SyncatomicInt64.v) (fun _=>rfl) _) rfl) closed_nil)) (fun _=>rfl) (.kp rfl (.kp rfl (.nil))) (fun v35 H=>?_);conv=>whnf
  iterate 2 (refine Tst.T ?_;conv=>whnf)
  refine tstT_c H (fun b36 H=>?_);conv=>whnf
  refine Tst.T ?_;conv=>whnf
  refine askCo_c [0] (fun s hs=>p_tally_Tally_Get_p1_0 _ _ s hs) H (fun _=>rfl) rfl ⟨rfl,trivial⟩ rfl (closed_cons (belowL_app (cellsM_idlt (f:=SyncatomicInt64.v) (fun _=>rfl) _) rfl) closed_nil) (fun s=>(closed_cons (belowL_app (cellsM_idlt (f:=SyncatomicInt64.v) (fun _=>rfl) _) rfl) closed_nil)) (fun _=>rfl) (.kp rfl (.kp rfl (.nil))) (fun v37 H=>?_);conv=>whnf
  iterate 2 (refine Tst.T ?_;conv=>whnf)
  refine tstT_c H (fun b38 H=>?_);conv=>whnf
  refine ask_c (p_law36_awake_v) H rfl rfl (fun v39 H=>?_);conv=>whnf
  refine Tst.T ?_;conv=>whnf
  exact fb_ H
 ·rw [p_law36_TallyBytes_l1] at H
  conv=>whnf
  refine LenQ.M ?_;conv=>whnf
  refine tst_c H (fun b40 H=>?_) (fun b40 H=>?_)
  ·conv=>whnf
   refine ixs_c (f:=StanzaStanza.v) H (fun _=>rfl) (fun x41 H=>?_);conv=>whnf
   refine ask_c (p_ref10_Light_v _) H rfl rfl (fun v42 H=>?_);conv=>whnf
   refine Tst.not ?_
   refine tst_d H (fun b43 H=>?_) (fun b43 H=>?_)
   ·conv=>whnf
    refine ask_c (p_law36_awake_v) H rfl rfl (fun v54 H=>?_);conv=>whnf
    obtain rfl:=Option.some.inj H
    have H:=HQ7
    try dsimp only at H
    exact fb_ H
   conv=>whnf
   refine ixs_c (f:=StanzaStanza.v) H (fun _=>rfl) (fun x44 H=>?_);conv=>whnf
   refine appO_c (f:=Ref33Said.v) H (fun _=>rfl) rfl (Nat.le_refl _) (.v (srcOwn (f:=Ref33Said.v) (l:=[(Ref33Said.mk y23 x44)]) (fun _=>rfl) rfl rfl rfl)) (by decide) rfl (by simp) (fun l45 H=>?_);conv=>whnf
   refine lq_ ?_;conv=>whnf
   refine FootQ.mk ⟨rfl,?_⟩;conv=>whnf
   refine ixs_c (f:=StanzaStanza.v) H (fun _=>rfl) (fun x46 H=>?_);conv=>whnf
   refine ask_c (p_stanza_Check_v _) H rfl rfl (fun v47 H=>?_);conv=>whnf
   refine tst_d H (fun b48 H=>?_) (fun b48 H=>?_)
   ·conv=>whnf
    refine Ari.w ?_;conv=>whnf
    exact again_c [16,17,18,19,20,21,22,23,24,25,26,27,28,29,30,31,32,33,34,35,36,37,38,39,40,41,42,43,44,45,46,47,48,49,50,51,52,13,14] n8 4 [0,1,3,5] (.inr (.inr (.inr (⟨_,_,_,H,rfl,rfl⟩)))) (Nat.lt_succ_self _) (Nat.zero_le _) rfl (by kernel_rfl) (by kernel_rfl) rfl (by exact wkB_live0 rfl (belowL_app (cellsM_idlt (f:=SyncatomicInt64.v) (fun _=>rfl) _) rfl) rfl ⟨⟨rfl,rfl,rfl⟩,wkB_live0 rfl (cellsM_idlt (f:=StanzaStanza.v) (fun _=>rfl) _) rfl (wkB_live0 rfl (cellsM_idlt (f:=Ref33Said.v) (fun _=>rfl) _) rfl trivial)⟩)
   conv=>whnf
   refine ixs_c (f:=StanzaStanza.v) H (fun _=>rfl) (fun x49 H=>?_);conv=>whnf
   refine appO_c (f:=StanzaStanza.v) H (fun _=>rfl) rfl (Nat.le_refl _) (.v (srcOwn (f:=StanzaStanza.v) (l:=[x49]) (fun _=>rfl) rfl rfl rfl)) (by decide) rfl (by simp) (fun l50 H=>?_);conv=>whnf
   refine Ari.w ?_;conv=>whnf
   exact again_c [16,17,18,19,20,21,22,23,24,25,26,27,28,29,30,31,32,33,34,35,36,37,38,39,40,41,42,43,44,45,46,47,48,49,50,51,52,13,14] n8 4 [0,1,5,7] (.inr (.inl (⟨_,_,_,H,rfl,rfl⟩))) (Nat.lt_succ_self _) (Nat.zero_le _) rfl (by kernel_rfl) (by kernel_rfl) rfl (by exact wkB_live0 rfl (belowL_app (cellsM_idlt (f:=SyncatomicInt64.v) (fun _=>rfl) _) rfl) rfl ⟨⟨rfl,rfl,rfl⟩,wkB_live0 rfl (cellsM_idlt (f:=Ref33Said.v) (fun _=>rfl) _) rfl (wkB_live0 rfl (cellsM_idlt (f:=StanzaStanza.v) (fun _=>rfl) _) rfl trivial)⟩)
  conv=>whnf
  obtain rfl:=Option.some.inj H
  have H:=HQ7
  try dsimp only at H
  refine askCo_c [0] (fun s hs=>p_tally_Tally_Note_p1_0 _ _ s hs) H (fun _=>rfl) rfl ⟨rfl,trivial⟩ rfl (closed_cons (belowL_app (cellsM_idlt (f:=SyncatomicInt64.v) (fun _=>rfl) _) rfl) closed_nil) (fun s=>(closed_cons (belowL_app (cellsM_idlt (f:=SyncatomicInt64.v) (fun _=>rfl) _) rfl) closed_nil)) (fun _=>rfl) (.kp rfl (.fz (fzagg (.cons (.id rfl) (.cons (fzown (f:=Ref33Said.v) (l:=y24.Said) rfl rfl (fun _=>rfl) (fun _=>rfl)) (.cons (.slw) (.nil)))) rfl) rfl (.nil))) (fun v55 H=>?_);conv=>whnf
  refine askF_c (p_deframe_Encode_v _) H (.cons (.c (fzown (f:=StanzaStanza.v) (l:=y22) rfl rfl (fun _=>rfl) (fun _=>rfl))) (.nil)) (fun v56 H=>?_);conv=>whnf
  refine tstT_c H (fun b57 H=>?_);conv=>whnf
  refine Tst.T ?_;conv=>whnf
  refine askCo_c [0] (fun s hs=>p_tally_Tally_Get_p1_0 _ _ s hs) H (fun _=>rfl) rfl ⟨rfl,trivial⟩ rfl (closed_cons (belowL_app (cellsM_idlt (f:=SyncatomicInt64.v) (fun _=>rfl) _) rfl) closed_nil) (fun s=>(closed_cons (belowL_app (cellsM_idlt (f:=SyncatomicInt64.v) (fun _=>rfl) _) rfl) closed_nil)) (fun _=>rfl) (.kp rfl (.kp rfl (.nil))) (fun v58 H=>?_);conv=>whnf
  iterate 4 (refine Tst.T ?_;conv=>whnf)
  refine tstT_c H (fun b59 H=>?_);conv=>whnf
  refine Tst.T ?_;conv=>whnf
  refine askCo_c [0] (fun s hs=>p_tally_Tally_Get_p1_0 _ _ s hs) H (fun _=>rfl) rfl ⟨rfl,trivial⟩ rfl (closed_cons (belowL_app (cellsM_idlt (f:=SyncatomicInt64.v) (fun _=>rfl) _) rfl) closed_nil) (fun s=>(closed_cons (belowL_app (cellsM_idlt (f:=SyncatomicInt64.v) (fun _=>rfl) _) rfl) closed_nil)) (fun _=>rfl) (.kp rfl (.kp rfl (.nil))) (fun v60 H=>?_);conv=>whnf
  iterate 2 (refine Tst.T ?_;conv=>whnf)
  refine LenQ.M ?_;conv=>whnf
  iterate 2 (refine Tst.T ?_;conv=>whnf)
  refine tstT_c H (fun b61 H=>?_);conv=>whnf
  refine Tst.T ?_;conv=>whnf
  refine askCo_c [0] (fun s hs=>p_tally_Tally_Get_p1_0 _ _ s hs) H (fun _=>rfl) rfl ⟨rfl,trivial⟩ rfl (closed_cons (belowL_app (cellsM_idlt (f:=SyncatomicInt64.v) (fun _=>rfl) _) rfl) closed_nil) (fun s=>(closed_cons (belowL_app (cellsM_idlt (f:=SyncatomicInt64.v) (fun _=>rfl) _) rfl) closed_nil)) (fun _=>rfl) (.kp rfl (.kp rfl (.nil))) (fun v62 H=>?_);conv=>whnf
  iterate 2 (refine Tst.T ?_;conv=>whnf)
  refine tstT_c H (fun b63 H=>?_);conv=>whnf
  refine Tst.T ?_;conv=>whnf
  refine askCo_c [0] (fun s hs=>p_tally_Tally_Get_p1_0 _ _ s hs) H (fun _=>rfl) rfl ⟨rfl,trivial⟩ rfl (closed_cons (belowL_app (cellsM_idlt (f:=SyncatomicInt64.v) (fun _=>rfl) _) rfl) closed_nil) (fun s=>(closed_cons (belowL_app (cellsM_idlt (f:=SyncatomicInt64.v) (fun _=>rfl) _) rfl) closed_nil)) (fun _=>rfl) (.kp rfl (.kp rfl (.nil))) (fun v64 H=>?_);conv=>whnf
  iterate 2 (refine Tst.T ?_;conv=>whnf)
  refine tstT_c H (fun b65 H=>?_);conv=>whnf
  refine ask_c (p_law36_awake_v) H rfl rfl (fun v66 H=>?_);conv=>whnf
  refine Tst.T ?_;conv=>whnf
  exact fb_ H
 ·rw [p_law36_TallyBytes_l1] at H
  conv=>whnf
  refine LenQ.M ?_;conv=>whnf
  refine tst_c H (fun b67 H=>?_) (fun b67 H=>?_)
  ·conv=>whnf
   refine ixs_c (f:=StanzaStanza.v) H (fun _=>rfl) (fun x68 H=>?_);conv=>whnf
   refine ask_c (p_ref10_Light_v _) H rfl rfl (fun v69 H=>?_);conv=>whnf
   refine Tst.not ?_
   refine tst_d H (fun b70 H=>?_) (fun b70 H=>?_)
   ·conv=>whnf
    refine ask_c (p_law36_awake_v) H rfl rfl (fun v78 H=>?_);conv=>whnf
    obtain rfl:=Option.some.inj H
    have H:=HQ7
    try dsimp only at H
    exact fb_ H
   conv=>whnf
   refine ixs_c (f:=StanzaStanza.v) H (fun _=>rfl) (fun x71 H=>?_);conv=>whnf
   refine appO_c (f:=Ref33Said.v) H (fun _=>rfl) rfl (Nat.le_refl _) (.v (srcOwn (f:=Ref33Said.v) (l:=[(Ref33Said.mk y25 x71)]) (fun _=>rfl) rfl rfl rfl)) (by decide) rfl (by simp) (fun l72 H=>?_);conv=>whnf
   refine lq_ ?_;conv=>whnf
   refine FootQ.mk ⟨rfl,?_⟩;conv=>whnf
   refine ixs_c (f:=StanzaStanza.v) H (fun _=>rfl) (fun x73 H=>?_);conv=>whnf
   refine ask_c (p_stanza_Check_v _) H rfl rfl (fun v74 H=>?_);conv=>whnf
   refine tst_d H (fun b75 H=>?_) (fun b75 H=>?_)
   ·conv=>whnf
    refine Ari.w ?_;conv=>whnf
    exact again_c [16,17,18,19,20,21,22,23,24,25,26,27,28,29,30,31,32,33,34,35,36,37,38,39,40,41,42,43,44,45,46,47,48,49,50,51,52,13,14] n8 3 [0,1,4] (.inr (.inr (.inl (⟨_,_,H,rfl,rfl⟩)))) (Nat.lt_succ_self _) (Nat.zero_le _) rfl (by kernel_rfl) (by kernel_rfl) rfl (by exact wkB_live0 rfl (belowL_app (cellsM_idlt (f:=SyncatomicInt64.v) (fun _=>rfl) _) rfl) rfl ⟨⟨rfl,rfl,rfl⟩,wkB_live0 rfl (cellsM_idlt (f:=Ref33Said.v) (fun _=>rfl) _) rfl trivial⟩)
   conv=>whnf
   refine ixs_c (f:=StanzaStanza.v) H (fun _=>rfl) (fun x76 H=>?_);conv=>whnf
   refine appN_c (f:=StanzaStanza.v) H (fun _=>rfl) (srcM (f:=StanzaStanza.v) (fun _=>rfl) [] true) rfl (.v (srcOwn (f:=StanzaStanza.v) (l:=[x76]) (fun _=>rfl) rfl rfl rfl)) (by decide) rfl (by simp) (fun l77 H=>?_);conv=>whnf
   refine Ari.w ?_;conv=>whnf
   exact again_c [16,17,18,19,20,21,22,23,24,25,26,27,28,29,30,31,32,33,34,35,36,37,38,39,40,41,42,43,44,45,46,47,48,49,50,51,52,13,14] n8 4 [0,1,4,6] (.inr (.inl (⟨_,_,_,H,rfl,rfl⟩))) (Nat.lt_succ_self _) (Nat.zero_le _) rfl (by kernel_rfl) (by kernel_rfl) rfl (by exact wkB_live0 rfl (belowL_app (cellsM_idlt (f:=SyncatomicInt64.v) (fun _=>rfl) _) rfl) rfl ⟨⟨rfl,rfl,rfl⟩,wkB_live0 rfl (cellsM_idlt (f:=Ref33Said.v) (fun _=>rfl) _) rfl (wkB_live0 rfl (cellsM_idlt (f:=StanzaStanza.v) (fun _=>rfl) _) rfl trivial)⟩)
  conv=>whnf
  obtain rfl:=Option.some.inj H
  have H:=HQ7
  try dsimp only at H
  refine askCo_c [0] (fun s hs=>p_tally_Tally_Note_p1_0 _ _ s hs) H (fun _=>rfl) rfl ⟨rfl,trivial⟩ rfl (closed_cons (belowL_app (cellsM_idlt (f:=SyncatomicInt64.v) (fun _=>rfl) _) rfl) closed_nil) (fun s=>(closed_cons (belowL_app (cellsM_idlt (f:=SyncatomicInt64.v) (fun _=>rfl) _) rfl) closed_nil)) (fun _=>rfl) (.kp rfl (.fz (fzagg (.cons (.id rfl) (.cons (fzown (f:=Ref33Said.v) (l:=y26.Said) rfl rfl (fun _=>rfl) (fun _=>rfl)) (.cons (.slw) (.nil)))) rfl) rfl (.nil))) (fun v79 H=>?_);conv=>whnf
  refine ask_c (p_deframe_Encode_v _) H rfl rfl (fun v80 H=>?_);conv=>whnf
  refine tstT_c H (fun b81 H=>?_);conv=>whnf
  refine Tst.T ?_;conv=>whnf
  refine askCo_c [0] (fun s hs=>p_tally_Tally_Get_p1_0 _ _ s hs) H (fun _=>rfl) rfl ⟨rfl,trivial⟩ rfl (closed_cons (belowL_app (cellsM_idlt (f:=SyncatomicInt64.v) (fun _=>rfl) _) rfl) closed_nil) (fun s=>(closed_cons (belowL_app (cellsM_idlt (f:=SyncatomicInt64.v) (fun _=>rfl) _) rfl) closed_nil)) (fun _=>rfl) (.kp rfl (.kp rfl (.nil))) (fun v82 H=>?_);conv=>whnf
  iterate 4 (refine Tst.T ?_;conv=>whnf)
  refine tstT_c H (fun b83 H=>?_);conv=>whnf
  refine Tst.T ?_;conv=>whnf
  refine askCo_c [0] (fun s hs=>p_tally_Tally_Get_p1_0 _ _ s hs) H (fun _=>rfl) rfl ⟨rfl,trivial⟩ rfl (closed_cons (belowL_app (cellsM_idlt (f:=SyncatomicInt64.v) (fun _=>rfl) _) rfl) closed_nil) (fun s=>(closed_cons (belowL_app (cellsM_idlt (f:=SyncatomicInt64.v) (fun _=>rfl) _) rfl) closed_nil)) (fun _=>rfl) (.kp rfl (.kp rfl (.nil))) (fun v84 H=>?_);conv=>whnf
  iterate 2 (refine Tst.T ?_;conv=>whnf)
  refine LenQ.M ?_;conv=>whnf
  iterate 2 (refine Tst.T ?_;conv=>whnf)
  refine tstT_c H (fun b85 H=>?_);conv=>whnf
  refine Tst.T ?_;conv=>whnf
  refine askCo_c [0] (fun s hs=>p_tally_Tally_Get_p1_0 _ _ s hs) H (fun _=>rfl) rfl ⟨rfl,trivial⟩ rfl (closed_cons (belowL_app (cellsM_idlt (f:=SyncatomicInt64.v) (fun _=>rfl) _) rfl) closed_nil) (fun s=>(closed_cons (belowL_app (cellsM_idlt (f:=SyncatomicInt64.v) (fun _=>rfl) _) rfl) closed_nil)) (fun _=>rfl) (.kp rfl (.kp rfl (.nil))) (fun v86 H=>?_);conv=>whnf
  iterate 2 (refine Tst.T ?_;conv=>whnf)
  refine tstT_c H (fun b87 H=>?_);conv=>whnf
  refine Tst.T ?_;conv=>whnf
  refine askCo_c [0] (fun s hs=>p_tally_Tally_Get_p1_0 _ _ s hs) H (fun _=>rfl) rfl ⟨rfl,trivial⟩ rfl (closed_cons (belowL_app (cellsM_idlt (f:=SyncatomicInt64.v) (fun _=>rfl) _) rfl) closed_nil) (fun s=>(closed_cons (belowL_app (cellsM_idlt (f:=SyncatomicInt64.v) (fun _=>rfl) _) rfl) closed_nil)) (fun _=>rfl) (.kp rfl (.kp rfl (.nil))) (fun v88 H=>?_);conv=>whnf
  iterate 2 (refine Tst.T ?_;conv=>whnf)
  refine tstT_c H (fun b89 H=>?_);conv=>whnf
  refine ask_c (p_law36_awake_v) H rfl rfl (fun v90 H=>?_);conv=>whnf
  refine Tst.T ?_;conv=>whnf
  exact fb_ H
 rw [p_law36_TallyBytes_l1] at H
 conv=>whnf
 refine LenQ.M ?_;conv=>whnf
 refine tst_c H (fun b91 H=>?_) (fun b91 H=>?_)
 ·conv=>whnf
  refine ixs_c (f:=StanzaStanza.v) H (fun _=>rfl) (fun x92 H=>?_);conv=>whnf
  refine ask_c (p_ref10_Light_v _) H rfl rfl (fun v93 H=>?_);conv=>whnf
  refine Tst.not ?_
  refine tst_d H (fun b94 H=>?_) (fun b94 H=>?_)
  ·conv=>whnf
   refine ask_c (p_law36_awake_v) H rfl rfl (fun v102 H=>?_);conv=>whnf
   obtain rfl:=Option.some.inj H
   have H:=HQ7
   try dsimp only at H
   exact fb_ H
  conv=>whnf
  refine ixs_c (f:=StanzaStanza.v) H (fun _=>rfl) (fun x95 H=>?_);conv=>whnf
  refine appO_c (f:=Ref33Said.v) H (fun _=>rfl) rfl (Nat.le_refl _) (.v (srcOwn (f:=Ref33Said.v) (l:=[(Ref33Said.mk y52 x95)]) (fun _=>rfl) rfl rfl rfl)) (by decide) rfl (by simp) (fun l96 H=>?_);conv=>whnf
  refine lq_ ?_;conv=>whnf
  refine FootQ.mk ⟨rfl,?_⟩;conv=>whnf
  refine ixs_c (f:=StanzaStanza.v) H (fun _=>rfl) (fun x97 H=>?_);conv=>whnf
  refine ask_c (p_stanza_Check_v _) H rfl rfl (fun v98 H=>?_);conv=>whnf
  refine tst_d H (fun b99 H=>?_) (fun b99 H=>?_)
  ·conv=>whnf
   refine Ari.w ?_;conv=>whnf
   exact again_c [16,17,18,19,20,21,22,23,24,25,26,27,28,29,30,31,32,33,34,35,36,37,38,39,40,41,42,43,44,45,46,47,48,49,50,51,52,13,14] n8 4 [0,1,2,5] (.inr (.inr (.inr (⟨_,_,_,H,rfl,rfl⟩)))) (Nat.lt_succ_self _) (Nat.zero_le _) rfl (by kernel_rfl) (by kernel_rfl) rfl (by exact wkB_live0 rfl (belowL_app (cellsM_idlt (f:=SyncatomicInt64.v) (fun _=>rfl) _) rfl) rfl ⟨⟨rfl,rfl,rfl⟩,wkB_live0 rfl (cellsM_idlt (f:=StanzaStanza.v) (fun _=>rfl) _) rfl (wkB_live0 rfl (cellsM_idlt (f:=Ref33Said.v) (fun _=>rfl) _) rfl trivial)⟩)
  conv=>whnf
  refine ixs_c (f:=StanzaStanza.v) H (fun _=>rfl) (fun x100 H=>?_);conv=>whnf
  refine appO_c (f:=StanzaStanza.v) H (fun _=>rfl) rfl (Nat.le_refl _) (.v (srcOwn (f:=StanzaStanza.v) (l:=[x100]) (fun _=>rfl) rfl rfl rfl)) (by decide) rfl (by simp) (fun l101 H=>?_);conv=>whnf
  refine Ari.w ?_;conv=>whnf
  exact again_c [16,17,18,19,20,21,22,23,24,25,26,27,28,29,30,31,32,33,34,35,36,37,38,39,40,41,42,43,44,45,46,47,48,49,50,51,52,13,14] n8 4 [0,1,5,7] (.inr (.inl (⟨_,_,_,H,rfl,rfl⟩))) (Nat.lt_succ_self _) (Nat.zero_le _) rfl (by kernel_rfl) (by kernel_rfl) rfl (by exact wkB_live0 rfl (belowL_app (cellsM_idlt (f:=SyncatomicInt64.v) (fun _=>rfl) _) rfl) rfl ⟨⟨rfl,rfl,rfl⟩,wkB_live0 rfl (cellsM_idlt (f:=Ref33Said.v) (fun _=>rfl) _) rfl (wkB_live0 rfl (cellsM_idlt (f:=StanzaStanza.v) (fun _=>rfl) _) rfl trivial)⟩)
 conv=>whnf
 obtain rfl:=Option.some.inj H
 have H:=HQ7
 try dsimp only at H
 refine askCo_c [0] (fun s hs=>p_tally_Tally_Note_p1_0 _ _ s hs) H (fun _=>rfl) rfl ⟨rfl,trivial⟩ rfl (closed_cons (belowL_app (cellsM_idlt (f:=SyncatomicInt64.v) (fun _=>rfl) _) rfl) closed_nil) (fun s=>(closed_cons (belowL_app (cellsM_idlt (f:=SyncatomicInt64.v) (fun _=>rfl) _) rfl) closed_nil)) (fun _=>rfl) (.kp rfl (.fz (fzagg (.cons (.id rfl) (.cons (fzown (f:=Ref33Said.v) (l:=y53.Said) rfl rfl (fun _=>rfl) (fun _=>rfl)) (.cons (.slw) (.nil)))) rfl) rfl (.nil))) (fun v103 H=>?_);conv=>whnf
 refine askF_c (p_deframe_Encode_v _) H (.cons (.c (fzown (f:=StanzaStanza.v) (l:=y51) rfl rfl (fun _=>rfl) (fun _=>rfl))) (.nil)) (fun v104 H=>?_);conv=>whnf
 refine tstT_c H (fun b105 H=>?_);conv=>whnf
 refine Tst.T ?_;conv=>whnf
 refine askCo_c [0] (fun s hs=>p_tally_Tally_Get_p1_0 _ _ s hs) H (fun _=>rfl) rfl ⟨rfl,trivial⟩ rfl (closed_cons (belowL_app (cellsM_idlt (f:=SyncatomicInt64.v) (fun _=>rfl) _) rfl) closed_nil) (fun s=>(closed_cons (belowL_app (cellsM_idlt (f:=SyncatomicInt64.v) (fun _=>rfl) _) rfl) closed_nil)) (fun _=>rfl) (.kp rfl (.kp rfl (.nil))) (fun v106 H=>?_);conv=>whnf
 iterate 4 (refine Tst.T ?_;conv=>whnf)
 refine tstT_c H (fun b107 H=>?_);conv=>whnf
 refine Tst.T ?_;conv=>whnf
 refine askCo_c [0] (fun s hs=>p_tally_Tally_Get_p1_0 _ _ s hs) H (fun _=>rfl) rfl ⟨rfl,trivial⟩ rfl (closed_cons (belowL_app (cellsM_idlt (f:=SyncatomicInt64.v) (fun _=>rfl) _) rfl) closed_nil) (fun s=>(closed_cons (belowL_app (cellsM_idlt (f:=SyncatomicInt64.v) (fun _=>rfl) _) rfl) closed_nil)) (fun _=>rfl) (.kp rfl (.kp rfl (.nil))) (fun v108 H=>?_);conv=>whnf
 iterate 2 (refine Tst.T ?_;conv=>whnf)
 refine LenQ.M ?_;conv=>whnf
 iterate 2 (refine Tst.T ?_;conv=>whnf)
 refine tstT_c H (fun b109 H=>?_);conv=>whnf
 refine Tst.T ?_;conv=>whnf
 refine askCo_c [0] (fun s hs=>p_tally_Tally_Get_p1_0 _ _ s hs) H (fun _=>rfl) rfl ⟨rfl,trivial⟩ rfl (closed_cons (belowL_app (cellsM_idlt (f:=SyncatomicInt64.v) (fun _=>rfl) _) rfl) closed_nil) (fun s=>(closed_cons (belowL_app (cellsM_idlt (f:=SyncatomicInt64.v) (fun _=>rfl) _) rfl) closed_nil)) (fun _=>rfl) (.kp rfl (.kp rfl (.nil))) (fun v110 H=>?_);conv=>whnf
 iterate 2 (refine Tst.T ?_;conv=>whnf)
 refine tstT_c H (fun b111 H=>?_);conv=>whnf
 refine Tst.T ?_;conv=>whnf
 refine askCo_c [0] (fun s hs=>p_tally_Tally_Get_p1_0 _ _ s hs) H (fun _=>rfl) rfl ⟨rfl,trivial⟩ rfl (closed_cons (belowL_app (cellsM_idlt (f:=SyncatomicInt64.v) (fun _=>rfl) _) rfl) closed_nil) (fun s=>(closed_cons (belowL_app (cellsM_idlt (f:=SyncatomicInt64.v) (fun _=>rfl) _) rfl) closed_nil)) (fun _=>rfl) (.kp rfl (.kp rfl (.nil))) (fun v112 H=>?_);conv=>whnf
 iterate 2 (refine Tst.T ?_;conv=>whnf)
 refine tstT_c H (fun b113 H=>?_);conv=>whnf
 refine ask_c (p_law36_awake_v) H rfl rfl (fun v114 H=>?_);conv=>whnf
 refine Tst.T ?_;conv=>whnf
 exact fb_ H
end Go.Proofs.YtpkodpcfafipdaaGreat

namespace Go.Proofs.YtpkodpcfafipdaaGreat
open Go.ChangeShapes Go.WideShapes Go.ChangeAt Go.RowKit Go.Joins Go.Deep
theorem tallyBytes_named:Tryz.pinned.checked.prog.funcNamed Rows.tallyBytesRow.func=some 6:=by kernel_rfl
theorem tallyBytes_closed:joinedFacts Tryz.pinned.checked.prog 6 Tryz.f6 Rows.tallyBytesSpec Rows.tallyBytesRow=true:=by kernel_rfl
end Go.Proofs.YtpkodpcfafipdaaGreat

namespace Go.Proofs.YtpkodpcfafipdaaGreat
open Go.ChangeShapes Go.WideShapes Go.ChangeAt Go.RowKit Go.Joins Go.Deep
set_option maxRecDepth 100000 in
theorem tallyBytes_lifted (os:Os) (started:os.Started) (H:Type) (enc:TypeId × Value→H) :
  ReturnsInHanded {} Tryz.checked os 6 .any (Rows.tallyBytesSpec.pre6 enc Tryz.prog Tryz.f6 Rows.tallyBytesRow.domain false) (Rows.tallyBytesSpec.post enc Tryz.prog Tryz.f6 false true false false):=by
 refine returnsInHanded_of_change_shaped (C:=Tryz.checked) own0 started (by kernel_rfl) Tryz.func6
  (ChangeSpec.witness6 (enc:=enc) (C:=Tryz.checked) false ⟨#[],#[.slice none 0 0],[]⟩ 8 (by kernel_rfl) (by kernel_rfl) (by kernel_rfl) (by kernel_rfl)) ?_
 intro W base args ds gs before hval0 hW hcnd _ hsh _
 have hval:∀ (j:Nat) t v,Tryz.f6.params[j]?=some t→args[j]?=some v→Value.okWide Tryz.prog W .any base t v:=hval0
 have hW':=hW
 obtain ⟨p,q,hA0,hV,rfl,hfz,hnd⟩:=hW
 have hA:DataW.TrodAll enc Tryz.prog W 0 (fun _=>true) true Tryz.f6.params.toList args.toList ds p:=hA0
 rw [Tryz.params6] at hA hval
 have hA2:=hA
 obtain ⟨v0,d0,rfl,rfl,h0⟩:=trodAll_one hA
 obtain ⟨rfl,rfl⟩:=trodVars_none hV
 obtain ⟨fu0,hf0⟩:=h0
 obtain ⟨q0,l0,k0,rfl⟩:=okWide_slice Tryz.underlying59 (hval 0 _ v0 rfl rfl)
 obtain ⟨a0,w0,r0⟩:=rd_T59 hf0
 have hx0:Rep (MW W) noBk _ _:=r0.2 0 (by simp [Value.cells]) (by simp)
 refine (rep_one (callsO_true (p_law36_TallyBytes_v a0) (tru_ok (tallyBytes_wf a0 w0))) (maxLen_cell W hsh) (repAr1 hx0)).mono ?_
 rintro e W' ⟨rfl,bel⟩
 refine ⟨_,rfl,_,_,_,[],p,[],hW',?_,?_,?_,?_,?_⟩
 ·exact trodAll_mk1 (shut_bool Tryz.underlying4 true)
 ·exact trodAll_below laid0 bel (by
   intro t ht
   simp at ht
   rcases ht with rfl <;> exact ⟨by kernel_rfl,of_decide_eq_true (by kernel_rfl)⟩) hA2
 ·rfl
 ·exact bel.frame _
 ·exact fun h=>by cases h
theorem tallyBytes_holds:Rows.TallyBytesSaid :=
 OpenClaim.holds_of_wide 6 Tryz.f6 rfl rfl rfl rfl rfl rfl rfl ⟨rfl,rfl,rfl,rfl,rfl⟩ rfl rfl rfl rfl rfl tallyBytes_named Tryz.func6 tallyBytes_closed
  (of_decide_eq_true (by kernel_rfl)) (by unfold Func.isWrapper;first | (rw [if_pos (by decide +kernel)];kernel_rfl) | (rw [if_neg (by decide +kernel)];exact ⟨rfl,rfl⟩))
  (fun os started H enc _=>tallyBytes_lifted os started H enc)
#print axioms tallyBytes_holds
end Go.Proofs.YtpkodpcfafipdaaGreat

