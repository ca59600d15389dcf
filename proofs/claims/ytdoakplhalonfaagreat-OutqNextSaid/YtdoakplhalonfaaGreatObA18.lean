/- OutqNext: for every input the call returns true, and its arguments read as they did. -/
import Derived.Test.YtdoakplhalonfaaGreatObA9
import Derived.Test.YtdoakplhalonfaaGreatObA15
import Derived.Test.YtdoakplhalonfaaGreatObA16
import Derived.Test.YtdoakplhalonfaaGreatObA17
import Derived.Test.YtdoakplhalonfaaGreatObA1
import Derived.KernelRfl
import Derived.Test.YtdoakplhalonfaaGreatObA14
import Derived.Test.YtdoakplhalonfaaGreatObA13
import Derived.Test.YtdoakplhalonfaaGreatObA2
import Derived.Test.YtdoakplhalonfaaGreatRows
set_option linter.all false
namespace Go.Proofs.YtdoakplhalonfaaGreat
open Go.RowKit
set_option maxRecDepth 100000
set_option maxHeartbeats 4000000
def gc28:BCode:=(.seq (R_ 5 [O_ 3 (.bx (t_ 0)) 0,O_ 4 (.bx (t_ 1)) 1,O_ 5 (.bx (t_ 2)) 2,O_ 6 (.al (.agg [(.sl [] true),(.lit (.bool false)),(.lit (.bool false)),(.lit (.string ⟨#[]⟩)),(.lit (.int .i64 0)),(.lit (.int .i64 0)),(.lit (.int .i64 0))])) 3,O_ 7 (.al (.agg [(.lit (.int .u8 0)),(.lit (.string ⟨#[]⟩)),(.lit (.string ⟨#[]⟩)),(.lit (.string ⟨#[]⟩)),(.lit (.int .i64 0)),(.lit (.int .i64 0)),(.lit (.int .i64 0)),(.lit (.int .i64 0))])) 4,O_ 8 (.mv (b_ false)) 5]) (.seq (R_ 1 [O_ 9 (.al (.agg [(.lit (.int .u8 0)),(.lit (.string ⟨#[]⟩)),(.lit (.string ⟨#[]⟩)),(.lit (.string ⟨#[]⟩)),(.lit (.int .i64 0)),(.lit (.int .i64 0)),(.lit (.int .i64 0)),(.lit (.int .i64 0))])) 0]) (.seq (.seq (R_ 0 [O_ 19 (.ld 7 true (t_ 3)) 0,O_ 20 (.cl 19 [(t_ 19)]) 0,O_ 21 (.bin .neq (t_ 20) (i_ 0)) 0,O_ 22 (.mv (t_ 21)) 0,⟨(some 23),.ld 7 true (t_ 3),(some (22,false)),0⟩,⟨(some 24),.cl 21 [(t_ 23)],(some (22,false)),0⟩,⟨(some 25),.un .not (t_ 24),(some (22,false)),0⟩,O_ 26 (.pick (t_ 22) (b_ true) (t_ 25)) 0]) (.cond (t_ 26) (.seq (.reg 0 [O_ 27 (.ld 7 true (t_ 3)) 0,O_ 28 (.ld 8 true (t_ 9)) 0,U_ (.st 7 (t_ 6) (t_ 27)) 0,U_ (.st 8 (t_ 7) (t_ 28)) 0,O_ 8 (.mv (b_ false)) 0] (some [[],[],[0],[0,2,1],[1,2,0,3]]) 0 []) .ret) .skip)) (.seq (.seq (R_ 0 [O_ 29 (.fa 1 (t_ 3)) 0,O_ 30 (.fa 0 (t_ 29)) 0,O_ 31 (.ld 1 false (t_ 30)) 0]) (.cond (t_ 31) (.seq (R_ 2 [O_ 33 (.fa 1 (t_ 3)) 0,O_ 34 (.ld 4 true (t_ 33)) 0,O_ 35 (.ld 2 true (t_ 4)) 0,O_ 36 (.ld 2 true (t_ 5)) 0,O_ 37 (.cl 56 [(t_ 34),(t_ 35),(t_ 36)]) 0,O_ 32 (.mv (t_ 37)) 0,O_ 38 (.ex (t_ 32) 0) 0,O_ 39 (.ex (t_ 32) 1) 0,O_ 40 (.ex (t_ 32) 2) 0,O_ 10 (.al (.agg [(.lit (.bool false)),(.lit (.bool false)),(.lit (.string ⟨#[]⟩)),(.lit (.int .i64 0))])) 0,O_ 11 (.al (.agg [(.lit (.int .u8 0)),(.lit (.string ⟨#[]⟩)),(.lit (.string ⟨#[]⟩)),(.lit (.string ⟨#[]⟩)),(.lit (.int .i64 0)),(.lit (.int .i64 0)),(.lit (.int .i64 0)),(.lit (.int .i64 0))])) 1,U_ (.st 4 (t_ 10) (t_ 38)) 2,U_ (.st 8 (t_ 11) (t_ 39)) 2,O_ 12 (.mv (t_ 40)) 2]) (.seq (.seq (R_ 0 [O_ 41 (.mv (t_ 12)) 0,O_ 42 (.un .not (t_ 41)) 0]) (.cond (t_ 42) (.seq (.reg 0 [O_ 43 (.ld 7 true (t_ 3)) 0,O_ 44 (.ld 8 true (t_ 9)) 0,U_ (.st 7 (t_ 6) (t_ 43)) 0,U_ (.st 8 (t_ 7) (t_ 44)) 0,O_ 8 (.mv (b_ false)) 0] (some [[],[],[0],[0,2,1],[1,2,0,3]]) 0 []) .ret) .skip)) (.seq (R_ 0 [O_ 45 (.ld 4 true (t_ 10)) 0,O_ 46 (.fa 1 (t_ 3)) 0,U_ (.st 4 (t_ 46) (t_ 45)) 0]) (.seq (R_ 0 [O_ 47 (.fa 5 (t_ 3)) 0,O_ 48 (.ld 1 false (t_ 47)) 0,O_ 49 (.bin .add (t_ 48) (i_ 1)) 0,O_ 50 (.mn false (i_ 1099511627776) (t_ 49)) 0,O_ 51 (.fa 5 (t_ 3)) 0,U_ (.st 1 (t_ 51) (t_ 50)) 0]) (.seq (.reg 0 [O_ 52 (.ld 7 true (t_ 3)) 0,O_ 53 (.ld 8 true (t_ 11)) 0,U_ (.st 7 (t_ 6) (t_ 52)) 0,U_ (.st 8 (t_ 7) (t_ 53)) 0,O_ 8 (.mv (b_ true)) 0] (some [[],[],[0],[0,2,1],[1,2,0,3]]) 0 []) .ret))))) .skip)) (.seq (R_ 1 [O_ 55 (.fa 0 (t_ 3)) 0,O_ 56 (.ld 1 false (t_ 55)) 0,O_ 57 (.cl 57 [(t_ 56)]) 0,O_ 54 (.mv (t_ 57)) 0,O_ 58 (.ex (t_ 54) 0) 0,O_ 59 (.ex (t_ 54) 1) 0,O_ 60 (.ex (t_ 54) 2) 0,O_ 14 (.al (.agg [(.lit (.string ⟨#[]⟩)),(.lit (.bool false)),(.lit (.int .i64 0)),(.lit (.int .i64 0)),(.lit (.int .i64 0))])) 0,O_ 13 (.mv (t_ 58)) 1,U_ (.st 5 (t_ 14) (t_ 59)) 1,O_ 15 (.mv (t_ 60)) 1]) (.seq (R_ 0 [O_ 62 (.fa 0 (t_ 14)) 0,O_ 63 (.ld 1 false (t_ 62)) 0,O_ 64 (.cl 58 [(t_ 63)]) 0,O_ 61 (.mv (t_ 64)) 0,O_ 65 (.ex (t_ 61) 0) 0,O_ 66 (.ex (t_ 61) 1) 0,O_ 67 (.ex (t_ 61) 2) 0,O_ 16 (.mv (t_ 65)) 0,O_ 17 (.mv (t_ 66)) 0,O_ 18 (.mv (t_ 67)) 0]) (.seq (R_ 0 [O_ 68 (.mv (t_ 13)) 0,O_ 69 (.fa 0 (t_ 3)) 0,U_ (.st 1 (t_ 69) (t_ 68)) 0]) (.seq (R_ 0 [O_ 70 (.fa 5 (t_ 3)) 0,O_ 71 (.ld 1 false (t_ 70)) 0,O_ 72 (.bin .add (t_ 71) (i_ 1)) 0,O_ 73 (.mn false (i_ 1099511627776) (t_ 72)) 0,O_ 74 (.fa 5 (t_ 3)) 0,U_ (.st 1 (t_ 74) (t_ 73)) 0]) (.seq (.reg 0 [O_ 75 (.ld 7 true (t_ 3)) 0,O_ 76 (.mv (t_ 16)) 0,O_ 77 (.mv (t_ 17)) 0,O_ 78 (.fa 1 (t_ 14)) 0,O_ 79 (.ld 4 true (t_ 78)) 0,O_ 80 (.cl 59 [(t_ 76),(t_ 77),(t_ 79)]) 0,U_ (.st 7 (t_ 6) (t_ 75)) 0,U_ (.st 8 (t_ 7) (t_ 80)) 0,O_ 8 (.mv (b_ true)) 0] (some [[],[],[],[],[3],[3,4,2,1],[1,2,4,3,5,0],[0,6,1,2,4,3,5],[5,3,4,2,1,6,0,7]]) 0 []) .ret)))))))))
theorem gc28_ok:compF Tryz.prog Tryz.f28=some (gc28.er,81,[.cell 6 7 true,.cell 7 8 true,.tmp 8]):=by unfold gc28;kernel_rfl
theorem p_ref27_Next_v {u1 u2 u3 u4:Bool} (a0:Ref27State) (a1:SnapEyes) (a2:BookState):CallsO Tryz.prog 28 [.agg [.sl (List.map MailEntry.v a0.Mail) u1,.b a0.Snap.On,.b a0.Snap.Begun,.s a0.Snap.After,.i a0.Snap.Told,.i a0.Sent,.i a0.Lost],.agg [.sl (List.map V.s a1.Users) u2,.sl (List.map V.s a1.Keys) u3],.agg [.i a2.Seq,.sl (List.map BookRow.v a2.Rows) u4]] (fun r:Ref27State × StanzaStanza × Bool=>.tup [Ref27State.v r.1,StanzaStanza.v r.2.1,V.b r.2.2]) (p_ref27_Next a0 a1 a2):=by
 refine callsO_comp mix Tryz.func28 gc28_ok fun r H=>?_
 rw [p_ref27_Next] at H
 conv=>whnf
 refine ask_c (p_ref27_Check_v _) H rfl rfl (fun v1 H=>?_);conv=>whnf
 refine tst_c H (fun b2 H=>?_) (fun b2 H=>?_)
 ·conv=>whnf
  iterate 4 (refine Tst.T ?_;conv=>whnf)
  refine lq_ ?_;conv=>whnf
  refine lq_ ?_;conv=>whnf
  refine FootQ.mk ⟨rfl,?_⟩;conv=>whnf
  refine finR_c (enc:=(fun r:Ref27State × StanzaStanza × Bool=>.tup [Ref27State.v r.1,StanzaStanza.v r.2.1,V.b r.2.2])) H ?_;conv=>whnf
  exact ⟨_,.tup (.cons (fzagg (.cons (.slw) (.cons (.id rfl) (.cons (.id rfl) (.cons (.id rfl) (.cons (.id rfl) (.cons (.id rfl) (.cons (.id rfl) (.nil)))))))) rfl) (.cons (fzagg (.cons (.id rfl) (.cons (.id rfl) (.cons (.id rfl) (.cons (.id rfl) (.cons (.id rfl) (.cons (.id rfl) (.cons (.id rfl) (.cons (.id rfl) (.nil))))))))) rfl) (.cons (.c (.id rfl)) (.nil))))⟩
 conv=>whnf
 refine Tst.F ?_;conv=>whnf
 refine ask_c (p_ref27_Wants_v _) H rfl rfl (fun v3 H=>?_);conv=>whnf
 iterate 2 (refine Tst.F ?_;conv=>whnf)
 refine Tst.not ?_
 refine tst_d H (fun b4 H=>?_) (fun b4 H=>?_)
 ·conv=>whnf
  refine lq_ ?_;conv=>whnf
  refine lq_ ?_;conv=>whnf
  refine FootQ.mk ⟨rfl,?_⟩;conv=>whnf
  refine finR_c (enc:=(fun r:Ref27State × StanzaStanza × Bool=>.tup [Ref27State.v r.1,StanzaStanza.v r.2.1,V.b r.2.2])) H ?_;conv=>whnf
  exact ⟨_,.tup (.cons (fzagg (.cons (.slw) (.cons (.id rfl) (.cons (.id rfl) (.cons (.id rfl) (.cons (.id rfl) (.cons (.id rfl) (.cons (.id rfl) (.nil)))))))) rfl) (.cons (fzagg (.cons (.id rfl) (.cons (.id rfl) (.cons (.id rfl) (.cons (.id rfl) (.cons (.id rfl) (.cons (.id rfl) (.cons (.id rfl) (.cons (.id rfl) (.nil))))))))) rfl) (.cons (.c (.id rfl)) (.nil))))⟩
 conv=>whnf
 refine tst_d H (fun b5 H=>?_) (fun b5 H=>?_)
 ·conv=>whnf
  refine ask_c (p_ref25_Take_v _) H rfl rfl (fun v8 H=>?_);conv=>whnf
  refine lq_ ?_;conv=>whnf
  refine ask_c (p_ref23_Split_v _) H rfl rfl (fun v9 H=>?_);conv=>whnf
  refine lq_ ?_;conv=>whnf
  refine Ari.w ?_;conv=>whnf
  refine lq_ ?_;conv=>whnf
  refine ask_c (p_ref23_Say_v _ _ _) H rfl rfl (fun v10 H=>?_);conv=>whnf
  refine lq_ ?_;conv=>whnf
  refine lq_ ?_;conv=>whnf
  refine FootQ.mk ⟨rfl,?_⟩;conv=>whnf
  exact fin0_c (enc:=(fun r:Ref27State × StanzaStanza × Bool=>.tup [Ref27State.v r.1,StanzaStanza.v r.2.1,V.b r.2.2])) H (.inr rfl) (.cons (.cell rfl rfl (Nat.le_of_ble_eq_true rfl)) (.cons (.cell rfl rfl (Nat.le_of_ble_eq_true rfl)) (.cons (.tmp rfl) (.nil)))) rfl rfl
 conv=>whnf
 refine ask_c (p_ref26_Next_v _ _ _) H rfl rfl (fun v6 H=>?_);conv=>whnf
 refine lq_ ?_;conv=>whnf
 refine lq_ ?_;conv=>whnf
 refine Tst.not ?_
 refine tst_d H (fun b7 H=>?_) (fun b7 H=>?_)
 ·conv=>whnf
  refine lq_ ?_;conv=>whnf
  refine lq_ ?_;conv=>whnf
  refine FootQ.mk ⟨rfl,?_⟩;conv=>whnf
  refine finR_c (enc:=(fun r:Ref27State × StanzaStanza × Bool=>.tup [Ref27State.v r.1,StanzaStanza.v r.2.1,V.b r.2.2])) H ?_;conv=>whnf
  exact ⟨_,.tup (.cons (fzagg (.cons (.slw) (.cons (.id rfl) (.cons (.id rfl) (.cons (.id rfl) (.cons (.id rfl) (.cons (.id rfl) (.cons (.id rfl) (.nil)))))))) rfl) (.cons (fzagg (.cons (.id rfl) (.cons (.id rfl) (.cons (.id rfl) (.cons (.id rfl) (.cons (.id rfl) (.cons (.id rfl) (.cons (.id rfl) (.cons (.id rfl) (.nil))))))))) rfl) (.cons (.c (.id rfl)) (.nil))))⟩
 conv=>whnf
 refine lq_ ?_;conv=>whnf
 refine Ari.w ?_;conv=>whnf
 refine lq_ ?_;conv=>whnf
 refine lq_ ?_;conv=>whnf
 refine lq_ ?_;conv=>whnf
 refine FootQ.mk ⟨rfl,?_⟩;conv=>whnf
 refine finR_c (enc:=(fun r:Ref27State × StanzaStanza × Bool=>.tup [Ref27State.v r.1,StanzaStanza.v r.2.1,V.b r.2.2])) H ?_;conv=>whnf
 exact ⟨_,.tup (.cons (fzagg (.cons (.slw) (.cons (.id rfl) (.cons (.id rfl) (.cons (.id rfl) (.cons (.id rfl) (.cons (.id rfl) (.cons (.id rfl) (.nil)))))))) rfl) (.cons (fzagg (.cons (.id rfl) (.cons (.id rfl) (.cons (.id rfl) (.cons (.id rfl) (.cons (.id rfl) (.cons (.id rfl) (.cons (.id rfl) (.cons (.id rfl) (.nil))))))))) rfl) (.cons (.c (.id rfl)) (.nil))))⟩
def gc30:BCode:=(.seq (R_ 4 [O_ 4 (.bx (t_ 0)) 0,O_ 5 (.bx (t_ 1)) 1,O_ 6 (.bx (t_ 2)) 2,O_ 8 (.al (.agg [(.sl [] true),(.lit (.bool false)),(.lit (.bool false)),(.lit (.string ⟨#[]⟩)),(.lit (.int .i64 0)),(.lit (.int .i64 0)),(.lit (.int .i64 0))])) 3,O_ 9 (.mv (.const (.slice none 0 0))) 4]) (.seq (R_ 0 [O_ 10 (.mv (.const (.slice none 0 0))) 0]) (.seq (R_ 0 [O_ 11 (.mv (b_ true)) 0]) (.seq (.block 0 (.loop (.seq (.seq (R_ 0 [O_ 15 (.mv (t_ 11)) 0,O_ 16 (.mv (t_ 15)) 0,⟨(some 17),.mv (t_ 10),(some (16,true)),0⟩,⟨(some 18),.lens (t_ 17),(some (16,true)),0⟩,⟨(some 19),.mv (t_ 3),(some (16,true)),0⟩,⟨(some 20),.mn false (t_ 19) (i_ 1000),(some (16,true)),0⟩,⟨(some 21),.bin .lss (t_ 18) (t_ 20),(some (16,true)),0⟩,O_ 22 (.pick (t_ 16) (t_ 21) (b_ false)) 0]) (.cond (t_ 22) .skip (.exit 0))) (.block 1 (.seq (R_ 2 [O_ 24 (.ld 7 true (t_ 4)) 0,O_ 25 (.ld 2 true (t_ 5)) 0,O_ 26 (.ld 2 true (t_ 6)) 0,O_ 27 (.cl 28 [(t_ 24),(t_ 25),(t_ 26)]) 0,O_ 23 (.mv (t_ 27)) 0,O_ 28 (.ex (t_ 23) 0) 0,O_ 29 (.ex (t_ 23) 1) 0,O_ 30 (.ex (t_ 23) 2) 0,O_ 12 (.al (.agg [(.sl [] true),(.lit (.bool false)),(.lit (.bool false)),(.lit (.string ⟨#[]⟩)),(.lit (.int .i64 0)),(.lit (.int .i64 0)),(.lit (.int .i64 0))])) 0,O_ 13 (.al (.agg [(.lit (.int .u8 0)),(.lit (.string ⟨#[]⟩)),(.lit (.string ⟨#[]⟩)),(.lit (.string ⟨#[]⟩)),(.lit (.int .i64 0)),(.lit (.int .i64 0)),(.lit (.int .i64 0)),(.lit (.int .i64 0))])) 1,U_ (.st 7 (t_ 12) (t_ 28)) 2,U_ (.st 8 (t_ 13) (t_ 29)) 2,O_ 14 (.mv (t_ 30)) 2]) (.seq (R_ 0 [O_ 31 (.ld 7 true (t_ 12)) 0,O_ 32 (.mv (t_ 14)) 0,U_ (.st 7 (t_ 4) (t_ 31)) 0,O_ 11 (.mv (t_ 32)) 0]) (.seq (R_ 0 [O_ 33 (.mv (t_ 14)) 0]) (.cond (t_ 33) (R_ 2 [O_ 34 (.mv (t_ 10)) 0,O_ 35 (.ld 8 true (t_ 13)) 0,O_ 36 (.bs 8 1 [(.lit (.int .u8 0)),(.lit (.string ⟨#[]⟩)),(.lit (.string ⟨#[]⟩)),(.lit (.string ⟨#[]⟩)),(.lit (.int .i64 0)),(.lit (.int .i64 0)),(.lit (.int .i64 0)),(.lit (.int .i64 0))] [(0,(t_ 35))]) 0,O_ 37 (.ap 8 88 (t_ 34) (t_ 36)) 1,O_ 10 (.mv (t_ 37)) 2]) .skip)))))))) (.seq (R_ 0 [O_ 38 (.ld 7 true (t_ 4)) 0,O_ 39 (.mv (t_ 10)) 0,U_ (.st 7 (t_ 8) (t_ 38)) 0,O_ 9 (.mv (t_ 39)) 0]) .ret)))))
theorem gc30_ok:compF Tryz.prog Tryz.f30=some (gc30.er,40,[.cell 8 7 true,.tmp 9]):=by unfold gc30;kernel_rfl
theorem p_ref27_Flush_v {u1 u2 u3 u4:Bool} (a0:Ref27State) (a1:SnapEyes) (a2:BookState) (a3:Int):CallsO Tryz.prog 30 [.agg [.sl (List.map MailEntry.v a0.Mail) u1,.b a0.Snap.On,.b a0.Snap.Begun,.s a0.Snap.After,.i a0.Snap.Told,.i a0.Sent,.i a0.Lost],.agg [.sl (List.map V.s a1.Users) u2,.sl (List.map V.s a1.Keys) u3],.agg [.i a2.Seq,.sl (List.map BookRow.v a2.Rows) u4],.i a3] (fun r:Ref27State × (List StanzaStanza)=>.tup [Ref27State.v r.1,(fun l:List StanzaStanza=>V.sl (l.map StanzaStanza.v) false) r.2]) (p_ref27_Flush a0 a1 a2 a3):=by
 refine callsO_comp mix Tryz.func30 gc30_ok fun r H=>?_
 rw [p_ref27_Flush] at H
 conv=>whnf
 obtain ⟨o2,HL3,HQ4⟩:=bind_c H
 refine loop_c [10,11] [12,13,14,15,16,17,18,19,20,21,22,23,24,25,26,27,28,29,30,31,32,33,34,35,36,37] [12,13,14,15,16,17,18,19,20,21,22,23,24,25,26,27,28,29,30,31,32,33,34,35,36,37] (fun n vals st=>(∃ y6 y7,p_ref27_Flush_l1  a3 a1 a2 n [] y6 y7=some o2∧vals=[.sl (List.map StanzaStanza.v []) true,.b y6]∧st=[.live [.sl (List.map MailEntry.v y7.Mail) u1,.b y7.Snap.On,.b y7.Snap.Begun,.s y7.Snap.After,.i y7.Snap.Told,.i y7.Sent,.i y7.Lost] 0,.live [.sl (List.map V.s a1.Users) u2,.sl (List.map V.s a1.Keys) u3] 0,.live [.i a2.Seq,.sl (List.map BookRow.v a2.Rows) u4] 0,.live [.sl (List.map MailEntry.v []) true,.b false,.b false,.s (⟨#[]⟩ : ByteArray),.i (0:Int),.i (0:Int),.i (0:Int)] 0])∨(∃ y13 y14 y15,p_ref27_Flush_l1  a3 a1 a2 n y13 y14 y15=some o2∧vals=[.osl 4 0 (List.length y13) 8 false,.b y14]∧st=[.live [.sl (List.map MailEntry.v y15.Mail) false,.b y15.Snap.On,.b y15.Snap.Begun,.s y15.Snap.After,.i y15.Snap.Told,.i y15.Sent,.i y15.Lost] 0,.live [.sl (List.map V.s a1.Users) u2,.sl (List.map V.s a1.Keys) u3] 0,.live [.i a2.Seq,.sl (List.map BookRow.v a2.Rows) u4] 0,.live [.sl (List.map MailEntry.v []) true,.b false,.b false,.s (⟨#[]⟩ : ByteArray),.i (0:Int),.i (0:Int),.i (0:Int)] 0,.live (cellsM StanzaStanza.v y13) (cellsM StanzaStanza.v y13).length])∨(∃ y16 y17,p_ref27_Flush_l1  a3 a1 a2 n [] y16 y17=some o2∧vals=[.sl (List.map StanzaStanza.v []) true,.b y16]∧st=[.live [.sl (List.map MailEntry.v y17.Mail) false,.b y17.Snap.On,.b y17.Snap.Begun,.s y17.Snap.After,.i y17.Snap.Told,.i y17.Sent,.i y17.Lost] 0,.live [.sl (List.map V.s a1.Users) u2,.sl (List.map V.s a1.Keys) u3] 0,.live [.i a2.Seq,.sl (List.map BookRow.v a2.Rows) u4] 0,.live [.sl (List.map MailEntry.v []) true,.b false,.b false,.s (⟨#[]⟩ : ByteArray),.i (0:Int),.i (0:Int),.i (0:Int)] 0])) fuel 4 [] (.inl (⟨_,_,HL3,rfl,rfl⟩)) (Nat.zero_le _) rfl (by kernel_rfl) (by kernel_rfl) rfl ⟨⟨rfl,rfl,rfl⟩,⟨⟨rfl,rfl,rfl⟩,⟨⟨rfl,rfl,rfl⟩,⟨⟨rfl,rfl,rfl⟩,trivial⟩⟩⟩⟩ ?_
 rintro (_ | n5) _ _ (⟨y6,y7,H,rfl,rfl⟩ | ⟨y13,y14,y15,H,rfl,rfl⟩ | ⟨y16,y17,H,rfl,rfl⟩)
 ·rw [p_ref27_Flush_l1] at H;cases H
 ·rw [p_ref27_Flush_l1] at H;cases H
 ·rw [p_ref27_Flush_l1] at H;cases H
 ·rw [p_ref27_Flush_l1] at H
  conv=>whnf
  refine tst_d H (fun b8 H=>?_) (fun b8 H=>?_)
  ·conv=>whnf
   iterate 6 (refine Tst.F ?_;conv=>whnf)
   obtain rfl:=Option.some.inj H
   have H:=HQ4
   try dsimp only at H
   refine lq_ ?_;conv=>whnf
   refine finR_c (enc:=(fun r:Ref27State × (List StanzaStanza)=>.tup [Ref27State.v r.1,(fun l:List StanzaStanza=>V.sl (l.map StanzaStanza.v) false) r.2])) H ?_;conv=>whnf
   exact ⟨_,.tup (.cons (fzagg (.cons (.slw) (.cons (.id rfl) (.cons (.id rfl) (.cons (.id rfl) (.cons (.id rfl) (.cons (.id rfl) (.cons (.id rfl) (.nil)))))))) rfl) (.cons (.c (.slw)) (.nil)))⟩
  conv=>whnf
  refine Tst.T ?_;conv=>whnf
  refine LenQ.ok ?_;conv=>whnf
  iterate 4 (refine Tst.T ?_;conv=>whnf)
  refine tst_d H (fun b9 H=>?_) (fun b9 H=>?_)
  ·conv=>whnf
   obtain rfl:=Option.some.inj H
   have H:=HQ4
   try dsimp only at H
   refine lq_ ?_;conv=>whnf
   refine finR_c (enc:=(fun r:Ref27State × (List StanzaStanza)=>.tup [Ref27State.v r.1,(fun l:List StanzaStanza=>V.sl (l.map StanzaStanza.v) false) r.2])) H ?_;conv=>whnf
   exact ⟨_,.tup (.cons (fzagg (.cons (.slw) (.cons (.id rfl) (.cons (.id rfl) (.cons (.id rfl) (.cons (.id rfl) (.cons (.id rfl) (.cons (.id rfl) (.nil)))))))) rfl) (.cons (.c (.slw)) (.nil)))⟩
  conv=>whnf
  refine ask_c (p_ref27_Next_v _ _ _) H rfl rfl (fun v10 H=>?_);conv=>whnf
  refine lq_ ?_;conv=>whnf
  refine lq_ ?_;conv=>whnf
  refine lq_ ?_;conv=>whnf
  refine tst_d H (fun b11 H=>?_) (fun b11 H=>?_)
  ·conv=>whnf
   exact again_c [12,13,14,15,16,17,18,19,20,21,22,23,24,25,26,27,28,29,30,31,32,33,34,35,36,37] n5 4 [] (.inr (.inr (⟨_,_,H,rfl,rfl⟩))) (Nat.lt_succ_self _) (Nat.zero_le _) rfl (by kernel_rfl) (by kernel_rfl) rfl ⟨⟨rfl,rfl,rfl⟩,⟨⟨rfl,rfl,rfl⟩,⟨⟨rfl,rfl,rfl⟩,⟨⟨rfl,rfl,rfl⟩,trivial⟩⟩⟩⟩
  conv=>whnf
  refine appN_c (f:=StanzaStanza.v) H (fun _=>rfl) (srcM (f:=StanzaStanza.v) (fun _=>rfl) [] true) rfl (.v (srcOwn (f:=StanzaStanza.v) (l:=[v10.2.1]) (fun _=>rfl) rfl rfl rfl)) (by decide) rfl (by simp) (fun l12 H=>?_);conv=>whnf
  exact again_c [12,13,14,15,16,17,18,19,20,21,22,23,24,25,26,27,28,29,30,31,32,33,34,35,36,37] n5 5 [0,1,2,3,7] (.inr (.inl (⟨_,_,_,H,rfl,rfl⟩))) (Nat.lt_succ_self _) (Nat.zero_le _) rfl (by kernel_rfl) (by kernel_rfl) rfl ⟨⟨rfl,rfl,rfl⟩,⟨⟨rfl,rfl,rfl⟩,⟨⟨rfl,rfl,rfl⟩,⟨⟨rfl,rfl,rfl⟩,wkB_live0 rfl (cellsM_idlt (f:=StanzaStanza.v) (fun _=>rfl) _) rfl trivial⟩⟩⟩⟩
 ·rw [p_ref27_Flush_l1] at H
  conv=>whnf
  refine tst_d H (fun b18 H=>?_) (fun b18 H=>?_)
  ·conv=>whnf
   iterate 6 (refine Tst.F ?_;conv=>whnf)
   obtain rfl:=Option.some.inj H
   have H:=HQ4
   try dsimp only at H
   refine lq_ ?_;conv=>whnf
   refine finR_c (enc:=(fun r:Ref27State × (List StanzaStanza)=>.tup [Ref27State.v r.1,(fun l:List StanzaStanza=>V.sl (l.map StanzaStanza.v) false) r.2])) H ?_;conv=>whnf
   exact ⟨_,.tup (.cons (fzagg (.cons (.id rfl) (.cons (.id rfl) (.cons (.id rfl) (.cons (.id rfl) (.cons (.id rfl) (.cons (.id rfl) (.cons (.id rfl) (.nil)))))))) rfl) (.cons (.c (fzown (f:=StanzaStanza.v) (l:=y13) rfl rfl (fun _=>rfl) (fun _=>rfl))) (.nil)))⟩
  conv=>whnf
  iterate 5 (refine Tst.T ?_;conv=>whnf)
  refine tst_d H (fun b19 H=>?_) (fun b19 H=>?_)
  ·conv=>whnf
   obtain rfl:=Option.some.inj H
   have H:=HQ4
   try dsimp only at H
   refine lq_ ?_;conv=>whnf
   refine finR_c (enc:=(fun r:Ref27State × (List StanzaStanza)=>.tup [Ref27State.v r.1,(fun l:List StanzaStanza=>V.sl (l.map StanzaStanza.v) false) r.2])) H ?_;conv=>whnf
   exact ⟨_,.tup (.cons (fzagg (.cons (.id rfl) (.cons (.id rfl) (.cons (.id rfl) (.cons (.id rfl) (.cons (.id rfl) (.cons (.id rfl) (.cons (.id rfl) (.nil)))))))) rfl) (.cons (.c (fzown (f:=StanzaStanza.v) (l:=y13) rfl rfl (fun _=>rfl) (fun _=>rfl))) (.nil)))⟩
  conv=>whnf
  refine ask_c (p_ref27_Next_v _ _ _) H rfl rfl (fun v20 H=>?_);conv=>whnf
  refine lq_ ?_;conv=>whnf
  refine lq_ ?_;conv=>whnf
  refine lq_ ?_;conv=>whnf
  refine tst_d H (fun b21 H=>?_) (fun b21 H=>?_)
  ·conv=>whnf
   exact again_c [12,13,14,15,16,17,18,19,20,21,22,23,24,25,26,27,28,29,30,31,32,33,34,35,36,37] n5 5 [] (.inr (.inl (⟨_,_,_,H,rfl,rfl⟩))) (Nat.lt_succ_self _) (Nat.zero_le _) rfl (by kernel_rfl) (by kernel_rfl) rfl ⟨⟨rfl,rfl,rfl⟩,⟨⟨rfl,rfl,rfl⟩,⟨⟨rfl,rfl,rfl⟩,⟨⟨rfl,rfl,rfl⟩,wkB_live0 rfl (cellsM_idlt (f:=StanzaStanza.v) (fun _=>rfl) _) rfl trivial⟩⟩⟩⟩
  conv=>whnf
  refine appO_c (f:=StanzaStanza.v) H (fun _=>rfl) rfl (Nat.le_refl _) (.v (srcOwn (f:=StanzaStanza.v) (l:=[v20.2.1]) (fun _=>rfl) rfl rfl rfl)) (by decide) rfl (by simp) (fun l22 H=>?_);conv=>whnf
  exact again_c [12,13,14,15,16,17,18,19,20,21,22,23,24,25,26,27,28,29,30,31,32,33,34,35,36,37] n5 5 [0,1,2,3,8] (.inr (.inl (⟨_,_,_,H,rfl,rfl⟩))) (Nat.lt_succ_self _) (Nat.zero_le _) rfl (by kernel_rfl) (by kernel_rfl) rfl ⟨⟨rfl,rfl,rfl⟩,⟨⟨rfl,rfl,rfl⟩,⟨⟨rfl,rfl,rfl⟩,⟨⟨rfl,rfl,rfl⟩,wkB_live0 rfl (cellsM_idlt (f:=StanzaStanza.v) (fun _=>rfl) _) rfl trivial⟩⟩⟩⟩
 rw [p_ref27_Flush_l1] at H
 conv=>whnf
 refine tst_d H (fun b23 H=>?_) (fun b23 H=>?_)
 ·conv=>whnf
  iterate 6 (refine Tst.F ?_;conv=>whnf)
  obtain rfl:=Option.some.inj H
  have H:=HQ4
  try dsimp only at H
  refine lq_ ?_;conv=>whnf
  refine finR_c (enc:=(fun r:Ref27State × (List StanzaStanza)=>.tup [Ref27State.v r.1,(fun l:List StanzaStanza=>V.sl (l.map StanzaStanza.v) false) r.2])) H ?_;conv=>whnf
  exact ⟨_,.tup (.cons (fzagg (.cons (.id rfl) (.cons (.id rfl) (.cons (.id rfl) (.cons (.id rfl) (.cons (.id rfl) (.cons (.id rfl) (.cons (.id rfl) (.nil)))))))) rfl) (.cons (.c (.slw)) (.nil)))⟩
 conv=>whnf
 refine Tst.T ?_;conv=>whnf
 refine LenQ.ok ?_;conv=>whnf
 iterate 4 (refine Tst.T ?_;conv=>whnf)
 refine tst_d H (fun b24 H=>?_) (fun b24 H=>?_)
 ·conv=>whnf
  obtain rfl:=Option.some.inj H
  have H:=HQ4
  try dsimp only at H
  refine lq_ ?_;conv=>whnf
  refine finR_c (enc:=(fun r:Ref27State × (List StanzaStanza)=>.tup [Ref27State.v r.1,(fun l:List StanzaStanza=>V.sl (l.map StanzaStanza.v) false) r.2])) H ?_;conv=>whnf
  exact ⟨_,.tup (.cons (fzagg (.cons (.id rfl) (.cons (.id rfl) (.cons (.id rfl) (.cons (.id rfl) (.cons (.id rfl) (.cons (.id rfl) (.cons (.id rfl) (.nil)))))))) rfl) (.cons (.c (.slw)) (.nil)))⟩
 conv=>whnf
 refine ask_c (p_ref27_Next_v _ _ _) H rfl rfl (fun v25 H=>?_);conv=>whnf
 refine lq_ ?_;conv=>whnf
 refine lq_ ?_;conv=>whnf
 refine lq_ ?_;conv=>whnf
 refine tst_d H (fun b26 H=>?_) (fun b26 H=>?_)
 ·conv=>whnf
  exact again_c [12,13,14,15,16,17,18,19,20,21,22,23,24,25,26,27,28,29,30,31,32,33,34,35,36,37] n5 4 [] (.inr (.inr (⟨_,_,H,rfl,rfl⟩))) (Nat.lt_succ_self _) (Nat.zero_le _) rfl (by kernel_rfl) (by kernel_rfl) rfl ⟨⟨rfl,rfl,rfl⟩,⟨⟨rfl,rfl,rfl⟩,⟨⟨rfl,rfl,rfl⟩,⟨⟨rfl,rfl,rfl⟩,trivial⟩⟩⟩⟩
 conv=>whnf
 refine appN_c (f:=StanzaStanza.v) H (fun _=>rfl) (srcM (f:=StanzaStanza.v) (fun _=>rfl) [] true) rfl (.v (srcOwn (f:=StanzaStanza.v) (l:=[v25.2.1]) (fun _=>rfl) rfl rfl rfl)) (by decide) rfl (by simp) (fun l27 H=>?_);conv=>whnf
 exact again_c [12,13,14,15,16,17,18,19,20,21,22,23,24,25,26,27,28,29,30,31,32,33,34,35,36,37] n5 5 [0,1,2,3,7] (.inr (.inl (⟨_,_,_,H,rfl,rfl⟩))) (Nat.lt_succ_self _) (Nat.zero_le _) rfl (by kernel_rfl) (by kernel_rfl) rfl ⟨⟨rfl,rfl,rfl⟩,⟨⟨rfl,rfl,rfl⟩,⟨⟨rfl,rfl,rfl⟩,⟨⟨rfl,rfl,rfl⟩,wkB_live0 rfl (cellsM_idlt (f:=StanzaStanza.v) (fun _=>rfl) _) rfl trivial⟩⟩⟩⟩
end Go.Proofs.YtdoakplhalonfaaGreat

namespace Go.Proofs.YtdoakplhalonfaaGreat
open Go.RowKit
set_option maxRecDepth 100000
set_option maxHeartbeats 4000000
def gc43:BCode:=(.seq (R_ 0 [O_ 2 (.mv (.const (.slice none 0 0))) 0]) (.seq (R_ 0 [O_ 3 (.mv (.const (.slice none 0 0))) 0]) (.seq (.seq (R_ 0 [O_ 4 (.mv (i_ 0)) 0]) (.block 0 (.loop (.seq (.seq (R_ 0 [O_ 5 (.mv (t_ 4)) 0,O_ 6 (.mv (t_ 0)) 0,O_ 7 (.lens (t_ 6)) 0,O_ 8 (.bin .lss (t_ 5) (t_ 7)) 0]) (.cond (t_ 8) .skip (.exit 0))) (.seq (.block 1 (.reg 2 [O_ 11 (.mv (t_ 3)) 0,O_ 12 (.mv (t_ 0)) 0,O_ 13 (.mv (t_ 4)) 0,O_ 14 (.ixs 5 (t_ 12) (t_ 13)) 0,O_ 15 (.fa 0 (t_ 14)) 0,O_ 16 (.ld 1 false (t_ 15)) 0,O_ 17 (.mv (t_ 0)) 0,O_ 18 (.mv (t_ 4)) 0,O_ 19 (.ixs 5 (t_ 17) (t_ 18)) 0,O_ 20 (.fa 1 (t_ 19)) 0,O_ 21 (.ld 4 true (t_ 20)) 0,O_ 22 (.bd [(.lit (.string ⟨#[]⟩)),(.lit (.bool false)),(.lit (.int .i64 0)),(.lit (.int .i64 0)),(.lit (.int .i64 0))] [(0,1,(t_ 16)),(1,4,(t_ 21))]) 0,O_ 23 (.bs 5 1 [(.lit (.string ⟨#[]⟩)),(.lit (.bool false)),(.lit (.int .i64 0)),(.lit (.int .i64 0)),(.lit (.int .i64 0))] [(0,(t_ 22))]) 0,O_ 24 (.ap 5 48 (t_ 11) (t_ 23)) 1,O_ 3 (.mv (t_ 24)) 2] (some [[],[],[],[2,1],[1,2,3],[3,2,1,4],[],[],[7,6],[6,7,8],[8,7,6,9],[9,6,7,8,10,4,1,2,3,5],[5,3,2,1,4,10,8,7,6,9,11],[11,9,6,7,8,10,4,1,2,3,5,12,0],[0,12,5,3,2,1,4,10,8,7,6,9,11,13]]) 0 [])) (R_ 0 [O_ 9 (.mv (t_ 4)) 0,O_ 10 (.bin .add (t_ 9) (i_ 1)) 0,O_ 4 (.mv (t_ 10)) 0])))))) (.seq (R_ 0 [O_ 25 (.mv (t_ 3)) 0,O_ 2 (.mv (t_ 25)) 0]) .ret))))
theorem gc43_ok:compF Tryz.prog Tryz.f43=some (gc43.er,26,[.tmp 2]):=by unfold gc43;kernel_rfl
theorem p_law25_Back_v {u1:Bool} (a0:List MailEntry):CallsO Tryz.prog 43 [.sl (List.map MailEntry.v a0) u1] (fun l:List MailEntry=>V.sl (l.map MailEntry.v) false) (p_law25_Back a0):=by
 refine callsO_comp mix Tryz.func43 gc43_ok fun r H=>?_
 rw [p_law25_Back] at H
 conv=>whnf
 obtain ⟨o2,HL3,HQ4⟩:=bind_c H
 refine loop_c [3,4] [5,6,7,8,9,10,11,12,13,14,15,16,17,18,19,20,21,22,23,24] [5,6,7,8,9,10,11,12,13,14,15,16,17,18,19,20,21,22,23,24] (fun n vals st=>(∃ y6,p_law25_Back_l1  a0 n [] y6=some o2∧vals=[.sl (List.map MailEntry.v []) true,.i y6]∧st=[])∨(∃ y11 y12,p_law25_Back_l1  a0 n y11 y12=some o2∧vals=[.osl 0 0 (List.length y11) 5 false,.i y12]∧st=[.live (cellsM MailEntry.v y11) (cellsM MailEntry.v y11).length])) fuel 0 [] (.inl (⟨_,HL3,rfl,rfl⟩)) (Nat.zero_le _) rfl (by kernel_rfl) (by kernel_rfl) rfl trivial ?_
 rintro (_ | n5) _ _ (⟨y6,H,rfl,rfl⟩ | ⟨y11,y12,H,rfl,rfl⟩)
 ·rw [p_law25_Back_l1] at H;cases H
 ·rw [p_law25_Back_l1] at H;cases H
 ·rw [p_law25_Back_l1] at H
  conv=>whnf
  refine LenQ.M ?_;conv=>whnf
  refine tst_d H (fun b7 H=>?_) (fun b7 H=>?_)
  ·conv=>whnf
   obtain rfl:=Option.some.inj H
   have H:=HQ4
   try dsimp only at H
   refine finR_c (enc:=(fun l:List MailEntry=>V.sl (l.map MailEntry.v) false)) H ?_;conv=>whnf
   exact ⟨_,.v (.c (.slw))⟩
  conv=>whnf
  refine ixs_c (f:=MailEntry.v) H (fun _=>rfl) (fun x8 H=>?_);conv=>whnf
  refine lq_ ?_;conv=>whnf
  refine ixs_c (f:=MailEntry.v) H (fun _=>rfl) (fun x9 H=>?_);conv=>whnf
  refine lq_ ?_;conv=>whnf
  refine appN_c (f:=MailEntry.v) H (fun _=>rfl) (srcM (f:=MailEntry.v) (fun _=>rfl) [] true) rfl (.v (srcOwn (f:=MailEntry.v) (l:=[(MailEntry.mk x8.Key x9.P)]) (fun _=>rfl) rfl rfl rfl)) (by decide) rfl (by simp) (fun l10 H=>?_);conv=>whnf
  refine FootQ.mk ⟨rfl,?_⟩;conv=>whnf
  refine Ari.w ?_;conv=>whnf
  exact again_c [5,6,7,8,9,10,11,12,13,14,15,16,17,18,19,20,21,22,23,24] n5 1 [1] (.inr (⟨_,_,H,rfl,rfl⟩)) (Nat.lt_succ_self _) (Nat.zero_le _) rfl (by kernel_rfl) (by kernel_rfl) rfl (wkB_live0 rfl (cellsM_idlt (f:=MailEntry.v) (fun _=>rfl) _) rfl trivial)
 rw [p_law25_Back_l1] at H
 conv=>whnf
 refine LenQ.M ?_;conv=>whnf
 refine tst_d H (fun b13 H=>?_) (fun b13 H=>?_)
 ·conv=>whnf
  obtain rfl:=Option.some.inj H
  have H:=HQ4
  try dsimp only at H
  refine finR_c (enc:=(fun l:List MailEntry=>V.sl (l.map MailEntry.v) false)) H ?_;conv=>whnf
  exact ⟨_,.v (.c (fzown (f:=MailEntry.v) (l:=y11) rfl rfl (fun _=>rfl) (fun _=>rfl)))⟩
 conv=>whnf
 refine ixs_c (f:=MailEntry.v) H (fun _=>rfl) (fun x14 H=>?_);conv=>whnf
 refine lq_ ?_;conv=>whnf
 refine ixs_c (f:=MailEntry.v) H (fun _=>rfl) (fun x15 H=>?_);conv=>whnf
 refine lq_ ?_;conv=>whnf
 refine appO_c (f:=MailEntry.v) H (fun _=>rfl) rfl (Nat.le_refl _) (.v (srcOwn (f:=MailEntry.v) (l:=[(MailEntry.mk x14.Key x15.P)]) (fun _=>rfl) rfl rfl rfl)) (by decide) rfl (by simp) (fun l16 H=>?_);conv=>whnf
 refine FootQ.mk ⟨rfl,?_⟩;conv=>whnf
 refine Ari.w ?_;conv=>whnf
 exact again_c [5,6,7,8,9,10,11,12,13,14,15,16,17,18,19,20,21,22,23,24] n5 1 [2] (.inr (⟨_,_,H,rfl,rfl⟩)) (Nat.lt_succ_self _) (Nat.zero_le _) rfl (by kernel_rfl) (by kernel_rfl) rfl (wkB_live0 rfl (cellsM_idlt (f:=MailEntry.v) (fun _=>rfl) _) rfl trivial)
def gc11:BCode:=(.seq (R_ 2 [O_ 1 (.bx (t_ 0)) 0,O_ 2 (.al (.agg [(.sl [] true),(.lit (.bool false)),(.lit (.bool false)),(.lit (.string ⟨#[]⟩)),(.lit (.int .i64 0)),(.lit (.int .i64 0)),(.lit (.int .i64 0))])) 1]) (.seq (.reg 0 [O_ 3 (.fa 0 (t_ 1)) 0,O_ 4 (.ld 1 false (t_ 3)) 0,O_ 5 (.cl 43 [(t_ 4)]) 0,O_ 6 (.fa 1 (t_ 1)) 0,O_ 7 (.ld 4 true (t_ 6)) 0,O_ 8 (.fa 5 (t_ 1)) 0,O_ 9 (.ld 1 false (t_ 8)) 0,O_ 10 (.fa 6 (t_ 1)) 0,O_ 11 (.ld 1 false (t_ 10)) 0,O_ 12 (.bd [(.sl [] true),(.lit (.bool false)),(.lit (.bool false)),(.lit (.string ⟨#[]⟩)),(.lit (.int .i64 0)),(.lit (.int .i64 0)),(.lit (.int .i64 0))] [(0,1,(t_ 5)),(1,4,(t_ 7)),(5,1,(t_ 9)),(6,1,(t_ 11))]) 0,U_ (.st 7 (t_ 2) (t_ 12)) 0] (some [[],[0],[0,1],[],[3],[],[5],[],[7],[7,8,5,6,3,4,1,0,2],[2,0,1,4,3,6,5,8,7,9]]) 0 []) .ret))
theorem gc11_ok:compF Tryz.prog Tryz.f11=some (gc11.er,13,[.cell 2 7 true]):=by unfold gc11;kernel_rfl
theorem p_law27_Back_v {u1:Bool} (a0:Ref27State):CallsO Tryz.prog 11 [.agg [.sl (List.map MailEntry.v a0.Mail) u1,.b a0.Snap.On,.b a0.Snap.Begun,.s a0.Snap.After,.i a0.Snap.Told,.i a0.Sent,.i a0.Lost]] Ref27State.v (p_law27_Back a0):=by
 refine callsO_comp mix Tryz.func11 gc11_ok fun r H=>?_
 rw [p_law27_Back] at H
 conv=>whnf
 refine ask_c (p_law25_Back_v _) H rfl rfl (fun v1 H=>?_);conv=>whnf
 refine lq_ ?_;conv=>whnf
 refine FootQ.mk ⟨rfl,?_⟩;conv=>whnf
 exact fin0_c (enc:=Ref27State.v) H (.inr rfl) (.cons (.cell rfl rfl (Nat.le_of_ble_eq_true rfl)) (.nil)) rfl rfl
def gc42:BCode:=(.seq (R_ 0 [O_ 4 (.mv (b_ false)) 0]) (.seq (.seq (R_ 0 [O_ 6 (.mv (t_ 0)) 0,O_ 7 (.lens (t_ 6)) 0,O_ 8 (.mv (t_ 1)) 0,O_ 9 (.lens (t_ 8)) 0,O_ 10 (.bin .neq (t_ 7) (t_ 9)) 0]) (.cond (t_ 10) (.seq (R_ 0 [O_ 4 (.mv (b_ false)) 0]) .ret) .skip)) (.seq (.seq (R_ 0 [O_ 5 (.mv (i_ 0)) 0]) (.block 0 (.loop (.seq (.seq (R_ 0 [O_ 11 (.mv (t_ 5)) 0,O_ 12 (.mv (t_ 0)) 0,O_ 13 (.lens (t_ 12)) 0,O_ 14 (.bin .lss (t_ 11) (t_ 13)) 0]) (.cond (t_ 14) .skip (.exit 0))) (.seq (.block 1 (.seq (.reg 0 [O_ 17 (.mv (t_ 0)) 0,O_ 18 (.mv (t_ 5)) 0,O_ 19 (.ixs 5 (t_ 17) (t_ 18)) 0,O_ 20 (.ld 5 true (t_ 19)) 0,O_ 21 (.mv (t_ 1)) 0,O_ 22 (.mv (t_ 5)) 0,O_ 23 (.ixs 5 (t_ 21) (t_ 22)) 0,O_ 24 (.ld 5 true (t_ 23)) 0,O_ 25 (.eqa true [2,0,1,1,1] (t_ 20) (t_ 24)) 0] (some [[],[],[1,0],[0,1,2],[],[],[5,4],[4,5,6],[6,5,4,7,2,1,0,3]]) 0 []) (.cond (t_ 25) (.seq (R_ 0 [O_ 4 (.mv (b_ false)) 0]) .ret) .skip))) (R_ 0 [O_ 15 (.mv (t_ 5)) 0,O_ 16 (.bin .add (t_ 15) (i_ 1)) 0,O_ 5 (.mv (t_ 16)) 0])))))) (.seq (R_ 0 [O_ 4 (.mv (b_ true)) 0]) .ret))))
theorem gc42_ok:compF Tryz.prog Tryz.f42=some (gc42.er,26,[.tmp 4]):=by unfold gc42;kernel_rfl
theorem p_ref25_Same_v {u1 u2:Bool} (a0:List MailEntry) (a1:List MailEntry):CallsO Tryz.prog 42 [.sl (List.map MailEntry.v a0) u1,.sl (List.map MailEntry.v a1) u2] V.b (p_ref25_Same a0 a1):=by
 refine callsO_comp mix Tryz.func42 gc42_ok fun r H=>?_
 rw [p_ref25_Same] at H
 conv=>whnf
 iterate 2 (refine LenQ.M ?_;conv=>whnf)
 refine tst_c H (fun b1 H=>?_) (fun b1 H=>?_)
 ·conv=>whnf
  exact fb_ H
 conv=>whnf
 obtain ⟨o3,HL4,HQ5⟩:=bind_c H
 refine loop_c [4,5] [11,12,13,14,15,16,17,18,19,20,21,22,23,24,25] [11,12,13,14,15,16,17,18,19,20,21,22,23,24,25] (fun n vals st=>(∃ y7,p_ref25_Same_l1  a0 a1 n y7=some o3∧vals=[.b false,.i y7]∧st=[])) fuel 0 [] (⟨_,HL4,rfl,rfl⟩) (Nat.zero_le _) rfl (by kernel_rfl) (by kernel_rfl) rfl trivial ?_
 rintro (_ | n6) _ _ (⟨y7,H,rfl,rfl⟩)
 ·rw [p_ref25_Same_l1] at H;cases H
 rw [p_ref25_Same_l1] at H
 conv=>whnf
 refine LenQ.M ?_;conv=>whnf
 refine tst_d H (fun b8 H=>?_) (fun b8 H=>?_)
 ·conv=>whnf
  obtain rfl:=Option.some.inj H
  have H:=HQ5
  try dsimp only at H
  exact fb_ H
 conv=>whnf
 refine ixs_c (f:=MailEntry.v) H (fun _=>rfl) (fun x9 H=>?_);conv=>whnf
 refine ixs_c (f:=MailEntry.v) H (fun _=>rfl) (fun x10 H=>?_);conv=>whnf
 refine FootQ.mk ⟨rfl,?_⟩;conv=>whnf
 refine Tst.not ?_
 refine tst_d H (fun b11 H=>?_) (fun b11 H=>?_)
 ·conv=>whnf
  obtain rfl:=Option.some.inj H
  have H:=HQ5
  try dsimp only at H
  exact fb_ H
 conv=>whnf
 refine Ari.w ?_;conv=>whnf
 exact again_c [11,12,13,14,15,16,17,18,19,20,21,22,23,24,25] n6 0 [] (⟨_,H,rfl,rfl⟩) (Nat.lt_succ_self _) (Nat.zero_le _) rfl (by kernel_rfl) (by kernel_rfl) rfl trivial
def gc10:BCode:=(.seq (R_ 2 [O_ 2 (.bx (t_ 0)) 0,O_ 3 (.bx (t_ 1)) 1,O_ 4 (.mv (b_ false)) 2]) (.seq (R_ 0 [O_ 5 (.fa 0 (t_ 2)) 0,O_ 6 (.ld 1 false (t_ 5)) 0,O_ 7 (.fa 0 (t_ 3)) 0,O_ 8 (.ld 1 false (t_ 7)) 0,O_ 9 (.cl 42 [(t_ 6),(t_ 8)]) 0,O_ 10 (.mv (t_ 9)) 0,⟨(some 11),.fa 1 (t_ 2),(some (10,true)),0⟩,⟨(some 12),.ld 4 true (t_ 11),(some (10,true)),0⟩,⟨(some 13),.fa 1 (t_ 3),(some (10,true)),0⟩,⟨(some 14),.ld 4 true (t_ 13),(some (10,true)),0⟩,⟨(some 15),.eqa false [0,0,2,1] (t_ 12) (t_ 14),(some (10,true)),0⟩,O_ 16 (.pick (t_ 10) (t_ 15) (b_ false)) 0,O_ 17 (.mv (t_ 16)) 0,⟨(some 18),.fa 5 (t_ 2),(some (17,true)),0⟩,⟨(some 19),.ld 1 false (t_ 18),(some (17,true)),0⟩,⟨(some 20),.fa 5 (t_ 3),(some (17,true)),0⟩,⟨(some 21),.ld 1 false (t_ 20),(some (17,true)),0⟩,⟨(some 22),.bin .eql (t_ 19) (t_ 21),(some (17,true)),0⟩,O_ 23 (.pick (t_ 17) (t_ 22) (b_ false)) 0,O_ 24 (.mv (t_ 23)) 0,⟨(some 25),.fa 6 (t_ 2),(some (24,true)),0⟩,⟨(some 26),.ld 1 false (t_ 25),(some (24,true)),0⟩,⟨(some 27),.fa 6 (t_ 3),(some (24,true)),0⟩,⟨(some 28),.ld 1 false (t_ 27),(some (24,true)),0⟩,⟨(some 29),.bin .eql (t_ 26) (t_ 28),(some (24,true)),0⟩,O_ 30 (.pick (t_ 24) (t_ 29) (b_ false)) 0,O_ 4 (.mv (t_ 30)) 0]) .ret))
theorem gc10_ok:compF Tryz.prog Tryz.f10=some (gc10.er,31,[.tmp 4]):=by unfold gc10;kernel_rfl
theorem p_ref27_Same_v {u1 u2:Bool} (a0:Ref27State) (a1:Ref27State):CallsO Tryz.prog 10 [.agg [.sl (List.map MailEntry.v a0.Mail) u1,.b a0.Snap.On,.b a0.Snap.Begun,.s a0.Snap.After,.i a0.Snap.Told,.i a0.Sent,.i a0.Lost],.agg [.sl (List.map MailEntry.v a1.Mail) u2,.b a1.Snap.On,.b a1.Snap.Begun,.s a1.Snap.After,.i a1.Snap.Told,.i a1.Sent,.i a1.Lost]] V.b (p_ref27_Same a0 a1):=by
 refine callsO_comp mix Tryz.func10 gc10_ok fun r H=>?_
 rw [p_ref27_Same] at H
 conv=>whnf
 refine ask_c (p_ref25_Same_v _ _) H rfl rfl (fun v1 H=>?_);conv=>whnf
 refine tst_d H (fun b2 H=>?_) (fun b2 H=>?_)
 ·conv=>whnf
  iterate 17 (refine Tst.F ?_;conv=>whnf)
  exact fb_ H
 conv=>whnf
 iterate 5 (refine Tst.T ?_;conv=>whnf)
 refine tst_d H (fun b3 H=>?_) (fun b3 H=>?_)
 ·conv=>whnf
  iterate 11 (refine Tst.F ?_;conv=>whnf)
  exact fb_ H
 conv=>whnf
 iterate 5 (refine Tst.T ?_;conv=>whnf)
 refine tst_c H (fun b4 H=>?_) (fun b4 H=>?_)
 ·conv=>whnf
  iterate 5 (refine Tst.T ?_;conv=>whnf)
  exact fb_ H
 conv=>whnf
 iterate 5 (refine Tst.F ?_;conv=>whnf)
 exact fb_ H
def gc32:BCode:=(.seq (R_ 0 [O_ 2 (.mv (.const (.slice none 0 0))) 0]) (.seq (R_ 0 [O_ 3 (.mv (.const (.slice none 0 0))) 0]) (.seq (.seq (R_ 0 [O_ 4 (.mv (i_ 0)) 0]) (.block 0 (.loop (.seq (.seq (R_ 0 [O_ 5 (.mv (t_ 4)) 0,O_ 6 (.mv (t_ 0)) 0,O_ 7 (.lens (t_ 6)) 0,O_ 8 (.bin .lss (t_ 5) (t_ 7)) 0]) (.cond (t_ 8) .skip (.exit 0))) (.seq (.block 1 (R_ 2 [O_ 11 (.mv (t_ 3)) 0,O_ 12 (.mv (t_ 0)) 0,O_ 13 (.mv (t_ 4)) 0,O_ 14 (.ixs 8 (t_ 12) (t_ 13)) 0,O_ 15 (.ld 8 true (t_ 14)) 0,O_ 16 (.bs 8 1 [(.lit (.int .u8 0)),(.lit (.string ⟨#[]⟩)),(.lit (.string ⟨#[]⟩)),(.lit (.string ⟨#[]⟩)),(.lit (.int .i64 0)),(.lit (.int .i64 0)),(.lit (.int .i64 0)),(.lit (.int .i64 0))] [(0,(t_ 15))]) 0,O_ 17 (.ap 8 88 (t_ 11) (t_ 16)) 1,O_ 3 (.mv (t_ 17)) 2])) (R_ 0 [O_ 9 (.mv (t_ 4)) 0,O_ 10 (.bin .add (t_ 9) (i_ 1)) 0,O_ 4 (.mv (t_ 10)) 0])))))) (.seq (R_ 0 [O_ 18 (.mv (t_ 3)) 0,O_ 2 (.mv (t_ 18)) 0]) .ret))))
theorem gc32_ok:compF Tryz.prog Tryz.f32=some (gc32.er,19,[.tmp 2]):=by unfold gc32;kernel_rfl
theorem p_law10_Back_v {u1:Bool} (a0:List StanzaStanza):CallsO Tryz.prog 32 [.sl (List.map StanzaStanza.v a0) u1] (fun l:List StanzaStanza=>V.sl (l.map StanzaStanza.v) false) (p_law10_Back a0):=by
 refine callsO_comp mix Tryz.func32 gc32_ok fun r H=>?_
 rw [p_law10_Back] at H
 conv=>whnf
 obtain ⟨o2,HL3,HQ4⟩:=bind_c H
 refine loop_c [3,4] [5,6,7,8,9,10,11,12,13,14,15,16,17] [5,6,7,8,9,10,11,12,13,14,15,16,17] (fun n vals st=>(∃ y6,p_law10_Back_l1  a0 n [] y6=some o2∧vals=[.sl (List.map StanzaStanza.v []) true,.i y6]∧st=[])∨(∃ y10 y11,p_law10_Back_l1  a0 n y10 y11=some o2∧vals=[.osl 0 0 (List.length y10) 8 false,.i y11]∧st=[.live (cellsM StanzaStanza.v y10) (cellsM StanzaStanza.v y10).length])) fuel 0 [] (.inl (⟨_,HL3,rfl,rfl⟩)) (Nat.zero_le _) rfl (by kernel_rfl) (by kernel_rfl) rfl trivial ?_
 rintro (_ | n5) _ _ (⟨y6,H,rfl,rfl⟩ | ⟨y10,y11,H,rfl,rfl⟩)
 ·rw [p_law10_Back_l1] at H;cases H
 ·rw [p_law10_Back_l1] at H;cases H
 ·rw [p_law10_Back_l1] at H
  conv=>whnf
  refine LenQ.M ?_;conv=>whnf
  refine tst_d H (fun b7 H=>?_) (fun b7 H=>?_)
  ·conv=>whnf
   obtain rfl:=Option.some.inj H
   have H:=HQ4
   try dsimp only at H
   refine finR_c (enc:=(fun l:List StanzaStanza=>V.sl (l.map StanzaStanza.v) false)) H ?_;conv=>whnf
   exact ⟨_,.v (.c (.slw))⟩
  conv=>whnf
  refine ixs_c (f:=StanzaStanza.v) H (fun _=>rfl) (fun x8 H=>?_);conv=>whnf
  refine appN_c (f:=StanzaStanza.v) H (fun _=>rfl) (srcM (f:=StanzaStanza.v) (fun _=>rfl) [] true) rfl (.v (srcOwn (f:=StanzaStanza.v) (l:=[x8]) (fun _=>rfl) rfl rfl rfl)) (by decide) rfl (by simp) (fun l9 H=>?_);conv=>whnf
  refine Ari.w ?_;conv=>whnf
  exact again_c [5,6,7,8,9,10,11,12,13,14,15,16,17] n5 1 [1] (.inr (⟨_,_,H,rfl,rfl⟩)) (Nat.lt_succ_self _) (Nat.zero_le _) rfl (by kernel_rfl) (by kernel_rfl) rfl (wkB_live0 rfl (cellsM_idlt (f:=StanzaStanza.v) (fun _=>rfl) _) rfl trivial)
 rw [p_law10_Back_l1] at H
 conv=>whnf
 refine LenQ.M ?_;conv=>whnf
 refine tst_d H (fun b12 H=>?_) (fun b12 H=>?_)
 ·conv=>whnf
  obtain rfl:=Option.some.inj H
  have H:=HQ4
  try dsimp only at H
  refine finR_c (enc:=(fun l:List StanzaStanza=>V.sl (l.map StanzaStanza.v) false)) H ?_;conv=>whnf
  exact ⟨_,.v (.c (fzown (f:=StanzaStanza.v) (l:=y10) rfl rfl (fun _=>rfl) (fun _=>rfl)))⟩
 conv=>whnf
 refine ixs_c (f:=StanzaStanza.v) H (fun _=>rfl) (fun x13 H=>?_);conv=>whnf
 refine appO_c (f:=StanzaStanza.v) H (fun _=>rfl) rfl (Nat.le_refl _) (.v (srcOwn (f:=StanzaStanza.v) (l:=[x13]) (fun _=>rfl) rfl rfl rfl)) (by decide) rfl (by simp) (fun l14 H=>?_);conv=>whnf
 refine Ari.w ?_;conv=>whnf
 exact again_c [5,6,7,8,9,10,11,12,13,14,15,16,17] n5 1 [2] (.inr (⟨_,_,H,rfl,rfl⟩)) (Nat.lt_succ_self _) (Nat.zero_le _) rfl (by kernel_rfl) (by kernel_rfl) rfl (wkB_live0 rfl (cellsM_idlt (f:=StanzaStanza.v) (fun _=>rfl) _) rfl trivial)
def gc31:BCode:=(.seq (R_ 0 [O_ 4 (.mv (b_ false)) 0]) (.seq (.seq (R_ 0 [O_ 6 (.mv (t_ 0)) 0,O_ 7 (.lens (t_ 6)) 0,O_ 8 (.mv (t_ 1)) 0,O_ 9 (.lens (t_ 8)) 0,O_ 10 (.bin .neq (t_ 7) (t_ 9)) 0]) (.cond (t_ 10) (.seq (R_ 0 [O_ 4 (.mv (b_ false)) 0]) .ret) .skip)) (.seq (.seq (R_ 0 [O_ 5 (.mv (i_ 0)) 0]) (.block 0 (.loop (.seq (.seq (R_ 0 [O_ 11 (.mv (t_ 5)) 0,O_ 12 (.mv (t_ 0)) 0,O_ 13 (.lens (t_ 12)) 0,O_ 14 (.bin .lss (t_ 11) (t_ 13)) 0]) (.cond (t_ 14) .skip (.exit 0))) (.seq (.block 1 (.seq (.reg 0 [O_ 17 (.mv (t_ 0)) 0,O_ 18 (.mv (t_ 5)) 0,O_ 19 (.ixs 8 (t_ 17) (t_ 18)) 0,O_ 20 (.ld 8 true (t_ 19)) 0,O_ 21 (.mv (t_ 1)) 0,O_ 22 (.mv (t_ 5)) 0,O_ 23 (.ixs 8 (t_ 21) (t_ 22)) 0,O_ 24 (.ld 8 true (t_ 23)) 0,O_ 25 (.eqa true [1,2,2,2,1,1,1,1] (t_ 20) (t_ 24)) 0] (some [[],[],[1,0],[0,1,2],[],[],[5,4],[4,5,6],[6,5,4,7,2,1,0,3]]) 0 []) (.cond (t_ 25) (.seq (R_ 0 [O_ 4 (.mv (b_ false)) 0]) .ret) .skip))) (R_ 0 [O_ 15 (.mv (t_ 5)) 0,O_ 16 (.bin .add (t_ 15) (i_ 1)) 0,O_ 5 (.mv (t_ 16)) 0])))))) (.seq (R_ 0 [O_ 4 (.mv (b_ true)) 0]) .ret))))
theorem gc31_ok:compF Tryz.prog Tryz.f31=some (gc31.er,26,[.tmp 4]):=by unfold gc31;kernel_rfl
theorem p_ref10_SameAll_v {u1 u2:Bool} (a0:List StanzaStanza) (a1:List StanzaStanza):CallsO Tryz.prog 31 [.sl (List.map StanzaStanza.v a0) u1,.sl (List.map StanzaStanza.v a1) u2] V.b (p_ref10_SameAll a0 a1):=by
 refine callsO_comp mix Tryz.func31 gc31_ok fun r H=>?_
 rw [p_ref10_SameAll] at H
 conv=>whnf
 iterate 2 (refine LenQ.M ?_;conv=>whnf)
 refine tst_c H (fun b1 H=>?_) (fun b1 H=>?_)
 ·conv=>whnf
  exact fb_ H
 conv=>whnf
 obtain ⟨o3,HL4,HQ5⟩:=bind_c H
 refine loop_c [4,5] [11,12,13,14,15,16,17,18,19,20,21,22,23,24,25] [11,12,13,14,15,16,17,18,19,20,21,22,23,24,25] (fun n vals st=>(∃ y7,p_ref10_SameAll_l1  a0 a1 n y7=some o3∧vals=[.b false,.i y7]∧st=[])) fuel 0 [] (⟨_,HL4,rfl,rfl⟩) (Nat.zero_le _) rfl (by kernel_rfl) (by kernel_rfl) rfl trivial ?_
 rintro (_ | n6) _ _ (⟨y7,H,rfl,rfl⟩)
 ·rw [p_ref10_SameAll_l1] at H;cases H
 rw [p_ref10_SameAll_l1] at H
 conv=>whnf
 refine LenQ.M ?_;conv=>whnf
 refine tst_d H (fun b8 H=>?_) (fun b8 H=>?_)
 ·conv=>whnf
  obtain rfl:=Option.some.inj H
  have H:=HQ5
  try dsimp only at H
  exact fb_ H
 conv=>whnf
 refine ixs_c (f:=StanzaStanza.v) H (fun _=>rfl) (fun x9 H=>?_);conv=>whnf
 refine ixs_c (f:=StanzaStanza.v) H (fun _=>rfl) (fun x10 H=>?_);conv=>whnf
 refine FootQ.mk ⟨rfl,?_⟩;conv=>whnf
 refine Tst.not ?_
 refine tst_d H (fun b11 H=>?_) (fun b11 H=>?_)
 ·conv=>whnf
  obtain rfl:=Option.some.inj H
  have H:=HQ5
  try dsimp only at H
  exact fb_ H
 conv=>whnf
 refine Ari.w ?_;conv=>whnf
 exact again_c [11,12,13,14,15,16,17,18,19,20,21,22,23,24,25] n6 0 [] (⟨_,H,rfl,rfl⟩) (Nat.lt_succ_self _) (Nat.zero_le _) rfl (by kernel_rfl) (by kernel_rfl) rfl trivial
end Go.Proofs.YtdoakplhalonfaaGreat

namespace Go.Proofs.YtdoakplhalonfaaGreat
open Go.RowKit
set_option maxRecDepth 1000000
set_option maxHeartbeats 4000000
def gc4:BCode:=(.seq (R_ 3 [O_ 3 (.bx (t_ 0)) 0,O_ 4 (.bx (t_ 1)) 1,O_ 5 (.bx (t_ 2)) 2,O_ 6 (.mv (b_ false)) 3]) (.join (.seq (R_ 0 [O_ 21 (.fa 0 (t_ 3)) 0,O_ 22 (.ld 1 false (t_ 21)) 0,O_ 23 (.cl 7 [(t_ 22),(i_ 20)]) 0,O_ 24 (.un .not (t_ 23)) 0,O_ 25 (.mv (t_ 24)) 0,⟨(some 26),.fa 1 (t_ 3),(some (25,false)),0⟩,⟨(some 27),.fa 2 (t_ 26),(some (25,false)),0⟩,⟨(some 28),.ld 1 false (t_ 27),(some (25,false)),0⟩,⟨(some 29),.lent (t_ 28),(some (25,false)),0⟩,⟨(some 30),.bin .gtr (t_ 29) (i_ 100),(some (25,false)),0⟩,O_ 31 (.pick (t_ 25) (b_ true) (t_ 30)) 0,O_ 32 (.mv (t_ 31)) 0,⟨(some 33),.ld 2 true (t_ 4),(some (32,false)),0⟩,⟨(some 34),.cl 24 [(t_ 33)],(some (32,false)),0⟩,⟨(some 35),.un .not (t_ 34),(some (32,false)),0⟩,O_ 36 (.pick (t_ 32) (b_ true) (t_ 35)) 0,O_ 37 (.mv (t_ 36)) 0,⟨(some 38),.ld 2 true (t_ 5),(some (37,false)),0⟩,⟨(some 39),.cl 25 [(t_ 38)],(some (37,false)),0⟩,⟨(some 40),.un .not (t_ 39),(some (37,false)),0⟩,O_ 41 (.pick (t_ 37) (b_ true) (t_ 40)) 0]) (.cond (t_ 41) (.seq (R_ 0 [O_ 42 (.cl 8 []) 0,O_ 6 (.mv (t_ 42)) 0]) .ret) .skip)) (.seq (.reg 3 [O_ 43 (.ld 7 true (t_ 3)) 0,O_ 44 (.cl 9 [(t_ 43)]) 0,O_ 45 (.ld 2 true (t_ 4)) 0,O_ 46 (.ld 2 true (t_ 5)) 0,O_ 47 (.cl 26 [(t_ 46)]) 0,O_ 7 (.al (.agg [(.sl [] true),(.lit (.bool false)),(.lit (.bool false)),(.lit (.string ⟨#[]⟩)),(.lit (.int .i64 0)),(.lit (.int .i64 0)),(.lit (.int .i64 0))])) 0,O_ 8 (.al (.agg [(.sl [] true),(.sl [] true)])) 1,O_ 9 (.al (.agg [(.lit (.int .i64 0)),(.sl [] true)])) 2,U_ (.st 7 (t_ 7) (t_ 44)) 3,U_ (.st 2 (t_ 8) (t_ 45)) 3,U_ (.st 2 (t_ 9) (t_ 47)) 3] (some [[],[0],[],[],[0,1,3],[],[],[],[7,6,3,4,0,1,5],[5,1,0,4,3,7,8,2,6],[6,2,8,5,9,3,1,0,4,7]]) 0 []) (.seq (R_ 0 [O_ 48 (.fa 0 (t_ 4)) 0,O_ 49 (.ld 1 false (t_ 48)) 0,O_ 50 (.lens (t_ 49)) 0,O_ 51 (.bin .mul (t_ 50) (i_ 3)) 0,O_ 10 (.mv (t_ 51)) 0]) (.seq (R_ 2 [O_ 53 (.ld 7 true (t_ 7)) 0,O_ 54 (.ld 2 true (t_ 8)) 0,O_ 55 (.ld 2 true (t_ 9)) 0,O_ 56 (.cl 27 [(t_ 53),(t_ 54),(t_ 55)]) 0,O_ 52 (.mv (t_ 56)) 0,O_ 57 (.ex (t_ 52) 0) 0,O_ 58 (.ex (t_ 52) 1) 0,O_ 59 (.ex (t_ 52) 2) 0,O_ 11 (.al (.agg [(.sl [] true),(.lit (.bool false)),(.lit (.bool false)),(.lit (.string ⟨#[]⟩)),(.lit (.int .i64 0)),(.lit (.int .i64 0)),(.lit (.int .i64 0))])) 0,O_ 12 (.al (.agg [(.lit (.int .u8 0)),(.lit (.string ⟨#[]⟩)),(.lit (.string ⟨#[]⟩)),(.lit (.string ⟨#[]⟩)),(.lit (.int .i64 0)),(.lit (.int .i64 0)),(.lit (.int .i64 0)),(.lit (.int .i64 0))])) 1,U_ (.st 7 (t_ 11) (t_ 57)) 2,U_ (.st 8 (t_ 12) (t_ 58)) 2,O_ 13 (.mv (t_ 59)) 2]) (.seq (R_ 2 [O_ 61 (.ld 7 true (t_ 3)) 0,O_ 62 (.ld 2 true (t_ 4)) 0,O_ 63 (.ld 2 true (t_ 5)) 0,O_ 64 (.cl 28 [(t_ 61),(t_ 62),(t_ 63)]) 0,O_ 60 (.mv (t_ 64)) 0,O_ 65 (.ex (t_ 60) 0) 0,O_ 66 (.ex (t_ 60) 1) 0,O_ 67 (.ex (t_ 60) 2) 0,O_ 14 (.al (.agg [(.sl [] true),(.lit (.bool false)),(.lit (.bool false)),(.lit (.string ⟨#[]⟩)),(.lit (.int .i64 0)),(.lit (.int .i64 0)),(.lit (.int .i64 0))])) 0,O_ 15 (.al (.agg [(.lit (.int .u8 0)),(.lit (.string ⟨#[]⟩)),(.lit (.string ⟨#[]⟩)),(.lit (.string ⟨#[]⟩)),(.lit (.int .i64 0)),(.lit (.int .i64 0)),(.lit (.int .i64 0)),(.lit (.int .i64 0))])) 1,U_ (.st 7 (t_ 14) (t_ 65)) 2,U_ (.st 8 (t_ 15) (t_ 66)) 2,O_ 16 (.mv (t_ 67)) 2]) (.seq (R_ 1 [O_ 69 (.ld 7 true (t_ 7)) 0,O_ 70 (.ld 2 true (t_ 8)) 0,O_ 71 (.ld 2 true (t_ 9)) 0,O_ 72 (.mv (t_ 10)) 0,O_ 73 (.cl 29 [(t_ 69),(t_ 70),(t_ 71),(t_ 72)]) 0,O_ 68 (.mv (t_ 73)) 0,O_ 74 (.ex (t_ 68) 0) 0,O_ 75 (.ex (t_ 68) 1) 0,O_ 17 (.al (.agg [(.sl [] true),(.lit (.bool false)),(.lit (.bool false)),(.lit (.string ⟨#[]⟩)),(.lit (.int .i64 0)),(.lit (.int .i64 0)),(.lit (.int .i64 0))])) 0,U_ (.st 7 (t_ 17) (t_ 74)) 1,O_ 18 (.mv (t_ 75)) 1]) (.seq (R_ 1 [O_ 77 (.ld 7 true (t_ 3)) 0,O_ 78 (.ld 2 true (t_ 4)) 0,O_ 79 (.ld 2 true (t_ 5)) 0,O_ 80 (.mv (t_ 10)) 0,O_ 81 (.cl 30 [(t_ 77),(t_ 78),(t_ 79),(t_ 80)]) 0,O_ 76 (.mv (t_ 81)) 0,O_ 82 (.ex (t_ 76) 0) 0,O_ 83 (.ex (t_ 76) 1) 0,O_ 19 (.al (.agg [(.sl [] true),(.lit (.bool false)),(.lit (.bool false)),(.lit (.string ⟨#[]⟩)),(.lit (.int .i64 0)),(.lit (.int .i64 0)),(.lit (.int .i64 0))])) 0,U_ (.st 7 (t_ 19) (t_ 82)) 1,O_ 20 (.mv (t_ 83)) 1]) (.seq (.reg 0 [O_ 84 (.ld 7 true (t_ 11)) 0,O_ 85 (.cl 11 [(t_ 84)]) 0,O_ 86 (.ld 7 true (t_ 14)) 0,O_ 87 (.cl 10 [(t_ 85),(t_ 86)]) 0,O_ 88 (.mv (t_ 87)) 0,⟨(some 89),.ld 8 true (t_ 12),(some (88,true)),0⟩,⟨(some 90),.ld 8 true (t_ 15),(some (88,true)),0⟩,⟨(some 91),.eqa false [1,2,2,2,1,1,1,1] (t_ 89) (t_ 90),(some (88,true)),0⟩,O_ 92 (.pick (t_ 88) (t_ 91) (b_ false)) 0,O_ 93 (.mv (t_ 92)) 0,⟨(some 94),.mv (t_ 13),(some (93,true)),0⟩,⟨(some 95),.mv (t_ 16),(some (93,true)),0⟩,⟨(some 96),.binb false (t_ 94) (t_ 95),(some (93,true)),0⟩,O_ 97 (.pick (t_ 93) (t_ 96) (b_ false)) 0,O_ 98 (.mv (t_ 97)) 0,⟨(some 99),.ld 7 true (t_ 17),(some (98,true)),0⟩,⟨(some 100),.cl 11 [(t_ 99)],(some (98,true)),0⟩,⟨(some 101),.ld 7 true (t_ 19),(some (98,true)),0⟩,⟨(some 102),.cl 10 [(t_ 100),(t_ 101)],(some (98,true)),0⟩,O_ 103 (.pick (t_ 98) (t_ 102) (b_ false)) 0,O_ 104 (.mv (t_ 103)) 0,⟨(some 105),.mv (t_ 18),(some (104,true)),0⟩,⟨(some 106),.cl 32 [(t_ 105)],(some (104,true)),0⟩,⟨(some 107),.mv (t_ 20),(some (104,true)),0⟩,⟨(some 108),.cl 31 [(t_ 106),(t_ 107)],(some (104,true)),0⟩,O_ 109 (.pick (t_ 104) (t_ 108) (b_ false)) 0,O_ 110 (.mv (t_ 109)) 0,⟨(some 111),.ld 7 true (t_ 7),(some (110,true)),0⟩,⟨(some 112),.ld 7 true (t_ 11),(some (110,true)),0⟩,⟨(some 113),.cl 33 [(t_ 111),(t_ 112)],(some (110,true)),0⟩,⟨(some 114),.ld 7 true (t_ 3),(some (110,true)),0⟩,⟨(some 115),.ld 7 true (t_ 14),(some (110,true)),0⟩,⟨(some 116),.cl 10 [(t_ 114),(t_ 115)],(some (110,true)),0⟩,⟨(some 117),.binb false (t_ 113) (t_ 116),(some (110,true)),0⟩,O_ 118 (.pick (t_ 110) (t_ 117) (b_ false)) 0,O_ 119 (.mv (t_ 118)) 0,⟨(some 120),.cl 8 [],(some (119,true)),0⟩,O_ 121 (.pick (t_ 119) (t_ 120) (b_ false)) 0,O_ 6 (.mv (t_ 121)) 0] (some [[],[0],[],[2,0,1],[1,0,2,3],[3,2,0,1,4],[3,2,0,1,4],[6,4,1,0,2,3,5],[5,6,7,3,2,0,1,4],[4,1,0,2,3,7,6,5,8],[8,5,6,7,3,2,0,1,4,9],[8,5,6,7,3,2,0,1,4,9],[11,9,4,1,0,2,3,7,6,5,8,10],[10,11,12,8,5,6,7,3,2,0,1,4,9],[9,4,1,0,2,3,7,6,5,8,12,11,10,13],[13,10,11,12,8,5,6,7,3,2,0,1,4,9,14],[14,9,4,1,0,2,3,7,6,5,8,12,11,10,13,15],[13,10,11,12,8,5,6,7,3,2,0,1,4,9,14],[17,15,13,10,11,12,8,5,6,7,3,2,0,1,4,9,14,16],[16,15,17,18,13,10,11,12,8,5,6,7,3,2,0,1,4,9,14],[14,9,4,1,0,2,3,7,6,5,8,12,11,10,13,18,17,15,16,19],[19,16,15,17,18,13,10,11,12,8,5,6,7,3,2,0,1,4,9,14,20],[20,14,9,4,1,0,2,3,7,6,5,8,12,11,10,13,18,17,15,16,19,21],[19,16,15,17,18,13,10,11,12,8,5,6,7,3,2,0,1,4,9,14,20],[23,21,19,16,15,17,18,13,10,11,12,8,5,6,7,3,2,0,1,4,9,14,20,22],[22,21,23,24,19,16,15,17,18,13,10,11,12,8,5,6,7,3,2,0,1,4,9,14,20],[20,14,9,4,1,0,2,3,7,6,5,8,12,11,10,13,18,17,15,16,19,24,23,21,22,25],[25,22,21,23,24,19,16,15,17,18,13,10,11,12,8,5,6,7,3,2,0,1,4,9,14,20,26],[25,22,21,23,24,19,16,15,17,18,13,10,11,12,8,5,6,7,3,2,0,1,4,9,14,20,26],[28,26,20,14,9,4,1,0,2,3,7,6,5,8,12,11,10,13,18,17,15,16,19,24,23,21,22,25,27],[25,22,21,23,24,19,16,15,17,18,13,10,11,12,8,5,6,7,3,2,0,1,4,9,14,20,26],[25,22,21,23,24,19,16,15,17,18,13,10,11,12,8,5,6,7,3,2,0,1,4,9,14,20,26],[27,28,29,31,26,20,14,9,4,1,0,2,3,7,6,5,8,12,11,10,13,18,17,15,16,19,24,23,21,22,25,30],[30,31,32,27,25,22,21,23,24,19,16,15,17,18,13,10,11,12,8,5,6,7,3,2,0,1,4,9,14,20,26,28,29],[29,28,27,32,31,30,33,25,22,21,23,24,19,16,15,17,18,13,10,11,12,8,5,6,7,3,2,0,1,4,9,14,20,26],[26,20,14,9,4,1,0,2,3,7,6,5,8,12,11,10,13,18,17,15,16,19,24,23,21,22,25,33,30,31,32,27,28,29,34],[34,29,28,27,32,31,30,33,25,22,21,23,24,19,16,15,17,18,13,10,11,12,8,5,6,7,3,2,0,1,4,9,14,20,26,35],[36,34,29,28,27,32,31,30,33,25,22,21,23,24,19,16,15,17,18,13,10,11,12,8,5,6,7,3,2,0,1,4,9,14,20,26,35],[35,26,20,14,9,4,1,0,2,3,7,6,5,8,12,11,10,13,18,17,15,16,19,24,23,21,22,25,33,30,31,32,27,28,29,34,36,37]]) 0 []) .ret)))))))))
theorem gc4_ok:compF Tryz.prog Tryz.f4=some (gc4.er,122,[.tmp 6]):=by unfold gc4;kernel_rfl
theorem p_law27_OutqNext_v {u1 u2 u3 u4:Bool} (a0:Ref27State) (a1:SnapEyes) (a2:BookState):CallsO Tryz.prog 4 [.agg [.sl (List.map MailEntry.v a0.Mail) u1,.b a0.Snap.On,.b a0.Snap.Begun,.s a0.Snap.After,.i a0.Snap.Told,.i a0.Sent,.i a0.Lost],.agg [.sl (List.map V.s a1.Users) u2,.sl (List.map V.s a1.Keys) u3],.agg [.i a2.Seq,.sl (List.map BookRow.v a2.Rows) u4]] V.b (tru? (p_law27_OutqNext a0 a1 a2)):=by
 refine callsO_comp mix Tryz.func4 gc4_ok fun r H=>?_
 have H1:=tru_of H
 clear H
 obtain ⟨rfl,H⟩:=H1
 rw [p_law27_OutqNext] at H
 conv=>whnf
 obtain ⟨K1,hK2,o3,HL4,HQ5⟩:=join0_c H
 refine join_c [6,3,4,5] [21,22,23,24,25,26,27,28,29,30,31,32,33,34,35,36,37,38,39,40,41,42] (fun vals st=>(K1 (.inr ())=some true∧vals=[.b false,.ptr 0 0,.ptr 1 0,.ptr 2 0]∧st=[.live [.sl (List.map MailEntry.v a0.Mail) u1,.b a0.Snap.On,.b a0.Snap.Begun,.s a0.Snap.After,.i a0.Snap.Told,.i a0.Sent,.i a0.Lost] 0,.live [.sl (List.map V.s a1.Users) u2,.sl (List.map V.s a1.Keys) u3] 0,.live [.i a2.Seq,.sl (List.map BookRow.v a2.Rows) u4] 0])) ?_ ?_
 ·have H:=HL4
  conv=>whnf
  refine ask_c (p_ref25_Light_v _ _) H rfl rfl (fun v7 H=>?_);conv=>whnf
  refine Tst.not ?_
  refine tst_d H (fun b8 H=>?_) (fun b8 H=>?_)
  ·conv=>whnf
   iterate 14 (refine Tst.T ?_;conv=>whnf)
   refine ask_c (p_law27_awake_v) H rfl rfl (fun v17 H=>?_);conv=>whnf
   obtain rfl:=Option.some.inj H
   have H:=HQ5
   rw [hK2] at H
   try dsimp only at H
   exact fb_ H
  conv=>whnf
  iterate 5 (refine Tst.F ?_;conv=>whnf)
  refine tst_c H (fun b9 H=>?_) (fun b9 H=>?_)
  ·conv=>whnf
   iterate 8 (refine Tst.T ?_;conv=>whnf)
   refine ask_c (p_law27_awake_v) H rfl rfl (fun v10 H=>?_);conv=>whnf
   obtain rfl:=Option.some.inj H
   have H:=HQ5
   rw [hK2] at H
   try dsimp only at H
   exact fb_ H
  conv=>whnf
  refine Tst.F ?_;conv=>whnf
  refine ask_c (p_ref26_Light_v _) H rfl rfl (fun v11 H=>?_);conv=>whnf
  iterate 2 (refine Tst.F ?_;conv=>whnf)
  refine Tst.not ?_
  refine tst_d H (fun b12 H=>?_) (fun b12 H=>?_)
  ·conv=>whnf
   iterate 4 (refine Tst.T ?_;conv=>whnf)
   refine ask_c (p_law27_awake_v) H rfl rfl (fun v16 H=>?_);conv=>whnf
   obtain rfl:=Option.some.inj H
   have H:=HQ5
   rw [hK2] at H
   try dsimp only at H
   exact fb_ H
  conv=>whnf
  refine Tst.F ?_;conv=>whnf
  refine ask_c (p_ref24_Light_v _) H rfl rfl (fun v13 H=>?_);conv=>whnf
  iterate 2 (refine Tst.F ?_;conv=>whnf)
  refine Tst.not ?_
  refine tst_d H (fun b14 H=>?_) (fun b14 H=>?_)
  ·conv=>whnf
   refine ask_c (p_law27_awake_v) H rfl rfl (fun v15 H=>?_);conv=>whnf
   obtain rfl:=Option.some.inj H
   have H:=HQ5
   rw [hK2] at H
   try dsimp only at H
   exact fb_ H
  conv=>whnf
  obtain rfl:=Option.some.inj H
  exact arrive_c [21,22,23,24,25,26,27,28,29,30,31,32,33,34,35,36,37,38,39,40,41,42] 3 [] (⟨HQ5,rfl,rfl⟩) (Nat.zero_le _) rfl (by kernel_rfl) (by kernel_rfl) rfl ⟨⟨rfl,rfl,rfl⟩,⟨⟨rfl,rfl,rfl⟩,⟨⟨rfl,rfl,rfl⟩,trivial⟩⟩⟩
 rintro _ _ (⟨H,rfl,rfl⟩)
 rw [hK2] at H
 try dsimp only at H
 conv=>whnf
 refine ask_c (p_law27_own_v _) H rfl rfl (fun v18 H=>?_);conv=>whnf
 refine ask_c (p_law26_Book_v _) H rfl rfl (fun v19 H=>?_);conv=>whnf
 refine lq_ ?_;conv=>whnf
 refine lq_ ?_;conv=>whnf
 refine lq_ ?_;conv=>whnf
 refine FootQ.mk ⟨rfl,?_⟩;conv=>whnf
 refine LenQ.M ?_;conv=>whnf
 refine Ari.w ?_;conv=>whnf
 refine ask_c (p_outq_Next_v _ _ _) H rfl rfl (fun v20 H=>?_);conv=>whnf
 refine lq_ ?_;conv=>whnf
 refine lq_ ?_;conv=>whnf
 refine ask_c (p_ref27_Next_v _ _ _) H rfl rfl (fun v21 H=>?_);conv=>whnf
 refine lq_ ?_;conv=>whnf
 refine lq_ ?_;conv=>whnf
 refine ask_c (p_outq_Flush_v _ _ _ _) H rfl rfl (fun v22 H=>?_);conv=>whnf
 refine lq_ ?_;conv=>whnf
 refine ask_c (p_ref27_Flush_v _ _ _ _) H rfl rfl (fun v23 H=>?_);conv=>whnf
 refine lq_ ?_;conv=>whnf
 refine ask_c (p_law27_Back_v _) H rfl rfl (fun v24 H=>?_);conv=>whnf
 refine ask_c (p_ref27_Same_v _ _) H rfl rfl (fun v25 H=>?_);conv=>whnf
 refine tstT_c H (fun b26 H=>?_);conv=>whnf
 iterate 3 (refine Tst.T ?_;conv=>whnf)
 refine tstT_c H (fun b27 H=>?_);conv=>whnf
 iterate 3 (refine Tst.T ?_;conv=>whnf)
 refine tstT_c H (fun b28 H=>?_);conv=>whnf
 refine Tst.T ?_;conv=>whnf
 refine ask_c (p_law27_Back_v _) H rfl rfl (fun v29 H=>?_);conv=>whnf
 iterate 2 (refine Tst.T ?_;conv=>whnf)
 refine ask_c (p_ref27_Same_v _ _) H rfl rfl (fun v30 H=>?_);conv=>whnf
 refine Tst.T ?_;conv=>whnf
 refine tstT_c H (fun b31 H=>?_);conv=>whnf
 refine Tst.T ?_;conv=>whnf
 refine ask_c (p_law10_Back_v _) H rfl rfl (fun v32 H=>?_);conv=>whnf
 iterate 2 (refine Tst.T ?_;conv=>whnf)
 refine ask_c (p_ref10_SameAll_v _ _) H rfl rfl (fun v33 H=>?_);conv=>whnf
 refine Tst.T ?_;conv=>whnf
 refine tstT_c H (fun b34 H=>?_);conv=>whnf
 iterate 2 (refine Tst.T ?_;conv=>whnf)
 refine ask_c (p_outq_Same_v _ _) H rfl rfl (fun v35 H=>?_);conv=>whnf
 iterate 3 (refine Tst.T ?_;conv=>whnf)
 refine ask_c (p_ref27_Same_v _ _) H rfl rfl (fun v36 H=>?_);conv=>whnf
 iterate 2 (refine Tst.T ?_;conv=>whnf)
 refine tstT_c H (fun b37 H=>?_);conv=>whnf
 refine ask_c (p_law27_awake_v) H rfl rfl (fun v38 H=>?_);conv=>whnf
 refine Tst.T ?_;conv=>whnf
 refine FootQ.mk ⟨rfl,?_⟩;conv=>whnf
 exact fb_ H
end Go.Proofs.YtdoakplhalonfaaGreat

namespace Go.Proofs.YtdoakplhalonfaaGreat
open Go.ChangeShapes Go.WideShapes Go.ChangeAt Go.RowKit Go.Joins Go.Deep
theorem outqNext_named:Tryz.pinned.checked.prog.funcNamed Rows.outqNextRow.func=some 4:=by kernel_rfl
theorem outqNext_closed:joinedFacts Tryz.pinned.checked.prog 4 Tryz.f4 Rows.outqNextSpec Rows.outqNextRow=true:=by kernel_rfl
end Go.Proofs.YtdoakplhalonfaaGreat

namespace Go.Proofs.YtdoakplhalonfaaGreat
open Go.ChangeShapes Go.WideShapes Go.ChangeAt Go.RowKit Go.Joins Go.Deep
set_option maxRecDepth 100000 in
theorem outqNext_lifted (os:Os) (started:os.Started) (H:Type) (enc:TypeId × Value→H) :
  ReturnsInHanded {} Tryz.checked os 4 .any (Rows.outqNextSpec.pre6 enc Tryz.prog Tryz.f4 Rows.outqNextRow.domain false) (Rows.outqNextSpec.post enc Tryz.prog Tryz.f4 false true false false):=by
 refine returnsInHanded_of_change_shaped (C:=Tryz.checked) own0 started (by kernel_rfl) Tryz.func4
  (ChangeSpec.witness6 (enc:=enc) (C:=Tryz.checked) false ⟨#[],#[.agg #[.slice none 0 0,.bool false,.bool false,.string ⟨#[]⟩,.int .i64 0,.int .i64 0,.int .i64 0],.agg #[.slice none 0 0,.slice none 0 0],.agg #[.int .i64 0,.slice none 0 0]],[]⟩ 8 (by kernel_rfl) (by kernel_rfl) (by kernel_rfl) (by kernel_rfl)) ?_
 intro W base args ds gs before hval0 hW hcnd _ hsh _
 have hval:∀ (j:Nat) t v,Tryz.f4.params[j]?=some t→args[j]?=some v→Value.okWide Tryz.prog W .any base t v:=hval0
 have hW':=hW
 obtain ⟨p,q,hA0,hV,rfl,hfz,hnd⟩:=hW
 have hA:DataW.TrodAll enc Tryz.prog W 0 (fun _=>true) true Tryz.f4.params.toList args.toList ds p:=hA0
 rw [Tryz.params4] at hA hval
 have hA2:=hA
 obtain ⟨v0,v1,v2,d0,d1,d2,p0,p1,p2,rfl,rfl,hp,h0,h1,h2⟩:=trodAll_three hA
 obtain ⟨rfl,rfl⟩:=trodVars_none hV
 obtain ⟨fu0,hf0⟩:=h0
 obtain ⟨cs0,rfl,_⟩:=okWide_struct Tryz.underlying26 (hval 0 _ v0 rfl rfl)
 obtain ⟨a0,w0,r0⟩:=rd_T26 hf0
 have hx0:Rep (MW W) noBk (.agg cs0) (.agg [.sl (List.map MailEntry.v a0.Mail) false,.b a0.Snap.On,.b a0.Snap.Begun,.s a0.Snap.After,.i a0.Snap.Told,.i a0.Sent,.i a0.Lost]):=rep_aggL r0 (by intro u hu;simp only [List.mem_cons,List.not_mem_nil,or_false] at hu;rcases hu with rfl | rfl | rfl | rfl | rfl | rfl | rfl <;> rfl)
 obtain ⟨fu1,hf1⟩:=h1
 obtain ⟨cs1,rfl,_⟩:=okWide_struct Tryz.underlying57 (hval 1 _ v1 rfl rfl)
 obtain ⟨a1,r1⟩:=rd_T57 hf1
 have hx1:Rep (MW W) noBk (.agg cs1) (.agg [.sl (List.map V.s a1.Users) false,.sl (List.map V.s a1.Keys) false]):=rep_aggL r1 (by intro u hu;simp only [List.mem_cons,List.not_mem_nil,or_false] at hu;rcases hu with rfl | rfl <;> rfl)
 obtain ⟨fu2,hf2⟩:=h2
 obtain ⟨cs2,rfl,_⟩:=okWide_struct Tryz.underlying60 (hval 2 _ v2 rfl rfl)
 obtain ⟨a2,w2,r2⟩:=rd_T60 hf2
 have hx2:Rep (MW W) noBk (.agg cs2) (.agg [.i a2.Seq,.sl (List.map BookRow.v a2.Rows) false]):=rep_aggL r2 (by intro u hu;simp only [List.mem_cons,List.not_mem_nil,or_false] at hu;rcases hu with rfl | rfl <;> rfl)
 refine (rep_one (callsO_true (p_law27_OutqNext_v a0 a1 a2) (tru_ok (outqNext_all a0 a1 a2))) (maxLen_cell W hsh) (repAr3 hx0 hx1 hx2)).mono ?_
 rintro e W' ⟨rfl,bel⟩
 refine ⟨_,rfl,_,_,_,[],p,[],hW',?_,?_,?_,?_,?_⟩
 ·exact trodAll_mk1 (shut_bool Tryz.underlying4 true)
 ·exact trodAll_below laid0 bel (by
   intro t ht
   simp at ht
   rcases ht with rfl | rfl | rfl <;> exact ⟨by kernel_rfl,of_decide_eq_true (by kernel_rfl)⟩) hA2
 ·rfl
 ·exact bel.frame _
 ·exact fun h=>by cases h
theorem outqNext_holds:Rows.OutqNextSaid :=
 OpenClaim.holds_of_wide 4 Tryz.f4 rfl rfl rfl rfl rfl rfl rfl ⟨rfl,rfl,rfl,rfl,rfl⟩ rfl rfl rfl rfl rfl outqNext_named Tryz.func4 outqNext_closed
  (of_decide_eq_true (by kernel_rfl)) (by unfold Func.isWrapper;first | (rw [if_pos (by decide +kernel)];kernel_rfl) | (rw [if_neg (by decide +kernel)];exact ⟨rfl,rfl⟩))
  (fun os started H enc _=>outqNext_lifted os started H enc)
#print axioms outqNext_holds
end Go.Proofs.YtdoakplhalonfaaGreat

