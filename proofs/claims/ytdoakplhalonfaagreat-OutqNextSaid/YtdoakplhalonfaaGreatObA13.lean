/- A part of the proof: 4 texts joined. -/
import Derived.Test.YtdoakplhalonfaaGreatObA8
import Derived.Test.YtdoakplhalonfaaGreatObA12
import Derived.Test.YtdoakplhalonfaaGreatObA1
import Derived.KernelRfl
import Derived.Test.YtdoakplhalonfaaGreatObA3
import Derived.Lib.SliceRun
import Derived.Deep.RegionLaw
set_option linter.all false
namespace Go.Proofs.YtdoakplhalonfaaGreat
open Go.RowKit
set_option maxRecDepth 100000
set_option maxHeartbeats 4000000
def gc29:BCode:=(.seq (R_ 4 [O_ 4 (.bx (t_ 0)) 0,O_ 5 (.bx (t_ 1)) 1,O_ 6 (.bx (t_ 2)) 2,O_ 8 (.al (.agg [(.sl [] true),(.lit (.bool false)),(.lit (.bool false)),(.lit (.string ⟨#[]⟩)),(.lit (.int .i64 0)),(.lit (.int .i64 0)),(.lit (.int .i64 0))])) 3,O_ 9 (.mv (.const (.slice none 0 0))) 4]) (.seq (.seq (R_ 0 [O_ 14 (.ld 7 true (t_ 4)) 0,O_ 15 (.cl 18 [(t_ 14)]) 0,O_ 16 (.bin .neq (t_ 15) (i_ 0)) 0]) (.cond (t_ 16) (.seq (R_ 0 [O_ 17 (.ld 7 true (t_ 4)) 0,U_ (.st 7 (t_ 8) (t_ 17)) 0,O_ 9 (.mv (.const (.slice none 0 0))) 0]) .ret) .skip)) (.seq (R_ 1 [O_ 18 (.fa 5 (t_ 4)) 0,O_ 19 (.ld 1 false (t_ 18)) 0,O_ 20 (.bd [(.lit (.int .i64 0))] [(0,1,(t_ 19))]) 0,O_ 21 (.ld 7 true (t_ 4)) 0,O_ 22 (.ld 2 true (t_ 5)) 0,O_ 23 (.ld 2 true (t_ 6)) 0,O_ 24 (.bd [(.lit (.int .i64 0)),(.sl [] true),(.lit (.bool false)),(.lit (.bool false)),(.lit (.string ⟨#[]⟩)),(.lit (.int .i64 0)),(.lit (.int .i64 0)),(.lit (.int .i64 0)),(.sl [] true),(.sl [] true),(.lit (.int .i64 0)),(.sl [] true)] [(0,1,(t_ 20)),(1,7,(t_ 21)),(8,2,(t_ 22)),(10,2,(t_ 23))]) 0,O_ 25 (.bx (t_ 24)) 0,O_ 10 (.mv (t_ 25)) 1]) (.seq (R_ 0 [O_ 11 (.mv (.const (.slice none 0 0))) 0]) (.seq (.block 0 (.loop (.seq (.seq (R_ 0 [O_ 26 (.mv (t_ 11)) 0,O_ 27 (.lens (t_ 26)) 0,O_ 28 (.mv (t_ 3)) 0,O_ 29 (.mn false (t_ 28) (i_ 1000)) 0,O_ 30 (.bin .lss (t_ 27) (t_ 29)) 0]) (.cond (t_ 30) .skip (.exit 0))) (.block 1 (.seq (R_ 1 [O_ 32 (.mv (t_ 10)) 0,O_ 33 (.cl 60 [(t_ 32)]) 0,O_ 31 (.mv (t_ 33)) 0,O_ 34 (.ex (t_ 31) 0) 0,O_ 35 (.ex (t_ 31) 1) 0,O_ 12 (.al (.agg [(.lit (.int .u8 0)),(.lit (.string ⟨#[]⟩)),(.lit (.string ⟨#[]⟩)),(.lit (.string ⟨#[]⟩)),(.lit (.int .i64 0)),(.lit (.int .i64 0)),(.lit (.int .i64 0)),(.lit (.int .i64 0))])) 0,U_ (.st 8 (t_ 12) (t_ 34)) 1,O_ 13 (.mv (t_ 35)) 1]) (.seq (.seq (R_ 0 [O_ 36 (.mv (t_ 13)) 0,O_ 37 (.un .not (t_ 36)) 0]) (.cond (t_ 37) (.exit 0) .skip)) (R_ 2 [O_ 38 (.mv (t_ 11)) 0,O_ 39 (.ld 8 true (t_ 12)) 0,O_ 40 (.bs 8 1 [(.lit (.int .u8 0)),(.lit (.string ⟨#[]⟩)),(.lit (.string ⟨#[]⟩)),(.lit (.string ⟨#[]⟩)),(.lit (.int .i64 0)),(.lit (.int .i64 0)),(.lit (.int .i64 0)),(.lit (.int .i64 0))] [(0,(t_ 39))]) 0,O_ 41 (.ap 8 88 (t_ 38) (t_ 40)) 1,O_ 11 (.mv (t_ 41)) 2]))))))) (.seq (R_ 0 [O_ 42 (.mv (t_ 10)) 0,O_ 43 (.mv (t_ 10)) 0,O_ 44 (.nc (t_ 43)) 0,O_ 45 (.fa 0 (t_ 44)) 0,O_ 46 (.fa 0 (t_ 45)) 0,O_ 47 (.ld 1 false (t_ 46)) 0,O_ 48 (.nc (t_ 42)) 0,O_ 49 (.fa 1 (t_ 48)) 0,O_ 50 (.fa 5 (t_ 49)) 0,U_ (.st 1 (t_ 50) (t_ 47)) 0]) (.seq (R_ 0 [O_ 51 (.mv (t_ 10)) 0,O_ 52 (.nc (t_ 51)) 0,O_ 53 (.fa 1 (t_ 52)) 0,O_ 54 (.ld 7 true (t_ 53)) 0,O_ 55 (.mv (t_ 11)) 0,U_ (.st 7 (t_ 8) (t_ 54)) 0,O_ 9 (.mv (t_ 55)) 0]) .ret)))))))
theorem gc29_ok:compF Tryz.prog Tryz.f29=some (gc29.er,56,[.cell 8 7 true,.tmp 9]):=by unfold gc29;kernel_rfl
theorem p_outq_Flush_v {u1 u2 u3 u4:Bool} (a0:Ref27State) (a1:SnapEyes) (a2:BookState) (a3:Int):CallsO Tryz.prog 29 [.agg [.sl (List.map MailEntry.v a0.Mail) u1,.b a0.Snap.On,.b a0.Snap.Begun,.s a0.Snap.After,.i a0.Snap.Told,.i a0.Sent,.i a0.Lost],.agg [.sl (List.map V.s a1.Users) u2,.sl (List.map V.s a1.Keys) u3],.agg [.i a2.Seq,.sl (List.map BookRow.v a2.Rows) u4],.i a3] (fun r:Ref27State × (List StanzaStanza)=>.tup [Ref27State.v r.1,(fun l:List StanzaStanza=>V.sl (l.map StanzaStanza.v) false) r.2]) (p_outq_Flush a0 a1 a2 a3):=by
 refine callsO_comp mix Tryz.func29 gc29_ok fun r H=>?_
 rw [p_outq_Flush] at H
 conv=>whnf
 refine ask_c (p_outq_Check_v _) H rfl rfl (fun v1 H=>?_);conv=>whnf
 refine tst_c H (fun b2 H=>?_) (fun b2 H=>?_)
 ·conv=>whnf
  refine lq_ ?_;conv=>whnf
  refine finR_c (enc:=(fun r:Ref27State × (List StanzaStanza)=>.tup [Ref27State.v r.1,(fun l:List StanzaStanza=>V.sl (l.map StanzaStanza.v) false) r.2])) H ?_;conv=>whnf
  exact ⟨_,.tup (.cons (fzagg (.cons (.slw) (.cons (.id rfl) (.cons (.id rfl) (.cons (.id rfl) (.cons (.id rfl) (.cons (.id rfl) (.cons (.id rfl) (.nil)))))))) rfl) (.cons (.c (.slw)) (.nil)))⟩
 conv=>whnf
 obtain ⟨o4,HL5,HQ6⟩:=bind_c H
 refine loop_c [11,8,10] [12,13,26,27,28,29,30,31,32,33,34,35,36,37,38,39,40,41,4,5,6,18,25] [12,13,26,27,28,29,30,31,32,33,34,35,36,37,38,39,40,41,4,5,6,18,25] (fun n vals st=>(∃ y8,p_outq_Flush_l1  a3 n [] y8=some o4∧vals=[.sl (List.map StanzaStanza.v []) true,.ptr 0 0,.ptr 1 0]∧st=[.live [.sl (List.map MailEntry.v []) true,.b false,.b false,.s (⟨#[]⟩ : ByteArray),.i (0:Int),.i (0:Int),.i (0:Int)] 0,.live [.i y8.counter.sent,.sl (List.map MailEntry.v y8.st.Mail) u1,.b y8.st.Snap.On,.b y8.st.Snap.Begun,.s y8.st.Snap.After,.i y8.st.Snap.Told,.i y8.st.Sent,.i y8.st.Lost,.sl (List.map V.s y8.eyes.Users) u2,.sl (List.map V.s y8.eyes.Keys) u3,.i y8.book.Seq,.sl (List.map BookRow.v y8.book.Rows) u4] 0])∨(∃ y13 y14,p_outq_Flush_l1  a3 n y13 y14=some o4∧vals=[.osl 2 0 (List.length y13) 8 false,.ptr 0 0,.ptr 1 0]∧st=[.live [.sl (List.map MailEntry.v []) true,.b false,.b false,.s (⟨#[]⟩ : ByteArray),.i (0:Int),.i (0:Int),.i (0:Int)] 0,.live [.i y14.counter.sent,.sl (List.map MailEntry.v y14.st.Mail) false,.b y14.st.Snap.On,.b y14.st.Snap.Begun,.s y14.st.Snap.After,.i y14.st.Snap.Told,.i y14.st.Sent,.i y14.st.Lost,.sl (List.map V.s y14.eyes.Users) false,.sl (List.map V.s y14.eyes.Keys) false,.i y14.book.Seq,.sl (List.map BookRow.v y14.book.Rows) false] 0,.live (cellsM StanzaStanza.v y13) (cellsM StanzaStanza.v y13).length])) fuel 2 [3,4] (.inl (⟨_,HL5,rfl,rfl⟩)) (Nat.zero_le _) rfl (by kernel_rfl) (by kernel_rfl) rfl ⟨⟨rfl,rfl,rfl⟩,⟨⟨rfl,rfl,rfl⟩,trivial⟩⟩ ?_
 rintro (_ | n7) _ _ (⟨y8,H,rfl,rfl⟩ | ⟨y13,y14,H,rfl,rfl⟩)
 ·rw [p_outq_Flush_l1] at H;cases H
 ·rw [p_outq_Flush_l1] at H;cases H
 ·rw [p_outq_Flush_l1] at H
  conv=>whnf
  refine LenQ.ok ?_;conv=>whnf
  refine tst_d H (fun b9 H=>?_) (fun b9 H=>?_)
  ·conv=>whnf
   obtain rfl:=Option.some.inj H
   have H:=HQ6
   try dsimp only at H
   refine lq_ ?_;conv=>whnf
   refine lq_ ?_;conv=>whnf
   refine finR_c (enc:=(fun r:Ref27State × (List StanzaStanza)=>.tup [Ref27State.v r.1,(fun l:List StanzaStanza=>V.sl (l.map StanzaStanza.v) false) r.2])) H ?_;conv=>whnf
   exact ⟨_,.tup (.cons (fzagg (.cons (.slw) (.cons (.id rfl) (.cons (.id rfl) (.cons (.id rfl) (.cons (.id rfl) (.cons (.id rfl) (.cons (.id rfl) (.nil)))))))) rfl) (.cons (.c (.slw)) (.nil)))⟩
  conv=>whnf
  refine askP_c (fun s hs=>p_outq_teller_next_p3_1 rfl rfl _ s hs) H rfl rfl (fun _=>rfl) (fun v10 H=>?_);conv=>whnf
  refine lq_ ?_;conv=>whnf
  refine Tst.not ?_
  refine tst_d H (fun b11 H=>?_) (fun b11 H=>?_)
  ·conv=>whnf
   obtain rfl:=Option.some.inj H
   have H:=HQ6
   try dsimp only at H
   refine lq_ ?_;conv=>whnf
   refine lq_ ?_;conv=>whnf
   refine finR_c (enc:=(fun r:Ref27State × (List StanzaStanza)=>.tup [Ref27State.v r.1,(fun l:List StanzaStanza=>V.sl (l.map StanzaStanza.v) false) r.2])) H ?_;conv=>whnf
   exact ⟨_,.tup (.cons (fzagg (.cons (.id rfl) (.cons (.id rfl) (.cons (.id rfl) (.cons (.id rfl) (.cons (.id rfl) (.cons (.id rfl) (.cons (.id rfl) (.nil)))))))) rfl) (.cons (.c (.slw)) (.nil)))⟩
  conv=>whnf
  refine appN_c (f:=StanzaStanza.v) H (fun _=>rfl) (srcM (f:=StanzaStanza.v) (fun _=>rfl) [] true) rfl (.v (srcOwn (f:=StanzaStanza.v) (l:=[v10.2.1]) (fun _=>rfl) rfl rfl rfl)) (by decide) rfl (by simp) (fun l12 H=>?_);conv=>whnf
  exact again_c [12,13,26,27,28,29,30,31,32,33,34,35,36,37,38,39,40,41,4,5,6,18,25] n7 3 [0,1,4] (.inr (⟨_,_,H,rfl,rfl⟩)) (Nat.lt_succ_self _) (Nat.zero_le _) rfl (by kernel_rfl) (by kernel_rfl) rfl ⟨⟨rfl,rfl,rfl⟩,⟨⟨rfl,rfl,rfl⟩,wkB_live0 rfl (cellsM_idlt (f:=StanzaStanza.v) (fun _=>rfl) _) rfl trivial⟩⟩
 rw [p_outq_Flush_l1] at H
 conv=>whnf
 refine tst_d H (fun b15 H=>?_) (fun b15 H=>?_)
 ·conv=>whnf
  obtain rfl:=Option.some.inj H
  have H:=HQ6
  try dsimp only at H
  refine lq_ ?_;conv=>whnf
  refine lq_ ?_;conv=>whnf
  refine finR_c (enc:=(fun r:Ref27State × (List StanzaStanza)=>.tup [Ref27State.v r.1,(fun l:List StanzaStanza=>V.sl (l.map StanzaStanza.v) false) r.2])) H ?_;conv=>whnf
  exact ⟨_,.tup (.cons (fzagg (.cons (.id rfl) (.cons (.id rfl) (.cons (.id rfl) (.cons (.id rfl) (.cons (.id rfl) (.cons (.id rfl) (.cons (.id rfl) (.nil)))))))) rfl) (.cons (.c (fzown (f:=StanzaStanza.v) (l:=y13) rfl rfl (fun _=>rfl) (fun _=>rfl))) (.nil)))⟩
 conv=>whnf
 refine askP_c (fun s hs=>p_outq_teller_next_p4_1 rfl (okN_M (cellsM_idlt (f:=StanzaStanza.v) (fun _=>rfl) _)) rfl _ s hs) H rfl rfl (fun _=>rfl) (fun v16 H=>?_);conv=>whnf
 refine lq_ ?_;conv=>whnf
 refine Tst.not ?_
 refine tst_c H (fun b17 H=>?_) (fun b17 H=>?_)
 ·conv=>whnf
  refine appO_c (f:=StanzaStanza.v) H (fun _=>rfl) rfl (Nat.le_refl _) (.v (srcOwn (f:=StanzaStanza.v) (l:=[v16.2.1]) (fun _=>rfl) rfl rfl rfl)) (by decide) rfl (by simp) (fun l18 H=>?_);conv=>whnf
  exact again_c [12,13,26,27,28,29,30,31,32,33,34,35,36,37,38,39,40,41,4,5,6,18,25] n7 3 [0,1,5] (.inr (⟨_,_,H,rfl,rfl⟩)) (Nat.lt_succ_self _) (Nat.zero_le _) rfl (by kernel_rfl) (by kernel_rfl) rfl ⟨⟨rfl,rfl,rfl⟩,⟨⟨rfl,rfl,rfl⟩,wkB_live0 rfl (cellsM_idlt (f:=StanzaStanza.v) (fun _=>rfl) _) rfl trivial⟩⟩
 conv=>whnf
 obtain rfl:=Option.some.inj H
 have H:=HQ6
 try dsimp only at H
 refine lq_ ?_;conv=>whnf
 refine lq_ ?_;conv=>whnf
 refine finR_c (enc:=(fun r:Ref27State × (List StanzaStanza)=>.tup [Ref27State.v r.1,(fun l:List StanzaStanza=>V.sl (l.map StanzaStanza.v) false) r.2])) H ?_;conv=>whnf
 exact ⟨_,.tup (.cons (fzagg (.cons (.id rfl) (.cons (.id rfl) (.cons (.id rfl) (.cons (.id rfl) (.cons (.id rfl) (.cons (.id rfl) (.cons (.id rfl) (.nil)))))))) rfl) (.cons (.c (fzown (f:=StanzaStanza.v) (l:=y13) rfl rfl (fun _=>rfl) (fun _=>rfl))) (.nil)))⟩
def gc27:BCode:=(.seq (R_ 5 [O_ 3 (.bx (t_ 0)) 0,O_ 4 (.bx (t_ 1)) 1,O_ 5 (.bx (t_ 2)) 2,O_ 6 (.al (.agg [(.sl [] true),(.lit (.bool false)),(.lit (.bool false)),(.lit (.string ⟨#[]⟩)),(.lit (.int .i64 0)),(.lit (.int .i64 0)),(.lit (.int .i64 0))])) 3,O_ 7 (.al (.agg [(.lit (.int .u8 0)),(.lit (.string ⟨#[]⟩)),(.lit (.string ⟨#[]⟩)),(.lit (.string ⟨#[]⟩)),(.lit (.int .i64 0)),(.lit (.int .i64 0)),(.lit (.int .i64 0)),(.lit (.int .i64 0))])) 4,O_ 8 (.mv (b_ false)) 5]) (.seq (R_ 1 [O_ 12 (.ld 7 true (t_ 3)) 0,O_ 13 (.ld 2 true (t_ 4)) 0,O_ 14 (.ld 2 true (t_ 5)) 0,O_ 15 (.cl 29 [(t_ 12),(t_ 13),(t_ 14),(i_ 1)]) 0,O_ 11 (.mv (t_ 15)) 0,O_ 16 (.ex (t_ 11) 0) 0,O_ 17 (.ex (t_ 11) 1) 0,O_ 9 (.al (.agg [(.sl [] true),(.lit (.bool false)),(.lit (.bool false)),(.lit (.string ⟨#[]⟩)),(.lit (.int .i64 0)),(.lit (.int .i64 0)),(.lit (.int .i64 0))])) 0,U_ (.st 7 (t_ 9) (t_ 16)) 1,O_ 10 (.mv (t_ 17)) 1]) (.seq (.seq (R_ 0 [O_ 18 (.mv (t_ 10)) 0,O_ 19 (.lens (t_ 18)) 0,O_ 20 (.bin .eql (t_ 19) (i_ 0)) 0]) (.cond (t_ 20) (.seq (R_ 0 [O_ 21 (.ld 7 true (t_ 3)) 0,O_ 22 (.bd [(.lit (.int .u8 0)),(.lit (.string ⟨#[]⟩)),(.lit (.string ⟨#[]⟩)),(.lit (.string ⟨#[]⟩)),(.lit (.int .i64 0)),(.lit (.int .i64 0)),(.lit (.int .i64 0)),(.lit (.int .i64 0))] []) 0,U_ (.st 7 (t_ 6) (t_ 21)) 0,U_ (.st 8 (t_ 7) (t_ 22)) 0,O_ 8 (.mv (b_ false)) 0]) .ret) .skip)) (.seq (.reg 0 [O_ 23 (.ld 7 true (t_ 9)) 0,O_ 24 (.mv (t_ 10)) 0,O_ 25 (.ixs 8 (t_ 24) (i_ 0)) 0,O_ 26 (.ld 8 true (t_ 25)) 0,U_ (.st 7 (t_ 6) (t_ 23)) 0,U_ (.st 8 (t_ 7) (t_ 26)) 0,O_ 8 (.mv (b_ true)) 0] (some [[],[],[1],[1,2],[0],[0,4,2,1,3],[3,1,2,4,0,5]]) 0 []) .ret))))
theorem gc27_ok:compF Tryz.prog Tryz.f27=some (gc27.er,27,[.cell 6 7 true,.cell 7 8 true,.tmp 8]):=by unfold gc27;kernel_rfl
theorem p_outq_Next_v {u1 u2 u3 u4:Bool} (a0:Ref27State) (a1:SnapEyes) (a2:BookState):CallsO Tryz.prog 27 [.agg [.sl (List.map MailEntry.v a0.Mail) u1,.b a0.Snap.On,.b a0.Snap.Begun,.s a0.Snap.After,.i a0.Snap.Told,.i a0.Sent,.i a0.Lost],.agg [.sl (List.map V.s a1.Users) u2,.sl (List.map V.s a1.Keys) u3],.agg [.i a2.Seq,.sl (List.map BookRow.v a2.Rows) u4]] (fun r:Ref27State × StanzaStanza × Bool=>.tup [Ref27State.v r.1,StanzaStanza.v r.2.1,V.b r.2.2]) (p_outq_Next a0 a1 a2):=by
 refine callsO_comp mix Tryz.func27 gc27_ok fun r H=>?_
 rw [p_outq_Next] at H
 conv=>whnf
 refine ask_c (p_outq_Flush_v _ _ _ _) H rfl rfl (fun v1 H=>?_);conv=>whnf
 refine lq_ ?_;conv=>whnf
 refine LenQ.M ?_;conv=>whnf
 refine tst_d H (fun b2 H=>?_) (fun b2 H=>?_)
 ·conv=>whnf
  refine ixs_c (f:=StanzaStanza.v) H (fun _=>rfl) (fun x3 H=>?_);conv=>whnf
  refine lq_ ?_;conv=>whnf
  refine lq_ ?_;conv=>whnf
  refine FootQ.mk ⟨rfl,?_⟩;conv=>whnf
  exact fin0_c (enc:=(fun r:Ref27State × StanzaStanza × Bool=>.tup [Ref27State.v r.1,StanzaStanza.v r.2.1,V.b r.2.2])) H (.inr rfl) (.cons (.cell rfl rfl (Nat.le_of_ble_eq_true rfl)) (.cons (.cell rfl rfl (Nat.le_of_ble_eq_true rfl)) (.cons (.tmp rfl) (.nil)))) rfl rfl
 conv=>whnf
 refine lq_ ?_;conv=>whnf
 refine lq_ ?_;conv=>whnf
 refine finR_c (enc:=(fun r:Ref27State × StanzaStanza × Bool=>.tup [Ref27State.v r.1,StanzaStanza.v r.2.1,V.b r.2.2])) H ?_;conv=>whnf
 exact ⟨_,.tup (.cons (fzagg (.cons (.slw) (.cons (.id rfl) (.cons (.id rfl) (.cons (.id rfl) (.cons (.id rfl) (.cons (.id rfl) (.cons (.id rfl) (.nil)))))))) rfl) (.cons (fzagg (.cons (.id rfl) (.cons (.id rfl) (.cons (.id rfl) (.cons (.id rfl) (.cons (.id rfl) (.cons (.id rfl) (.cons (.id rfl) (.cons (.id rfl) (.nil))))))))) rfl) (.cons (.c (.id rfl)) (.nil))))⟩
def gc73:BCode:=(.seq (R_ 2 [O_ 2 (.bx (t_ 0)) 0,O_ 3 (.bx (t_ 1)) 1,O_ 4 (.mv (b_ false)) 2]) (.seq (R_ 0 [O_ 5 (.fa 3 (t_ 3)) 0,O_ 6 (.ld 1 false (t_ 5)) 0,O_ 7 (.fa 3 (t_ 2)) 0,O_ 8 (.ld 1 false (t_ 7)) 0,O_ 9 (.bin .lss (t_ 6) (t_ 8)) 0,O_ 4 (.mv (t_ 9)) 0]) .ret))
theorem gc73_ok:compF Tryz.prog Tryz.f73=some (gc73.er,10,[.tmp 4]):=by unfold gc73;kernel_rfl
theorem p_pres_Newer_v (a0:PresPres) (a1:PresPres):CallsO Tryz.prog 73 [.agg [.b a0.On,.i a0.Show,.i a0.Prio,.i a0.Seq],.agg [.b a1.On,.i a1.Show,.i a1.Prio,.i a1.Seq]] V.b (p_pres_Newer a0 a1):=by
 refine callsO_comp mix Tryz.func73 gc73_ok fun r H=>?_
 rw [p_pres_Newer] at H
 conv=>whnf
 exact fb_ H
end Go.Proofs.YtdoakplhalonfaaGreat

namespace Go.Proofs.YtdoakplhalonfaaGreat
open Go.RowKit Go.Lib
set_option maxHeartbeats 4000000
set_option maxRecDepth 100000
theorem cloS70 (A:Addr) (n c:Nat) (cs:List Value) (w:World) (hn:0 < n) (hbig:n≤1000000) (hcl:cs.length=n * 5) (hcs:∀ j v,cs[j]?=some v→w.cell? (A.add j)=some v) (h1:∀ v ∈ cs,v.oneCell'=true) :
  Calls Tryz.prog 70 #[.slice (some A) n c] w fun e w'=>∃ ZS:Array Value,e=.returned (.slice (some ⟨w.heap.size + 1,0,none⟩) n (grownCap (w.alloc (.cells #[] 155)) n 0 155))∧w'=(w.alloc (.cells #[] 155)).drew.alloc (.cells (cs.toArray++ZS) 155)∧grownCap (w.alloc (.cells #[] 155)) n 0 155 * 5≤(cs.toArray++ZS).size:=by
 have tS:Tryz.prog.underlying 34=some (.slice 155):=by kernel_rfl
 have uS:=run_underlying tS
 have qS:∀ (w:World) (a:Option Addr) (n c n' c' : Nat),(binOp .eql 34 (.slice a n c) (.slice none n' c')).run Tryz.prog w=.ok (.bool a.isNone) w:=fun w a n c n' c'=>Lib.run_eql_slice_nil w _ _ a n c n' c' tS
 have mixed:Tryz.prog.follows .mixedOrders=true:=mix
 obtain ⟨i0,z,hi0,hzs,hz0,hzc,hzb⟩:=infB_ok (P:=Tryz.prog) (e:=155) (es:=5) (by kernel_rfl)
 have hsrc:Src Tryz.prog i0.size 34 (.slice (some A) n c) n cs (w.alloc (.cells #[] 155)):=by
  rw [hzs]
  exact Src.ofSlice _ tS A n c cs (by omega) (fun j u hj=>Lib.cell?_alloc_some _ (hcs j u hj)) h1
 have hold:(Builtin.firstCells i0.size 0 (.slice (some ⟨w.heap.size,0,none⟩) 0 0)).run Tryz.prog (w.alloc (.cells #[] 155)).drew=.ok ([]:List Value).toArray (w.alloc (.cells #[] 155)).drew:=by
  rw [hzs]
  exact run_firstCells_some _ 5 0 ⟨w.heap.size,0,none⟩ 0 0 [] (by simp) (fun j v hj=>by simp at hj)
 have hrun:∀ ty,(Builtin.append_ #[34,34] ty #[.slice (some ⟨w.heap.size,0,none⟩) 0 0,.slice (some A) n c]).run Tryz.prog (w.alloc (.cells #[] 155))=_:=fun ty =>
  run_append_grow_src (w.alloc (.cells #[] 155)) 34 34 ty 155 i0 z tS hi0 hz0 (some ⟨w.heap.size,0,none⟩) 0 0 [] hold _ n cs hsrc (by omega) (by omega) (growslice_fits (by omega) (grown_bound (by omega) hzb))
 simp only [Nat.zero_add,List.nil_append,World.size_alloc] at hrun
 have hge:=grownCap_ge (w.alloc (.cells #[] 155)) n 0 155
 have hsz:grownCap (w.alloc (.cells #[] 155)) n 0 155 * 5≤(cs.toArray++Builtin.zeroCells z.cells (grownCap (w.alloc (.cells #[] 155)) n 0 155 - n)).size:=by
  simp only [Array.size_append,size_zeroCells,hzc,List.size_toArray,hcl]
  omega
 obtain ⟨ZS,hrun,hsz⟩ : ∃ ZS:Array Value,(∀ ty,(Builtin.append_ #[34,34] ty #[.slice (some ⟨w.heap.size,0,none⟩) 0 0,.slice (some A) n c]).run Tryz.prog (w.alloc (.cells #[] 155))=.ok (.slice (some ⟨w.heap.size + 1,0,none⟩) n (grownCap (w.alloc (.cells #[] 155)) n 0 155)) ((w.alloc (.cells #[] 155)).drew.alloc (.cells (cs.toArray++ZS) 155)))∧grownCap (w.alloc (.cells #[] 155)) n 0 155 * 5≤(cs.toArray++ZS).size:=⟨_,hrun,hsz⟩
 have main:Calls Tryz.prog 70 #[.slice (some A) n c] w fun e w'=>e=.returned (.slice (some ⟨w.heap.size + 1,0,none⟩) n (grownCap (w.alloc (.cells #[] 155)) n 0 155))∧w'=(w.alloc (.cells #[] 155)).drew.alloc (.cells (cs.toArray++ZS) 155):=by
  clear hsz hold hsrc hz0 hcs
  go_enter Tryz.func70,Tryz.ntmps70
  go_wp2_with (at_builtin;refine Lib.wpList_append_run _ rfl _ _ _ _ rfl _ _ rfl rfl _ _ (hrun _) ?_)
  go_ret
  exact ⟨rfl,rfl⟩
 refine main.mono ?_
 rintro e w' ⟨rfl,rfl⟩
 exact ⟨ZS,rfl,rfl,hsz⟩
theorem cloZ70 (A:Addr) (c:Nat) (w:World):Calls Tryz.prog 70 #[.slice (some A) 0 c] w fun e w'=>e=.returned (.slice (some ⟨w.heap.size,0,none⟩) 0 0)∧∃ q,w'=(w.alloc (.cells #[] 155)).drewN q:=by
 have tS:Tryz.prog.underlying 34=some (.slice 155):=by kernel_rfl
 have uS:=run_underlying tS
 have qS:∀ (w:World) (a:Option Addr) (n c n' c' : Nat),(binOp .eql 34 (.slice a n c) (.slice none n' c')).run Tryz.prog w=.ok (.bool a.isNone) w:=fun w a n c n' c'=>Lib.run_eql_slice_nil w _ _ a n c n' c' tS
 have mixed:Tryz.prog.follows .mixedOrders=true:=mix
 obtain ⟨i0,z,hi0,hzs,hz0,hzc,hzb⟩:=infB_ok (P:=Tryz.prog) (e:=155) (es:=5) (by kernel_rfl)
 have hsz:(Tryz.prog.info? 155).map (·.size)=some 5:=by rw [hi0];simp [hzs]
 have hrun:∀ ty,(Builtin.append_ #[34,34] ty #[.slice (some ⟨w.heap.size,0,none⟩) 0 0,.slice (some A) 0 c]).run Tryz.prog (w.alloc (.cells #[] 155))=.ok (.slice (some ⟨w.heap.size,0,none⟩) 0 0) (w.alloc (.cells #[] 155)):=fun ty=>by
  have hl:∀ (x:Addr) (W:World),(loadCells x 0).run Tryz.prog W=.ok #[] W:=fun x W=>by simpa using run_loadCells_list (P:=Tryz.prog) W x [] (by simp)
  simp [Builtin.append_,uS,Builtin.lenOf,Builtin.firstCells,sizeOf,typeInfo,hi0,hl,storeCells]
 have main:Calls Tryz.prog 70 #[.slice (some A) 0 c] w fun e w'=>e=.returned (.slice (some ⟨w.heap.size,0,none⟩) 0 0)∧w'=w.alloc (.cells #[] 155):=by
  go_enter Tryz.func70,Tryz.ntmps70
  go_wp2_with (at_builtin;refine Lib.wpList_append_run _ rfl _ _ _ _ rfl _ _ rfl rfl _ _ (hrun _) ?_)
  go_ret
  exact ⟨rfl,rfl⟩
 refine main.mono ?_
 rintro e w' ⟨rfl,rfl⟩
 exact ⟨rfl,0,rfl⟩
theorem cloN70 (n c:Nat) (w:World):Calls Tryz.prog 70 #[.slice none n c] w fun e w'=>e=.returned (.slice none 0 0)∧w'=w:=by
 have tS:Tryz.prog.underlying 34=some (.slice 155):=by kernel_rfl
 have uS:=run_underlying tS
 have qS:∀ (w:World) (a:Option Addr) (n c n' c' : Nat),(binOp .eql 34 (.slice a n c) (.slice none n' c')).run Tryz.prog w=.ok (.bool a.isNone) w:=fun w a n c n' c'=>Lib.run_eql_slice_nil w _ _ a n c n' c' tS
 have mixed:Tryz.prog.follows .mixedOrders=true:=mix
 go_enter Tryz.func70,Tryz.ntmps70
 go_wp2
 go_ret
 exact ⟨rfl,rfl⟩
theorem cloR70_v:CloRoads Tryz.prog 70 5 155:=⟨cloS70,cloZ70,cloN70⟩
end Go.Proofs.YtdoakplhalonfaaGreat

namespace Go.Proofs.YtdoakplhalonfaaGreat
open Go.RowKit Go.Lib
set_option maxHeartbeats 4000000
set_option maxRecDepth 100000
theorem delS74 (b n c i j:Nat) (cs:List Value) (w:World) (hij:i < j) (hj:j≤n) (hnc:n≤c) (hbig:n≤1000000) (hcl:cs.length=n * 5) (hcs:∀ t v,cs[t]?=some v→w.cell? ⟨b,t,none⟩=some v) (hfz:∀ t,t < n * 5→w.frozen? ⟨b,t,none⟩=false) (h1c:∀ v ∈ cs,v.oneCell'=true) :
  Calls Tryz.prog 74 #[.slice (some ⟨b,0,none⟩) n c,.int .i64 i,.int .i64 j] w fun e w'=>∃ zs:List Value,zs.length=(j - i) * 5∧(∀ v ∈ zs,v.oneCell'=true)∧e=.returned (.slice (some ⟨b,0,none⟩) (n - (j - i)) c)∧w'=(w.drew.setCells b (i * 5) (cs.drop (j * 5))).setCells b ((n - (j - i)) * 5) zs:=by
 have tS:Tryz.prog.underlying 34=some (.slice 155):=by kernel_rfl
 have uS:=run_underlying tS
 have mixed:Tryz.prog.follows .mixedOrders=true:=mix
 obtain ⟨i0,z,hi0,hzs,hz0,hzc,hzb,hz1⟩:=infB2_ok (P:=Tryz.prog) (e:=155) (es:=5) (by kernel_rfl)
 have hlen:(cs.drop (j * 5)).length=(n - j) * 5:=by rw [List.length_drop,hcl];omega
 obtain ⟨Ad,hA,hsrc⟩ : ∃ Ad:Addr,(if c=j then some (⟨b,0,none⟩ : Addr) else some ⟨b,j * 5,none⟩)=some Ad∧Hid (∀ t u,(cs.drop (j * 5))[t]?=some u→w.drew.cell? (Ad.add t)=some u):=by
  by_cases h:c=j
  ·refine ⟨⟨b,0,none⟩,by simp [h],fun t u hu=>?_⟩
   have:=(List.getElem?_eq_some_iff.1 hu).1
   omega
  ·refine ⟨⟨b,j * 5,none⟩,by simp [h],fun t u hu=>?_⟩
   rw [Addr.add_lit]
   exact hcs _ u (by rwa [List.getElem?_drop] at hu)
 have s1:Hid ((cs.drop (j * 5)).length=(n - j) * 5):=hlen
 have s2:Hid (∀ u ∈ cs.drop (j * 5),u.oneCell'=true):=fun u hu=>h1c u (List.mem_of_mem_drop hu)
 have hsome:∀ t,t < n * 5→(w.drew.cell? ⟨b,t,none⟩).isSome=true:=fun t ht=>by
  show (w.cell? ⟨b,t,none⟩).isSome=true
  rw [hcs t _ (List.getElem?_eq_getElem (by omega))];rfl
 have s3:Hid (∀ t,t < (cs.drop (j * 5)).length→(w.drew.cell? ⟨b,0 + i * 5 + t,none⟩).isSome=true∧w.drew.frozen? ⟨b,0 + i * 5 + t,none⟩=false):=fun t ht=>by
  rw [Nat.zero_add]
  exact ⟨hsome _ (by omega),hfz _ (by omega)⟩
 obtain ⟨W1,hW1⟩ : ∃ W1,W1=w.drew.setCells b (0 + i * 5) (cs.drop (j * 5)):=⟨_,rfl⟩
 have hin:∀ t,t < n * 5→(W1.cell? ⟨b,t,none⟩).isSome=true:=fun t ht=>by
  rw [hW1]
  exact isSome_setCells b _ _ _ (fun q hq=>by rw [Nat.zero_add];exact hsome _ (by omega)) _ (hsome t ht)
 have hfin:∀ t,t < n * 5→W1.frozen? ⟨b,t,none⟩=false:=fun t ht=>by
  rw [hW1,World.frozen?_setCells];exact hfz t ht
 have hzl:(Builtin.zeroCells z.cells (n - (i + (n - j)))).toList.length=(n - (i + (n - j))) * 5:=by rw [Array.length_toList,size_zeroCells,hzc]
 have hz1' : ∀ m,∀ v ∈ (Builtin.zeroCells z.cells m).toList,v.oneCell'=true:=zeroCells_one hz1
 have hcl2:∀ ty,(Builtin.clear_ #[34] ty #[.slice (some ⟨b,(i + (n - j)) * 5,none⟩) (n - (i + (n - j))) (c - (i + (n - j)))]).run Tryz.prog W1=.ok (.tuple #[]) (W1.setCells b ((i + (n - j)) * 5) (Builtin.zeroCells z.cells (n - (i + (n - j)))).toList) :=
  fun ty=>run_clear_es W1 34 155 ty z 5 tS (fun w=>by simp [zeroValue,typeInfo,hi0,hz0]) hzc hz1' b _ _ _ (by omega) (fun t ht=>hin _ (by omega)) (fun t ht=>hfin _ (by omega))
 obtain ⟨ZS,hZS⟩ : ∃ ZS,ZS=(Builtin.zeroCells z.cells (n - (i + (n - j)))).toList:=⟨_,rfl⟩
 rw [← hZS] at hcl2 hzl
 have hz2:∀ v ∈ ZS,v.oneCell'=true:=by rw [hZS];exact hz1' _
 have hic:i≤c:=by omega
 have hjc:j≤c:=by omega
 have hci:¬ (c=i):=by omega
 have hne:¬ ((i:Int)=(j:Int)):=by omega
 have hb1:(i:Int)≤(j:Int):=by omega
 have hb2:¬ (c=i + (n - j)):=by omega
 have main:Calls Tryz.prog 74 #[.slice (some ⟨b,0,none⟩) n c,.int .i64 i,.int .i64 j] w fun e w'=>e=.returned (.slice (some ⟨b,0,none⟩) (i + (n - j)) c)∧w'=W1.setCells b ((i + (n - j)) * 5) ZS:=by
  have hW:Hid (W1=w.drew.setCells b (0 + i * 5) (cs.drop (j * 5))):=hW1
  clear hW1 hz0 hz1 hz1' hzb hz2 hzl hlen hcs hsome hin hfin hZS
  go_enter Tryz.func74,Tryz.ntmps74
  go_wp2_with fail
  go_region_law_o (refine step_append_room rfl (.tmp 22) (.tmp 25) 34 rfl 155 i0 5 tS hi0 hzs b 0 i c (by simp [Act.eval,Act.put]) Ad (n - j) (c - j) (cs.drop (j * 5)) (by simp [Act.eval,Act.put]) s1.out hsrc.out s2.out (by omega) s3.out ?_;rw [← hW.out])
  go_wp2
  go_ret
  first | exact ⟨rfl,rfl⟩ | trace_state
 refine main.mono ?_
 rintro e w' ⟨rfl,rfl⟩
 have he:i + (n - j)=n - (j - i):=by omega
 refine ⟨ZS,by rw [hzl];congr 1;omega,hz2,by rw [he],by rw [hW1,Nat.zero_add,he]⟩
theorem delR74_v:DelRoads Tryz.prog 74 5:=⟨delS74⟩
end Go.Proofs.YtdoakplhalonfaaGreat

namespace Go.Proofs.YtdoakplhalonfaaGreat
open Go.RowKit Go.Lib
set_option maxHeartbeats 4000000
set_option maxRecDepth 100000
theorem insS76 (b n c i vb voff vc:Nat) (cs vs:List Value) (w:World) (tA tB:TypeId) (kA kB:Nat) (hi:i < n) (hroom:n + 1≤c) (hbig:n + 1≤1000000) (hvb:vb≠b) (hcl:cs.length=n * 5) (hvl:vs.length=5)
  (hcs:∀ j v,cs[j]?=some v→w.cell? ⟨b,j,none⟩=some v) (hsp:∀ j,j < (n + 1) * 5→(w.cell? ⟨b,j,none⟩).isSome=true) (hfz:∀ j,j < (n + 1) * 5→w.frozen? ⟨b,j,none⟩=false)
  (hvs:∀ j v,vs[j]?=some v→w.cell? ⟨vb,voff + j,none⟩=some v) (h1c:∀ v ∈ cs,v.oneCell'=true) (h1v:∀ v ∈ vs,v.oneCell'=true)
  (hsa:w.shape? vb=some (tA,kA)) (hsb:w.shape? b=some (tB,kB)) (hkA:kA≠0) (hkB:kB≠0) (hfe:w.frozen? ⟨b,kB,none⟩=false) :
  Calls Tryz.prog 76 #[.slice (some ⟨b,0,none⟩) n c,.int .i64 i,.slice (some ⟨vb,voff,none⟩) 1 vc] w fun e w' =>
   e=.returned (.slice (some ⟨b,0,none⟩) (n + 1) c)∧w'=(w.drew.setCells b ((i + 1) * 5) (cs.drop (i * 5))).setCells b (i * 5) vs:=by
 have tS:Tryz.prog.underlying 34=some (.slice 155):=by kernel_rfl
 have tV:Tryz.prog.underlying 33=some (.slice 155):=by kernel_rfl
 have tI:Tryz.prog.underlying 3=some (.int .i64):=by kernel_rfl
 have uS:=run_underlying tS
 have uV:=run_underlying tV
 have uI:=run_underlying tI
 have mixed:Tryz.prog.follows .mixedOrders=true:=mix
 obtain ⟨i0,z,hi0,hzs,hz0,hzc,hzb⟩:=infB_ok (P:=Tryz.prog) (e:=155) (es:=5) (by kernel_rfl)
 have hsz:(Tryz.prog.info? 155).map (·.size)=some 5:=by rw [hi0];simp [hzs]
 have hov:∀ lb cb,(callFunc 113 #[.slice (some ⟨vb,voff,none⟩) 1 vc,.slice (some ⟨b,(i + 1) * 5,none⟩) lb cb]).run Tryz.prog w=.ok (.value (.bool false)) w:=fun lb cb=>by
  rw [run_callFunc_extern Tryz.func113 (by kernel_rfl) (by kernel_rfl) (by kernel_rfl) (e:=Extern.SlicesOverlaps.overlaps #[33,33] #[4]) (by kernel_rfl),
   run_overlaps_own w 33 4 155 tV 5 (fun w=>by rw [← hzs];exact run_sizeOf hi0 w) ⟨vb,voff,none⟩ ⟨b,(i + 1) * 5,none⟩ 1 vc lb cb hvb tA tB kA kB hsa hsb hkA hkB (hfz _ (by omega)) hfe]
  rfl
 have hdl:(cs.drop (i * 5)).length=(n - i) * 5:=by rw [List.length_drop,hcl];omega
 have hz2:¬ ((i:Int)=(n:Int)):=by omega
 have hw1:IntKind.i64.wrap ((i:Int) + 1)=(i:Int) + 1:=by rw [IntKind.wrap_i64];omega
 have hwn:IntKind.i64.wrap ((n:Int) + 1)=(n:Int) + 1:=by rw [IntKind.wrap_i64];omega
 have hb1:(0:Int)≤(i:Int) + 1:=by omega
 have hin:i≤n:=by omega
 have htn:((i:Int) + 1).toNat=i + 1:=by omega
 have htm:((n:Int) + 1).toNat=n + 1:=by omega
 have hb2:¬ (c=i + 1):=by omega
 have hb3:(i:Int)≤(n:Int) + 1:=by omega
 have hb4:¬ (c=i):=by omega
 have hb5:¬ ((c:Int) < (n:Int) + 1):=by omega
 have hb6:(n:Int) + 1≤(c:Int):=by omega
 have hm1:Nat.min (n + 1 - i) (n - i)=n - i:=by simp only [Nat.min_def];split <;> omega
 have hm2:Nat.min 1 (n + 1 - i)=1:=by simp only [Nat.min_def];split <;> omega
 have hcp1:∀ ty dc sc,(Builtin.copy_ #[34,34] ty #[.slice (some ⟨b,(i + 1) * 5,none⟩) (n - i) dc,.slice (some ⟨b,i * 5,none⟩) (n + 1 - i) sc]).run Tryz.prog w.drew=.ok (goInt (Nat.min (n + 1 - i) (n - i))) (w.drew.setCells b ((i + 1) * 5) (cs.drop (i * 5))):=fun ty dc sc =>
  run_copy_es w.drew _ _ ty 155 5 b ((i + 1) * 5) (n - i) dc ⟨b,i * 5,none⟩ (n + 1 - i) sc (cs.drop (i * 5)) tS hsz (by rw [hm1];exact hdl)
   (fun j v hj=>by rw [Addr.add_lit];exact hcs (i * 5 + j) v (by rwa [List.getElem?_drop] at hj))
   (fun j hj=>hsp _ (by omega)) (fun j hj=>hfz _ (by omega)) (fun v hv=>h1c v (List.mem_of_mem_drop hv))
 obtain ⟨W1,hW1⟩ : ∃ W1,W1=w.drew.setCells b ((i + 1) * 5) (cs.drop (i * 5)):=⟨_,rfl⟩
 have hsp1:∀ k,k < (n + 1) * 5→(W1.cell? ⟨b,k,none⟩).isSome=true:=fun k hk=>by
  rw [hW1]
  exact isSome_setCells b (cs.drop (i * 5)) ((i + 1) * 5) w.drew (fun j hj=>hsp _ (by omega)) _ (hsp k hk)
 have hcp2:∀ (W:World),(∀ x,W.cell? x=W1.cell? x)→(∀ x,W.frozen? x=W1.frozen? x)→∀ ty dc,(Builtin.copy_ #[34,33] ty #[.slice (some ⟨b,i * 5,none⟩) (n + 1 - i) dc,.slice (some ⟨vb,voff,none⟩) 1 vc]).run Tryz.prog W=.ok (goInt (Nat.min 1 (n + 1 - i))) (W.setCells b (i * 5) vs):=fun W hWc hWf ty dc =>
  run_copy_es W _ _ ty 155 5 b (i * 5) (n + 1 - i) dc ⟨vb,voff,none⟩ 1 vc vs tS hsz (by rw [hm2,hvl])
   (fun j v hj=>by
    rw [Addr.add_lit,hWc,hW1,World.cell?_setCells_out b _ _ _ _ (fun h _=>absurd h hvb)]
    exact hvs j v hj)
   (fun j hj=>by rw [hWc];exact hsp1 _ (by omega)) (fun j hj=>by rw [hWf,hW1,World.frozen?_setCells];exact hfz _ (by omega)) h1v
 rw [← hW1] at hcp1
 go_enter Tryz.func76,Tryz.ntmps76
 go_wp2_with (simp only [hov])
 go_region_law_o (refine step_copy_runI rfl _ _ 34 34 rfl _ _ (by simp [Act.eval,Act.put]) (by simp [Act.eval,Act.put]) (hcp1 _ _ _) ?_)
 go_wp2_with (at_builtin;refine wpList_copy_runI _ rfl _ _ 34 33 rfl _ _ rfl rfl (hcp2 _ (fun _=>rfl) (fun _=>rfl) _ _) ?_)
 go_ret
 first | exact ⟨rfl,rfl⟩ | exact ⟨rfl,by rw [hW1]⟩
theorem insE76 (b n c vb voff vc:Nat) (vs:List Value) (w:World) (hroom:n + 1≤c) (hbig:n + 1≤1000000) (hvl:vs.length=5)
  (hsp:∀ j,j < 5→(w.cell? ⟨b,n * 5 + j,none⟩).isSome=true) (hfz:∀ j,j < 5→w.frozen? ⟨b,n * 5 + j,none⟩=false)
  (hvs:∀ j v,vs[j]?=some v→w.cell? ⟨vb,voff + j,none⟩=some v) (h1v:∀ v ∈ vs,v.oneCell'=true) :
  Calls Tryz.prog 76 #[.slice (some ⟨b,0,none⟩) n c,.int .i64 n,.slice (some ⟨vb,voff,none⟩) 1 vc] w fun e w' =>
   e=.returned (.slice (some ⟨b,0,none⟩) (n + 1) c)∧w'=w.setCells b (n * 5) vs:=by
 have tS:Tryz.prog.underlying 34=some (.slice 155):=by kernel_rfl
 have tV:Tryz.prog.underlying 33=some (.slice 155):=by kernel_rfl
 have tI:Tryz.prog.underlying 3=some (.int .i64):=by kernel_rfl
 have uS:=run_underlying tS
 have uV:=run_underlying tV
 have uI:=run_underlying tI
 have mixed:Tryz.prog.follows .mixedOrders=true:=mix
 obtain ⟨i0,z,hi0,hzs,hz0,hzc,hzb⟩:=infB_ok (P:=Tryz.prog) (e:=155) (es:=5) (by kernel_rfl)
 have hsz:(Tryz.prog.info? 155).map (·.size)=some 5:=by rw [hi0];simp [hzs]
 have hsrc:Src Tryz.prog 5 33 (.slice (some ⟨vb,voff,none⟩) 1 vc) 1 vs w:=Src.ofSlice w tV ⟨vb,voff,none⟩ 1 vc vs (by omega) (fun j u hj=>by rw [Addr.add_lit];exact hvs j u hj) h1v
 have hrun:∀ ty,(Builtin.append_ #[34,33] ty #[.slice (some ⟨b,0,none⟩) n c,.slice (some ⟨vb,voff,none⟩) 1 vc]).run Tryz.prog w=_:=fun ty =>
  run_append_room_src w 34 33 ty 155 i0 tS hi0 b 0 n c _ 1 vs (by rw [hzs];exact hsrc) hroom (by rw [hzs,hvl,Nat.zero_add];exact hsp) (by rw [hzs,hvl,Nat.zero_add];exact hfz)
 rw [hzs,Nat.zero_add] at hrun
 go_enter Tryz.func76,Tryz.ntmps76
 go_wp2_with (at_builtin;refine Lib.wpList_append_run _ rfl _ _ _ _ rfl _ _ rfl rfl _ _ (hrun _) ?_)
 all_goals (go_ret;exact ⟨rfl,rfl⟩)
theorem insG76 (base:Option Addr) (n c vb voff vc:Nat) (cs vs:List Value) (w:World) (hnc:n≤c) (hroom:c < n + 1) (hbig:n + 1≤1000000) (hcl:cs.length=n * 5) (hvl:vs.length=5) (hnil:base=none→n=0)
  (hcs:∀ a,base=some a→∀ j v,cs[j]?=some v→w.cell? (a.add j)=some v) (hvs:∀ j v,vs[j]?=some v→w.cell? ⟨vb,voff + j,none⟩=some v) (h1v:∀ v ∈ vs,v.oneCell'=true) :
  Calls Tryz.prog 76 #[.slice base n c,.int .i64 n,.slice (some ⟨vb,voff,none⟩) 1 vc] w fun e w' =>
   ∃ zs:Array Value,e=.returned (.slice (some ⟨w.heap.size,0,none⟩) (n + 1) (grownCap w (n + 1) c 155))∧w'=w.drew.alloc (.cells ((cs++vs).toArray++zs) 155):=by
 have tS:Tryz.prog.underlying 34=some (.slice 155):=by kernel_rfl
 have tV:Tryz.prog.underlying 33=some (.slice 155):=by kernel_rfl
 have tI:Tryz.prog.underlying 3=some (.int .i64):=by kernel_rfl
 have uS:=run_underlying tS
 have uV:=run_underlying tV
 have uI:=run_underlying tI
 have mixed:Tryz.prog.follows .mixedOrders=true:=mix
 obtain ⟨i0,z,hi0,hzs,hz0,hzc,hzb⟩:=infB_ok (P:=Tryz.prog) (e:=155) (es:=5) (by kernel_rfl)
 have hsz:(Tryz.prog.info? 155).map (·.size)=some 5:=by rw [hi0];simp [hzs]
 have hsrc:Src Tryz.prog i0.size 33 (.slice (some ⟨vb,voff,none⟩) 1 vc) 1 vs w:=by
  rw [hzs]
  exact Src.ofSlice w tV ⟨vb,voff,none⟩ 1 vc vs (by omega) (fun j u hj=>by rw [Addr.add_lit];exact hvs j u hj) h1v
 have hold:(Builtin.firstCells i0.size n (.slice base n c)).run Tryz.prog w.drew=.ok cs.toArray w.drew:=by
  rw [hzs]
  cases base with
  | none =>
   have h0:=hnil rfl
   subst h0
   rw [List.length_eq_zero_iff.1 (by omega:cs.length=0)]
   exact run_firstCells_none w.drew 5 0 0 c
  | some a=>exact run_firstCells_some w.drew 5 n a n c cs hcl (fun j v hj=>hcs a rfl j v hj)
 have hrun:∀ ty,(Builtin.append_ #[34,33] ty #[.slice base n c,.slice (some ⟨vb,voff,none⟩) 1 vc]).run Tryz.prog w=_:=fun ty =>
  run_append_grow_src w 34 33 ty 155 i0 z tS hi0 hz0 base n c cs hold _ 1 vs hsrc hroom (by omega) (growslice_fits hroom (grown_bound hbig hzb))
 obtain ⟨ZS,hrun⟩ : ∃ ZS:Array Value,∀ ty,(Builtin.append_ #[34,33] ty #[.slice base n c,.slice (some ⟨vb,voff,none⟩) 1 vc]).run Tryz.prog w=.ok (.slice (some ⟨w.heap.size,0,none⟩) (n + 1) (grownCap w (n + 1) c 155)) (w.drew.alloc (.cells ((cs++vs).toArray++ZS) 155)):=⟨_,hrun⟩
 have main:Calls Tryz.prog 76 #[.slice base n c,.int .i64 n,.slice (some ⟨vb,voff,none⟩) 1 vc] w fun e w' =>
   e=.returned (.slice (some ⟨w.heap.size,0,none⟩) (n + 1) (grownCap w (n + 1) c 155))∧w'=w.drew.alloc (.cells ((cs++vs).toArray++ZS) 155):=by
  clear hz0 hold hsrc
  go_enter Tryz.func76,Tryz.ntmps76
  cases base with
  | none =>
   have h0:=hnil rfl
   subst h0
   go_wp2_with (at_builtin;refine Lib.wpList_append_run _ rfl _ _ _ _ rfl _ _ rfl rfl _ _ (hrun _) ?_)
   go_ret
   exact ⟨rfl,rfl⟩
  | some a =>
   obtain ⟨ab,ao,asp⟩:=a
   go_wp2_with (at_builtin;refine Lib.wpList_append_run _ rfl _ _ _ _ rfl _ _ rfl rfl _ _ (hrun _) ?_)
   all_goals (go_ret;exact ⟨rfl,rfl⟩)
 refine main.mono ?_
 rintro e w' ⟨rfl,rfl⟩
 exact ⟨ZS,rfl,rfl⟩
theorem insW76 (b n c i vb voff vc:Nat) (cs vs:List Value) (w:World) (hi:i < n) (hnc:n≤c) (hroom:c < n + 1) (hbig:n + 1≤1000000) (hcl:cs.length=n * 5) (hvl:vs.length=5)
  (hcs:∀ j v,cs[j]?=some v→w.cell? ⟨b,j,none⟩=some v) (hvs:∀ j v,vs[j]?=some v→w.cell? ⟨vb,voff + j,none⟩=some v) (h1c:∀ v ∈ cs,v.oneCell'=true) (h1v:∀ v ∈ vs,v.oneCell'=true) :
  Calls Tryz.prog 76 #[.slice (some ⟨b,0,none⟩) n c,.int .i64 i,.slice (some ⟨vb,voff,none⟩) 1 vc] w fun e w' =>
   ∃ ROW:Array Value,(n + 1) * 5≤ROW.size∧(∀ (j:Nat) (v:Value),(cs.take (i * 5))[j]?=some v→ROW[j]?=some v)∧e=.returned (.slice (some ⟨w.heap.size,0,none⟩) (n + 1) (grownCap w (n + 1) c 155)) ∧
    w'=(((w.alloc (.cells ROW 155)).drew.setCells w.heap.size (i * 5) vs).drew).setCells w.heap.size ((i + 1) * 5) (cs.drop (i * 5)):=by
 have tS:Tryz.prog.underlying 34=some (.slice 155):=by kernel_rfl
 have tV:Tryz.prog.underlying 33=some (.slice 155):=by kernel_rfl
 have tI:Tryz.prog.underlying 3=some (.int .i64):=by kernel_rfl
 have uS:=run_underlying tS
 have uV:=run_underlying tV
 have uI:=run_underlying tI
 have mixed:Tryz.prog.follows .mixedOrders=true:=mix
 obtain ⟨i0,z,hi0,hzs,hz0,hzc,hzb⟩:=infB_ok (P:=Tryz.prog) (e:=155) (es:=5) (by kernel_rfl)
 have hsz:(Tryz.prog.info? 155).map (·.size)=some 5:=by rw [hi0];simp [hzs]
 have hz2:¬ ((i:Int)=(n:Int)):=by omega
 have hz3:(c:Int) < (n:Int) + 1:=by omega
 have hbw:b < w.heap.size:=block_lt_of_cell (hcs 0 _ (List.getElem?_eq_getElem (by omega)))
 have hvw:vb < w.heap.size:=block_lt_of_cell (hvs 0 _ (List.getElem?_eq_getElem (by omega)))
 have hwk:IntKind.i64.wrap ((n:Int) + 1 - (i:Int))=((n + 1 - i:Nat):Int):=by rw [IntKind.wrap_i64];omega
 have hik:i + (n + 1 - i)=n + 1:=by omega
 have hold:(Builtin.firstCells i0.size i (.slice (some ⟨b,0,none⟩) i c)).run Tryz.prog w.drew=.ok (cs.take (i * 5)).toArray w.drew:=by
  rw [hzs]
  exact run_firstCells_some w.drew 5 i ⟨b,0,none⟩ i c (cs.take (i * 5)) (by rw [List.length_take];omega) (fun j v hj=>by
   rw [Addr.add_lit,Nat.zero_add]
   rw [List.getElem?_take] at hj
   split at hj
   ·exact hcs j v hj
   ·cases hj)
 have hbk:(n + 1 - i) * i0.bytes≤281474976710656:=by
  have:(n + 1 - i) * i0.bytes≤1000000 * 1000:=Nat.mul_le_mul (by omega) hzb
  omega
 have hrz:∀ ty,(Builtin.append_ #[34,3] ty #[.slice (some ⟨b,0,none⟩) i c,.int .i64 ((n + 1 - i:Nat):Int)]).run Tryz.prog w =
   .ok (.slice (some ⟨w.heap.size,0,none⟩) (n + 1) (grownCap w (n + 1) c 155)) (w.drew.alloc (.cells ((cs.take (i * 5)).toArray++Builtin.zeroCells z.cells (n + 1 - i)++Builtin.zeroCells z.cells (grownCap w (n + 1) c 155 - (n + 1))) 155)):=fun ty=>by
  have h:=Lib.run_append_grow_zeros w 34 3 ty 155 i0 z .i64 .i64 tS tI hi0 hz0 (some ⟨b,0,none⟩) i c (cs.take (i * 5)) hold (n + 1 - i) (by omega) (by omega) (by omega) (by omega) hbk (by rw [hik];exact growslice_fits hroom (grown_bound hbig hzb))
  rw [hik] at h
  exact h
 obtain ⟨G,hG⟩ : ∃ G,G=grownCap w (n + 1) c 155:=⟨_,rfl⟩
 obtain ⟨ROW,hROW⟩ : ∃ ROW:Array Value,ROW=(cs.take (i * 5)).toArray++Builtin.zeroCells z.cells (n + 1 - i)++Builtin.zeroCells z.cells (G - (n + 1)):=⟨_,rfl⟩
 rw [← hG] at hrz ⊢
 rw [← hROW] at hrz
 have hRl:(n + 1) * 5≤ROW.size:=by
  rw [hROW]
  simp only [Array.size_append,size_zeroCells,hzc,List.size_toArray,List.length_take]
  omega
 have hRt:∀ (j:Nat) (v:Value),(cs.take (i * 5))[j]?=some v→ROW[j]?=some v:=fun j v h=>by
  have hl:=(List.getElem?_eq_some_iff.1 h).1
  rw [hROW,Array.append_assoc,Array.getElem?_append_left (by simpa using hl),List.getElem?_toArray]
  exact h
 obtain ⟨W1,hW1⟩ : ∃ W1,W1=w.drew.alloc (.cells ROW 155):=⟨_,rfl⟩
 rw [← hW1] at hrz
 have hN:∀ j,j < (n + 1) * 5→(W1.cell? ⟨w.heap.size,j,none⟩).isSome=true:=fun j hj=>by
  rw [hW1,World.cell?_alloc_at (w:=w.drew) ROW _ w.heap.size j rfl,Array.getElem?_eq_getElem (by omega)];rfl
 have hNf:∀ j,W1.frozen? ⟨w.heap.size,j,none⟩=false:=fun j=>by rw [hW1];exact World.frozen?_alloc_at (w:=w.drew) ROW _ w.heap.size j rfl
 have hOb:∀ j v,w.cell? ⟨b,j,none⟩=some v→W1.cell? ⟨b,j,none⟩=some v:=fun j v h=>by rw [hW1,World.cell?_alloc_past (w:=w.drew) _ b j hbw];exact h
 have hOv:∀ j v,w.cell? ⟨vb,j,none⟩=some v→W1.cell? ⟨vb,j,none⟩=some v:=fun j v h=>by rw [hW1,World.cell?_alloc_past (w:=w.drew) _ vb j hvw];exact h
 have hmA:Nat.min 1 (n + 1 - i)=1:=by simp only [Nat.min_def];split <;> omega
 have hmB:Nat.min (n - i) (n - i)=n - i:=Nat.min_self _
 have hcpA:∀ (W:World),(∀ x,W.cell? x=W1.cell? x)→(∀ x,W.frozen? x=W1.frozen? x)→∀ ty dc,(Builtin.copy_ #[34,33] ty #[.slice (some ⟨w.heap.size,i * 5,none⟩) (n + 1 - i) dc,.slice (some ⟨vb,voff,none⟩) 1 vc]).run Tryz.prog W=.ok (goInt (Nat.min 1 (n + 1 - i))) (W.setCells w.heap.size (i * 5) vs):=fun W hWc hWf ty dc =>
  run_copy_es W _ _ ty 155 5 w.heap.size (i * 5) (n + 1 - i) dc ⟨vb,voff,none⟩ 1 vc vs tS hsz (by rw [hmA,hvl])
   (fun j v hj=>by rw [Addr.add_lit,hWc];exact hOv _ v (hvs j v hj))
   (fun j hj=>by rw [hWc];exact hN _ (by omega)) (fun j hj=>by rw [hWf];exact hNf _) h1v
 have hGn:n + 1≤G:=by rw [hG];exact grownCap_ge w _ _ _
 have hGi:¬ (G=i):=by omega
 have hGim:¬ (G=i + 1):=by omega
 have hci:¬ (c=i):=by omega
 have hbN:b≠w.heap.size:=by omega
 have hdl:(cs.drop (i * 5)).length=(n - i) * 5:=by rw [List.length_drop,hcl];omega
 have hcpB:∀ (W:World),(∀ x,W.cell? x=(W1.setCells w.heap.size (i * 5) vs).cell? x)→(∀ x,W.frozen? x=(W1.setCells w.heap.size (i * 5) vs).frozen? x)→∀ ty dc sc,(Builtin.copy_ #[34,34] ty #[.slice (some ⟨w.heap.size,(i + 1) * 5,none⟩) (n - i) dc,.slice (some ⟨b,i * 5,none⟩) (n - i) sc]).run Tryz.prog W=.ok (goInt (Nat.min (n - i) (n - i))) (W.setCells w.heap.size ((i + 1) * 5) (cs.drop (i * 5))):=fun W hWc hWf ty dc sc =>
  run_copy_es W _ _ ty 155 5 w.heap.size ((i + 1) * 5) (n - i) dc ⟨b,i * 5,none⟩ (n - i) sc (cs.drop (i * 5)) tS hsz (by rw [hmB];exact hdl)
   (fun j v hj=>by
    rw [Addr.add_lit,hWc,World.cell?_setCells_out _ _ _ _ _ (fun h _=>absurd h hbN)]
    exact hOb _ v (hcs (i * 5 + j) v (by rwa [List.getElem?_drop] at hj)))
   (fun j hj=>by rw [hWc];exact isSome_setCells _ _ _ _ (fun t ht=>hN _ (by omega)) _ (hN _ (by omega)))
   (fun j hj=>by rw [hWf,World.frozen?_setCells];exact hNf _) (fun v hv=>h1c v (List.mem_of_mem_drop hv))
 subst hW1
 have hE1:∀ x,((w.alloc (.cells ROW 155)).drew).cell? x=(w.drew.alloc (.cells ROW 155)).cell? x:=fun x=>rfl
 have hE2:∀ x,((w.alloc (.cells ROW 155)).drew).frozen? x=(w.drew.alloc (.cells ROW 155)).frozen? x:=fun x=>rfl
 have hF1:∀ x,(((w.alloc (.cells ROW 155)).drew.setCells w.heap.size (i * 5) vs).drew).cell? x=((w.drew.alloc (.cells ROW 155)).setCells w.heap.size (i * 5) vs).cell? x:=fun x=>rfl
 have hF2:∀ x,(((w.alloc (.cells ROW 155)).drew.setCells w.heap.size (i * 5) vs).drew).frozen? x=((w.drew.alloc (.cells ROW 155)).setCells w.heap.size (i * 5) vs).frozen? x:=fun x=>rfl
 have hw1:IntKind.i64.wrap ((i:Int) + 1)=(i:Int) + 1:=by rw [IntKind.wrap_i64];omega
 have hwn:IntKind.i64.wrap ((n:Int) + 1)=(n:Int) + 1:=by rw [IntKind.wrap_i64];omega
 have hb1:(0:Int)≤(i:Int) + 1:=by omega
 have hin:i≤n:=by omega
 have htn:((i:Int) + 1).toNat=i + 1:=by omega
 have hb3:(i:Int)≤(n:Int):=by omega
 have main:Calls Tryz.prog 76 #[.slice (some ⟨b,0,none⟩) n c,.int .i64 i,.slice (some ⟨vb,voff,none⟩) 1 vc] w fun e w' =>
   e=.returned (.slice (some ⟨w.heap.size,0,none⟩) (n + 1) G)∧w'=(((w.alloc (.cells ROW 155)).drew.setCells w.heap.size (i * 5) vs).drew).setCells w.heap.size ((i + 1) * 5) (cs.drop (i * 5)):=by
  clear hik hold hROW hG hRl hRt hbk hz0
  go_enter Tryz.func76,Tryz.ntmps76
  go_wp2_with (first
   | (at_builtin;refine Lib.wpList_append_run _ rfl _ _ _ _ rfl _ _ rfl rfl _ _ (hrz _) ?_)
   | (at_builtin;refine wpList_copy_runI _ rfl _ _ 34 33 rfl _ _ rfl rfl (hcpA _ hE1 hE2 _ _) ?_))
  go_region_law_o (refine step_copy_runI rfl _ _ 34 34 rfl (.slice (some ⟨w.heap.size,(i + 1) * 5,none⟩) (n - i) (G - (i + 1))) (.slice (some ⟨b,i * 5,none⟩) (n - i) (c - i)) (by simp [Act.eval,Act.put]) (by simp [Act.eval,Act.put]) (hcpB _ hF1 hF2 3 (G - (i + 1)) (c - i)) ?_)
  go_wp2
  go_ret
  first | exact ⟨rfl,rfl⟩ | trace_state
 refine main.mono ?_
 rintro e w' ⟨rfl,rfl⟩
 exact ⟨ROW,hRl,hRt,rfl,rfl⟩
theorem insR76_v:InsRoads Tryz.prog 76 5 155:=⟨insS76,insE76,insG76,insW76⟩
end Go.Proofs.YtdoakplhalonfaaGreat

