/- A part of the proof: 3 texts joined. -/
import Derived.Test.YthnihifblmnkdaaGreatPaA18
import Derived.Test.YthnihifblmnkdaaGreatPaA16
import Derived.Test.YthnihifblmnkdaaGreatPaA12
import Derived.KernelRfl
set_option linter.all false
namespace Go.Proofs.YthnihifblmnkdaaGreat
open Go.RowKit
set_option maxRecDepth 100000
set_option maxHeartbeats 4000000
def gc35:BCode:=(.seq (R_ 0 [O_ 2 (.mv (.const (.slice none 0 0))) 0]) (.seq (R_ 0 [O_ 3 (.mv (.const (.slice none 0 0))) 0]) (.seq (.seq (R_ 0 [O_ 4 (.mv (i_ 0)) 0]) (.block 0 (.loop (.seq (.seq (R_ 0 [O_ 5 (.mv (t_ 4)) 0,O_ 6 (.mv (t_ 0)) 0,O_ 7 (.lens (t_ 6)) 0,O_ 8 (.bin .lss (t_ 5) (t_ 7)) 0]) (.cond (t_ 8) .skip (.exit 0))) (.seq (.block 1 (.reg 2 [O_ 11 (.mv (t_ 3)) 0,O_ 12 (.mv (t_ 0)) 0,O_ 13 (.mv (t_ 4)) 0,O_ 14 (.ixs 5 (t_ 12) (t_ 13)) 0,O_ 15 (.fa 0 (t_ 14)) 0,O_ 16 (.ld 1 false (t_ 15)) 0,O_ 17 (.mv (t_ 0)) 0,O_ 18 (.mv (t_ 4)) 0,O_ 19 (.ixs 5 (t_ 17) (t_ 18)) 0,O_ 20 (.fa 1 (t_ 19)) 0,O_ 21 (.ld 4 true (t_ 20)) 0,O_ 22 (.bd [(.lit (.string ⟨#[]⟩)),(.lit (.bool false)),(.lit (.int .i64 0)),(.lit (.int .i64 0)),(.lit (.int .i64 0))] [(0,1,(t_ 16)),(1,4,(t_ 21))]) 0,O_ 23 (.bs 5 1 [(.lit (.string ⟨#[]⟩)),(.lit (.bool false)),(.lit (.int .i64 0)),(.lit (.int .i64 0)),(.lit (.int .i64 0))] [(0,(t_ 22))]) 0,O_ 24 (.ap 5 48 (t_ 11) (t_ 23)) 1,O_ 3 (.mv (t_ 24)) 2] (some [[],[],[],[2,1],[1,2,3],[3,2,1,4],[],[],[7,6],[6,7,8],[8,7,6,9],[9,6,7,8,10,4,1,2,3,5],[5,3,2,1,4,10,8,7,6,9,11],[11,9,6,7,8,10,4,1,2,3,5,12,0],[0,12,5,3,2,1,4,10,8,7,6,9,11,13]]) 0 [])) (R_ 0 [O_ 9 (.mv (t_ 4)) 0,O_ 10 (.bin .add (t_ 9) (i_ 1)) 0,O_ 4 (.mv (t_ 10)) 0])))))) (.seq (R_ 0 [O_ 25 (.mv (t_ 3)) 0,O_ 2 (.mv (t_ 25)) 0]) .ret))))
theorem gc35_ok:compF Tryz.prog Tryz.f35=some (gc35.er,26,[.tmp 2]):=by unfold gc35;kernel_rfl
theorem p_law25_Back_v {u1:Bool} (a0:List MailEntry):CallsO Tryz.prog 35 [.sl (List.map MailEntry.v a0) u1] (fun l:List MailEntry=>V.sl (l.map MailEntry.v) false) (p_law25_Back a0):=by
 refine callsO_comp mix Tryz.func35 gc35_ok fun r H=>?_
 rw [p_law25_Back] at H
 conv=>whnf
 obtain ⟨o2,HL3,HQ4⟩:=bind_c H
 refine loop_c [3,4] [5,6,7,8,9,10,11,12,13,14,15,16,17,18,19,20,21,22,23,24] [5,6,7,8,9,10,11,12,13,14,15,16,17,18,19,20,21,22,23,24] (fun n vals st=>(∃ y6,p_law25_Back_l1  a0 n [] y6=some o2∧vals=[.sl (List.map MailEntry.v []) true,.i y6]∧st=[])∨(∃ y11 y12,p_law25_Back_l1  a0 n y11 y12=some o2∧vals=[.osl 0 0 (List.length y11) 5 false,.i y12]∧st=[.live (cellsM MailEntry.v y11) (cellsM MailEntry.v y11).length])) fuel 0 [] (.inl (⟨_,HL3,rfl,rfl⟩)) (Nat.zero_le _) rfl (by kernel_rfl) (by kernel_rfl) rfl trivial ?_
 rintro (_ | n5) _ _ (⟨y6,H,rfl,rfl⟩ | ⟨y11,y12,H,rfl,rfl⟩)
 ·rw [p_law25_Back_l1] at H;cases H
 ·rw [p_law25_Back_l1] at H;cases H
 ·rw [p_law25_Back_l1] at H
  conv=>whnf
  refine LenQ.M ?_;conv=>whnf
  refine tst_d H (fun b7 H=>?_) (fun b7 H=>?_)
  ·conv=>whnf
   obtain rfl:=Option.some.inj H
   have H:=HQ4
   try dsimp only at H
   refine finR_c (enc:=(fun l:List MailEntry=>V.sl (l.map MailEntry.v) false)) H ?_;conv=>whnf
   exact ⟨_,.v (.c (.slw))⟩
  conv=>whnf
  refine ixs_c (f:=MailEntry.v) H (fun _=>rfl) (fun x8 H=>?_);conv=>whnf
  refine lq_ ?_;conv=>whnf
  refine ixs_c (f:=MailEntry.v) H (fun _=>rfl) (fun x9 H=>?_);conv=>whnf
  refine lq_ ?_;conv=>whnf
  refine appN_c (f:=MailEntry.v) H (fun _=>rfl) (srcM (f:=MailEntry.v) (fun _=>rfl) [] true) rfl (.v (srcOwn (f:=MailEntry.v) (l:=[(MailEntry.mk x8.Key x9.P)]) (fun _=>rfl) rfl rfl rfl)) (by decide) rfl (by simp) (fun l10 H=>?_);conv=>whnf
  refine FootQ.mk ⟨rfl,?_⟩;conv=>whnf
  refine Ari.w ?_;conv=>whnf
  exact again_c [5,6,7,8,9,10,11,12,13,14,15,16,17,18,19,20,21,22,23,24] n5 1 [1] (.inr (⟨_,_,H,rfl,rfl⟩)) (Nat.lt_succ_self _) (Nat.zero_le _) rfl (by kernel_rfl) (by kernel_rfl) rfl (wkB_live0 rfl (cellsM_idlt (f:=MailEntry.v) (fun _=>rfl) _) rfl trivial)
 rw [p_law25_Back_l1] at H
 conv=>whnf
 refine LenQ.M ?_;conv=>whnf
 refine tst_d H (fun b13 H=>?_) (fun b13 H=>?_)
 ·conv=>whnf
  obtain rfl:=Option.some.inj H
  have H:=HQ4
  try dsimp only at H
  refine finR_c (enc:=(fun l:List MailEntry=>V.sl (l.map MailEntry.v) false)) H ?_;conv=>whnf
  exact ⟨_,.v (.c (fzown (f:=MailEntry.v) (l:=y11) rfl rfl (fun _=>rfl) (fun _=>rfl)))⟩
 conv=>whnf
 refine ixs_c (f:=MailEntry.v) H (fun _=>rfl) (fun x14 H=>?_);conv=>whnf
 refine lq_ ?_;conv=>whnf
 refine ixs_c (f:=MailEntry.v) H (fun _=>rfl) (fun x15 H=>?_);conv=>whnf
 refine lq_ ?_;conv=>whnf
 refine appO_c (f:=MailEntry.v) H (fun _=>rfl) rfl (Nat.le_refl _) (.v (srcOwn (f:=MailEntry.v) (l:=[(MailEntry.mk x14.Key x15.P)]) (fun _=>rfl) rfl rfl rfl)) (by decide) rfl (by simp) (fun l16 H=>?_);conv=>whnf
 refine FootQ.mk ⟨rfl,?_⟩;conv=>whnf
 refine Ari.w ?_;conv=>whnf
 exact again_c [5,6,7,8,9,10,11,12,13,14,15,16,17,18,19,20,21,22,23,24] n5 1 [2] (.inr (⟨_,_,H,rfl,rfl⟩)) (Nat.lt_succ_self _) (Nat.zero_le _) rfl (by kernel_rfl) (by kernel_rfl) rfl (wkB_live0 rfl (cellsM_idlt (f:=MailEntry.v) (fun _=>rfl) _) rfl trivial)
def gc10:BCode:=(.seq (R_ 2 [O_ 1 (.bx (t_ 0)) 0,O_ 2 (.al (.agg [(.sl [] true),(.lit (.bool false)),(.lit (.bool false)),(.lit (.string ⟨#[]⟩)),(.lit (.int .i64 0)),(.lit (.int .i64 0)),(.lit (.int .i64 0))])) 1]) (.seq (.reg 0 [O_ 3 (.fa 0 (t_ 1)) 0,O_ 4 (.ld 1 false (t_ 3)) 0,O_ 5 (.cl 35 [(t_ 4)]) 0,O_ 6 (.fa 1 (t_ 1)) 0,O_ 7 (.ld 4 true (t_ 6)) 0,O_ 8 (.fa 5 (t_ 1)) 0,O_ 9 (.ld 1 false (t_ 8)) 0,O_ 10 (.fa 6 (t_ 1)) 0,O_ 11 (.ld 1 false (t_ 10)) 0,O_ 12 (.bd [(.sl [] true),(.lit (.bool false)),(.lit (.bool false)),(.lit (.string ⟨#[]⟩)),(.lit (.int .i64 0)),(.lit (.int .i64 0)),(.lit (.int .i64 0))] [(0,1,(t_ 5)),(1,4,(t_ 7)),(5,1,(t_ 9)),(6,1,(t_ 11))]) 0,U_ (.st 7 (t_ 2) (t_ 12)) 0] (some [[],[0],[0,1],[],[3],[],[5],[],[7],[7,8,5,6,3,4,1,0,2],[2,0,1,4,3,6,5,8,7,9]]) 0 []) .ret))
theorem gc10_ok:compF Tryz.prog Tryz.f10=some (gc10.er,13,[.cell 2 7 true]):=by unfold gc10;kernel_rfl
theorem p_law27_Back_v {u1:Bool} (a0:Ref27State):CallsO Tryz.prog 10 [.agg [.sl (List.map MailEntry.v a0.Mail) u1,.b a0.Snap.On,.b a0.Snap.Begun,.s a0.Snap.After,.i a0.Snap.Told,.i a0.Sent,.i a0.Lost]] Ref27State.v (p_law27_Back a0):=by
 refine callsO_comp mix Tryz.func10 gc10_ok fun r H=>?_
 rw [p_law27_Back] at H
 conv=>whnf
 refine ask_c (p_law25_Back_v _) H rfl rfl (fun v1 H=>?_);conv=>whnf
 refine lq_ ?_;conv=>whnf
 refine FootQ.mk ⟨rfl,?_⟩;conv=>whnf
 exact fin0_c (enc:=Ref27State.v) H (.inr rfl) (.cons (.cell rfl rfl (Nat.le_of_ble_eq_true rfl)) (.nil)) rfl rfl
def gc74:BCode:=(.seq (R_ 0 [O_ 2 (.mv (.const (.string ⟨#[]⟩))) 0,O_ 3 (.mv (.const (.string ⟨#[]⟩))) 0,O_ 4 (.mv (i_ 0)) 0]) (.seq (R_ 0 [O_ 5 (.mv (i_ 0)) 0]) (.seq (.block 0 (.loop (.seq (.seq (R_ 0 [O_ 8 (.mv (t_ 5)) 0,O_ 9 (.mv (t_ 0)) 0,O_ 10 (.lent (t_ 9)) 0,O_ 11 (.bin .lss (t_ 8) (t_ 10)) 0,O_ 12 (.mv (t_ 11)) 0,⟨(some 13),.mv (t_ 0),(some (12,true)),0⟩,⟨(some 14),.mv (t_ 5),(some (12,true)),0⟩,⟨(some 15),.ixt (t_ 13) (t_ 14),(some (12,true)),0⟩,⟨(some 16),.bin .neq (t_ 15) (.const (.int .u8 32)),(some (12,true)),0⟩,O_ 17 (.pick (t_ 12) (t_ 16) (b_ false)) 0]) (.cond (t_ 17) .skip (.exit 0))) (.block 1 (R_ 0 [O_ 18 (.mv (t_ 5)) 0,O_ 19 (.bin .add (t_ 18) (i_ 1)) 0,O_ 5 (.mv (t_ 19)) 0]))))) (.seq (.seq (R_ 0 [O_ 20 (.mv (t_ 5)) 0,O_ 21 (.mv (t_ 0)) 0,O_ 22 (.lent (t_ 21)) 0,O_ 23 (.bin .eql (t_ 20) (t_ 22)) 0]) (.cond (t_ 23) (.seq (R_ 0 [O_ 2 (.mv (.const (.string ⟨#[]⟩))) 0,O_ 3 (.mv (.const (.string ⟨#[]⟩))) 0,O_ 4 (.mv (i_ 4)) 0]) .ret) .skip)) (.seq (.reg 0 [O_ 24 (.mv (t_ 0)) 0,O_ 25 (.mv (t_ 5)) 0,O_ 26 (.slt (t_ 24) none (some (t_ 25))) 0,O_ 27 (.mv (t_ 0)) 0,O_ 28 (.mv (t_ 5)) 0,O_ 29 (.bin .add (t_ 28) (i_ 1)) 0,O_ 30 (.slt (t_ 27) (some (t_ 29)) none) 0,O_ 6 (.mv (t_ 26)) 0,O_ 7 (.mv (t_ 30)) 0] (some [[],[],[1,0],[],[],[4],[4,5,3],[0,1,2],[2,1,0,7,3,5,4,6]]) 0 []) (.seq (.block 2 (.seq (R_ 0 [O_ 32 (.mv (t_ 6)) 0,O_ 33 (.cl 98 [(t_ 32)]) 0,O_ 34 (.un .not (t_ 33)) 0,O_ 31 (.mv (t_ 34)) 0]) (.cond (t_ 31) (.seq (R_ 0 [O_ 2 (.mv (.const (.string ⟨#[]⟩))) 0,O_ 3 (.mv (.const (.string ⟨#[]⟩))) 0,O_ 4 (.mv (i_ 11)) 0]) .ret) (.seq (R_ 0 [O_ 36 (.mv (t_ 7)) 0,O_ 37 (.cl 99 [(t_ 36)]) 0,O_ 38 (.bin .neq (t_ 37) (i_ 0)) 0,O_ 35 (.mv (t_ 38)) 0]) (.cond (t_ 35) (.seq (R_ 0 [O_ 39 (.mv (t_ 7)) 0,O_ 40 (.cl 99 [(t_ 39)]) 0,O_ 2 (.mv (.const (.string ⟨#[]⟩))) 0,O_ 3 (.mv (.const (.string ⟨#[]⟩))) 0,O_ 4 (.mv (t_ 40)) 0]) .ret) .skip))))) (.seq (R_ 0 [O_ 41 (.mv (t_ 6)) 0,O_ 42 (.mv (t_ 7)) 0,O_ 2 (.mv (t_ 41)) 0,O_ 3 (.mv (t_ 42)) 0,O_ 4 (.mv (i_ 0)) 0]) .ret)))))))
theorem gc74_ok:compF Tryz.prog Tryz.f74=some (gc74.er,43,[.tmp 2,.tmp 3,.tmp 4]):=by unfold gc74;kernel_rfl
theorem p_ref23_Split_v (a0:ByteArray):CallsO Tryz.prog 74 [.s a0] (fun r:ByteArray × ByteArray × Int=>.tup [V.s r.1,V.s r.2.1,V.i r.2.2]) (p_ref23_Split a0):=by
 refine callsO_comp mix Tryz.func74 gc74_ok fun r H=>?_
 rw [p_ref23_Split] at H
 conv=>whnf
 obtain ⟨o2,HL3,HQ4⟩:=bind_c H
 refine loop_c [5] [8,9,10,11,12,13,14,15,16,17,18,19] [8,9,10,11,12,13,14,15,16,17,18,19] (fun n vals st=>(∃ y6,p_ref23_Split_l1  a0 n y6=some o2∧vals=[.i y6]∧st=[])) fuel 0 [] (⟨_,HL3,rfl,rfl⟩) (Nat.zero_le _) rfl (by kernel_rfl) (by kernel_rfl) rfl trivial ?_
 rintro (_ | n5) _ _ (⟨y6,H,rfl,rfl⟩)
 ·rw [p_ref23_Split_l1] at H;cases H
 rw [p_ref23_Split_l1] at H
 conv=>whnf
 refine tst_d H (fun b7 H=>?_) (fun b7 H=>?_)
 ·conv=>whnf
  iterate 5 (refine Tst.F ?_;conv=>whnf)
  obtain rfl:=Option.some.inj H
  have H:=HQ4
  try dsimp only at H
  refine tst_c H (fun b18 H=>?_) (fun b18 H=>?_)
  ·conv=>whnf
   exact fin0_c (enc:=(fun r:ByteArray × ByteArray × Int=>.tup [V.s r.1,V.s r.2.1,V.i r.2.2])) H (.inr rfl) (.cons (.tmp rfl) (.cons (.tmp rfl) (.cons (.tmp rfl) (.nil)))) rfl rfl
  conv=>whnf
  refine slt_c H (fun s19 H=>?_);conv=>whnf
  refine Ari.w ?_;conv=>whnf
  refine slt_c H (fun s20 H=>?_);conv=>whnf
  refine FootQ.mk ⟨rfl,?_⟩;conv=>whnf
  refine ask_c (p_ref09_IsBare_v _) H rfl rfl (fun v21 H=>?_);conv=>whnf
  refine Tst.not ?_
  refine tst_d H (fun b22 H=>?_) (fun b22 H=>?_)
  ·conv=>whnf
   exact fin0_c (enc:=(fun r:ByteArray × ByteArray × Int=>.tup [V.s r.1,V.s r.2.1,V.i r.2.2])) H (.inr rfl) (.cons (.tmp rfl) (.cons (.tmp rfl) (.cons (.tmp rfl) (.nil)))) rfl rfl
  conv=>whnf
  refine ask_c (p_ref09_Resource_v _) H rfl rfl (fun v23 H=>?_);conv=>whnf
  refine tst_d H (fun b24 H=>?_) (fun b24 H=>?_)
  ·conv=>whnf
   exact fin0_c (enc:=(fun r:ByteArray × ByteArray × Int=>.tup [V.s r.1,V.s r.2.1,V.i r.2.2])) H (.inr rfl) (.cons (.tmp rfl) (.cons (.tmp rfl) (.cons (.tmp rfl) (.nil)))) rfl rfl
  conv=>whnf
  refine ask_c (p_ref09_Resource_v _) H rfl rfl (fun v25 H=>?_);conv=>whnf
  exact fin0_c (enc:=(fun r:ByteArray × ByteArray × Int=>.tup [V.s r.1,V.s r.2.1,V.i r.2.2])) H (.inr rfl) (.cons (.tmp rfl) (.cons (.tmp rfl) (.cons (.tmp rfl) (.nil)))) rfl rfl
 conv=>whnf
 iterate 2 (refine Tst.T ?_;conv=>whnf)
 refine ixt_c H (fun c8 H=>?_);conv=>whnf
 iterate 2 (refine Tst.T ?_;conv=>whnf)
 refine tst_c H (fun b9 H=>?_) (fun b9 H=>?_)
 ·conv=>whnf
  refine Ari.w ?_;conv=>whnf
  exact again_c [8,9,10,11,12,13,14,15,16,17,18,19] n5 0 [] (⟨_,H,rfl,rfl⟩) (Nat.lt_succ_self _) (Nat.zero_le _) rfl (by kernel_rfl) (by kernel_rfl) rfl trivial
 conv=>whnf
 obtain rfl:=Option.some.inj H
 have H:=HQ4
 try dsimp only at H
 refine tst_c H (fun b10 H=>?_) (fun b10 H=>?_)
 ·conv=>whnf
  exact fin0_c (enc:=(fun r:ByteArray × ByteArray × Int=>.tup [V.s r.1,V.s r.2.1,V.i r.2.2])) H (.inr rfl) (.cons (.tmp rfl) (.cons (.tmp rfl) (.cons (.tmp rfl) (.nil)))) rfl rfl
 conv=>whnf
 refine slt_c H (fun s11 H=>?_);conv=>whnf
 refine Ari.w ?_;conv=>whnf
 refine slt_c H (fun s12 H=>?_);conv=>whnf
 refine FootQ.mk ⟨rfl,?_⟩;conv=>whnf
 refine ask_c (p_ref09_IsBare_v _) H rfl rfl (fun v13 H=>?_);conv=>whnf
 refine Tst.not ?_
 refine tst_d H (fun b14 H=>?_) (fun b14 H=>?_)
 ·conv=>whnf
  exact fin0_c (enc:=(fun r:ByteArray × ByteArray × Int=>.tup [V.s r.1,V.s r.2.1,V.i r.2.2])) H (.inr rfl) (.cons (.tmp rfl) (.cons (.tmp rfl) (.cons (.tmp rfl) (.nil)))) rfl rfl
 conv=>whnf
 refine ask_c (p_ref09_Resource_v _) H rfl rfl (fun v15 H=>?_);conv=>whnf
 refine tst_d H (fun b16 H=>?_) (fun b16 H=>?_)
 ·conv=>whnf
  exact fin0_c (enc:=(fun r:ByteArray × ByteArray × Int=>.tup [V.s r.1,V.s r.2.1,V.i r.2.2])) H (.inr rfl) (.cons (.tmp rfl) (.cons (.tmp rfl) (.cons (.tmp rfl) (.nil)))) rfl rfl
 conv=>whnf
 refine ask_c (p_ref09_Resource_v _) H rfl rfl (fun v17 H=>?_);conv=>whnf
 exact fin0_c (enc:=(fun r:ByteArray × ByteArray × Int=>.tup [V.s r.1,V.s r.2.1,V.i r.2.2])) H (.inr rfl) (.cons (.tmp rfl) (.cons (.tmp rfl) (.cons (.tmp rfl) (.nil)))) rfl rfl
def gc66:BCode:=(.seq (R_ 0 [O_ 2 (.mv (b_ false)) 0]) (.seq (R_ 0 [O_ 7 (.mv (t_ 0)) 0,O_ 8 (.cl 74 [(t_ 7)]) 0,O_ 6 (.mv (t_ 8)) 0,O_ 9 (.ex (t_ 6) 0) 0,O_ 10 (.ex (t_ 6) 1) 0,O_ 11 (.ex (t_ 6) 2) 0,O_ 3 (.mv (t_ 9)) 0,O_ 4 (.mv (t_ 10)) 0,O_ 5 (.mv (t_ 11)) 0]) (.seq (R_ 0 [O_ 12 (.mv (t_ 5)) 0,O_ 13 (.bin .eql (t_ 12) (i_ 0)) 0,O_ 2 (.mv (t_ 13)) 0]) .ret)))
theorem gc66_ok:compF Tryz.prog Tryz.f66=some (gc66.er,14,[.tmp 2]):=by unfold gc66;kernel_rfl
theorem p_ref25_key_v (a0:ByteArray):CallsO Tryz.prog 66 [.s a0] V.b (p_ref25_key a0):=by
 refine callsO_comp mix Tryz.func66 gc66_ok fun r H=>?_
 rw [p_ref25_key] at H
 conv=>whnf
 refine ask_c (p_ref23_Split_v _) H rfl rfl (fun v1 H=>?_);conv=>whnf
 exact fb_ H
def gc67:BCode:=(.seq (R_ 1 [O_ 1 (.bx (t_ 0)) 0,O_ 2 (.mv (i_ 0)) 1]) (.seq (.seq (R_ 0 [O_ 3 (.fa 1 (t_ 1)) 0,O_ 4 (.ld 1 false (t_ 3)) 0,O_ 5 (.bin .lss (t_ 4) (i_ 0)) 0,O_ 6 (.mv (t_ 5)) 0,⟨(some 7),.fa 1 (t_ 1),(some (6,false)),0⟩,⟨(some 8),.ld 1 false (t_ 7),(some (6,false)),0⟩,⟨(some 9),.bin .gtr (t_ 8) (i_ 4),(some (6,false)),0⟩,O_ 10 (.pick (t_ 6) (b_ true) (t_ 9)) 0,O_ 11 (.mv (t_ 10)) 0,⟨(some 12),.fa 2 (t_ 1),(some (11,false)),0⟩,⟨(some 13),.ld 1 false (t_ 12),(some (11,false)),0⟩,⟨(some 14),.bin .lss (t_ 13) (.const (.int .i64 (-128))),(some (11,false)),0⟩,O_ 15 (.pick (t_ 11) (b_ true) (t_ 14)) 0,O_ 16 (.mv (t_ 15)) 0,⟨(some 17),.fa 2 (t_ 1),(some (16,false)),0⟩,⟨(some 18),.ld 1 false (t_ 17),(some (16,false)),0⟩,⟨(some 19),.bin .gtr (t_ 18) (i_ 127),(some (16,false)),0⟩,O_ 20 (.pick (t_ 16) (b_ true) (t_ 19)) 0,O_ 21 (.mv (t_ 20)) 0,⟨(some 22),.fa 3 (t_ 1),(some (21,false)),0⟩,⟨(some 23),.ld 1 false (t_ 22),(some (21,false)),0⟩,⟨(some 24),.bin .lss (t_ 23) (i_ 0),(some (21,false)),0⟩,O_ 25 (.pick (t_ 21) (b_ true) (t_ 24)) 0,O_ 26 (.mv (t_ 25)) 0,⟨(some 27),.fa 3 (t_ 1),(some (26,false)),0⟩,⟨(some 28),.ld 1 false (t_ 27),(some (26,false)),0⟩,⟨(some 29),.bin .gtr (t_ 28) (i_ 1099511627776),(some (26,false)),0⟩,O_ 30 (.pick (t_ 26) (b_ true) (t_ 29)) 0]) (.cond (t_ 30) (.seq (R_ 0 [O_ 2 (.mv (i_ 8)) 0]) .ret) .skip)) (.seq (.seq (R_ 0 [O_ 31 (.fa 0 (t_ 1)) 0,O_ 32 (.ld 1 false (t_ 31)) 0,O_ 33 (.un .not (t_ 32)) 0,O_ 34 (.mv (t_ 33)) 0,⟨(some 35),.fa 1 (t_ 1),(some (34,true)),0⟩,⟨(some 36),.ld 1 false (t_ 35),(some (34,true)),0⟩,⟨(some 37),.bin .neq (t_ 36) (i_ 0),(some (34,true)),0⟩,⟨(some 38),.mv (t_ 37),(some (34,true)),0⟩,⟨(some 39),.fa 2 (t_ 1),(some (38,false)),0⟩,⟨(some 40),.ld 1 false (t_ 39),(some (38,false)),0⟩,⟨(some 41),.bin .neq (t_ 40) (i_ 0),(some (38,false)),0⟩,⟨(some 42),.pick (t_ 38) (b_ true) (t_ 41),(some (34,true)),0⟩,O_ 43 (.pick (t_ 34) (t_ 42) (b_ false)) 0]) (.cond (t_ 43) (.seq (R_ 0 [O_ 2 (.mv (i_ 4)) 0]) .ret) .skip)) (.seq (R_ 0 [O_ 2 (.mv (i_ 0)) 0]) .ret))))
theorem gc67_ok:compF Tryz.prog Tryz.f67=some (gc67.er,44,[.tmp 2]):=by unfold gc67;kernel_rfl
theorem p_ref23_Check_v (a0:PresPres):CallsO Tryz.prog 67 [.agg [.b a0.On,.i a0.Show,.i a0.Prio,.i a0.Seq]] V.i (p_ref23_Check a0):=by
 refine callsO_comp mix Tryz.func67 gc67_ok fun r H=>?_
 rw [p_ref23_Check] at H
 conv=>whnf
 refine tst_c H (fun b1 H=>?_) (fun b1 H=>?_)
 ·conv=>whnf
  iterate 20 (refine Tst.T ?_;conv=>whnf)
  exact fi_ H
 conv=>whnf
 iterate 3 (refine Tst.F ?_;conv=>whnf)
 refine tst_c H (fun b2 H=>?_) (fun b2 H=>?_)
 ·conv=>whnf
  iterate 16 (refine Tst.T ?_;conv=>whnf)
  exact fi_ H
 conv=>whnf
 iterate 3 (refine Tst.F ?_;conv=>whnf)
 refine tst_c H (fun b3 H=>?_) (fun b3 H=>?_)
 ·conv=>whnf
  iterate 12 (refine Tst.T ?_;conv=>whnf)
  exact fi_ H
 conv=>whnf
 iterate 3 (refine Tst.F ?_;conv=>whnf)
 refine tst_c H (fun b4 H=>?_) (fun b4 H=>?_)
 ·conv=>whnf
  iterate 8 (refine Tst.T ?_;conv=>whnf)
  exact fi_ H
 conv=>whnf
 iterate 3 (refine Tst.F ?_;conv=>whnf)
 refine tst_c H (fun b5 H=>?_) (fun b5 H=>?_)
 ·conv=>whnf
  iterate 4 (refine Tst.T ?_;conv=>whnf)
  exact fi_ H
 conv=>whnf
 iterate 3 (refine Tst.F ?_;conv=>whnf)
 refine tst_c H (fun b6 H=>?_) (fun b6 H=>?_)
 ·conv=>whnf
  exact fi_ H
 conv=>whnf
 refine Tst.not ?_
 refine tst_c H (fun b7 H=>?_) (fun b7 H=>?_)
 ·conv=>whnf
  iterate 6 (refine Tst.F ?_;conv=>whnf)
  exact fi_ H
 conv=>whnf
 iterate 3 (refine Tst.T ?_;conv=>whnf)
 refine tst_c H (fun b8 H=>?_) (fun b8 H=>?_)
 ·conv=>whnf
  iterate 6 (refine Tst.T ?_;conv=>whnf)
  exact fi_ H
 conv=>whnf
 iterate 2 (refine Tst.F ?_;conv=>whnf)
 refine Tst.T ?_;conv=>whnf
 refine Tst.F ?_;conv=>whnf
 refine Tst.T ?_;conv=>whnf
 refine tst_c H (fun b9 H=>?_) (fun b9 H=>?_)
 ·conv=>whnf
  exact fi_ H
 conv=>whnf
 exact fi_ H
def gc68:BCode:=(.seq (R_ 0 [O_ 4 (.mv (i_ 0)) 0]) (.seq (.seq (R_ 0 [O_ 5 (.mv (i_ 0)) 0]) (.block 0 (.loop (.seq (.seq (R_ 0 [O_ 6 (.mv (t_ 5)) 0,O_ 7 (.mv (t_ 0)) 0,O_ 8 (.lens (t_ 7)) 0,O_ 9 (.bin .lss (t_ 6) (t_ 8)) 0]) (.cond (t_ 9) .skip (.exit 0))) (.seq (.block 1 (.seq (R_ 0 [O_ 12 (.mv (t_ 0)) 0,O_ 13 (.mv (t_ 5)) 0,O_ 14 (.ixs 5 (t_ 12) (t_ 13)) 0,O_ 15 (.fa 0 (t_ 14)) 0,O_ 16 (.ld 1 false (t_ 15)) 0,O_ 17 (.mv (t_ 1)) 0,O_ 18 (.bin .eql (t_ 16) (t_ 17)) 0]) (.cond (t_ 18) (.seq (R_ 0 [O_ 19 (.mv (t_ 5)) 0,O_ 4 (.mv (t_ 19)) 0]) .ret) .skip))) (R_ 0 [O_ 10 (.mv (t_ 5)) 0,O_ 11 (.bin .add (t_ 10) (i_ 1)) 0,O_ 5 (.mv (t_ 11)) 0])))))) (.seq (R_ 0 [O_ 4 (.mv (.const (.int .i64 (-1)))) 0]) .ret)))
theorem gc68_ok:compF Tryz.prog Tryz.f68=some (gc68.er,20,[.tmp 4]):=by unfold gc68;kernel_rfl
theorem p_ref25_Find_v {u1:Bool} (a0:List MailEntry) (a1:ByteArray):CallsO Tryz.prog 68 [.sl (List.map MailEntry.v a0) u1,.s a1] V.i (p_ref25_Find a0 a1):=by
 refine callsO_comp mix Tryz.func68 gc68_ok fun r H=>?_
 rw [p_ref25_Find] at H
 conv=>whnf
 obtain ⟨o2,HL3,HQ4⟩:=bind_c H
 refine loop_c [4,5] [6,7,8,9,10,11,12,13,14,15,16,17,18,19] [6,7,8,9,10,11,12,13,14,15,16,17,18,19] (fun n vals st=>(∃ y6,p_ref25_Find_l1  a0 a1 n y6=some o2∧vals=[.i (0:Int),.i y6]∧st=[])) fuel 0 [] (⟨_,HL3,rfl,rfl⟩) (Nat.zero_le _) rfl (by kernel_rfl) (by kernel_rfl) rfl trivial ?_
 rintro (_ | n5) _ _ (⟨y6,H,rfl,rfl⟩)
 ·rw [p_ref25_Find_l1] at H;cases H
 rw [p_ref25_Find_l1] at H
 conv=>whnf
 refine LenQ.M ?_;conv=>whnf
 refine tst_d H (fun b7 H=>?_) (fun b7 H=>?_)
 ·conv=>whnf
  obtain rfl:=Option.some.inj H
  have H:=HQ4
  try dsimp only at H
  exact fi_ H
 conv=>whnf
 refine ixs_c (f:=MailEntry.v) H (fun _=>rfl) (fun x8 H=>?_);conv=>whnf
 refine lq_ ?_;conv=>whnf
 refine tst_c H (fun b9 H=>?_) (fun b9 H=>?_)
 ·conv=>whnf
  obtain rfl:=Option.some.inj H
  have H:=HQ4
  try dsimp only at H
  exact fi_ H
 conv=>whnf
 refine Ari.w ?_;conv=>whnf
 exact again_c [6,7,8,9,10,11,12,13,14,15,16,17,18,19] n5 0 [] (⟨_,H,rfl,rfl⟩) (Nat.lt_succ_self _) (Nat.zero_le _) rfl (by kernel_rfl) (by kernel_rfl) rfl trivial
end Go.Proofs.YthnihifblmnkdaaGreat

namespace Go.Proofs.YthnihifblmnkdaaGreat
open Go.RowKit
set_option maxRecDepth 100000
set_option maxHeartbeats 4000000
def gc46:BCode:=(.seq (R_ 0 [O_ 2 (.mv (i_ 0)) 0]) (.seq (.seq (R_ 0 [O_ 6 (.mv (t_ 0)) 0,O_ 7 (.lens (t_ 6)) 0,O_ 8 (.bin .gtr (t_ 7) (i_ 16)) 0]) (.cond (t_ 8) (.seq (R_ 0 [O_ 2 (.mv (i_ 5)) 0]) .ret) .skip)) (.seq (.seq (R_ 0 [O_ 3 (.mv (i_ 0)) 0]) (.block 0 (.loop (.seq (.seq (R_ 0 [O_ 9 (.mv (t_ 3)) 0,O_ 10 (.mv (t_ 0)) 0,O_ 11 (.lens (t_ 10)) 0,O_ 12 (.bin .lss (t_ 9) (t_ 11)) 0]) (.cond (t_ 12) .skip (.exit 0))) (.seq (.block 1 (.seq (R_ 0 [O_ 15 (.mv (t_ 0)) 0,O_ 16 (.mv (t_ 3)) 0,O_ 17 (.ixs 5 (t_ 15) (t_ 16)) 0,O_ 18 (.fa 0 (t_ 17)) 0,O_ 19 (.ld 1 false (t_ 18)) 0,O_ 20 (.cl 66 [(t_ 19)]) 0,O_ 21 (.un .not (t_ 20)) 0]) (.cond (t_ 21) (.seq (R_ 0 [O_ 2 (.mv (i_ 11)) 0]) .ret) .skip))) (R_ 0 [O_ 13 (.mv (t_ 3)) 0,O_ 14 (.bin .add (t_ 13) (i_ 1)) 0,O_ 3 (.mv (t_ 14)) 0])))))) (.seq (.seq (R_ 0 [O_ 4 (.mv (i_ 0)) 0]) (.block 2 (.loop (.seq (.seq (R_ 0 [O_ 22 (.mv (t_ 4)) 0,O_ 23 (.mv (t_ 0)) 0,O_ 24 (.lens (t_ 23)) 0,O_ 25 (.bin .lss (t_ 22) (t_ 24)) 0]) (.cond (t_ 25) .skip (.exit 2))) (.seq (.block 3 (.seq (R_ 0 [O_ 28 (.mv (t_ 0)) 0,O_ 29 (.mv (t_ 4)) 0,O_ 30 (.ixs 5 (t_ 28) (t_ 29)) 0,O_ 31 (.fa 1 (t_ 30)) 0,O_ 32 (.ld 4 true (t_ 31)) 0,O_ 33 (.cl 67 [(t_ 32)]) 0,O_ 34 (.bin .neq (t_ 33) (i_ 0)) 0]) (.cond (t_ 34) (.seq (R_ 0 [O_ 35 (.mv (t_ 0)) 0,O_ 36 (.mv (t_ 4)) 0,O_ 37 (.ixs 5 (t_ 35) (t_ 36)) 0,O_ 38 (.fa 1 (t_ 37)) 0,O_ 39 (.ld 4 true (t_ 38)) 0,O_ 40 (.cl 67 [(t_ 39)]) 0,O_ 2 (.mv (t_ 40)) 0]) .ret) .skip))) (R_ 0 [O_ 26 (.mv (t_ 4)) 0,O_ 27 (.bin .add (t_ 26) (i_ 1)) 0,O_ 4 (.mv (t_ 27)) 0])))))) (.seq (.seq (R_ 0 [O_ 5 (.mv (i_ 0)) 0]) (.block 4 (.loop (.seq (.seq (R_ 0 [O_ 41 (.mv (t_ 5)) 0,O_ 42 (.mv (t_ 0)) 0,O_ 43 (.lens (t_ 42)) 0,O_ 44 (.bin .lss (t_ 41) (t_ 43)) 0]) (.cond (t_ 44) .skip (.exit 4))) (.seq (.block 5 (.seq (R_ 0 [O_ 47 (.mv (t_ 5)) 0,O_ 48 (.bin .gtr (t_ 47) (i_ 0)) 0,O_ 49 (.mv (t_ 48)) 0,⟨(some 50),.mv (t_ 0),(some (49,true)),0⟩,⟨(some 51),.mv (t_ 5),(some (49,true)),0⟩,⟨(some 52),.bin .sub (t_ 51) (i_ 1),(some (49,true)),0⟩,⟨(some 53),.ixs 5 (t_ 50) (t_ 52),(some (49,true)),0⟩,⟨(some 54),.fa 1 (t_ 53),(some (49,true)),0⟩,⟨(some 55),.fa 0 (t_ 54),(some (49,true)),0⟩,⟨(some 56),.ld 1 false (t_ 55),(some (49,true)),0⟩,O_ 57 (.pick (t_ 49) (t_ 56) (b_ false)) 0,O_ 58 (.mv (t_ 57)) 0,⟨(some 59),.mv (t_ 0),(some (58,true)),0⟩,⟨(some 60),.mv (t_ 5),(some (58,true)),0⟩,⟨(some 61),.ixs 5 (t_ 59) (t_ 60),(some (58,true)),0⟩,⟨(some 62),.fa 1 (t_ 61),(some (58,true)),0⟩,⟨(some 63),.fa 0 (t_ 62),(some (58,true)),0⟩,⟨(some 64),.ld 1 false (t_ 63),(some (58,true)),0⟩,⟨(some 65),.un .not (t_ 64),(some (58,true)),0⟩,O_ 66 (.pick (t_ 58) (t_ 65) (b_ false)) 0,O_ 67 (.mv (t_ 66)) 0,⟨(some 68),.mv (t_ 0),(some (67,false)),0⟩,⟨(some 69),.mv (t_ 0),(some (67,false)),0⟩,⟨(some 70),.mv (t_ 5),(some (67,false)),0⟩,⟨(some 71),.ixs 5 (t_ 69) (t_ 70),(some (67,false)),0⟩,⟨(some 72),.fa 0 (t_ 71),(some (67,false)),0⟩,⟨(some 73),.ld 1 false (t_ 72),(some (67,false)),0⟩,⟨(some 74),.cl 68 [(t_ 68),(t_ 73)],(some (67,false)),0⟩,⟨(some 75),.mv (t_ 5),(some (67,false)),0⟩,⟨(some 76),.bin .neq (t_ 74) (t_ 75),(some (67,false)),0⟩,O_ 77 (.pick (t_ 67) (b_ true) (t_ 76)) 0]) (.cond (t_ 77) (.seq (R_ 0 [O_ 2 (.mv (i_ 10)) 0]) .ret) .skip))) (R_ 0 [O_ 45 (.mv (t_ 5)) 0,O_ 46 (.bin .add (t_ 45) (i_ 1)) 0,O_ 5 (.mv (t_ 46)) 0])))))) (.seq (R_ 0 [O_ 2 (.mv (i_ 0)) 0]) .ret))))))
theorem gc46_ok:compF Tryz.prog Tryz.f46=some (gc46.er,78,[.tmp 2]):=by unfold gc46;kernel_rfl
theorem p_ref25_Check_v {u1:Bool} (a0:List MailEntry):CallsO Tryz.prog 46 [.sl (List.map MailEntry.v a0) u1] V.i (p_ref25_Check a0):=by
 refine callsO_comp mix Tryz.func46 gc46_ok fun r H=>?_
 rw [p_ref25_Check] at H
 conv=>whnf
 refine LenQ.M ?_;conv=>whnf
 refine tst_c H (fun b1 H=>?_) (fun b1 H=>?_)
 ·conv=>whnf
  exact fi_ H
 conv=>whnf
 obtain ⟨o3,HL4,HQ5⟩:=bind_c H
 refine loop_c [2,3] [9,10,11,12,13,14,15,16,17,18,19,20,21] [9,10,11,12,13,14,15,16,17,18,19,20,21] (fun n vals st=>(∃ y7,p_ref25_Check_l1  a0 n y7=some o3∧vals=[.i (0:Int),.i y7]∧st=[])) fuel 0 [] (⟨_,HL4,rfl,rfl⟩) (Nat.zero_le _) rfl (by kernel_rfl) (by kernel_rfl) rfl trivial ?_
 rintro (_ | n6) _ _ (⟨y7,H,rfl,rfl⟩)
 ·rw [p_ref25_Check_l1] at H;cases H
 rw [p_ref25_Check_l1] at H
 conv=>whnf
 refine LenQ.M ?_;conv=>whnf
 refine tst_c H (fun b8 H=>?_) (fun b8 H=>?_)
 ·conv=>whnf
  refine ixs_c (f:=MailEntry.v) H (fun _=>rfl) (fun x9 H=>?_);conv=>whnf
  refine lq_ ?_;conv=>whnf
  refine ask_c (p_ref25_key_v _) H rfl rfl (fun v10 H=>?_);conv=>whnf
  refine Tst.not ?_
  refine tst_d H (fun b11 H=>?_) (fun b11 H=>?_)
  ·conv=>whnf
   obtain rfl:=Option.some.inj H
   have H:=HQ5
   try dsimp only at H
   exact fi_ H
  conv=>whnf
  refine Ari.w ?_;conv=>whnf
  exact again_c [9,10,11,12,13,14,15,16,17,18,19,20,21] n6 0 [] (⟨_,H,rfl,rfl⟩) (Nat.lt_succ_self _) (Nat.zero_le _) rfl (by kernel_rfl) (by kernel_rfl) rfl trivial
 conv=>whnf
 obtain rfl:=Option.some.inj H
 have H:=HQ5
 try dsimp only at H
 obtain ⟨o13,HL14,HQ15⟩:=bind_c H
 refine loop_c [2,4] [22,23,24,25,26,27,28,29,30,31,32,33,34,35,36,37,38,39,40] [22,23,24,25,26,27,28,29,30,31,32,33,34,35,36,37,38,39,40] (fun n vals st=>(∃ y17,p_ref25_Check_l2  a0 n y17=some o13∧vals=[.i (0:Int),.i y17]∧st=[])) fuel 0 [] (⟨_,HL14,rfl,rfl⟩) (Nat.zero_le _) rfl (by kernel_rfl) (by kernel_rfl) rfl trivial ?_
 rintro (_ | n16) _ _ (⟨y17,H,rfl,rfl⟩)
 ·rw [p_ref25_Check_l2] at H;cases H
 rw [p_ref25_Check_l2] at H
 conv=>whnf
 refine LenQ.M ?_;conv=>whnf
 refine tst_c H (fun b18 H=>?_) (fun b18 H=>?_)
 ·conv=>whnf
  refine ixs_c (f:=MailEntry.v) H (fun _=>rfl) (fun x19 H=>?_);conv=>whnf
  refine lq_ ?_;conv=>whnf
  refine ask_c (p_ref23_Check_v _) H rfl rfl (fun v20 H=>?_);conv=>whnf
  refine tst_d H (fun b21 H=>?_) (fun b21 H=>?_)
  ·conv=>whnf
   refine Ari.w ?_;conv=>whnf
   exact again_c [22,23,24,25,26,27,28,29,30,31,32,33,34,35,36,37,38,39,40] n16 0 [] (⟨_,H,rfl,rfl⟩) (Nat.lt_succ_self _) (Nat.zero_le _) rfl (by kernel_rfl) (by kernel_rfl) rfl trivial
  conv=>whnf
  refine ixs_c (f:=MailEntry.v) H (fun _=>rfl) (fun x22 H=>?_);conv=>whnf
  refine lq_ ?_;conv=>whnf
  refine ask_c (p_ref23_Check_v _) H rfl rfl (fun v23 H=>?_);conv=>whnf
  obtain rfl:=Option.some.inj H
  have H:=HQ15
  try dsimp only at H
  exact fi_ H
 conv=>whnf
 obtain rfl:=Option.some.inj H
 have H:=HQ15
 try dsimp only at H
 obtain ⟨o25,HL26,HQ27⟩:=bind_c H
 refine loop_c [2,5] [41,42,43,44,45,46,47,48,49,50,51,52,53,54,55,56,57,58,59,60,61,62,63,64,65,66,67,68,69,70,71,72,73,74,75,76,77] [41,42,43,44,45,46,47,48,49,50,51,52,53,54,55,56,57,58,59,60,61,62,63,64,65,66,67,68,69,70,71,72,73,74,75,76,77] (fun n vals st=>(∃ y29,p_ref25_Check_l3  a0 n y29=some o25∧vals=[.i (0:Int),.i y29]∧st=[])) fuel 0 [] (⟨_,HL26,rfl,rfl⟩) (Nat.zero_le _) rfl (by kernel_rfl) (by kernel_rfl) rfl trivial ?_
 rintro (_ | n28) _ _ (⟨y29,H,rfl,rfl⟩)
 ·rw [p_ref25_Check_l3] at H;cases H
 rw [p_ref25_Check_l3] at H
 conv=>whnf
 refine LenQ.M ?_;conv=>whnf
 refine tst_d H (fun b30 H=>?_) (fun b30 H=>?_)
 ·conv=>whnf
  obtain rfl:=Option.some.inj H
  have H:=HQ27
  try dsimp only at H
  exact fi_ H
 conv=>whnf
 refine tst_d H (fun b31 H=>?_) (fun b31 H=>?_)
 ·conv=>whnf
  iterate 19 (refine Tst.F ?_;conv=>whnf)
  refine ixs_c (f:=MailEntry.v) H (fun _=>rfl) (fun x42 H=>?_);conv=>whnf
  refine Tst.F ?_;conv=>whnf
  refine lq_ ?_;conv=>whnf
  iterate 2 (refine Tst.F ?_;conv=>whnf)
  refine ask_c (p_ref25_Find_v _ _) H rfl rfl (fun v43 H=>?_);conv=>whnf
  iterate 3 (refine Tst.F ?_;conv=>whnf)
  refine tst_c H (fun b44 H=>?_) (fun b44 H=>?_)
  ·conv=>whnf
   obtain rfl:=Option.some.inj H
   have H:=HQ27
   try dsimp only at H
   exact fi_ H
  conv=>whnf
  refine Ari.w ?_;conv=>whnf
  exact again_c [41,42,43,44,45,46,47,48,49,50,51,52,53,54,55,56,57,58,59,60,61,62,63,64,65,66,67,68,69,70,71,72,73,74,75,76,77] n28 0 [] (⟨_,H,rfl,rfl⟩) (Nat.lt_succ_self _) (Nat.zero_le _) rfl (by kernel_rfl) (by kernel_rfl) rfl trivial
 conv=>whnf
 iterate 2 (refine Tst.T ?_;conv=>whnf)
 refine Ari.w ?_;conv=>whnf
 refine Tst.T ?_;conv=>whnf
 refine ixs_c (f:=MailEntry.v) H (fun _=>rfl) (fun x32 H=>?_);conv=>whnf
 refine Tst.T ?_;conv=>whnf
 refine lq_ ?_;conv=>whnf
 refine Tst.T ?_;conv=>whnf
 refine lq_ ?_;conv=>whnf
 iterate 2 (refine Tst.T ?_;conv=>whnf)
 refine tst_d H (fun b33 H=>?_) (fun b33 H=>?_)
 ·conv=>whnf
  iterate 11 (refine Tst.F ?_;conv=>whnf)
  refine ixs_c (f:=MailEntry.v) H (fun _=>rfl) (fun x39 H=>?_);conv=>whnf
  refine Tst.F ?_;conv=>whnf
  refine lq_ ?_;conv=>whnf
  iterate 2 (refine Tst.F ?_;conv=>whnf)
  refine ask_c (p_ref25_Find_v _ _) H rfl rfl (fun v40 H=>?_);conv=>whnf
  iterate 3 (refine Tst.F ?_;conv=>whnf)
  refine tst_c H (fun b41 H=>?_) (fun b41 H=>?_)
  ·conv=>whnf
   obtain rfl:=Option.some.inj H
   have H:=HQ27
   try dsimp only at H
   exact fi_ H
  conv=>whnf
  refine Ari.w ?_;conv=>whnf
  exact again_c [41,42,43,44,45,46,47,48,49,50,51,52,53,54,55,56,57,58,59,60,61,62,63,64,65,66,67,68,69,70,71,72,73,74,75,76,77] n28 0 [] (⟨_,H,rfl,rfl⟩) (Nat.lt_succ_self _) (Nat.zero_le _) rfl (by kernel_rfl) (by kernel_rfl) rfl trivial
 conv=>whnf
 iterate 2 (refine Tst.T ?_;conv=>whnf)
 refine ixs_c (f:=MailEntry.v) H (fun _=>rfl) (fun x34 H=>?_);conv=>whnf
 refine Tst.T ?_;conv=>whnf
 refine lq_ ?_;conv=>whnf
 refine Tst.T ?_;conv=>whnf
 refine lq_ ?_;conv=>whnf
 iterate 3 (refine Tst.T ?_;conv=>whnf)
 refine Tst.not ?_
 refine tst_d H (fun b35 H=>?_) (fun b35 H=>?_)
 ·conv=>whnf
  iterate 10 (refine Tst.T ?_;conv=>whnf)
  obtain rfl:=Option.some.inj H
  have H:=HQ27
  try dsimp only at H
  exact fi_ H
 conv=>whnf
 iterate 3 (refine Tst.F ?_;conv=>whnf)
 refine ixs_c (f:=MailEntry.v) H (fun _=>rfl) (fun x36 H=>?_);conv=>whnf
 refine Tst.F ?_;conv=>whnf
 refine lq_ ?_;conv=>whnf
 iterate 2 (refine Tst.F ?_;conv=>whnf)
 refine ask_c (p_ref25_Find_v _ _) H rfl rfl (fun v37 H=>?_);conv=>whnf
 iterate 3 (refine Tst.F ?_;conv=>whnf)
 refine tst_c H (fun b38 H=>?_) (fun b38 H=>?_)
 ·conv=>whnf
  obtain rfl:=Option.some.inj H
  have H:=HQ27
  try dsimp only at H
  exact fi_ H
 conv=>whnf
 refine Ari.w ?_;conv=>whnf
 exact again_c [41,42,43,44,45,46,47,48,49,50,51,52,53,54,55,56,57,58,59,60,61,62,63,64,65,66,67,68,69,70,71,72,73,74,75,76,77] n28 0 [] (⟨_,H,rfl,rfl⟩) (Nat.lt_succ_self _) (Nat.zero_le _) rfl (by kernel_rfl) (by kernel_rfl) rfl trivial
def gc47:BCode:=(.seq (R_ 1 [O_ 1 (.bx (t_ 0)) 0,O_ 2 (.mv (i_ 0)) 1]) (.seq (.block 0 (.seq (R_ 0 [O_ 4 (.fa 0 (t_ 1)) 0,O_ 5 (.ld 1 false (t_ 4)) 0,O_ 6 (.un .not (t_ 5)) 0,O_ 7 (.mv (t_ 6)) 0,⟨(some 8),.ld 4 true (t_ 1),(some (7,true)),0⟩,⟨(some 9),.bd [(.lit (.bool false)),(.lit (.bool false)),(.lit (.string ⟨#[]⟩)),(.lit (.int .i64 0))] [],(some (7,true)),0⟩,⟨(some 10),.eqa true [0,0,2,1] (t_ 8) (t_ 9),(some (7,true)),0⟩,O_ 11 (.pick (t_ 7) (t_ 10) (b_ false)) 0,O_ 3 (.mv (t_ 11)) 0]) (.cond (t_ 3) (.seq (R_ 0 [O_ 2 (.mv (i_ 4)) 0]) .ret) (.seq (R_ 0 [O_ 13 (.fa 1 (t_ 1)) 0,O_ 14 (.ld 1 false (t_ 13)) 0,O_ 15 (.un .not (t_ 14)) 0,O_ 16 (.mv (t_ 15)) 0,⟨(some 17),.fa 2 (t_ 1),(some (16,true)),0⟩,⟨(some 18),.ld 1 false (t_ 17),(some (16,true)),0⟩,⟨(some 19),.bin .neq (t_ 18) (.const (.string ⟨#[]⟩)),(some (16,true)),0⟩,⟨(some 20),.mv (t_ 19),(some (16,true)),0⟩,⟨(some 21),.fa 3 (t_ 1),(some (20,false)),0⟩,⟨(some 22),.ld 1 false (t_ 21),(some (20,false)),0⟩,⟨(some 23),.bin .neq (t_ 22) (i_ 0),(some (20,false)),0⟩,⟨(some 24),.pick (t_ 20) (b_ true) (t_ 23),(some (16,true)),0⟩,O_ 25 (.pick (t_ 16) (t_ 24) (b_ false)) 0,O_ 12 (.mv (t_ 25)) 0]) (.cond (t_ 12) (.seq (R_ 0 [O_ 2 (.mv (i_ 4)) 0]) .ret) (.seq (R_ 0 [O_ 27 (.fa 3 (t_ 1)) 0,O_ 28 (.ld 1 false (t_ 27)) 0,O_ 29 (.bin .lss (t_ 28) (i_ 0)) 0,O_ 30 (.mv (t_ 29)) 0,⟨(some 31),.fa 3 (t_ 1),(some (30,false)),0⟩,⟨(some 32),.ld 1 false (t_ 31),(some (30,false)),0⟩,⟨(some 33),.bin .gtr (t_ 32) (i_ 1099511627776),(some (30,false)),0⟩,O_ 34 (.pick (t_ 30) (b_ true) (t_ 33)) 0,O_ 26 (.mv (t_ 34)) 0]) (.cond (t_ 26) (.seq (R_ 0 [O_ 2 (.mv (i_ 8)) 0]) .ret) .skip))))))) (.seq (R_ 0 [O_ 2 (.mv (i_ 0)) 0]) .ret)))
theorem gc47_ok:compF Tryz.prog Tryz.f47=some (gc47.er,35,[.tmp 2]):=by unfold gc47;kernel_rfl
theorem p_ref26_Check_v (a0:SnapState):CallsO Tryz.prog 47 [.agg [.b a0.On,.b a0.Begun,.s a0.After,.i a0.Told]] V.i (p_ref26_Check a0):=by
 refine callsO_comp mix Tryz.func47 gc47_ok fun r H=>?_
 rw [p_ref26_Check] at H
 conv=>whnf
 refine Tst.not ?_
 refine tst_c H (fun b1 H=>?_) (fun b1 H=>?_)
 ·conv=>whnf
  iterate 4 (refine Tst.F ?_;conv=>whnf)
  refine Tst.not ?_
  refine tst_c H (fun b2 H=>?_) (fun b2 H=>?_)
  ·conv=>whnf
   iterate 6 (refine Tst.F ?_;conv=>whnf)
   refine tst_c H (fun b3 H=>?_) (fun b3 H=>?_)
   ·conv=>whnf
    iterate 4 (refine Tst.T ?_;conv=>whnf)
    exact fi_ H
   conv=>whnf
   iterate 3 (refine Tst.F ?_;conv=>whnf)
   refine tst_c H (fun b4 H=>?_) (fun b4 H=>?_)
   ·conv=>whnf
    exact fi_ H
   conv=>whnf
   exact fi_ H
  conv=>whnf
  iterate 3 (refine Tst.T ?_;conv=>whnf)
  refine Tst.not ?_
  refine tst_d H (fun b5 H=>?_) (fun b5 H=>?_)
  ·conv=>whnf
   iterate 6 (refine Tst.T ?_;conv=>whnf)
   exact fi_ H
  conv=>whnf
  iterate 2 (refine Tst.F ?_;conv=>whnf)
  refine Tst.T ?_;conv=>whnf
  refine Tst.F ?_;conv=>whnf
  refine Tst.T ?_;conv=>whnf
  refine tst_c H (fun b6 H=>?_) (fun b6 H=>?_)
  ·conv=>whnf
   exact fi_ H
  conv=>whnf
  refine tst_c H (fun b7 H=>?_) (fun b7 H=>?_)
  ·conv=>whnf
   iterate 4 (refine Tst.T ?_;conv=>whnf)
   exact fi_ H
  conv=>whnf
  iterate 3 (refine Tst.F ?_;conv=>whnf)
  refine tst_c H (fun b8 H=>?_) (fun b8 H=>?_)
  ·conv=>whnf
   exact fi_ H
  conv=>whnf
  exact fi_ H
 conv=>whnf
 iterate 3 (refine Tst.T ?_;conv=>whnf)
 refine Tst.not ?_
 refine tst_d H (fun b9 H=>?_) (fun b9 H=>?_)
 ·conv=>whnf
  exact fi_ H
 conv=>whnf
 refine Tst.not ?_
 refine tst_c H (fun b10 H=>?_) (fun b10 H=>?_)
 ·conv=>whnf
  iterate 6 (refine Tst.F ?_;conv=>whnf)
  refine tst_c H (fun b11 H=>?_) (fun b11 H=>?_)
  ·conv=>whnf
   iterate 4 (refine Tst.T ?_;conv=>whnf)
   exact fi_ H
  conv=>whnf
  iterate 3 (refine Tst.F ?_;conv=>whnf)
  refine tst_c H (fun b12 H=>?_) (fun b12 H=>?_)
  ·conv=>whnf
   exact fi_ H
  conv=>whnf
  exact fi_ H
 conv=>whnf
 iterate 3 (refine Tst.T ?_;conv=>whnf)
 refine Tst.not ?_
 refine tst_d H (fun b13 H=>?_) (fun b13 H=>?_)
 ·conv=>whnf
  iterate 6 (refine Tst.T ?_;conv=>whnf)
  exact fi_ H
 conv=>whnf
 iterate 2 (refine Tst.F ?_;conv=>whnf)
 refine Tst.T ?_;conv=>whnf
 refine Tst.F ?_;conv=>whnf
 refine Tst.T ?_;conv=>whnf
 refine tst_c H (fun b14 H=>?_) (fun b14 H=>?_)
 ·conv=>whnf
  exact fi_ H
 conv=>whnf
 refine tst_c H (fun b15 H=>?_) (fun b15 H=>?_)
 ·conv=>whnf
  iterate 4 (refine Tst.T ?_;conv=>whnf)
  exact fi_ H
 conv=>whnf
 iterate 3 (refine Tst.F ?_;conv=>whnf)
 refine tst_c H (fun b16 H=>?_) (fun b16 H=>?_)
 ·conv=>whnf
  exact fi_ H
 conv=>whnf
 exact fi_ H
def gc18:BCode:=(.seq (R_ 1 [O_ 1 (.bx (t_ 0)) 0,O_ 2 (.mv (i_ 0)) 1]) (.seq (.block 0 (.seq (R_ 0 [O_ 4 (.fa 0 (t_ 1)) 0,O_ 5 (.ld 1 false (t_ 4)) 0,O_ 6 (.cl 46 [(t_ 5)]) 0,O_ 7 (.bin .neq (t_ 6) (i_ 0)) 0,O_ 3 (.mv (t_ 7)) 0]) (.cond (t_ 3) (.seq (R_ 0 [O_ 8 (.fa 0 (t_ 1)) 0,O_ 9 (.ld 1 false (t_ 8)) 0,O_ 10 (.cl 46 [(t_ 9)]) 0,O_ 2 (.mv (t_ 10)) 0]) .ret) (.seq (R_ 0 [O_ 12 (.fa 1 (t_ 1)) 0,O_ 13 (.ld 4 true (t_ 12)) 0,O_ 14 (.cl 47 [(t_ 13)]) 0,O_ 15 (.bin .neq (t_ 14) (i_ 0)) 0,O_ 11 (.mv (t_ 15)) 0]) (.cond (t_ 11) (.seq (R_ 0 [O_ 16 (.fa 1 (t_ 1)) 0,O_ 17 (.ld 4 true (t_ 16)) 0,O_ 18 (.cl 47 [(t_ 17)]) 0,O_ 2 (.mv (t_ 18)) 0]) .ret) (.seq (R_ 0 [O_ 20 (.fa 5 (t_ 1)) 0,O_ 21 (.ld 1 false (t_ 20)) 0,O_ 22 (.bin .lss (t_ 21) (i_ 0)) 0,O_ 23 (.mv (t_ 22)) 0,⟨(some 24),.fa 5 (t_ 1),(some (23,false)),0⟩,⟨(some 25),.ld 1 false (t_ 24),(some (23,false)),0⟩,⟨(some 26),.bin .gtr (t_ 25) (i_ 1099511627776),(some (23,false)),0⟩,O_ 27 (.pick (t_ 23) (b_ true) (t_ 26)) 0,O_ 28 (.mv (t_ 27)) 0,⟨(some 29),.fa 6 (t_ 1),(some (28,false)),0⟩,⟨(some 30),.ld 1 false (t_ 29),(some (28,false)),0⟩,⟨(some 31),.bin .lss (t_ 30) (i_ 0),(some (28,false)),0⟩,O_ 32 (.pick (t_ 28) (b_ true) (t_ 31)) 0,O_ 33 (.mv (t_ 32)) 0,⟨(some 34),.fa 6 (t_ 1),(some (33,false)),0⟩,⟨(some 35),.ld 1 false (t_ 34),(some (33,false)),0⟩,⟨(some 36),.bin .gtr (t_ 35) (i_ 1099511627776),(some (33,false)),0⟩,O_ 37 (.pick (t_ 33) (b_ true) (t_ 36)) 0,O_ 19 (.mv (t_ 37)) 0]) (.cond (t_ 19) (.seq (R_ 0 [O_ 2 (.mv (i_ 8)) 0]) .ret) .skip))))))) (.seq (R_ 0 [O_ 2 (.mv (i_ 0)) 0]) .ret)))
theorem gc18_ok:compF Tryz.prog Tryz.f18=some (gc18.er,38,[.tmp 2]):=by unfold gc18;kernel_rfl
theorem p_ref27_Check_v {u1:Bool} (a0:Ref27State):CallsO Tryz.prog 18 [.agg [.sl (List.map MailEntry.v a0.Mail) u1,.b a0.Snap.On,.b a0.Snap.Begun,.s a0.Snap.After,.i a0.Snap.Told,.i a0.Sent,.i a0.Lost]] V.i (p_ref27_Check a0):=by
 refine callsO_comp mix Tryz.func18 gc18_ok fun r H=>?_
 rw [p_ref27_Check] at H
 conv=>whnf
 refine ask_c (p_ref25_Check_v _) H rfl rfl (fun v1 H=>?_);conv=>whnf
 refine tst_c H (fun b2 H=>?_) (fun b2 H=>?_)
 ·conv=>whnf
  refine ask_c (p_ref25_Check_v _) H rfl rfl (fun v3 H=>?_);conv=>whnf
  exact fi_ H
 conv=>whnf
 refine ask_c (p_ref26_Check_v _) H rfl rfl (fun v4 H=>?_);conv=>whnf
 refine tst_c H (fun b5 H=>?_) (fun b5 H=>?_)
 ·conv=>whnf
  refine ask_c (p_ref26_Check_v _) H rfl rfl (fun v6 H=>?_);conv=>whnf
  exact fi_ H
 conv=>whnf
 refine tst_c H (fun b7 H=>?_) (fun b7 H=>?_)
 ·conv=>whnf
  iterate 12 (refine Tst.T ?_;conv=>whnf)
  exact fi_ H
 conv=>whnf
 iterate 3 (refine Tst.F ?_;conv=>whnf)
 refine tst_c H (fun b8 H=>?_) (fun b8 H=>?_)
 ·conv=>whnf
  iterate 8 (refine Tst.T ?_;conv=>whnf)
  exact fi_ H
 conv=>whnf
 iterate 3 (refine Tst.F ?_;conv=>whnf)
 refine tst_c H (fun b9 H=>?_) (fun b9 H=>?_)
 ·conv=>whnf
  iterate 4 (refine Tst.T ?_;conv=>whnf)
  exact fi_ H
 conv=>whnf
 iterate 3 (refine Tst.F ?_;conv=>whnf)
 refine tst_c H (fun b10 H=>?_) (fun b10 H=>?_)
 ·conv=>whnf
  exact fi_ H
 conv=>whnf
 exact fi_ H
def gc39:BCode:=(.seq (R_ 1 [O_ 2 (.bx (t_ 0)) 0,O_ 4 (.mv (b_ false)) 1]) (.seq (R_ 0 [O_ 5 (.fa 0 (t_ 2)) 0,O_ 6 (.ld 1 false (t_ 5)) 0,O_ 7 (.mv (t_ 6)) 0,⟨(some 8),.fa 1 (t_ 2),(some (7,true)),0⟩,⟨(some 9),.ld 1 false (t_ 8),(some (7,true)),0⟩,⟨(some 10),.un .not (t_ 9),(some (7,true)),0⟩,⟨(some 11),.mv (t_ 10),(some (7,true)),0⟩,⟨(some 12),.mv (t_ 1),(some (11,false)),0⟩,⟨(some 13),.fa 2 (t_ 2),(some (11,false)),0⟩,⟨(some 14),.ld 1 false (t_ 13),(some (11,false)),0⟩,⟨(some 15),.bin .gtr (t_ 12) (t_ 14),(some (11,false)),0⟩,⟨(some 16),.pick (t_ 11) (b_ true) (t_ 15),(some (7,true)),0⟩,O_ 17 (.pick (t_ 7) (t_ 16) (b_ false)) 0,O_ 4 (.mv (t_ 17)) 0]) .ret))
theorem gc39_ok:compF Tryz.prog Tryz.f39=some (gc39.er,18,[.tmp 4]):=by unfold gc39;kernel_rfl
theorem p_ref26_Covers_v (a0:SnapState) (a1:ByteArray):CallsO Tryz.prog 39 [.agg [.b a0.On,.b a0.Begun,.s a0.After,.i a0.Told],.s a1] V.b (p_ref26_Covers a0 a1):=by
 refine callsO_comp mix Tryz.func39 gc39_ok fun r H=>?_
 rw [p_ref26_Covers] at H
 conv=>whnf
 refine tst_d H (fun b1 H=>?_) (fun b1 H=>?_)
 ·conv=>whnf
  iterate 5 (refine Tst.F ?_;conv=>whnf)
  exact fb_ H
 conv=>whnf
 iterate 3 (refine Tst.T ?_;conv=>whnf)
 refine Tst.not ?_
 refine tst_c H (fun b2 H=>?_) (fun b2 H=>?_)
 ·conv=>whnf
  iterate 3 (refine Tst.F ?_;conv=>whnf)
  refine Tst.T ?_;conv=>whnf
  refine Tst.F ?_;conv=>whnf
  refine Tst.T ?_;conv=>whnf
  exact fb_ H
 conv=>whnf
 iterate 6 (refine Tst.T ?_;conv=>whnf)
 exact fb_ H
def gc69:BCode:=(.seq (R_ 2 [O_ 2 (.bx (t_ 0)) 0,O_ 3 (.bx (t_ 1)) 1,O_ 4 (.mv (b_ false)) 2]) (.seq (R_ 0 [O_ 5 (.fa 3 (t_ 2)) 0,O_ 6 (.ld 1 false (t_ 5)) 0,O_ 7 (.fa 3 (t_ 3)) 0,O_ 8 (.ld 1 false (t_ 7)) 0,O_ 9 (.bin .gtr (t_ 6) (t_ 8)) 0,O_ 4 (.mv (t_ 9)) 0]) .ret))
theorem gc69_ok:compF Tryz.prog Tryz.f69=some (gc69.er,10,[.tmp 4]):=by unfold gc69;kernel_rfl
theorem p_ref23_Newer_v (a0:PresPres) (a1:PresPres):CallsO Tryz.prog 69 [.agg [.b a0.On,.i a0.Show,.i a0.Prio,.i a0.Seq],.agg [.b a1.On,.i a1.Show,.i a1.Prio,.i a1.Seq]] V.b (p_ref23_Newer a0 a1):=by
 refine callsO_comp mix Tryz.func69 gc69_ok fun r H=>?_
 rw [p_ref23_Newer] at H
 conv=>whnf
 exact fb_ H
end Go.Proofs.YthnihifblmnkdaaGreat

namespace Go.Proofs.YthnihifblmnkdaaGreat
open Go.RowKit
set_option maxRecDepth 100000
set_option maxHeartbeats 4000000
def gc70:BCode:=(.seq (R_ 0 [O_ 6 (.mv (.const (.slice none 0 0))) 0]) (.seq (R_ 0 [O_ 7 (.mv (.const (.slice none 0 0))) 0]) (.seq (.seq (R_ 0 [O_ 8 (.mv (i_ 0)) 0]) (.block 0 (.loop (.seq (.seq (R_ 0 [O_ 9 (.mv (t_ 8)) 0,O_ 10 (.mv (t_ 0)) 0,O_ 11 (.lens (t_ 10)) 0,O_ 12 (.bin .lss (t_ 9) (t_ 11)) 0]) (.cond (t_ 12) .skip (.exit 0))) (.seq (.block 1 (.seq (R_ 0 [O_ 15 (.mv (t_ 0)) 0,O_ 16 (.mv (t_ 8)) 0,O_ 17 (.ixs 5 (t_ 15) (t_ 16)) 0,O_ 18 (.fa 1 (t_ 17)) 0,O_ 19 (.fa 0 (t_ 18)) 0,O_ 20 (.ld 1 false (t_ 19)) 0,O_ 21 (.mv (t_ 1)) 0,O_ 22 (.binb false (t_ 20) (t_ 21)) 0,O_ 23 (.mv (t_ 22)) 0,⟨(some 24),.mv (t_ 0),(some (23,true)),0⟩,⟨(some 25),.mv (t_ 8),(some (23,true)),0⟩,⟨(some 26),.ixs 5 (t_ 24) (t_ 25),(some (23,true)),0⟩,⟨(some 27),.fa 0 (t_ 26),(some (23,true)),0⟩,⟨(some 28),.ld 1 false (t_ 27),(some (23,true)),0⟩,⟨(some 29),.mv (t_ 2),(some (23,true)),0⟩,⟨(some 30),.bin .neq (t_ 28) (t_ 29),(some (23,true)),0⟩,O_ 31 (.pick (t_ 23) (t_ 30) (b_ false)) 0]) (.cond (t_ 31) (R_ 2 [O_ 32 (.mv (t_ 7)) 0,O_ 33 (.mv (t_ 0)) 0,O_ 34 (.mv (t_ 8)) 0,O_ 35 (.ixs 5 (t_ 33) (t_ 34)) 0,O_ 36 (.ld 5 true (t_ 35)) 0,O_ 37 (.bs 5 1 [(.lit (.string ⟨#[]⟩)),(.lit (.bool false)),(.lit (.int .i64 0)),(.lit (.int .i64 0)),(.lit (.int .i64 0))] [(0,(t_ 36))]) 0,O_ 38 (.ap 5 48 (t_ 32) (t_ 37)) 1,O_ 7 (.mv (t_ 38)) 2]) .skip))) (R_ 0 [O_ 13 (.mv (t_ 8)) 0,O_ 14 (.bin .add (t_ 13) (i_ 1)) 0,O_ 8 (.mv (t_ 14)) 0])))))) (.seq (R_ 0 [O_ 39 (.mv (t_ 7)) 0,O_ 6 (.mv (t_ 39)) 0]) .ret))))
theorem gc70_ok:compF Tryz.prog Tryz.f70=some (gc70.er,40,[.tmp 6]):=by unfold gc70;kernel_rfl
theorem p_ref25_kind_o {u1:Bool} (a0:List MailEntry) (a1:Bool) (a2:ByteArray) (L:List MailEntry) (hL:L≠[]) (H:p_ref25_kind a0 a1 a2=some L):CallsS Tryz.prog 70 [.sl (List.map MailEntry.v a0) u1,.b a1,.s a2] [.fresh,.fresh] (.osl 0 0 (List.length L) 5 false) [.live (cellsM MailEntry.v L) 0,.fresh]:=by
 refine callsR_c (n0:=2) mix Tryz.func70 gc70_ok rfl ?_
 rw [p_ref25_kind] at H
 conv=>whnf
 obtain ⟨o2,HL3,HQ4⟩:=bind_c H
 refine loop_c [7,8] [9,10,11,12,13,14,15,16,17,18,19,20,21,22,23,24,25,26,27,28,29,30,31,32,33,34,35,36,37,38] [9,10,11,12,13,14,15,16,17,18,19,20,21,22,23,24,25,26,27,28,29,30,31,32,33,34,35,36,37,38] (fun n vals st=>(∃ y6,p_ref25_kind_l1  a0 a1 a2 n [] y6=some o2∧vals=[.sl (List.map MailEntry.v []) true,.i y6]∧st=[.fresh,.fresh])∨(∃ y16 y17,p_ref25_kind_l1  a0 a1 a2 n y16 y17=some o2∧y16≠[]∧vals=[.osl 2 0 (List.length y16) 5 false,.i y17]∧st=[.fresh,.fresh,.live (cellsM MailEntry.v y16) 0])) fuel 2 [] (.inl (⟨_,HL3,rfl,rfl⟩)) (Nat.le_of_ble_eq_true rfl) rfl (by kernel_rfl) (by kernel_rfl) rfl ⟨rfl,⟨rfl,trivial⟩⟩ ?_
 rintro (_ | n5) _ _ (⟨y6,H,rfl,rfl⟩ | ⟨y16,y17,H,hy16,rfl,rfl⟩)
 ·rw [p_ref25_kind_l1] at H;cases H
 ·rw [p_ref25_kind_l1] at H;cases H
 ·rw [p_ref25_kind_l1] at H
  conv=>whnf
  refine LenQ.M ?_;conv=>whnf
  refine tst_d H (fun b7 H=>?_) (fun b7 H=>?_)
  ·conv=>whnf
   obtain rfl:=Option.some.inj H
   have H:=HQ4
   try dsimp only at H
   exact absurd (Option.some.inj H).symm hL
  conv=>whnf
  refine ixs_c (f:=MailEntry.v) H (fun _=>rfl) (fun x8 H=>?_);conv=>whnf
  refine lq_ ?_;conv=>whnf
  refine lq_ ?_;conv=>whnf
  refine tst_d H (fun b9 H=>?_) (fun b9 H=>?_)
  ·conv=>whnf
   iterate 8 (refine Tst.F ?_;conv=>whnf)
   refine Ari.w ?_;conv=>whnf
   exact again_c [9,10,11,12,13,14,15,16,17,18,19,20,21,22,23,24,25,26,27,28,29,30,31,32,33,34,35,36,37,38] n5 2 [] (.inl (⟨_,H,rfl,rfl⟩)) (Nat.lt_succ_self _) (Nat.le_of_ble_eq_true rfl) rfl (by kernel_rfl) (by kernel_rfl) rfl ⟨rfl,⟨rfl,trivial⟩⟩
  conv=>whnf
  iterate 2 (refine Tst.T ?_;conv=>whnf)
  refine ixs_c (f:=MailEntry.v) H (fun _=>rfl) (fun x10 H=>?_);conv=>whnf
  refine Tst.T ?_;conv=>whnf
  refine lq_ ?_;conv=>whnf
  iterate 4 (refine Tst.T ?_;conv=>whnf)
  refine Tst.not ?_
  refine tst_c H (fun b11 H=>?_) (fun b11 H=>?_)
  ·conv=>whnf
   refine Ari.w ?_;conv=>whnf
   exact again_c [9,10,11,12,13,14,15,16,17,18,19,20,21,22,23,24,25,26,27,28,29,30,31,32,33,34,35,36,37,38] n5 2 [] (.inl (⟨_,H,rfl,rfl⟩)) (Nat.lt_succ_self _) (Nat.le_of_ble_eq_true rfl) rfl (by kernel_rfl) (by kernel_rfl) rfl ⟨rfl,⟨rfl,trivial⟩⟩
  conv=>whnf
  refine ixs_c (f:=MailEntry.v) H (fun _=>rfl) (fun x13 H=>?_);conv=>whnf
  refine appNq_c (f:=MailEntry.v) H (fun _=>rfl) (srcM (f:=MailEntry.v) (fun _=>rfl) [] true) rfl (.v (srcOwn (f:=MailEntry.v) (l:=[x13]) (fun _=>rfl) rfl rfl rfl)) (by decide) rfl (by simp) (fun l14 h15 H=>?_);conv=>whnf
  refine Ari.w ?_;conv=>whnf
  exact again_c [9,10,11,12,13,14,15,16,17,18,19,20,21,22,23,24,25,26,27,28,29,30,31,32,33,34,35,36,37,38] n5 3 [0,1,3] (.inr (⟨_,_,H,by assumption,rfl,rfl⟩)) (Nat.lt_succ_self _) (Nat.le_of_ble_eq_true rfl) rfl (by kernel_rfl) (by kernel_rfl) rfl ⟨rfl,⟨rfl,wkB_live0 rfl (cellsM_idlt (f:=MailEntry.v) (fun _=>rfl) _) rfl trivial⟩⟩
 rw [p_ref25_kind_l1] at H
 conv=>whnf
 refine LenQ.M ?_;conv=>whnf
 refine tst_d H (fun b19 H=>?_) (fun b19 H=>?_)
 ·conv=>whnf
  obtain rfl:=Option.some.inj H
  have H:=HQ4
  try dsimp only at H
  obtain rfl:=Option.some.inj H
  exact ⟨f_R [2,1] (.inr rfl) (.cons (.tmp rfl) .nil) rfl rfl rfl (fun i hi h=>owl_fix rfl hi h) (wkB_live0 rfl (cellsM_idlt (f:=MailEntry.v) (fun _=>rfl) _) rfl ⟨rfl,trivial⟩)⟩
 conv=>whnf
 refine ixs_c (f:=MailEntry.v) H (fun _=>rfl) (fun x20 H=>?_);conv=>whnf
 refine lq_ ?_;conv=>whnf
 refine lq_ ?_;conv=>whnf
 refine tst_d H (fun b21 H=>?_) (fun b21 H=>?_)
 ·conv=>whnf
  iterate 8 (refine Tst.F ?_;conv=>whnf)
  refine Ari.w ?_;conv=>whnf
  exact again_c [9,10,11,12,13,14,15,16,17,18,19,20,21,22,23,24,25,26,27,28,29,30,31,32,33,34,35,36,37,38] n5 3 [] (.inr (⟨_,_,H,by assumption,rfl,rfl⟩)) (Nat.lt_succ_self _) (Nat.le_of_ble_eq_true rfl) rfl (by kernel_rfl) (by kernel_rfl) rfl ⟨rfl,⟨rfl,wkB_live0 rfl (cellsM_idlt (f:=MailEntry.v) (fun _=>rfl) _) rfl trivial⟩⟩
 conv=>whnf
 iterate 2 (refine Tst.T ?_;conv=>whnf)
 refine ixs_c (f:=MailEntry.v) H (fun _=>rfl) (fun x22 H=>?_);conv=>whnf
 refine Tst.T ?_;conv=>whnf
 refine lq_ ?_;conv=>whnf
 iterate 4 (refine Tst.T ?_;conv=>whnf)
 refine Tst.not ?_
 refine tst_c H (fun b23 H=>?_) (fun b23 H=>?_)
 ·conv=>whnf
  refine Ari.w ?_;conv=>whnf
  exact again_c [9,10,11,12,13,14,15,16,17,18,19,20,21,22,23,24,25,26,27,28,29,30,31,32,33,34,35,36,37,38] n5 3 [] (.inr (⟨_,_,H,by assumption,rfl,rfl⟩)) (Nat.lt_succ_self _) (Nat.le_of_ble_eq_true rfl) rfl (by kernel_rfl) (by kernel_rfl) rfl ⟨rfl,⟨rfl,wkB_live0 rfl (cellsM_idlt (f:=MailEntry.v) (fun _=>rfl) _) rfl trivial⟩⟩
 conv=>whnf
 refine ixs_c (f:=MailEntry.v) H (fun _=>rfl) (fun x26 H=>?_);conv=>whnf
 refine appOq_c (f:=MailEntry.v) H (fun _=>rfl) rfl rfl (.v (srcOwn (f:=MailEntry.v) (l:=[x26]) (fun _=>rfl) rfl rfl rfl)) (by decide) rfl (by simp) (fun l27 h28 H=>?_);conv=>whnf
 refine Ari.w ?_;conv=>whnf
 exact again_c [9,10,11,12,13,14,15,16,17,18,19,20,21,22,23,24,25,26,27,28,29,30,31,32,33,34,35,36,37,38] n5 3 [0,1,4] (.inr (⟨_,_,H,by assumption,rfl,rfl⟩)) (Nat.lt_succ_self _) (Nat.le_of_ble_eq_true rfl) rfl (by kernel_rfl) (by kernel_rfl) rfl ⟨rfl,⟨rfl,wkB_live0 rfl (cellsM_idlt (f:=MailEntry.v) (fun _=>rfl) _) rfl trivial⟩⟩
theorem p_ref25_kind_z {u1:Bool} (a0:List MailEntry) (a1:Bool) (a2:ByteArray) (H:p_ref25_kind a0 a1 a2=some []):CallsS Tryz.prog 70 [.sl (List.map MailEntry.v a0) u1,.b a1,.s a2] [.fresh,.fresh] (.sl (List.map MailEntry.v ([]:List MailEntry)) true) [.fresh,.fresh]:=by
 refine callsR_c (n0:=2) mix Tryz.func70 gc70_ok rfl ?_
 rw [p_ref25_kind] at H
 conv=>whnf
 obtain ⟨o2,HL3,HQ4⟩:=bind_c H
 refine loop_c [7,8] [9,10,11,12,13,14,15,16,17,18,19,20,21,22,23,24,25,26,27,28,29,30,31,32,33,34,35,36,37,38] [9,10,11,12,13,14,15,16,17,18,19,20,21,22,23,24,25,26,27,28,29,30,31,32,33,34,35,36,37,38] (fun n vals st=>(∃ y6,p_ref25_kind_l1  a0 a1 a2 n [] y6=some o2∧vals=[.sl (List.map MailEntry.v []) true,.i y6]∧st=[.fresh,.fresh])∨(∃ y16 y17,p_ref25_kind_l1  a0 a1 a2 n y16 y17=some o2∧y16≠[]∧vals=[.osl 2 0 (List.length y16) 5 false,.i y17]∧st=[.fresh,.fresh,.live (cellsM MailEntry.v y16) 0])) fuel 2 [] (.inl (⟨_,HL3,rfl,rfl⟩)) (Nat.le_of_ble_eq_true rfl) rfl (by kernel_rfl) (by kernel_rfl) rfl ⟨rfl,⟨rfl,trivial⟩⟩ ?_
 rintro (_ | n5) _ _ (⟨y6,H,rfl,rfl⟩ | ⟨y16,y17,H,hy16,rfl,rfl⟩)
 ·rw [p_ref25_kind_l1] at H;cases H
 ·rw [p_ref25_kind_l1] at H;cases H
 ·rw [p_ref25_kind_l1] at H
  conv=>whnf
  refine LenQ.M ?_;conv=>whnf
  refine tst_d H (fun b7 H=>?_) (fun b7 H=>?_)
  ·conv=>whnf
   obtain rfl:=Option.some.inj H
   have H:=HQ4
   try dsimp only at H
   exact ⟨f_R [0,1] (.inr rfl) (.cons (.tmp rfl) .nil) rfl rfl rfl (fun i hi h=>owl_fix rfl hi h) ⟨rfl,⟨rfl,trivial⟩⟩⟩
  conv=>whnf
  refine ixs_c (f:=MailEntry.v) H (fun _=>rfl) (fun x8 H=>?_);conv=>whnf
  refine lq_ ?_;conv=>whnf
  refine lq_ ?_;conv=>whnf
  refine tst_d H (fun b9 H=>?_) (fun b9 H=>?_)
  ·conv=>whnf
   iterate 8 (refine Tst.F ?_;conv=>whnf)
   refine Ari.w ?_;conv=>whnf
   exact again_c [9,10,11,12,13,14,15,16,17,18,19,20,21,22,23,24,25,26,27,28,29,30,31,32,33,34,35,36,37,38] n5 2 [] (.inl (⟨_,H,rfl,rfl⟩)) (Nat.lt_succ_self _) (Nat.le_of_ble_eq_true rfl) rfl (by kernel_rfl) (by kernel_rfl) rfl ⟨rfl,⟨rfl,trivial⟩⟩
  conv=>whnf
  iterate 2 (refine Tst.T ?_;conv=>whnf)
  refine ixs_c (f:=MailEntry.v) H (fun _=>rfl) (fun x10 H=>?_);conv=>whnf
  refine Tst.T ?_;conv=>whnf
  refine lq_ ?_;conv=>whnf
  iterate 4 (refine Tst.T ?_;conv=>whnf)
  refine Tst.not ?_
  refine tst_c H (fun b11 H=>?_) (fun b11 H=>?_)
  ·conv=>whnf
   refine Ari.w ?_;conv=>whnf
   exact again_c [9,10,11,12,13,14,15,16,17,18,19,20,21,22,23,24,25,26,27,28,29,30,31,32,33,34,35,36,37,38] n5 2 [] (.inl (⟨_,H,rfl,rfl⟩)) (Nat.lt_succ_self _) (Nat.le_of_ble_eq_true rfl) rfl (by kernel_rfl) (by kernel_rfl) rfl ⟨rfl,⟨rfl,trivial⟩⟩
  conv=>whnf
  refine ixs_c (f:=MailEntry.v) H (fun _=>rfl) (fun x13 H=>?_);conv=>whnf
  refine appNq_c (f:=MailEntry.v) H (fun _=>rfl) (srcM (f:=MailEntry.v) (fun _=>rfl) [] true) rfl (.v (srcOwn (f:=MailEntry.v) (l:=[x13]) (fun _=>rfl) rfl rfl rfl)) (by decide) rfl (by simp) (fun l14 h15 H=>?_);conv=>whnf
  refine Ari.w ?_;conv=>whnf
  exact again_c [9,10,11,12,13,14,15,16,17,18,19,20,21,22,23,24,25,26,27,28,29,30,31,32,33,34,35,36,37,38] n5 3 [0,1,3] (.inr (⟨_,_,H,by assumption,rfl,rfl⟩)) (Nat.lt_succ_self _) (Nat.le_of_ble_eq_true rfl) rfl (by kernel_rfl) (by kernel_rfl) rfl ⟨rfl,⟨rfl,wkB_live0 rfl (cellsM_idlt (f:=MailEntry.v) (fun _=>rfl) _) rfl trivial⟩⟩
 rw [p_ref25_kind_l1] at H
 conv=>whnf
 refine LenQ.M ?_;conv=>whnf
 refine tst_d H (fun b19 H=>?_) (fun b19 H=>?_)
 ·conv=>whnf
  obtain rfl:=Option.some.inj H
  have H:=HQ4
  try dsimp only at H
  exact absurd (Option.some.inj H) hy16
 conv=>whnf
 refine ixs_c (f:=MailEntry.v) H (fun _=>rfl) (fun x20 H=>?_);conv=>whnf
 refine lq_ ?_;conv=>whnf
 refine lq_ ?_;conv=>whnf
 refine tst_d H (fun b21 H=>?_) (fun b21 H=>?_)
 ·conv=>whnf
  iterate 8 (refine Tst.F ?_;conv=>whnf)
  refine Ari.w ?_;conv=>whnf
  exact again_c [9,10,11,12,13,14,15,16,17,18,19,20,21,22,23,24,25,26,27,28,29,30,31,32,33,34,35,36,37,38] n5 3 [] (.inr (⟨_,_,H,by assumption,rfl,rfl⟩)) (Nat.lt_succ_self _) (Nat.le_of_ble_eq_true rfl) rfl (by kernel_rfl) (by kernel_rfl) rfl ⟨rfl,⟨rfl,wkB_live0 rfl (cellsM_idlt (f:=MailEntry.v) (fun _=>rfl) _) rfl trivial⟩⟩
 conv=>whnf
 iterate 2 (refine Tst.T ?_;conv=>whnf)
 refine ixs_c (f:=MailEntry.v) H (fun _=>rfl) (fun x22 H=>?_);conv=>whnf
 refine Tst.T ?_;conv=>whnf
 refine lq_ ?_;conv=>whnf
 iterate 4 (refine Tst.T ?_;conv=>whnf)
 refine Tst.not ?_
 refine tst_c H (fun b23 H=>?_) (fun b23 H=>?_)
 ·conv=>whnf
  refine Ari.w ?_;conv=>whnf
  exact again_c [9,10,11,12,13,14,15,16,17,18,19,20,21,22,23,24,25,26,27,28,29,30,31,32,33,34,35,36,37,38] n5 3 [] (.inr (⟨_,_,H,by assumption,rfl,rfl⟩)) (Nat.lt_succ_self _) (Nat.le_of_ble_eq_true rfl) rfl (by kernel_rfl) (by kernel_rfl) rfl ⟨rfl,⟨rfl,wkB_live0 rfl (cellsM_idlt (f:=MailEntry.v) (fun _=>rfl) _) rfl trivial⟩⟩
 conv=>whnf
 refine ixs_c (f:=MailEntry.v) H (fun _=>rfl) (fun x26 H=>?_);conv=>whnf
 refine appOq_c (f:=MailEntry.v) H (fun _=>rfl) rfl rfl (.v (srcOwn (f:=MailEntry.v) (l:=[x26]) (fun _=>rfl) rfl rfl rfl)) (by decide) rfl (by simp) (fun l27 h28 H=>?_);conv=>whnf
 refine Ari.w ?_;conv=>whnf
 exact again_c [9,10,11,12,13,14,15,16,17,18,19,20,21,22,23,24,25,26,27,28,29,30,31,32,33,34,35,36,37,38] n5 3 [0,1,4] (.inr (⟨_,_,H,by assumption,rfl,rfl⟩)) (Nat.lt_succ_self _) (Nat.le_of_ble_eq_true rfl) rfl (by kernel_rfl) (by kernel_rfl) rfl ⟨rfl,⟨rfl,wkB_live0 rfl (cellsM_idlt (f:=MailEntry.v) (fun _=>rfl) _) rfl trivial⟩⟩
theorem p_ref25_kind_c {β:Type} {r:β} {st:List Slot} {i j:Nat} {u1:Bool} {a0:List MailEntry} {a1:Bool} {a2:ByteArray} {X:List MailEntry→Option β} {K:V→List Nat→List Nat→List Slot→Prop} (H:(p_ref25_kind a0 a1 a2).bind X=some r) (hij:i≠j) (hi:st[i]?=some .fresh) (hj:st[j]?=some .fresh)
  (h0:X []=some r→ssetK st i .fresh fun st1=>ssetK st1 j .fresh fun st2=>K (.sl (List.map MailEntry.v ([]:List MailEntry)) true) [] [i,j] st2) (h1:∀ L,X L=some r→ssetK st i (.live (cellsM MailEntry.v L) 0) fun st1=>ssetK st1 j .fresh fun st2=>K (.osl i 0 (List.length L) 5 false) [] [i,j] st2):Ask Tryz.prog 70 [.sl (List.map MailEntry.v a0) u1,.b a1,.s a2] st K:=by
 obtain ⟨L,hL,H⟩:=bind_c H
 by_cases e:L=[]
 ·subst e
  have h:=h0 H
  rw [ssetK_eq,ssetK_eq] at h
  exact Ask_L (rd:=[]) (ef:=[(i,.fresh),(j,.fresh)]) (fun st2 _ h2=>callsS_new (p_ref25_kind_z a0 a1 a2 hL) rfl hij ((h2 i (.inr (by simp))).trans hi) ((h2 j (.inr (by simp))).trans hj) (fun cs f h=>by rcases h with h | h <;> cases h)) h
 ·have h:=h1 L H
  rw [ssetK_eq,ssetK_eq] at h
  exact Ask_L (rd:=[]) (ef:=[(i,.live (cellsM MailEntry.v L) 0),(j,.fresh)]) (fun st2 _ h2=>callsS_new (p_ref25_kind_o a0 a1 a2 L e hL) rfl hij ((h2 i (.inr (by simp))).trans hi) ((h2 j (.inr (by simp))).trans hj) (fun cs f h=>by rcases h with h | h <;> first | (cases h;done) | (simp only [Slot.live.injEq] at h;obtain ⟨rfl,rfl⟩:=h;exact litL_M (fun _=>rfl) _))) h
end Go.Proofs.YthnihifblmnkdaaGreat

