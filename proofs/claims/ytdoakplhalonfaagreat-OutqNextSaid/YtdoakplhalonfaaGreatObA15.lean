/- A part of the proof: 2 texts joined. -/
import Derived.Test.YtdoakplhalonfaaGreatObA11
import Derived.Test.YtdoakplhalonfaaGreatObA14
import Derived.Test.YtdoakplhalonfaaGreatObA9
import Derived.Test.YtdoakplhalonfaaGreatObA5
import Derived.Test.YtdoakplhalonfaaGreatObA1
import Derived.KernelRfl
set_option linter.all false
namespace Go.Proofs.YtdoakplhalonfaaGreat
open Go.RowKit Go.Deep
theorem repAr3 {m:Mem} {a b c:Value} {x y z:V} (h1:Rep m noBk a x) (h2:Rep m noBk b y) (h3:Rep m noBk c z):RepA m noBk #[a,b,c] [x,y,z] :=
 ⟨rfl,fun j g1 g2=>match j,g1 with
  | 0,_=>h1
  | 1,_=>h2
  | 2,_=>h3
  | j + 3,g=>absurd g (by simp)⟩
theorem outqNext_all (s:Ref27State) (e:SnapEyes) (b:BookState):p_law27_OutqNext s e b=some true:=outqNext_pure p_law27_awake_true s e b
end Go.Proofs.YtdoakplhalonfaaGreat

namespace Go.Proofs.YtdoakplhalonfaaGreat
open Go.RowKit
set_option maxRecDepth 100000
set_option maxHeartbeats 4000000
def gc41:BCode:=(.seq (R_ 0 [O_ 2 (.mv (.const (.slice none 0 0))) 0]) (.seq (R_ 0 [O_ 3 (.mv (.const (.slice none 0 0))) 0]) (.seq (.seq (R_ 0 [O_ 4 (.mv (i_ 0)) 0]) (.block 0 (.loop (.seq (.seq (R_ 0 [O_ 5 (.mv (t_ 4)) 0,O_ 6 (.mv (t_ 0)) 0,O_ 7 (.lens (t_ 6)) 0,O_ 8 (.bin .lss (t_ 5) (t_ 7)) 0]) (.cond (t_ 8) .skip (.exit 0))) (.seq (.block 1 (.reg 2 [O_ 11 (.mv (t_ 3)) 0,O_ 12 (.mv (t_ 0)) 0,O_ 13 (.mv (t_ 4)) 0,O_ 14 (.ixs 5 (t_ 12) (t_ 13)) 0,O_ 15 (.fa 0 (t_ 14)) 0,O_ 16 (.ld 1 false (t_ 15)) 0,O_ 17 (.mv (t_ 0)) 0,O_ 18 (.mv (t_ 4)) 0,O_ 19 (.ixs 5 (t_ 17) (t_ 18)) 0,O_ 20 (.fa 1 (t_ 19)) 0,O_ 21 (.ld 4 true (t_ 20)) 0,O_ 22 (.bd [(.lit (.string ⟨#[]⟩)),(.lit (.bool false)),(.lit (.int .i64 0)),(.lit (.int .i64 0)),(.lit (.int .i64 0))] [(0,1,(t_ 16)),(1,4,(t_ 21))]) 0,O_ 23 (.bs 5 1 [(.lit (.string ⟨#[]⟩)),(.lit (.bool false)),(.lit (.int .i64 0)),(.lit (.int .i64 0)),(.lit (.int .i64 0))] [(0,(t_ 22))]) 0,O_ 24 (.ap 5 48 (t_ 11) (t_ 23)) 1,O_ 3 (.mv (t_ 24)) 2] (some [[],[],[],[2,1],[1,2,3],[3,2,1,4],[],[],[7,6],[6,7,8],[8,7,6,9],[9,6,7,8,10,4,1,2,3,5],[5,3,2,1,4,10,8,7,6,9,11],[11,9,6,7,8,10,4,1,2,3,5,12,0],[0,12,5,3,2,1,4,10,8,7,6,9,11,13]]) 0 [])) (R_ 0 [O_ 9 (.mv (t_ 4)) 0,O_ 10 (.bin .add (t_ 9) (i_ 1)) 0,O_ 4 (.mv (t_ 10)) 0])))))) (.seq (R_ 0 [O_ 25 (.mv (t_ 3)) 0,O_ 2 (.mv (t_ 25)) 0]) .ret))))
theorem gc41_ok:compF Tryz.prog Tryz.f41=some (gc41.er,26,[.tmp 2]):=by unfold gc41;kernel_rfl
theorem p_law25_Own_v {u1:Bool} (a0:List MailEntry):CallsO Tryz.prog 41 [.sl (List.map MailEntry.v a0) u1] (fun l:List MailEntry=>V.sl (l.map MailEntry.v) false) (p_law25_Own a0):=by
 refine callsO_comp mix Tryz.func41 gc41_ok fun r H=>?_
 rw [p_law25_Own] at H
 conv=>whnf
 obtain ⟨o2,HL3,HQ4⟩:=bind_c H
 refine loop_c [3,4] [5,6,7,8,9,10,11,12,13,14,15,16,17,18,19,20,21,22,23,24] [5,6,7,8,9,10,11,12,13,14,15,16,17,18,19,20,21,22,23,24] (fun n vals st=>(∃ y6,p_law25_Own_l1  a0 n [] y6=some o2∧vals=[.sl (List.map MailEntry.v []) true,.i y6]∧st=[])∨(∃ y11 y12,p_law25_Own_l1  a0 n y11 y12=some o2∧vals=[.osl 0 0 (List.length y11) 5 false,.i y12]∧st=[.live (cellsM MailEntry.v y11) (cellsM MailEntry.v y11).length])) fuel 0 [] (.inl (⟨_,HL3,rfl,rfl⟩)) (Nat.zero_le _) rfl (by kernel_rfl) (by kernel_rfl) rfl trivial ?_
 rintro (_ | n5) _ _ (⟨y6,H,rfl,rfl⟩ | ⟨y11,y12,H,rfl,rfl⟩)
 ·rw [p_law25_Own_l1] at H;cases H
 ·rw [p_law25_Own_l1] at H;cases H
 ·rw [p_law25_Own_l1] at H
  conv=>whnf
  refine LenQ.M ?_;conv=>whnf
  refine tst_d H (fun b7 H=>?_) (fun b7 H=>?_)
  ·conv=>whnf
   obtain rfl:=Option.some.inj H
   have H:=HQ4
   try dsimp only at H
   refine finR_c (enc:=(fun l:List MailEntry=>V.sl (l.map MailEntry.v) false)) H ?_;conv=>whnf
   exact ⟨_,.v (.c (.slw))⟩
  conv=>whnf
  refine ixs_c (f:=MailEntry.v) H (fun _=>rfl) (fun x8 H=>?_);conv=>whnf
  refine lq_ ?_;conv=>whnf
  refine ixs_c (f:=MailEntry.v) H (fun _=>rfl) (fun x9 H=>?_);conv=>whnf
  refine lq_ ?_;conv=>whnf
  refine appN_c (f:=MailEntry.v) H (fun _=>rfl) (srcM (f:=MailEntry.v) (fun _=>rfl) [] true) rfl (.v (srcOwn (f:=MailEntry.v) (l:=[(MailEntry.mk x8.Key x9.P)]) (fun _=>rfl) rfl rfl rfl)) (by decide) rfl (by simp) (fun l10 H=>?_);conv=>whnf
  refine FootQ.mk ⟨rfl,?_⟩;conv=>whnf
  refine Ari.w ?_;conv=>whnf
  exact again_c [5,6,7,8,9,10,11,12,13,14,15,16,17,18,19,20,21,22,23,24] n5 1 [1] (.inr (⟨_,_,H,rfl,rfl⟩)) (Nat.lt_succ_self _) (Nat.zero_le _) rfl (by kernel_rfl) (by kernel_rfl) rfl (wkB_live0 rfl (cellsM_idlt (f:=MailEntry.v) (fun _=>rfl) _) rfl trivial)
 rw [p_law25_Own_l1] at H
 conv=>whnf
 refine LenQ.M ?_;conv=>whnf
 refine tst_d H (fun b13 H=>?_) (fun b13 H=>?_)
 ·conv=>whnf
  obtain rfl:=Option.some.inj H
  have H:=HQ4
  try dsimp only at H
  refine finR_c (enc:=(fun l:List MailEntry=>V.sl (l.map MailEntry.v) false)) H ?_;conv=>whnf
  exact ⟨_,.v (.c (fzown (f:=MailEntry.v) (l:=y11) rfl rfl (fun _=>rfl) (fun _=>rfl)))⟩
 conv=>whnf
 refine ixs_c (f:=MailEntry.v) H (fun _=>rfl) (fun x14 H=>?_);conv=>whnf
 refine lq_ ?_;conv=>whnf
 refine ixs_c (f:=MailEntry.v) H (fun _=>rfl) (fun x15 H=>?_);conv=>whnf
 refine lq_ ?_;conv=>whnf
 refine appO_c (f:=MailEntry.v) H (fun _=>rfl) rfl (Nat.le_refl _) (.v (srcOwn (f:=MailEntry.v) (l:=[(MailEntry.mk x14.Key x15.P)]) (fun _=>rfl) rfl rfl rfl)) (by decide) rfl (by simp) (fun l16 H=>?_);conv=>whnf
 refine FootQ.mk ⟨rfl,?_⟩;conv=>whnf
 refine Ari.w ?_;conv=>whnf
 exact again_c [5,6,7,8,9,10,11,12,13,14,15,16,17,18,19,20,21,22,23,24] n5 1 [2] (.inr (⟨_,_,H,rfl,rfl⟩)) (Nat.lt_succ_self _) (Nat.zero_le _) rfl (by kernel_rfl) (by kernel_rfl) rfl (wkB_live0 rfl (cellsM_idlt (f:=MailEntry.v) (fun _=>rfl) _) rfl trivial)
def gc9:BCode:=(.seq (R_ 2 [O_ 1 (.bx (t_ 0)) 0,O_ 2 (.al (.agg [(.sl [] true),(.lit (.bool false)),(.lit (.bool false)),(.lit (.string ⟨#[]⟩)),(.lit (.int .i64 0)),(.lit (.int .i64 0)),(.lit (.int .i64 0))])) 1]) (.seq (.reg 0 [O_ 3 (.fa 0 (t_ 1)) 0,O_ 4 (.ld 1 false (t_ 3)) 0,O_ 5 (.cl 41 [(t_ 4)]) 0,O_ 6 (.fa 1 (t_ 1)) 0,O_ 7 (.ld 4 true (t_ 6)) 0,O_ 8 (.fa 5 (t_ 1)) 0,O_ 9 (.ld 1 false (t_ 8)) 0,O_ 10 (.fa 6 (t_ 1)) 0,O_ 11 (.ld 1 false (t_ 10)) 0,O_ 12 (.bd [(.sl [] true),(.lit (.bool false)),(.lit (.bool false)),(.lit (.string ⟨#[]⟩)),(.lit (.int .i64 0)),(.lit (.int .i64 0)),(.lit (.int .i64 0))] [(0,1,(t_ 5)),(1,4,(t_ 7)),(5,1,(t_ 9)),(6,1,(t_ 11))]) 0,U_ (.st 7 (t_ 2) (t_ 12)) 0] (some [[],[0],[0,1],[],[3],[],[5],[],[7],[7,8,5,6,3,4,1,0,2],[2,0,1,4,3,6,5,8,7,9]]) 0 []) .ret))
theorem gc9_ok:compF Tryz.prog Tryz.f9=some (gc9.er,13,[.cell 2 7 true]):=by unfold gc9;kernel_rfl
theorem p_law27_own_v {u1:Bool} (a0:Ref27State):CallsO Tryz.prog 9 [.agg [.sl (List.map MailEntry.v a0.Mail) u1,.b a0.Snap.On,.b a0.Snap.Begun,.s a0.Snap.After,.i a0.Snap.Told,.i a0.Sent,.i a0.Lost]] Ref27State.v (p_law27_own a0):=by
 refine callsO_comp mix Tryz.func9 gc9_ok fun r H=>?_
 rw [p_law27_own] at H
 conv=>whnf
 refine ask_c (p_law25_Own_v _) H rfl rfl (fun v1 H=>?_);conv=>whnf
 refine lq_ ?_;conv=>whnf
 refine FootQ.mk ⟨rfl,?_⟩;conv=>whnf
 exact fin0_c (enc:=Ref27State.v) H (.inr rfl) (.cons (.cell rfl rfl (Nat.le_of_ble_eq_true rfl)) (.nil)) rfl rfl
def gc26:BCode:=(.seq (R_ 2 [O_ 1 (.bx (t_ 0)) 0,O_ 2 (.al (.agg [(.lit (.int .i64 0)),(.sl [] true)])) 1]) (.seq (R_ 1 [O_ 5 (.fa 0 (t_ 1)) 0,O_ 6 (.ld 1 false (t_ 5)) 0,O_ 7 (.bd [(.lit (.int .i64 0)),(.sl [] true)] [(0,1,(t_ 6))]) 0,O_ 3 (.al (.agg [(.lit (.int .i64 0)),(.sl [] true)])) 0,U_ (.st 2 (t_ 3) (t_ 7)) 1]) (.seq (.seq (R_ 0 [O_ 4 (.mv (i_ 0)) 0]) (.block 0 (.loop (.seq (.seq (R_ 0 [O_ 8 (.mv (t_ 4)) 0,O_ 9 (.fa 1 (t_ 1)) 0,O_ 10 (.ld 1 false (t_ 9)) 0,O_ 11 (.lens (t_ 10)) 0,O_ 12 (.bin .lss (t_ 8) (t_ 11)) 0]) (.cond (t_ 12) .skip (.exit 0))) (.seq (.block 1 (.reg 2 [O_ 15 (.fa 1 (t_ 3)) 0,O_ 16 (.ld 1 false (t_ 15)) 0,O_ 17 (.fa 1 (t_ 1)) 0,O_ 18 (.ld 1 false (t_ 17)) 0,O_ 19 (.mv (t_ 4)) 0,O_ 20 (.ixs 6 (t_ 18) (t_ 19)) 0,O_ 21 (.fa 0 (t_ 20)) 0,O_ 22 (.ld 1 false (t_ 21)) 0,O_ 23 (.fa 1 (t_ 1)) 0,O_ 24 (.ld 1 false (t_ 23)) 0,O_ 25 (.mv (t_ 4)) 0,O_ 26 (.ixs 6 (t_ 24) (t_ 25)) 0,O_ 27 (.fa 1 (t_ 26)) 0,O_ 28 (.ld 1 false (t_ 27)) 0,O_ 29 (.fa 1 (t_ 1)) 0,O_ 30 (.ld 1 false (t_ 29)) 0,O_ 31 (.mv (t_ 4)) 0,O_ 32 (.ixs 6 (t_ 30) (t_ 31)) 0,O_ 33 (.fa 2 (t_ 32)) 0,O_ 34 (.ld 4 true (t_ 33)) 0,O_ 35 (.bd [(.lit (.string ⟨#[]⟩)),(.lit (.string ⟨#[]⟩)),(.lit (.bool false)),(.lit (.int .i64 0)),(.lit (.int .i64 0)),(.lit (.int .i64 0))] [(0,1,(t_ 22)),(1,1,(t_ 28)),(2,4,(t_ 34))]) 0,O_ 36 (.bs 6 1 [(.lit (.string ⟨#[]⟩)),(.lit (.string ⟨#[]⟩)),(.lit (.bool false)),(.lit (.int .i64 0)),(.lit (.int .i64 0)),(.lit (.int .i64 0))] [(0,(t_ 35))]) 0,O_ 37 (.ap 6 64 (t_ 16) (t_ 36)) 1,O_ 38 (.fa 1 (t_ 3)) 2,U_ (.st 1 (t_ 38) (t_ 37)) 2] (some [[],[0],[],[2],[],[4,2,3],[3,2,4,5],[5,4,2,3,6],[],[8],[],[10,8,9],[9,8,10,11],[11,10,8,9,12],[],[14],[],[16,14,15],[15,14,16,17],[17,16,14,15,18],[18,15,14,16,17,19,12,9,8,10,11,13,6,3,2,4,5,7],[7,5,4,2,3,6,13,11,10,8,9,12,19,17,16,14,15,18,20],[20,18,15,14,16,17,19,12,9,8,10,11,13,6,3,2,4,5,7,21,0,1],[22,21,20,19,18,17,16,15,14,13,12,11,10,9,8,7,6,5,4,3,2,1,0],[0,1,2,3,4,5,6,7,8,9,10,11,12,13,14,15,16,17,18,19,20,21,22,23]]) 0 [])) (R_ 0 [O_ 13 (.mv (t_ 4)) 0,O_ 14 (.bin .add (t_ 13) (i_ 1)) 0,O_ 4 (.mv (t_ 14)) 0])))))) (.seq (R_ 0 [O_ 39 (.ld 2 true (t_ 3)) 0,U_ (.st 2 (t_ 2) (t_ 39)) 0]) .ret))))
theorem gc26_ok:compF Tryz.prog Tryz.f26=some (gc26.er,40,[.cell 2 2 true]):=by unfold gc26;kernel_rfl
theorem p_law26_Book_v {u1:Bool} (a0:BookState):CallsO Tryz.prog 26 [.agg [.i a0.Seq,.sl (List.map BookRow.v a0.Rows) u1]] BookState.v (p_law26_Book a0):=by
 refine callsO_comp mix Tryz.func26 gc26_ok fun r H=>?_
 rw [p_law26_Book] at H
 conv=>whnf
 refine lq_ ?_;conv=>whnf
 obtain ⟨o2,HL3,HQ4⟩:=bind_c H
 refine loop_c [4] [8,9,10,11,12,13,14,15,16,17,18,19,20,21,22,23,24,25,26,27,28,29,30,31,32,33,34,35,36,37,38,5] [8,9,10,11,12,13,14,15,16,17,18,19,20,21,22,23,24,25,26,27,28,29,30,31,32,33,34,35,36,37,38,5] (fun n vals st=>(∃ y6 y7,p_law26_Book_l1  a0 n y6 y7=some o2∧vals=[.i y6]∧st=[.live [.i a0.Seq,.sl (List.map BookRow.v a0.Rows) u1] 0,.live [.i (0:Int),.sl (List.map BookRow.v []) true] 0,.live [.i y7.Seq,.sl (List.map BookRow.v y7.Rows) true] 0])∨(∃ y13 y14,p_law26_Book_l1  a0 n y13 y14=some o2∧vals=[.i y13]∧st=[.live [.i a0.Seq,.sl (List.map BookRow.v a0.Rows) u1] 0,.live [.i (0:Int),.sl (List.map BookRow.v []) true] 0,.live [.i y14.Seq,.osl 3 0 (List.length y14.Rows) 6 false] 0,.live (cellsM BookRow.v y14.Rows) (cellsM BookRow.v y14.Rows).length])) fuel 3 [] (.inl (⟨_,_,HL3,rfl,rfl⟩)) (Nat.zero_le _) rfl (by kernel_rfl) (by kernel_rfl) rfl ⟨⟨rfl,rfl,rfl⟩,⟨⟨rfl,rfl,rfl⟩,⟨⟨rfl,rfl,rfl⟩,trivial⟩⟩⟩ ?_
 rintro (_ | n5) _ _ (⟨y6,y7,H,rfl,rfl⟩ | ⟨y13,y14,H,rfl,rfl⟩)
 ·rw [p_law26_Book_l1] at H;cases H
 ·rw [p_law26_Book_l1] at H;cases H
 ·rw [p_law26_Book_l1] at H
  conv=>whnf
  refine LenQ.M ?_;conv=>whnf
  refine tst_d H (fun b8 H=>?_) (fun b8 H=>?_)
  ·conv=>whnf
   obtain rfl:=Option.some.inj H
   have H:=HQ4
   try dsimp only at H
   refine lq_ ?_;conv=>whnf
   refine finR_c (enc:=BookState.v) H ?_;conv=>whnf
   exact ⟨_,.v (fzagg (.cons (.id rfl) (.cons (.slw) (.nil))) rfl)⟩
  conv=>whnf
  refine ixs_c (f:=BookRow.v) H (fun _=>rfl) (fun x9 H=>?_);conv=>whnf
  refine lq_ ?_;conv=>whnf
  refine ixs_c (f:=BookRow.v) H (fun _=>rfl) (fun x10 H=>?_);conv=>whnf
  refine lq_ ?_;conv=>whnf
  refine ixs_c (f:=BookRow.v) H (fun _=>rfl) (fun x11 H=>?_);conv=>whnf
  refine lq_ ?_;conv=>whnf
  refine appN_c (f:=BookRow.v) H (fun _=>rfl) (srcM (f:=BookRow.v) (fun _=>rfl) _ _) rfl (.v (srcOwn (f:=BookRow.v) (l:=[(BookRow.mk x9.User x10.Res x11.P)]) (fun _=>rfl) rfl rfl rfl)) (by decide) rfl (by simp) (fun l12 H=>?_);conv=>whnf
  refine lq_ ?_;conv=>whnf
  refine FootQ.mk ⟨rfl,?_⟩;conv=>whnf
  refine Ari.w ?_;conv=>whnf
  exact again_c [8,9,10,11,12,13,14,15,16,17,18,19,20,21,22,23,24,25,26,27,28,29,30,31,32,33,34,35,36,37,38,5] n5 4 [0,1,2,4] (.inr (⟨_,_,H,rfl,rfl⟩)) (Nat.lt_succ_self _) (Nat.zero_le _) rfl (by kernel_rfl) (by kernel_rfl) rfl ⟨⟨rfl,rfl,rfl⟩,⟨⟨rfl,rfl,rfl⟩,⟨⟨rfl,rfl,rfl⟩,wkB_live0 rfl (cellsM_idlt (f:=BookRow.v) (fun _=>rfl) _) rfl trivial⟩⟩⟩
 rw [p_law26_Book_l1] at H
 conv=>whnf
 refine LenQ.M ?_;conv=>whnf
 refine tst_d H (fun b15 H=>?_) (fun b15 H=>?_)
 ·conv=>whnf
  obtain rfl:=Option.some.inj H
  have H:=HQ4
  try dsimp only at H
  refine lq_ ?_;conv=>whnf
  refine finR_c (enc:=BookState.v) H ?_;conv=>whnf
  exact ⟨_,.v (fzagg (.cons (.id rfl) (.cons (fzown (f:=BookRow.v) (l:=y14.Rows) rfl rfl (fun _=>rfl) (fun _=>rfl)) (.nil))) rfl)⟩
 conv=>whnf
 refine ixs_c (f:=BookRow.v) H (fun _=>rfl) (fun x16 H=>?_);conv=>whnf
 refine lq_ ?_;conv=>whnf
 refine ixs_c (f:=BookRow.v) H (fun _=>rfl) (fun x17 H=>?_);conv=>whnf
 refine lq_ ?_;conv=>whnf
 refine ixs_c (f:=BookRow.v) H (fun _=>rfl) (fun x18 H=>?_);conv=>whnf
 refine lq_ ?_;conv=>whnf
 refine appO_c (f:=BookRow.v) H (fun _=>rfl) rfl (Nat.le_refl _) (.v (srcOwn (f:=BookRow.v) (l:=[(BookRow.mk x16.User x17.Res x18.P)]) (fun _=>rfl) rfl rfl rfl)) (by decide) rfl (by simp) (fun l19 H=>?_);conv=>whnf
 refine lq_ ?_;conv=>whnf
 refine FootQ.mk ⟨rfl,?_⟩;conv=>whnf
 refine Ari.w ?_;conv=>whnf
 exact again_c [8,9,10,11,12,13,14,15,16,17,18,19,20,21,22,23,24,25,26,27,28,29,30,31,32,33,34,35,36,37,38,5] n5 4 [0,1,2,5] (.inr (⟨_,_,H,rfl,rfl⟩)) (Nat.lt_succ_self _) (Nat.zero_le _) rfl (by kernel_rfl) (by kernel_rfl) rfl ⟨⟨rfl,rfl,rfl⟩,⟨⟨rfl,rfl,rfl⟩,⟨⟨rfl,rfl,rfl⟩,wkB_live0 rfl (cellsM_idlt (f:=BookRow.v) (fun _=>rfl) _) rfl trivial⟩⟩⟩
def gc58:BCode:=(.seq (R_ 0 [O_ 2 (.mv (.const (.string ⟨#[]⟩))) 0,O_ 3 (.mv (.const (.string ⟨#[]⟩))) 0,O_ 4 (.mv (i_ 0)) 0]) (.seq (R_ 0 [O_ 5 (.mv (i_ 0)) 0]) (.seq (.block 0 (.loop (.seq (.seq (R_ 0 [O_ 8 (.mv (t_ 5)) 0,O_ 9 (.mv (t_ 0)) 0,O_ 10 (.lent (t_ 9)) 0,O_ 11 (.bin .lss (t_ 8) (t_ 10)) 0,O_ 12 (.mv (t_ 11)) 0,⟨(some 13),.mv (t_ 0),(some (12,true)),0⟩,⟨(some 14),.mv (t_ 5),(some (12,true)),0⟩,⟨(some 15),.ixt (t_ 13) (t_ 14),(some (12,true)),0⟩,⟨(some 16),.bin .neq (t_ 15) (.const (.int .u8 32)),(some (12,true)),0⟩,O_ 17 (.pick (t_ 12) (t_ 16) (b_ false)) 0]) (.cond (t_ 17) .skip (.exit 0))) (.block 1 (R_ 0 [O_ 18 (.mv (t_ 5)) 0,O_ 19 (.bin .add (t_ 18) (i_ 1)) 0,O_ 5 (.mv (t_ 19)) 0]))))) (.seq (.seq (R_ 0 [O_ 20 (.mv (t_ 5)) 0,O_ 21 (.mv (t_ 0)) 0,O_ 22 (.lent (t_ 21)) 0,O_ 23 (.bin .eql (t_ 20) (t_ 22)) 0]) (.cond (t_ 23) (.seq (R_ 0 [O_ 2 (.mv (.const (.string ⟨#[]⟩))) 0,O_ 3 (.mv (.const (.string ⟨#[]⟩))) 0,O_ 4 (.mv (i_ 4)) 0]) .ret) .skip)) (.seq (.reg 0 [O_ 24 (.mv (t_ 0)) 0,O_ 25 (.mv (t_ 5)) 0,O_ 26 (.slt (t_ 24) none (some (t_ 25))) 0,O_ 27 (.mv (t_ 0)) 0,O_ 28 (.mv (t_ 5)) 0,O_ 29 (.bin .add (t_ 28) (i_ 1)) 0,O_ 30 (.slt (t_ 27) (some (t_ 29)) none) 0,O_ 6 (.mv (t_ 26)) 0,O_ 7 (.mv (t_ 30)) 0] (some [[],[],[1,0],[],[],[4],[4,5,3],[0,1,2],[2,1,0,7,3,5,4,6]]) 0 []) (.seq (.block 2 (.seq (R_ 0 [O_ 32 (.mv (t_ 6)) 0,O_ 33 (.cl 91 [(t_ 32)]) 0,O_ 34 (.un .not (t_ 33)) 0,O_ 31 (.mv (t_ 34)) 0]) (.cond (t_ 31) (.seq (R_ 0 [O_ 2 (.mv (.const (.string ⟨#[]⟩))) 0,O_ 3 (.mv (.const (.string ⟨#[]⟩))) 0,O_ 4 (.mv (i_ 11)) 0]) .ret) (.seq (R_ 0 [O_ 36 (.mv (t_ 7)) 0,O_ 37 (.cl 92 [(t_ 36)]) 0,O_ 38 (.bin .neq (t_ 37) (i_ 0)) 0,O_ 35 (.mv (t_ 38)) 0]) (.cond (t_ 35) (.seq (R_ 0 [O_ 39 (.mv (t_ 7)) 0,O_ 40 (.cl 92 [(t_ 39)]) 0,O_ 2 (.mv (.const (.string ⟨#[]⟩))) 0,O_ 3 (.mv (.const (.string ⟨#[]⟩))) 0,O_ 4 (.mv (t_ 40)) 0]) .ret) .skip))))) (.seq (R_ 0 [O_ 41 (.mv (t_ 6)) 0,O_ 42 (.mv (t_ 7)) 0,O_ 2 (.mv (t_ 41)) 0,O_ 3 (.mv (t_ 42)) 0,O_ 4 (.mv (i_ 0)) 0]) .ret)))))))
theorem gc58_ok:compF Tryz.prog Tryz.f58=some (gc58.er,43,[.tmp 2,.tmp 3,.tmp 4]):=by unfold gc58;kernel_rfl
theorem p_ref23_Split_v (a0:ByteArray):CallsO Tryz.prog 58 [.s a0] (fun r:ByteArray × ByteArray × Int=>.tup [V.s r.1,V.s r.2.1,V.i r.2.2]) (p_ref23_Split a0):=by
 refine callsO_comp mix Tryz.func58 gc58_ok fun r H=>?_
 rw [p_ref23_Split] at H
 conv=>whnf
 obtain ⟨o2,HL3,HQ4⟩:=bind_c H
 refine loop_c [5] [8,9,10,11,12,13,14,15,16,17,18,19] [8,9,10,11,12,13,14,15,16,17,18,19] (fun n vals st=>(∃ y6,p_ref23_Split_l1  a0 n y6=some o2∧vals=[.i y6]∧st=[])) fuel 0 [] (⟨_,HL3,rfl,rfl⟩) (Nat.zero_le _) rfl (by kernel_rfl) (by kernel_rfl) rfl trivial ?_
 rintro (_ | n5) _ _ (⟨y6,H,rfl,rfl⟩)
 ·rw [p_ref23_Split_l1] at H;cases H
 rw [p_ref23_Split_l1] at H
 conv=>whnf
 refine tst_d H (fun b7 H=>?_) (fun b7 H=>?_)
 ·conv=>whnf
  iterate 5 (refine Tst.F ?_;conv=>whnf)
  obtain rfl:=Option.some.inj H
  have H:=HQ4
  try dsimp only at H
  refine tst_c H (fun b18 H=>?_) (fun b18 H=>?_)
  ·conv=>whnf
   exact fin0_c (enc:=(fun r:ByteArray × ByteArray × Int=>.tup [V.s r.1,V.s r.2.1,V.i r.2.2])) H (.inr rfl) (.cons (.tmp rfl) (.cons (.tmp rfl) (.cons (.tmp rfl) (.nil)))) rfl rfl
  conv=>whnf
  refine slt_c H (fun s19 H=>?_);conv=>whnf
  refine Ari.w ?_;conv=>whnf
  refine slt_c H (fun s20 H=>?_);conv=>whnf
  refine FootQ.mk ⟨rfl,?_⟩;conv=>whnf
  refine ask_c (p_ref09_IsBare_v _) H rfl rfl (fun v21 H=>?_);conv=>whnf
  refine Tst.not ?_
  refine tst_d H (fun b22 H=>?_) (fun b22 H=>?_)
  ·conv=>whnf
   exact fin0_c (enc:=(fun r:ByteArray × ByteArray × Int=>.tup [V.s r.1,V.s r.2.1,V.i r.2.2])) H (.inr rfl) (.cons (.tmp rfl) (.cons (.tmp rfl) (.cons (.tmp rfl) (.nil)))) rfl rfl
  conv=>whnf
  refine ask_c (p_ref09_Resource_v _) H rfl rfl (fun v23 H=>?_);conv=>whnf
  refine tst_d H (fun b24 H=>?_) (fun b24 H=>?_)
  ·conv=>whnf
   exact fin0_c (enc:=(fun r:ByteArray × ByteArray × Int=>.tup [V.s r.1,V.s r.2.1,V.i r.2.2])) H (.inr rfl) (.cons (.tmp rfl) (.cons (.tmp rfl) (.cons (.tmp rfl) (.nil)))) rfl rfl
  conv=>whnf
  refine ask_c (p_ref09_Resource_v _) H rfl rfl (fun v25 H=>?_);conv=>whnf
  exact fin0_c (enc:=(fun r:ByteArray × ByteArray × Int=>.tup [V.s r.1,V.s r.2.1,V.i r.2.2])) H (.inr rfl) (.cons (.tmp rfl) (.cons (.tmp rfl) (.cons (.tmp rfl) (.nil)))) rfl rfl
 conv=>whnf
 iterate 2 (refine Tst.T ?_;conv=>whnf)
 refine ixt_c H (fun c8 H=>?_);conv=>whnf
 iterate 2 (refine Tst.T ?_;conv=>whnf)
 refine tst_c H (fun b9 H=>?_) (fun b9 H=>?_)
 ·conv=>whnf
  refine Ari.w ?_;conv=>whnf
  exact again_c [8,9,10,11,12,13,14,15,16,17,18,19] n5 0 [] (⟨_,H,rfl,rfl⟩) (Nat.lt_succ_self _) (Nat.zero_le _) rfl (by kernel_rfl) (by kernel_rfl) rfl trivial
 conv=>whnf
 obtain rfl:=Option.some.inj H
 have H:=HQ4
 try dsimp only at H
 refine tst_c H (fun b10 H=>?_) (fun b10 H=>?_)
 ·conv=>whnf
  exact fin0_c (enc:=(fun r:ByteArray × ByteArray × Int=>.tup [V.s r.1,V.s r.2.1,V.i r.2.2])) H (.inr rfl) (.cons (.tmp rfl) (.cons (.tmp rfl) (.cons (.tmp rfl) (.nil)))) rfl rfl
 conv=>whnf
 refine slt_c H (fun s11 H=>?_);conv=>whnf
 refine Ari.w ?_;conv=>whnf
 refine slt_c H (fun s12 H=>?_);conv=>whnf
 refine FootQ.mk ⟨rfl,?_⟩;conv=>whnf
 refine ask_c (p_ref09_IsBare_v _) H rfl rfl (fun v13 H=>?_);conv=>whnf
 refine Tst.not ?_
 refine tst_d H (fun b14 H=>?_) (fun b14 H=>?_)
 ·conv=>whnf
  exact fin0_c (enc:=(fun r:ByteArray × ByteArray × Int=>.tup [V.s r.1,V.s r.2.1,V.i r.2.2])) H (.inr rfl) (.cons (.tmp rfl) (.cons (.tmp rfl) (.cons (.tmp rfl) (.nil)))) rfl rfl
 conv=>whnf
 refine ask_c (p_ref09_Resource_v _) H rfl rfl (fun v15 H=>?_);conv=>whnf
 refine tst_d H (fun b16 H=>?_) (fun b16 H=>?_)
 ·conv=>whnf
  exact fin0_c (enc:=(fun r:ByteArray × ByteArray × Int=>.tup [V.s r.1,V.s r.2.1,V.i r.2.2])) H (.inr rfl) (.cons (.tmp rfl) (.cons (.tmp rfl) (.cons (.tmp rfl) (.nil)))) rfl rfl
 conv=>whnf
 refine ask_c (p_ref09_Resource_v _) H rfl rfl (fun v17 H=>?_);conv=>whnf
 exact fin0_c (enc:=(fun r:ByteArray × ByteArray × Int=>.tup [V.s r.1,V.s r.2.1,V.i r.2.2])) H (.inr rfl) (.cons (.tmp rfl) (.cons (.tmp rfl) (.cons (.tmp rfl) (.nil)))) rfl rfl
def gc78:BCode:=(.seq (R_ 0 [O_ 2 (.mv (b_ false)) 0]) (.seq (R_ 0 [O_ 7 (.mv (t_ 0)) 0,O_ 8 (.cl 58 [(t_ 7)]) 0,O_ 6 (.mv (t_ 8)) 0,O_ 9 (.ex (t_ 6) 0) 0,O_ 10 (.ex (t_ 6) 1) 0,O_ 11 (.ex (t_ 6) 2) 0,O_ 3 (.mv (t_ 9)) 0,O_ 4 (.mv (t_ 10)) 0,O_ 5 (.mv (t_ 11)) 0]) (.seq (R_ 0 [O_ 12 (.mv (t_ 5)) 0,O_ 13 (.bin .eql (t_ 12) (i_ 0)) 0,O_ 2 (.mv (t_ 13)) 0]) .ret)))
theorem gc78_ok:compF Tryz.prog Tryz.f78=some (gc78.er,14,[.tmp 2]):=by unfold gc78;kernel_rfl
theorem p_ref25_key_v (a0:ByteArray):CallsO Tryz.prog 78 [.s a0] V.b (p_ref25_key a0):=by
 refine callsO_comp mix Tryz.func78 gc78_ok fun r H=>?_
 rw [p_ref25_key] at H
 conv=>whnf
 refine ask_c (p_ref23_Split_v _) H rfl rfl (fun v1 H=>?_);conv=>whnf
 exact fb_ H
end Go.Proofs.YtdoakplhalonfaaGreat

