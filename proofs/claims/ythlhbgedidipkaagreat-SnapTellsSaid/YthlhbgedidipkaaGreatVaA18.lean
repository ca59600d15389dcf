/- A part of the proof: 3 texts joined. -/
import Derived.Test.YthlhbgedidipkaaGreatVaA15
import Derived.Test.YthlhbgedidipkaaGreatVaA14
import Derived.Test.YthlhbgedidipkaaGreatVaA17
import Derived.Test.YthlhbgedidipkaaGreatVaA8
import Derived.KernelRfl
set_option linter.all false
/- That the program's functions yield what the plain ones tell (written by a program of mine). -/
namespace Go.Proofs.YthlhbgedidipkaaGreat
open Go.RowKit
def gc25 : BCode := (.seq (.reg 2 [⟨(some 2),.bx (.tmp 0),none,0⟩,⟨(some 3),.bx (.tmp 1),none,1⟩,⟨(some 4),.mv (.const (.slice none 0 0)),none,2⟩] none 0 []) (.seq (.reg 0 [⟨(some 5),.mv (.const (.slice none 0 0)),none,0⟩] none 0 []) (.seq (.reg 1 [⟨(some 10),.cl 81 [],none,0⟩,⟨(some 6),.al (.agg [(.lit (.bool false)),(.lit (.bool false)),(.lit (.string ⟨#[]⟩)),(.lit (.int .i64 0))]),none,0⟩,⟨none,.st 4 (.tmp 6) (.tmp 10),none,1⟩] none 0 []) (.block 0 (.loop (.block 1 (.seq (.reg 2 [⟨(some 12),.ld 4 true (.tmp 6),none,0⟩,⟨(some 13),.ld 2 true (.tmp 2),none,0⟩,⟨(some 14),.ld 2 true (.tmp 3),none,0⟩,⟨(some 15),.cl 80 [(.tmp 12),(.tmp 13),(.tmp 14)],none,0⟩,⟨(some 11),.mv (.tmp 15),none,0⟩,⟨(some 16),.ex (.tmp 11) 0,none,0⟩,⟨(some 17),.ex (.tmp 11) 1,none,0⟩,⟨(some 18),.ex (.tmp 11) 2,none,0⟩,⟨(some 7),.al (.agg [(.lit (.bool false)),(.lit (.bool false)),(.lit (.string ⟨#[]⟩)),(.lit (.int .i64 0))]),none,0⟩,⟨(some 8),.al (.agg [(.lit (.int .u8 0)),(.lit (.string ⟨#[]⟩)),(.lit (.string ⟨#[]⟩)),(.lit (.string ⟨#[]⟩)),(.lit (.int .i64 0)),(.lit (.int .i64 0)),(.lit (.int .i64 0)),(.lit (.int .i64 0))]),none,1⟩,⟨none,.st 4 (.tmp 7) (.tmp 16),none,2⟩,⟨none,.st 8 (.tmp 8) (.tmp 17),none,2⟩,⟨(some 9),.mv (.tmp 18),none,2⟩] none 0 []) (.seq (.seq (.reg 0 [⟨(some 19),.mv (.tmp 9),none,0⟩,⟨(some 20),.un .not (.tmp 19),none,0⟩] none 0 []) (.cond (.tmp 20) (.seq (.reg 0 [⟨(some 21),.mv (.tmp 5),none,0⟩,⟨(some 4),.mv (.tmp 21),none,0⟩] none 0 []) .ret) .skip)) (.seq (.reg 0 [⟨(some 22),.ld 4 true (.tmp 7),none,0⟩,⟨none,.st 4 (.tmp 6) (.tmp 22),none,0⟩] none 0 []) (.reg 2 [⟨(some 23),.mv (.tmp 5),none,0⟩,⟨(some 24),.ld 8 true (.tmp 8),none,0⟩,⟨(some 25),.bs 8 1 [(.lit (.int .u8 0)),(.lit (.string ⟨#[]⟩)),(.lit (.string ⟨#[]⟩)),(.lit (.string ⟨#[]⟩)),(.lit (.int .i64 0)),(.lit (.int .i64 0)),(.lit (.int .i64 0)),(.lit (.int .i64 0))] [(0,(.tmp 24))],none,0⟩,⟨(some 26),.ap 8 88 (.tmp 23) (.tmp 25),none,1⟩,⟨(some 5),.mv (.tmp 26),none,2⟩] none 0 []))))))))))
theorem gc25_ok : compF Tryz.prog Tryz.f25 = some (gc25.er,27,[.tmp 4]) := by unfold gc25;kernel_rfl
set_option maxRecDepth 100000 in
set_option maxHeartbeats 4000000 in
theorem p_snap_All_v {u1 u2 u3 : Bool} (a0 : SnapEyes) (a1 : BookState) : CallsO Tryz.prog 25 [.agg [.sl (List.map V.s a0.Users) u1,.sl (List.map V.s a0.Keys) u2],.agg [.i a1.Seq,.sl (List.map BookRow.v a1.Rows) u3]] (fun l : List StanzaStanza=>V.sl (l.map StanzaStanza.v) false) (p_snap_All a0 a1) := by
 refine callsO_comp mix Tryz.func25 gc25_ok fun r H=>?_
 rw [p_snap_All] at H
 conv=>whnf
 refine ask_c (p_snap_Begin_v) H rfl rfl (fun v1 H=>?_);conv=>whnf
 refine ⟨Nat.le_of_ble_eq_true rfl,?_⟩;conv=>whnf
 obtain ⟨o3,HL4,HQ5⟩ := bind_c H
 refine loop_c [4,5] [7,8,9,11,12,13,14,15,16,17,18,19,20,21,22,23,24,25,26] [7,8,9,11,12,13,14,15,16,17,18,19,20,21,22,23,24,25,26] (fun n vals st=>(∃ y7,p_snap_All_l1  a0 a1 n [] y7 = some o3 ∧ vals = [.sl (List.map StanzaStanza.v []) true,.sl (List.map StanzaStanza.v []) true] ∧ st = [.live [.sl (List.map V.s a0.Users) u1,.sl (List.map V.s a0.Keys) u2] 0,.live [.i a1.Seq,.sl (List.map BookRow.v a1.Rows) u3] 0,.live [.b y7.On,.b y7.Begun,.s y7.After,.i y7.Told] 0]) ∨ (∃ y11 y12,p_snap_All_l1  a0 a1 n y11 y12 = some o3 ∧ vals = [.sl (List.map StanzaStanza.v []) true,.osl 3 0 (List.length y11) 8 false] ∧ st = [.live [.sl (List.map V.s a0.Users) u1,.sl (List.map V.s a0.Keys) u2] 0,.live [.i a1.Seq,.sl (List.map BookRow.v a1.Rows) u3] 0,.live [.b y12.On,.b y12.Begun,.s y12.After,.i y12.Told] 0,.live (cellsM StanzaStanza.v y11) (cellsM StanzaStanza.v y11).length])) fuel 3 [] (.inl (⟨_,HL4,rfl,rfl⟩)) (Nat.zero_le _) rfl (by kernel_rfl) (by kernel_rfl) rfl ⟨⟨rfl,rfl,rfl⟩,⟨⟨rfl,rfl,rfl⟩,⟨⟨rfl,rfl,rfl⟩,trivial⟩⟩⟩ ?_
 rintro (_ | n6) _ _ (⟨y7,H,rfl,rfl⟩ | ⟨y11,y12,H,rfl,rfl⟩)
 ·rw [p_snap_All_l1] at H;cases H
 ·rw [p_snap_All_l1] at H;cases H
 ·rw [p_snap_All_l1] at H
  conv=>whnf
  refine ask_c (p_snap_Next_v _ _ _) H rfl rfl (fun v8 H=>?_);conv=>whnf
  refine ⟨Nat.le_of_ble_eq_true rfl,?_⟩;conv=>whnf
  refine ⟨Nat.le_of_ble_eq_true rfl,?_⟩;conv=>whnf
  refine Tst.not ?_
  refine tst_d H (fun b9 H=>?_) (fun b9 H=>?_)
  ·conv=>whnf
   obtain rfl := Option.some.inj H
   have H := HQ5
   try dsimp only at H
   refine finR_c (enc := (fun l : List StanzaStanza=>V.sl (l.map StanzaStanza.v) false)) H ?_;conv=>whnf
   exact ⟨_,.v (.c (.slw))⟩
  conv=>whnf
  refine ⟨Nat.le_of_ble_eq_true rfl,?_⟩;conv=>whnf
  refine appN_c (f := StanzaStanza.v) H (fun _=>rfl) (srcM (f := StanzaStanza.v) (fun _=>rfl) _ _) rfl (.v (srcOwn (f := StanzaStanza.v) (l := [v8.2.1]) (fun _=>rfl) rfl rfl rfl)) (by decide) rfl (by simp) (fun l10 H=>?_);conv=>whnf
  exact again_c [7,8,9,11,12,13,14,15,16,17,18,19,20,21,22,23,24,25,26] n6 4 [0,1,2,6] (.inr (⟨_,_,H,rfl,rfl⟩)) (Nat.lt_succ_self _) (Nat.zero_le _) rfl (by kernel_rfl) (by kernel_rfl) rfl ⟨⟨rfl,rfl,rfl⟩,⟨⟨rfl,rfl,rfl⟩,⟨⟨rfl,rfl,rfl⟩,wkB_live0 rfl (cellsM_idlt (f := StanzaStanza.v) (fun _=>rfl) _) rfl trivial⟩⟩⟩
 rw [p_snap_All_l1] at H
 conv=>whnf
 refine ask_c (p_snap_Next_v _ _ _) H rfl rfl (fun v13 H=>?_);conv=>whnf
 refine ⟨Nat.le_of_ble_eq_true rfl,?_⟩;conv=>whnf
 refine ⟨Nat.le_of_ble_eq_true rfl,?_⟩;conv=>whnf
 refine Tst.not ?_
 refine tst_d H (fun b14 H=>?_) (fun b14 H=>?_)
 ·conv=>whnf
  obtain rfl := Option.some.inj H
  have H := HQ5
  try dsimp only at H
  refine finR_c (enc := (fun l : List StanzaStanza=>V.sl (l.map StanzaStanza.v) false)) H ?_;conv=>whnf
  exact ⟨_,.v (.c (fzown (f := StanzaStanza.v) (l := y11) rfl rfl (fun _=>rfl) (fun _=>rfl)))⟩
 conv=>whnf
 refine ⟨Nat.le_of_ble_eq_true rfl,?_⟩;conv=>whnf
 refine appO_c (f := StanzaStanza.v) H (fun _=>rfl) rfl (Nat.le_refl _) (.v (srcOwn (f := StanzaStanza.v) (l := [v13.2.1]) (fun _=>rfl) rfl rfl rfl)) (by decide) rfl (by simp) (fun l15 H=>?_);conv=>whnf
 exact again_c [7,8,9,11,12,13,14,15,16,17,18,19,20,21,22,23,24,25,26] n6 4 [0,1,2,7] (.inr (⟨_,_,H,rfl,rfl⟩)) (Nat.lt_succ_self _) (Nat.zero_le _) rfl (by kernel_rfl) (by kernel_rfl) rfl ⟨⟨rfl,rfl,rfl⟩,⟨⟨rfl,rfl,rfl⟩,⟨⟨rfl,rfl,rfl⟩,wkB_live0 rfl (cellsM_idlt (f := StanzaStanza.v) (fun _=>rfl) _) rfl trivial⟩⟩⟩
def gc24 : BCode := (.seq (.reg 0 [⟨(some 2),.mv (.const (.slice none 0 0)),none,0⟩] none 0 []) (.seq (.reg 0 [⟨(some 3),.mv (.const (.slice none 0 0)),none,0⟩] none 0 []) (.seq (.seq (.reg 0 [⟨(some 4),.mv (.const (.int .i64 0)),none,0⟩] none 0 []) (.block 0 (.loop (.seq (.seq (.reg 0 [⟨(some 5),.mv (.tmp 4),none,0⟩,⟨(some 6),.mv (.tmp 0),none,0⟩,⟨(some 7),.lens (.tmp 6),none,0⟩,⟨(some 8),.bin .lss (.tmp 5) (.tmp 7),none,0⟩] none 0 []) (.cond (.tmp 8) .skip (.exit 0))) (.seq (.block 1 (.reg 2 [⟨(some 11),.mv (.tmp 3),none,0⟩,⟨(some 12),.mv (.tmp 0),none,0⟩,⟨(some 13),.mv (.tmp 4),none,0⟩,⟨(some 14),.ixs 8 (.tmp 12) (.tmp 13),none,0⟩,⟨(some 15),.ld 8 true (.tmp 14),none,0⟩,⟨(some 16),.bs 8 1 [(.lit (.int .u8 0)),(.lit (.string ⟨#[]⟩)),(.lit (.string ⟨#[]⟩)),(.lit (.string ⟨#[]⟩)),(.lit (.int .i64 0)),(.lit (.int .i64 0)),(.lit (.int .i64 0)),(.lit (.int .i64 0))] [(0,(.tmp 15))],none,0⟩,⟨(some 17),.ap 8 88 (.tmp 11) (.tmp 16),none,1⟩,⟨(some 3),.mv (.tmp 17),none,2⟩] none 0 [])) (.reg 0 [⟨(some 9),.mv (.tmp 4),none,0⟩,⟨(some 10),.bin .add (.tmp 9) (.const (.int .i64 1)),none,0⟩,⟨(some 4),.mv (.tmp 10),none,0⟩] none 0 [])))))) (.seq (.reg 0 [⟨(some 18),.mv (.tmp 3),none,0⟩,⟨(some 2),.mv (.tmp 18),none,0⟩] none 0 []) .ret))))
theorem gc24_ok : compF Tryz.prog Tryz.f24 = some (gc24.er,19,[.tmp 2]) := by unfold gc24;kernel_rfl
set_option maxRecDepth 100000 in
set_option maxHeartbeats 4000000 in
theorem p_law10_Back_v {u1 : Bool} (a0 : List StanzaStanza) : CallsO Tryz.prog 24 [.sl (List.map StanzaStanza.v a0) u1] (fun l : List StanzaStanza=>V.sl (l.map StanzaStanza.v) false) (p_law10_Back a0) := by
 refine callsO_comp mix Tryz.func24 gc24_ok fun r H=>?_
 rw [p_law10_Back] at H
 conv=>whnf
 obtain ⟨o2,HL3,HQ4⟩ := bind_c H
 refine loop_c [3,4] [5,6,7,8,9,10,11,12,13,14,15,16,17] [5,6,7,8,9,10,11,12,13,14,15,16,17] (fun n vals st=>(∃ y6,p_law10_Back_l1  a0 n [] y6 = some o2 ∧ vals = [.sl (List.map StanzaStanza.v []) true,.i y6] ∧ st = []) ∨ (∃ y10 y11,p_law10_Back_l1  a0 n y10 y11 = some o2 ∧ vals = [.osl 0 0 (List.length y10) 8 false,.i y11] ∧ st = [.live (cellsM StanzaStanza.v y10) (cellsM StanzaStanza.v y10).length])) fuel 0 [] (.inl (⟨_,HL3,rfl,rfl⟩)) (Nat.zero_le _) rfl (by kernel_rfl) (by kernel_rfl) rfl trivial ?_
 rintro (_ | n5) _ _ (⟨y6,H,rfl,rfl⟩ | ⟨y10,y11,H,rfl,rfl⟩)
 ·rw [p_law10_Back_l1] at H;cases H
 ·rw [p_law10_Back_l1] at H;cases H
 ·rw [p_law10_Back_l1] at H
  conv=>whnf
  refine LenQ.M ?_;conv=>whnf
  refine tst_d H (fun b7 H=>?_) (fun b7 H=>?_)
  ·conv=>whnf
   obtain rfl := Option.some.inj H
   have H := HQ4
   try dsimp only at H
   refine finR_c (enc := (fun l : List StanzaStanza=>V.sl (l.map StanzaStanza.v) false)) H ?_;conv=>whnf
   exact ⟨_,.v (.c (.slw))⟩
  conv=>whnf
  refine ixs_c (f := StanzaStanza.v) H (fun _=>rfl) (fun x8 H=>?_);conv=>whnf
  refine appN_c (f := StanzaStanza.v) H (fun _=>rfl) (srcM (f := StanzaStanza.v) (fun _=>rfl) _ _) rfl (.v (srcOwn (f := StanzaStanza.v) (l := [x8]) (fun _=>rfl) rfl rfl rfl)) (by decide) rfl (by simp) (fun l9 H=>?_);conv=>whnf
  refine Ari.w ?_;conv=>whnf
  exact again_c [5,6,7,8,9,10,11,12,13,14,15,16,17] n5 1 [1] (.inr (⟨_,_,H,rfl,rfl⟩)) (Nat.lt_succ_self _) (Nat.zero_le _) rfl (by kernel_rfl) (by kernel_rfl) rfl (wkB_live0 rfl (cellsM_idlt (f := StanzaStanza.v) (fun _=>rfl) _) rfl trivial)
 rw [p_law10_Back_l1] at H
 conv=>whnf
 refine LenQ.M ?_;conv=>whnf
 refine tst_d H (fun b12 H=>?_) (fun b12 H=>?_)
 ·conv=>whnf
  obtain rfl := Option.some.inj H
  have H := HQ4
  try dsimp only at H
  refine finR_c (enc := (fun l : List StanzaStanza=>V.sl (l.map StanzaStanza.v) false)) H ?_;conv=>whnf
  exact ⟨_,.v (.c (fzown (f := StanzaStanza.v) (l := y10) rfl rfl (fun _=>rfl) (fun _=>rfl)))⟩
 conv=>whnf
 refine ixs_c (f := StanzaStanza.v) H (fun _=>rfl) (fun x13 H=>?_);conv=>whnf
 refine appO_c (f := StanzaStanza.v) H (fun _=>rfl) rfl (Nat.le_refl _) (.v (srcOwn (f := StanzaStanza.v) (l := [x13]) (fun _=>rfl) rfl rfl rfl)) (by decide) rfl (by simp) (fun l14 H=>?_);conv=>whnf
 refine Ari.w ?_;conv=>whnf
 exact again_c [5,6,7,8,9,10,11,12,13,14,15,16,17] n5 1 [2] (.inr (⟨_,_,H,rfl,rfl⟩)) (Nat.lt_succ_self _) (Nat.zero_le _) rfl (by kernel_rfl) (by kernel_rfl) rfl (wkB_live0 rfl (cellsM_idlt (f := StanzaStanza.v) (fun _=>rfl) _) rfl trivial)
def gc160 : BCode := (.seq (.reg 1 [⟨(some 1),.bx (.tmp 0),none,0⟩,⟨(some 2),.mv (.const (.int .i64 0)),none,1⟩] none 0 []) (.seq (.block 0 (.seq (.reg 0 [⟨(some 4),.fa 0 (.tmp 1),none,0⟩,⟨(some 5),.ld 1 false (.tmp 4),none,0⟩,⟨(some 6),.un .not (.tmp 5),none,0⟩,⟨(some 7),.mv (.tmp 6),none,0⟩,⟨(some 8),.ld 4 true (.tmp 1),(some (7,true)),0⟩,⟨(some 9),.bd [(.lit (.bool false)),(.lit (.bool false)),(.lit (.string ⟨#[]⟩)),(.lit (.int .i64 0))] [],(some (7,true)),0⟩,⟨(some 10),.eqa true [0,0,2,1] (.tmp 8) (.tmp 9),(some (7,true)),0⟩,⟨(some 11),.pick (.tmp 7) (.tmp 10) (.const (.bool false)),none,0⟩,⟨(some 3),.mv (.tmp 11),none,0⟩] none 0 []) (.cond (.tmp 3) (.seq (.reg 0 [⟨(some 2),.mv (.const (.int .i64 4)),none,0⟩] none 0 []) .ret) (.seq (.reg 0 [⟨(some 13),.fa 1 (.tmp 1),none,0⟩,⟨(some 14),.ld 1 false (.tmp 13),none,0⟩,⟨(some 15),.un .not (.tmp 14),none,0⟩,⟨(some 16),.mv (.tmp 15),none,0⟩,⟨(some 17),.fa 2 (.tmp 1),(some (16,true)),0⟩,⟨(some 18),.ld 1 false (.tmp 17),(some (16,true)),0⟩,⟨(some 19),.bin .neq (.tmp 18) (.const (.string ⟨#[]⟩)),(some (16,true)),0⟩,⟨(some 20),.mv (.tmp 19),(some (16,true)),0⟩,⟨(some 21),.fa 3 (.tmp 1),(some (20,false)),0⟩,⟨(some 22),.ld 1 false (.tmp 21),(some (20,false)),0⟩,⟨(some 23),.bin .neq (.tmp 22) (.const (.int .i64 0)),(some (20,false)),0⟩,⟨(some 24),.pick (.tmp 20) (.const (.bool true)) (.tmp 23),(some (16,true)),0⟩,⟨(some 25),.pick (.tmp 16) (.tmp 24) (.const (.bool false)),none,0⟩,⟨(some 12),.mv (.tmp 25),none,0⟩] none 0 []) (.cond (.tmp 12) (.seq (.reg 0 [⟨(some 2),.mv (.const (.int .i64 4)),none,0⟩] none 0 []) .ret) (.seq (.reg 0 [⟨(some 27),.fa 3 (.tmp 1),none,0⟩,⟨(some 28),.ld 1 false (.tmp 27),none,0⟩,⟨(some 29),.bin .lss (.tmp 28) (.const (.int .i64 0)),none,0⟩,⟨(some 30),.mv (.tmp 29),none,0⟩,⟨(some 31),.fa 3 (.tmp 1),(some (30,false)),0⟩,⟨(some 32),.ld 1 false (.tmp 31),(some (30,false)),0⟩,⟨(some 33),.bin .gtr (.tmp 32) (.const (.int .i64 1099511627776)),(some (30,false)),0⟩,⟨(some 34),.pick (.tmp 30) (.const (.bool true)) (.tmp 33),none,0⟩,⟨(some 26),.mv (.tmp 34),none,0⟩] none 0 []) (.cond (.tmp 26) (.seq (.reg 0 [⟨(some 2),.mv (.const (.int .i64 8)),none,0⟩] none 0 []) .ret) .skip))))))) (.seq (.reg 0 [⟨(some 2),.mv (.const (.int .i64 0)),none,0⟩] none 0 []) .ret)))
theorem gc160_ok : compF Tryz.prog Tryz.f160 = some (gc160.er,35,[.tmp 2]) := by unfold gc160;kernel_rfl
set_option maxRecDepth 100000 in
set_option maxHeartbeats 4000000 in
theorem p_ref26_Check_v (a0 : SnapState) : CallsO Tryz.prog 160 [.agg [.b a0.On,.b a0.Begun,.s a0.After,.i a0.Told]] V.i (p_ref26_Check a0) := by
 refine callsO_comp mix Tryz.func160 gc160_ok fun r H=>?_
 rw [p_ref26_Check] at H
 conv=>whnf
 refine Tst.not ?_
 refine tst_c H (fun b1 H=>?_) (fun b1 H=>?_)
 ·conv=>whnf
  iterate 4 (refine Tst.F ?_;conv=>whnf)
  refine Tst.not ?_
  refine tst_c H (fun b2 H=>?_) (fun b2 H=>?_)
  ·conv=>whnf
   iterate 6 (refine Tst.F ?_;conv=>whnf)
   refine tst_c H (fun b3 H=>?_) (fun b3 H=>?_)
   ·conv=>whnf
    iterate 4 (refine Tst.T ?_;conv=>whnf)
    exact fin0_c (enc := V.i) H (.inr rfl) (.cons (.tmp rfl) (.nil)) rfl rfl
   conv=>whnf
   iterate 3 (refine Tst.F ?_;conv=>whnf)
   refine tst_c H (fun b4 H=>?_) (fun b4 H=>?_)
   ·conv=>whnf
    exact fin0_c (enc := V.i) H (.inr rfl) (.cons (.tmp rfl) (.nil)) rfl rfl
   conv=>whnf
   exact fin0_c (enc := V.i) H (.inr rfl) (.cons (.tmp rfl) (.nil)) rfl rfl
  conv=>whnf
  iterate 3 (refine Tst.T ?_;conv=>whnf)
  refine Tst.not ?_
  refine tst_d H (fun b5 H=>?_) (fun b5 H=>?_)
  ·conv=>whnf
   iterate 6 (refine Tst.T ?_;conv=>whnf)
   exact fin0_c (enc := V.i) H (.inr rfl) (.cons (.tmp rfl) (.nil)) rfl rfl
  conv=>whnf
  iterate 2 (refine Tst.F ?_;conv=>whnf)
  refine Tst.T ?_;conv=>whnf
  refine Tst.F ?_;conv=>whnf
  refine Tst.T ?_;conv=>whnf
  refine tst_c H (fun b6 H=>?_) (fun b6 H=>?_)
  ·conv=>whnf
   exact fin0_c (enc := V.i) H (.inr rfl) (.cons (.tmp rfl) (.nil)) rfl rfl
  conv=>whnf
  refine tst_c H (fun b7 H=>?_) (fun b7 H=>?_)
  ·conv=>whnf
   iterate 4 (refine Tst.T ?_;conv=>whnf)
   exact fin0_c (enc := V.i) H (.inr rfl) (.cons (.tmp rfl) (.nil)) rfl rfl
  conv=>whnf
  iterate 3 (refine Tst.F ?_;conv=>whnf)
  refine tst_c H (fun b8 H=>?_) (fun b8 H=>?_)
  ·conv=>whnf
   exact fin0_c (enc := V.i) H (.inr rfl) (.cons (.tmp rfl) (.nil)) rfl rfl
  conv=>whnf
  exact fin0_c (enc := V.i) H (.inr rfl) (.cons (.tmp rfl) (.nil)) rfl rfl
 conv=>whnf
 iterate 3 (refine Tst.T ?_;conv=>whnf)
 refine Tst.not ?_
 refine tst_d H (fun b9 H=>?_) (fun b9 H=>?_)
 ·conv=>whnf
  exact fin0_c (enc := V.i) H (.inr rfl) (.cons (.tmp rfl) (.nil)) rfl rfl
 conv=>whnf
 refine Tst.not ?_
 refine tst_c H (fun b10 H=>?_) (fun b10 H=>?_)
 ·conv=>whnf
  iterate 6 (refine Tst.F ?_;conv=>whnf)
  refine tst_c H (fun b11 H=>?_) (fun b11 H=>?_)
  ·conv=>whnf
   iterate 4 (refine Tst.T ?_;conv=>whnf)
   exact fin0_c (enc := V.i) H (.inr rfl) (.cons (.tmp rfl) (.nil)) rfl rfl
  conv=>whnf
  iterate 3 (refine Tst.F ?_;conv=>whnf)
  refine tst_c H (fun b12 H=>?_) (fun b12 H=>?_)
  ·conv=>whnf
   exact fin0_c (enc := V.i) H (.inr rfl) (.cons (.tmp rfl) (.nil)) rfl rfl
  conv=>whnf
  exact fin0_c (enc := V.i) H (.inr rfl) (.cons (.tmp rfl) (.nil)) rfl rfl
 conv=>whnf
 iterate 3 (refine Tst.T ?_;conv=>whnf)
 refine Tst.not ?_
 refine tst_d H (fun b13 H=>?_) (fun b13 H=>?_)
 ·conv=>whnf
  iterate 6 (refine Tst.T ?_;conv=>whnf)
  exact fin0_c (enc := V.i) H (.inr rfl) (.cons (.tmp rfl) (.nil)) rfl rfl
 conv=>whnf
 iterate 2 (refine Tst.F ?_;conv=>whnf)
 refine Tst.T ?_;conv=>whnf
 refine Tst.F ?_;conv=>whnf
 refine Tst.T ?_;conv=>whnf
 refine tst_c H (fun b14 H=>?_) (fun b14 H=>?_)
 ·conv=>whnf
  exact fin0_c (enc := V.i) H (.inr rfl) (.cons (.tmp rfl) (.nil)) rfl rfl
 conv=>whnf
 refine tst_c H (fun b15 H=>?_) (fun b15 H=>?_)
 ·conv=>whnf
  iterate 4 (refine Tst.T ?_;conv=>whnf)
  exact fin0_c (enc := V.i) H (.inr rfl) (.cons (.tmp rfl) (.nil)) rfl rfl
 conv=>whnf
 iterate 3 (refine Tst.F ?_;conv=>whnf)
 refine tst_c H (fun b16 H=>?_) (fun b16 H=>?_)
 ·conv=>whnf
  exact fin0_c (enc := V.i) H (.inr rfl) (.cons (.tmp rfl) (.nil)) rfl rfl
 conv=>whnf
 exact fin0_c (enc := V.i) H (.inr rfl) (.cons (.tmp rfl) (.nil)) rfl rfl
def gc161 : BCode := (.seq (.reg 2 [⟨(some 5),.bx (.tmp 2),none,0⟩,⟨(some 6),.al (.agg [(.lit (.int .u8 0)),(.lit (.string ⟨#[]⟩)),(.lit (.string ⟨#[]⟩)),(.lit (.string ⟨#[]⟩)),(.lit (.int .i64 0)),(.lit (.int .i64 0)),(.lit (.int .i64 0)),(.lit (.int .i64 0))]),none,1⟩] none 0 []) (.seq (.block 0 (.seq (.reg 0 [⟨(some 8),.ld 4 true (.tmp 5),none,0⟩,⟨(some 9),.cl 145 [(.tmp 8)],none,0⟩,⟨(some 10),.bin .neq (.tmp 9) (.const (.int .i64 0)),none,0⟩,⟨(some 11),.mv (.tmp 10),none,0⟩,⟨(some 12),.mv (.tmp 0),(some (11,false)),0⟩,⟨(some 13),.mv (.tmp 1),(some (11,false)),0⟩,⟨(some 14),.cl 157 [(.tmp 12),(.tmp 13)],(some (11,false)),0⟩,⟨(some 15),.un .not (.tmp 14),(some (11,false)),0⟩,⟨(some 16),.pick (.tmp 11) (.const (.bool true)) (.tmp 15),none,0⟩,⟨(some 7),.mv (.tmp 16),none,0⟩] none 0 []) (.cond (.tmp 7) (.seq (.reg 0 [⟨(some 17),.bd [(.lit (.int .u8 0)),(.lit (.string ⟨#[]⟩)),(.lit (.string ⟨#[]⟩)),(.lit (.string ⟨#[]⟩)),(.lit (.int .i64 0)),(.lit (.int .i64 0)),(.lit (.int .i64 0)),(.lit (.int .i64 0))] [],none,0⟩,⟨none,.st 8 (.tmp 6) (.tmp 17),none,0⟩] none 0 []) .ret) (.seq (.reg 0 [⟨(some 19),.fa 0 (.tmp 5),none,0⟩,⟨(some 20),.ld 1 false (.tmp 19),none,0⟩,⟨(some 18),.mv (.tmp 20),none,0⟩] none 0 []) (.cond (.tmp 18) (.seq (.reg 0 [⟨(some 21),.mv (.tmp 0),none,0⟩,⟨(some 22),.mv (.tmp 1),none,0⟩,⟨(some 23),.fa 1 (.tmp 5),none,0⟩,⟨(some 24),.ld 1 false (.tmp 23),none,0⟩,⟨(some 25),.fa 2 (.tmp 5),none,0⟩,⟨(some 26),.ld 1 false (.tmp 25),none,0⟩,⟨(some 27),.fa 3 (.tmp 5),none,0⟩,⟨(some 28),.ld 1 false (.tmp 27),none,0⟩,⟨(some 29),.bd [(.lit (.int .u8 0)),(.lit (.string ⟨#[]⟩)),(.lit (.string ⟨#[]⟩)),(.lit (.string ⟨#[]⟩)),(.lit (.int .i64 0)),(.lit (.int .i64 0)),(.lit (.int .i64 0)),(.lit (.int .i64 0))] [(0,1,(.const (.int .u8 34))),(1,1,(.tmp 21)),(2,1,(.tmp 22)),(4,1,(.tmp 24)),(5,1,(.tmp 26)),(7,1,(.tmp 28))],none,0⟩,⟨none,.st 8 (.tmp 6) (.tmp 29),none,0⟩] none 0 []) .ret) .skip))))) (.seq (.reg 0 [⟨(some 30),.mv (.tmp 0),none,0⟩,⟨(some 31),.mv (.tmp 1),none,0⟩,⟨(some 32),.fa 3 (.tmp 5),none,0⟩,⟨(some 33),.ld 1 false (.tmp 32),none,0⟩,⟨(some 34),.bd [(.lit (.int .u8 0)),(.lit (.string ⟨#[]⟩)),(.lit (.string ⟨#[]⟩)),(.lit (.string ⟨#[]⟩)),(.lit (.int .i64 0)),(.lit (.int .i64 0)),(.lit (.int .i64 0)),(.lit (.int .i64 0))] [(0,1,(.const (.int .u8 35))),(1,1,(.tmp 30)),(2,1,(.tmp 31)),(7,1,(.tmp 33))],none,0⟩,⟨none,.st 8 (.tmp 6) (.tmp 34),none,0⟩] none 0 []) .ret)))
theorem gc161_ok : compF Tryz.prog Tryz.f161 = some (gc161.er,35,[.cell 6 8 true]) := by unfold gc161;kernel_rfl
set_option maxRecDepth 100000 in
set_option maxHeartbeats 4000000 in
theorem p_ref23_Say_v (a0 : ByteArray) (a1 : ByteArray) (a2 : PresPres) : CallsO Tryz.prog 161 [.s a0,.s a1,.agg [.b a2.On,.i a2.Show,.i a2.Prio,.i a2.Seq]] StanzaStanza.v (p_ref23_Say a0 a1 a2) := by
 refine callsO_comp mix Tryz.func161 gc161_ok fun r H=>?_
 rw [p_ref23_Say] at H
 conv=>whnf
 refine ask_c (p_ref23_Check_v _) H rfl rfl (fun v1 H=>?_);conv=>whnf
 refine tst_c H (fun b2 H=>?_) (fun b2 H=>?_)
 ·conv=>whnf
  iterate 5 (refine Tst.T ?_;conv=>whnf)
  refine ⟨Nat.le_of_ble_eq_true rfl,?_⟩;conv=>whnf
  exact fin0_c (enc := StanzaStanza.v) H (.inr rfl) (.cons (.cell rfl rfl (Nat.le_of_ble_eq_true rfl)) (.nil)) rfl rfl
 conv=>whnf
 iterate 2 (refine Tst.F ?_;conv=>whnf)
 refine ask_c (p_ref23_named_v _ _) H rfl rfl (fun v3 H=>?_);conv=>whnf
 iterate 2 (refine Tst.F ?_;conv=>whnf)
 refine Tst.not ?_
 refine tst_d H (fun b4 H=>?_) (fun b4 H=>?_)
 ·conv=>whnf
  refine ⟨Nat.le_of_ble_eq_true rfl,?_⟩;conv=>whnf
  exact fin0_c (enc := StanzaStanza.v) H (.inr rfl) (.cons (.cell rfl rfl (Nat.le_of_ble_eq_true rfl)) (.nil)) rfl rfl
 conv=>whnf
 refine tst_c H (fun b5 H=>?_) (fun b5 H=>?_)
 ·conv=>whnf
  refine ⟨Nat.le_of_ble_eq_true rfl,?_⟩;conv=>whnf
  exact fin0_c (enc := StanzaStanza.v) H (.inr rfl) (.cons (.cell rfl rfl (Nat.le_of_ble_eq_true rfl)) (.nil)) rfl rfl
 conv=>whnf
 refine ⟨Nat.le_of_ble_eq_true rfl,?_⟩;conv=>whnf
 exact fin0_c (enc := StanzaStanza.v) H (.inr rfl) (.cons (.cell rfl rfl (Nat.le_of_ble_eq_true rfl)) (.nil)) rfl rfl
end Go.Proofs.YthlhbgedidipkaaGreat
/- That the program's functions yield what the plain ones tell (written by a program of mine). -/
namespace Go.Proofs.YthlhbgedidipkaaGreat
open Go.RowKit
def gc89 : BCode := (.seq (.reg 5 [⟨(some 3),.bx (.tmp 0),none,0⟩,⟨(some 4),.bx (.tmp 1),none,1⟩,⟨(some 5),.bx (.tmp 2),none,2⟩,⟨(some 6),.al (.agg [(.lit (.bool false)),(.lit (.bool false)),(.lit (.string ⟨#[]⟩)),(.lit (.int .i64 0))]),none,3⟩,⟨(some 7),.al (.agg [(.lit (.int .u8 0)),(.lit (.string ⟨#[]⟩)),(.lit (.string ⟨#[]⟩)),(.lit (.string ⟨#[]⟩)),(.lit (.int .i64 0)),(.lit (.int .i64 0)),(.lit (.int .i64 0)),(.lit (.int .i64 0))]),none,4⟩,⟨(some 8),.mv (.const (.bool false)),none,5⟩] none 0 []) (.seq (.seq (.reg 0 [⟨(some 12),.fa 0 (.tmp 3),none,0⟩,⟨(some 13),.ld 1 false (.tmp 12),none,0⟩,⟨(some 14),.un .not (.tmp 13),none,0⟩,⟨(some 15),.mv (.tmp 14),none,0⟩,⟨(some 16),.ld 4 true (.tmp 3),(some (15,false)),0⟩,⟨(some 17),.cl 160 [(.tmp 16)],(some (15,false)),0⟩,⟨(some 18),.bin .neq (.tmp 17) (.const (.int .i64 0)),(some (15,false)),0⟩,⟨(some 19),.pick (.tmp 15) (.const (.bool true)) (.tmp 18),none,0⟩,⟨(some 20),.mv (.tmp 19),none,0⟩,⟨(some 21),.ld 2 true (.tmp 5),(some (20,false)),0⟩,⟨(some 22),.cl 76 [(.tmp 21)],(some (20,false)),0⟩,⟨(some 23),.bin .neq (.tmp 22) (.const (.int .i64 0)),(some (20,false)),0⟩,⟨(some 24),.pick (.tmp 20) (.const (.bool true)) (.tmp 23),none,0⟩] none 0 []) (.cond (.tmp 24) (.seq (.reg 0 [⟨(some 25),.ld 4 true (.tmp 3),none,0⟩,⟨(some 26),.bd [(.lit (.int .u8 0)),(.lit (.string ⟨#[]⟩)),(.lit (.string ⟨#[]⟩)),(.lit (.string ⟨#[]⟩)),(.lit (.int .i64 0)),(.lit (.int .i64 0)),(.lit (.int .i64 0)),(.lit (.int .i64 0))] [],none,0⟩,⟨none,.st 4 (.tmp 6) (.tmp 25),none,0⟩,⟨none,.st 8 (.tmp 7) (.tmp 26),none,0⟩,⟨(some 8),.mv (.const (.bool false)),none,0⟩] none 0 []) .ret) .skip)) (.seq (.seq (.reg 0 [⟨(some 27),.fa 1 (.tmp 3),none,0⟩,⟨(some 28),.ld 1 false (.tmp 27),none,0⟩,⟨(some 29),.un .not (.tmp 28),none,0⟩] none 0 []) (.cond (.tmp 29) (.seq (.reg 0 [⟨(some 30),.bd [(.lit (.bool false)),(.lit (.bool false)),(.lit (.string ⟨#[]⟩)),(.lit (.int .i64 0))] [(0,1,(.const (.bool true))),(1,1,(.const (.bool true)))],none,0⟩,⟨(some 31),.ld 2 true (.tmp 4),none,0⟩,⟨(some 32),.ld 2 true (.tmp 5),none,0⟩,⟨(some 33),.cl 22 [(.tmp 31),(.tmp 32)],none,0⟩,⟨(some 34),.bd [(.lit (.int .u8 0)),(.lit (.string ⟨#[]⟩)),(.lit (.string ⟨#[]⟩)),(.lit (.string ⟨#[]⟩)),(.lit (.int .i64 0)),(.lit (.int .i64 0)),(.lit (.int .i64 0)),(.lit (.int .i64 0))] [(0,1,(.const (.int .u8 36))),(7,1,(.tmp 33))],none,0⟩,⟨none,.st 4 (.tmp 6) (.tmp 30),none,0⟩,⟨none,.st 8 (.tmp 7) (.tmp 34),none,0⟩,⟨(some 8),.mv (.const (.bool true)),none,0⟩] none 0 []) .ret) .skip)) (.seq (.reg 0 [⟨(some 35),.ld 2 true (.tmp 4),none,0⟩,⟨(some 36),.ld 2 true (.tmp 5),none,0⟩,⟨(some 37),.cl 20 [(.tmp 35),(.tmp 36)],none,0⟩,⟨(some 9),.mv (.tmp 37),none,0⟩] none 0 []) (.seq (.seq (.reg 0 [⟨(some 10),.mv (.const (.int .i64 0)),none,0⟩] none 0 []) (.block 0 (.loop (.seq (.seq (.reg 0 [⟨(some 38),.mv (.tmp 10),none,0⟩,⟨(some 39),.mv (.tmp 9),none,0⟩,⟨(some 40),.lens (.tmp 39),none,0⟩,⟨(some 41),.bin .lss (.tmp 38) (.tmp 40),none,0⟩] none 0 []) (.cond (.tmp 41) .skip (.exit 0))) (.seq (.block 1 (.seq (.reg 0 [⟨(some 44),.mv (.tmp 9),none,0⟩,⟨(some 45),.mv (.tmp 10),none,0⟩,⟨(some 46),.ixs 6 (.tmp 44) (.tmp 45),none,0⟩,⟨(some 47),.fa 0 (.tmp 46),none,0⟩,⟨(some 48),.ld 1 false (.tmp 47),none,0⟩,⟨(some 49),.mv (.tmp 9),none,0⟩,⟨(some 50),.mv (.tmp 10),none,0⟩,⟨(some 51),.ixs 6 (.tmp 49) (.tmp 50),none,0⟩,⟨(some 52),.fa 1 (.tmp 51),none,0⟩,⟨(some 53),.ld 1 false (.tmp 52),none,0⟩,⟨(some 54),.cl 87 [(.tmp 48),(.tmp 53)],none,0⟩,⟨(some 11),.mv (.tmp 54),none,0⟩] (some [[],[],[1,0],[0,1,2],[2,1,0,3],[],[],[6,5],[5,6,7],[7,6,5,8],[8,5,6,7,9,3,0,1,2,4],[4,2,1,0,3,9,7,6,5,8,10]]) 0 []) (.seq (.reg 0 [⟨(some 55),.mv (.tmp 11),none,0⟩,⟨(some 56),.fa 2 (.tmp 3),none,0⟩,⟨(some 57),.ld 1 false (.tmp 56),none,0⟩,⟨(some 58),.bin .gtr (.tmp 55) (.tmp 57),none,0⟩] none 0 []) (.cond (.tmp 58) (.seq (.reg 0 [⟨(some 59),.mv (.tmp 11),none,0⟩,⟨(some 60),.fa 3 (.tmp 3),none,0⟩,⟨(some 61),.ld 1 false (.tmp 60),none,0⟩,⟨(some 62),.bin .add (.tmp 61) (.const (.int .i64 1)),none,0⟩,⟨(some 63),.mn false (.const (.int .i64 1099511627776)) (.tmp 62),none,0⟩,⟨(some 64),.bd [(.lit (.bool false)),(.lit (.bool false)),(.lit (.string ⟨#[]⟩)),(.lit (.int .i64 0))] [(0,1,(.const (.bool true))),(1,1,(.const (.bool true))),(2,1,(.tmp 59)),(3,1,(.tmp 63))],none,0⟩,⟨(some 65),.mv (.tmp 9),none,0⟩,⟨(some 66),.mv (.tmp 10),none,0⟩,⟨(some 67),.ixs 6 (.tmp 65) (.tmp 66),none,0⟩,⟨(some 68),.fa 0 (.tmp 67),none,0⟩,⟨(some 69),.ld 1 false (.tmp 68),none,0⟩,⟨(some 70),.mv (.tmp 9),none,0⟩,⟨(some 71),.mv (.tmp 10),none,0⟩,⟨(some 72),.ixs 6 (.tmp 70) (.tmp 71),none,0⟩,⟨(some 73),.fa 1 (.tmp 72),none,0⟩,⟨(some 74),.ld 1 false (.tmp 73),none,0⟩,⟨(some 75),.mv (.tmp 9),none,0⟩,⟨(some 76),.mv (.tmp 10),none,0⟩,⟨(some 77),.ixs 6 (.tmp 75) (.tmp 76),none,0⟩,⟨(some 78),.fa 2 (.tmp 77),none,0⟩,⟨(some 79),.ld 4 true (.tmp 78),none,0⟩,⟨(some 80),.cl 161 [(.tmp 69),(.tmp 74),(.tmp 79)],none,0⟩,⟨none,.st 4 (.tmp 6) (.tmp 64),none,0⟩,⟨none,.st 8 (.tmp 7) (.tmp 80),none,0⟩,⟨(some 8),.mv (.const (.bool true)),none,0⟩] (some [[],[],[1],[1,2],[2,1,3],[3,1,2,4,0],[],[],[7,6],[6,7,8],[8,7,6,9],[],[],[12,11],[11,12,13],[13,12,11,14],[],[],[17,16],[16,17,18],[18,17,16,19],[19,16,17,18,20,14,11,12,13,15,9,6,7,8,10],[10,8,7,6,9,15,13,12,11,14,20,18,17,16,19,21,0,4,2,1,3,5],[5,3,1,2,4,0,22,10,8,7,6,9,15,13,12,11,14,20,18,17,16,19,21],[21,19,16,17,18,20,14,11,12,13,15,9,6,7,8,10,22,0,4,2,1,3,5,23]]) 0 []) .ret) .skip)))) (.reg 0 [⟨(some 42),.mv (.tmp 10),none,0⟩,⟨(some 43),.bin .add (.tmp 42) (.const (.int .i64 1)),none,0⟩,⟨(some 10),.mv (.tmp 43),none,0⟩] none 0 [])))))) (.seq (.reg 0 [⟨(some 81),.bd [(.lit (.bool false)),(.lit (.bool false)),(.lit (.string ⟨#[]⟩)),(.lit (.int .i64 0))] [],none,0⟩,⟨(some 82),.bd [(.lit (.int .u8 0)),(.lit (.string ⟨#[]⟩)),(.lit (.string ⟨#[]⟩)),(.lit (.string ⟨#[]⟩)),(.lit (.int .i64 0)),(.lit (.int .i64 0)),(.lit (.int .i64 0)),(.lit (.int .i64 0))] [(0,1,(.const (.int .u8 37)))],none,0⟩,⟨none,.st 4 (.tmp 6) (.tmp 81),none,0⟩,⟨none,.st 8 (.tmp 7) (.tmp 82),none,0⟩,⟨(some 8),.mv (.const (.bool true)),none,0⟩] none 0 []) .ret))))))
set_option maxRecDepth 1000000 in
theorem gc89_ok : compF Tryz.prog Tryz.f89 = some (gc89.er,83,[.cell 6 4 true,.cell 7 8 true,.tmp 8]) := by unfold gc89;kernel_rfl
set_option maxRecDepth 100000 in
set_option maxHeartbeats 4000000 in
theorem p_ref26_Next_v {u1 u2 u3 : Bool} (a0 : SnapState) (a1 : SnapEyes) (a2 : BookState) : CallsO Tryz.prog 89 [.agg [.b a0.On,.b a0.Begun,.s a0.After,.i a0.Told],.agg [.sl (List.map V.s a1.Users) u1,.sl (List.map V.s a1.Keys) u2],.agg [.i a2.Seq,.sl (List.map BookRow.v a2.Rows) u3]] (fun r : SnapState × StanzaStanza × Bool=>.tup [SnapState.v r.1,StanzaStanza.v r.2.1,V.b r.2.2]) (p_ref26_Next a0 a1 a2) := by
 refine callsO_comp mix Tryz.func89 gc89_ok fun r H=>?_
 rw [p_ref26_Next] at H
 conv=>whnf
 refine Tst.not ?_
 refine tst_d H (fun b1 H=>?_) (fun b1 H=>?_)
 ·conv=>whnf
  iterate 8 (refine Tst.T ?_;conv=>whnf)
  refine ⟨Nat.le_of_ble_eq_true rfl,?_⟩;conv=>whnf
  refine ⟨Nat.le_of_ble_eq_true rfl,?_⟩;conv=>whnf
  exact fin0_c (enc := (fun r : SnapState × StanzaStanza × Bool=>.tup [SnapState.v r.1,StanzaStanza.v r.2.1,V.b r.2.2])) H (.inr rfl) (.cons (.cell rfl rfl (Nat.le_of_ble_eq_true rfl)) (.cons (.cell rfl rfl (Nat.le_of_ble_eq_true rfl)) (.cons (.tmp rfl) (.nil)))) rfl rfl
 conv=>whnf
 refine Tst.F ?_;conv=>whnf
 refine ask_c (p_ref26_Check_v _) H rfl rfl (fun v2 H=>?_);conv=>whnf
 iterate 2 (refine Tst.F ?_;conv=>whnf)
 refine tst_c H (fun b3 H=>?_) (fun b3 H=>?_)
 ·conv=>whnf
  iterate 4 (refine Tst.T ?_;conv=>whnf)
  refine ⟨Nat.le_of_ble_eq_true rfl,?_⟩;conv=>whnf
  refine ⟨Nat.le_of_ble_eq_true rfl,?_⟩;conv=>whnf
  exact fin0_c (enc := (fun r : SnapState × StanzaStanza × Bool=>.tup [SnapState.v r.1,StanzaStanza.v r.2.1,V.b r.2.2])) H (.inr rfl) (.cons (.cell rfl rfl (Nat.le_of_ble_eq_true rfl)) (.cons (.cell rfl rfl (Nat.le_of_ble_eq_true rfl)) (.cons (.tmp rfl) (.nil)))) rfl rfl
 conv=>whnf
 refine Tst.F ?_;conv=>whnf
 refine ask_c (p_ref24_Check_v _) H rfl rfl (fun v4 H=>?_);conv=>whnf
 iterate 2 (refine Tst.F ?_;conv=>whnf)
 refine tst_c H (fun b5 H=>?_) (fun b5 H=>?_)
 ·conv=>whnf
  refine ⟨Nat.le_of_ble_eq_true rfl,?_⟩;conv=>whnf
  refine ⟨Nat.le_of_ble_eq_true rfl,?_⟩;conv=>whnf
  exact fin0_c (enc := (fun r : SnapState × StanzaStanza × Bool=>.tup [SnapState.v r.1,StanzaStanza.v r.2.1,V.b r.2.2])) H (.inr rfl) (.cons (.cell rfl rfl (Nat.le_of_ble_eq_true rfl)) (.cons (.cell rfl rfl (Nat.le_of_ble_eq_true rfl)) (.cons (.tmp rfl) (.nil)))) rfl rfl
 conv=>whnf
 refine Tst.not ?_
 refine tst_d H (fun b6 H=>?_) (fun b6 H=>?_)
 ·conv=>whnf
  refine ask_c (p_ref26_Count_v _ _) H rfl rfl (fun v23 H=>?_);conv=>whnf
  refine ⟨Nat.le_of_ble_eq_true rfl,?_⟩;conv=>whnf
  refine ⟨Nat.le_of_ble_eq_true rfl,?_⟩;conv=>whnf
  exact fin0_c (enc := (fun r : SnapState × StanzaStanza × Bool=>.tup [SnapState.v r.1,StanzaStanza.v r.2.1,V.b r.2.2])) H (.inr rfl) (.cons (.cell rfl rfl (Nat.le_of_ble_eq_true rfl)) (.cons (.cell rfl rfl (Nat.le_of_ble_eq_true rfl)) (.cons (.tmp rfl) (.nil)))) rfl rfl
 conv=>whnf
 refine ask_c (p_ref26_View_v _ _) H rfl rfl (fun v7 H=>?_);conv=>whnf
 obtain ⟨o9,HL10,HQ11⟩ := bind_c H
 refine loop_c [8,10,6,7] [11,38,39,40,41,42,43,44,45,46,47,48,49,50,51,52,53,54,55,56,57,58,59,60,61,62,63,64,65,66,67,68,69,70,71,72,73,74,75,76,77,78,79,80,4,5,12,27] [11,38,39,40,41,42,43,44,45,46,47,48,49,50,51,52,53,54,55,56,57,58,59,60,61,62,63,64,65,66,67,68,69,70,71,72,73,74,75,76,77,78,79,80,4,5,12,27] (fun n vals st=>(∃ y13,p_ref26_Next_l1  v7 a0 n y13 = some o9 ∧ vals = [.b false,.i y13,.ptr 1 0,.ptr 2 0] ∧ st = [.live [.b a0.On,.b a0.Begun,.s a0.After,.i a0.Told] 0,.live [.b false,.b false,.s (⟨#[]⟩ : ByteArray),.i (0 : Int)] 0,.live [.y8 (0 : Int),.s (⟨#[]⟩ : ByteArray),.s (⟨#[]⟩ : ByteArray),.s (⟨#[]⟩ : ByteArray),.i (0 : Int),.i (0 : Int),.i (0 : Int),.i (0 : Int)] 0])) fuel 3 [0,3,4] (⟨_,HL10,rfl,rfl⟩) (Nat.zero_le _) rfl (by kernel_rfl) (by kernel_rfl) rfl ⟨⟨rfl,rfl,rfl⟩,⟨⟨rfl,rfl,rfl⟩,⟨⟨rfl,rfl,rfl⟩,trivial⟩⟩⟩ ?_
 rintro (_ | n12) _ _ (⟨y13,H,rfl,rfl⟩)
 ·rw [p_ref26_Next_l1] at H;cases H
 rw [p_ref26_Next_l1] at H
 conv=>whnf
 refine LenQ.M ?_;conv=>whnf
 refine tst_d H (fun b14 H=>?_) (fun b14 H=>?_)
 ·conv=>whnf
  obtain rfl := Option.some.inj H
  have H := HQ11
  try dsimp only at H
  refine ⟨Nat.le_of_ble_eq_true rfl,?_⟩;conv=>whnf
  refine ⟨Nat.le_of_ble_eq_true rfl,?_⟩;conv=>whnf
  exact fin0_c (enc := (fun r : SnapState × StanzaStanza × Bool=>.tup [SnapState.v r.1,StanzaStanza.v r.2.1,V.b r.2.2])) H (.inr rfl) (.cons (.cell rfl rfl (Nat.le_of_ble_eq_true rfl)) (.cons (.cell rfl rfl (Nat.le_of_ble_eq_true rfl)) (.cons (.tmp rfl) (.nil)))) rfl rfl
 conv=>whnf
 refine ixs_c (f := BookRow.v) H (fun _=>rfl) (fun x15 H=>?_);conv=>whnf
 refine ⟨Nat.le_of_ble_eq_true rfl,?_⟩;conv=>whnf
 refine ixs_c (f := BookRow.v) H (fun _=>rfl) (fun x16 H=>?_);conv=>whnf
 refine ⟨Nat.le_of_ble_eq_true rfl,?_⟩;conv=>whnf
 refine ask_c (p_ref23_Key_v _ _) H rfl rfl (fun v17 H=>?_);conv=>whnf
 refine FootQ.mk ⟨rfl,?_⟩;conv=>whnf
 refine Tst.not ?_
 refine tst_c H (fun b18 H=>?_) (fun b18 H=>?_)
 ·conv=>whnf
  refine Ari.w ?_;conv=>whnf
  exact again_c [11,38,39,40,41,42,43,44,45,46,47,48,49,50,51,52,53,54,55,56,57,58,59,60,61,62,63,64,65,66,67,68,69,70,71,72,73,74,75,76,77,78,79,80,4,5,12,27] n12 3 [] (⟨_,H,rfl,rfl⟩) (Nat.lt_succ_self _) (Nat.zero_le _) rfl (by kernel_rfl) (by kernel_rfl) rfl ⟨⟨rfl,rfl,rfl⟩,⟨⟨rfl,rfl,rfl⟩,⟨⟨rfl,rfl,rfl⟩,trivial⟩⟩⟩
 conv=>whnf
 refine Ari.w ?_;conv=>whnf
 refine ixs_c (f := BookRow.v) H (fun _=>rfl) (fun x19 H=>?_);conv=>whnf
 refine ⟨Nat.le_of_ble_eq_true rfl,?_⟩;conv=>whnf
 refine ixs_c (f := BookRow.v) H (fun _=>rfl) (fun x20 H=>?_);conv=>whnf
 refine ⟨Nat.le_of_ble_eq_true rfl,?_⟩;conv=>whnf
 refine ixs_c (f := BookRow.v) H (fun _=>rfl) (fun x21 H=>?_);conv=>whnf
 refine ⟨Nat.le_of_ble_eq_true rfl,?_⟩;conv=>whnf
 refine ask_c (p_ref23_Say_v _ _ _) H rfl rfl (fun v22 H=>?_);conv=>whnf
 refine ⟨Nat.le_of_ble_eq_true rfl,?_⟩;conv=>whnf
 refine ⟨Nat.le_of_ble_eq_true rfl,?_⟩;conv=>whnf
 refine FootQ.mk ⟨rfl,?_⟩;conv=>whnf
 obtain rfl := Option.some.inj H
 have H := HQ11
 try dsimp only at H
 exact fin0_c (enc := (fun r : SnapState × StanzaStanza × Bool=>.tup [SnapState.v r.1,StanzaStanza.v r.2.1,V.b r.2.2])) H (.inr rfl) (.cons (.cell rfl rfl (Nat.le_of_ble_eq_true rfl)) (.cons (.cell rfl rfl (Nat.le_of_ble_eq_true rfl)) (.cons (.tmp rfl) (.nil)))) rfl rfl
def gc26 : BCode := (.seq (.reg 2 [⟨(some 2),.bx (.tmp 0),none,0⟩,⟨(some 3),.bx (.tmp 1),none,1⟩,⟨(some 4),.mv (.const (.slice none 0 0)),none,2⟩] none 0 []) (.seq (.seq (.reg 0 [⟨(some 11),.ld 2 true (.tmp 3),none,0⟩,⟨(some 12),.cl 76 [(.tmp 11)],none,0⟩,⟨(some 13),.bin .neq (.tmp 12) (.const (.int .i64 0)),none,0⟩] none 0 []) (.cond (.tmp 13) (.seq (.reg 0 [⟨(some 4),.mv (.const (.slice none 0 0)),none,0⟩] none 0 []) .ret) .skip)) (.seq (.reg 0 [⟨(some 5),.mv (.const (.slice none 0 0)),none,0⟩] none 0 []) (.seq (.reg 1 [⟨(some 14),.bd [(.lit (.bool false)),(.lit (.bool false)),(.lit (.string ⟨#[]⟩)),(.lit (.int .i64 0))] [(0,1,(.const (.bool true)))],none,0⟩,⟨(some 6),.al (.agg [(.lit (.bool false)),(.lit (.bool false)),(.lit (.string ⟨#[]⟩)),(.lit (.int .i64 0))]),none,0⟩,⟨none,.st 4 (.tmp 6) (.tmp 14),none,1⟩] none 0 []) (.seq (.seq (.reg 0 [⟨(some 7),.mv (.const (.int .i64 0)),none,0⟩] none 0 []) (.block 0 (.loop (.seq (.seq (.reg 0 [⟨(some 15),.mv (.tmp 7),none,0⟩,⟨(some 16),.bin .lss (.tmp 15) (.const (.int .i64 20)),none,0⟩,⟨(some 17),.mv (.tmp 16),none,0⟩,⟨(some 18),.fa 0 (.tmp 6),(some (17,true)),0⟩,⟨(some 19),.ld 1 false (.tmp 18),(some (17,true)),0⟩,⟨(some 20),.pick (.tmp 17) (.tmp 19) (.const (.bool false)),none,0⟩] none 0 []) (.cond (.tmp 20) .skip (.exit 0))) (.seq (.block 1 (.seq (.reg 2 [⟨(some 24),.ld 4 true (.tmp 6),none,0⟩,⟨(some 25),.ld 2 true (.tmp 2),none,0⟩,⟨(some 26),.ld 2 true (.tmp 3),none,0⟩,⟨(some 27),.cl 89 [(.tmp 24),(.tmp 25),(.tmp 26)],none,0⟩,⟨(some 23),.mv (.tmp 27),none,0⟩,⟨(some 28),.ex (.tmp 23) 0,none,0⟩,⟨(some 29),.ex (.tmp 23) 1,none,0⟩,⟨(some 30),.ex (.tmp 23) 2,none,0⟩,⟨(some 8),.al (.agg [(.lit (.bool false)),(.lit (.bool false)),(.lit (.string ⟨#[]⟩)),(.lit (.int .i64 0))]),none,0⟩,⟨(some 9),.al (.agg [(.lit (.int .u8 0)),(.lit (.string ⟨#[]⟩)),(.lit (.string ⟨#[]⟩)),(.lit (.string ⟨#[]⟩)),(.lit (.int .i64 0)),(.lit (.int .i64 0)),(.lit (.int .i64 0)),(.lit (.int .i64 0))]),none,1⟩,⟨none,.st 4 (.tmp 8) (.tmp 28),none,2⟩,⟨none,.st 8 (.tmp 9) (.tmp 29),none,2⟩,⟨(some 10),.mv (.tmp 30),none,2⟩] none 0 []) (.seq (.reg 0 [⟨(some 31),.ld 4 true (.tmp 8),none,0⟩,⟨none,.st 4 (.tmp 6) (.tmp 31),none,0⟩] none 0 []) (.reg 2 [⟨(some 32),.mv (.tmp 5),none,0⟩,⟨(some 33),.ld 8 true (.tmp 9),none,0⟩,⟨(some 34),.bs 8 1 [(.lit (.int .u8 0)),(.lit (.string ⟨#[]⟩)),(.lit (.string ⟨#[]⟩)),(.lit (.string ⟨#[]⟩)),(.lit (.int .i64 0)),(.lit (.int .i64 0)),(.lit (.int .i64 0)),(.lit (.int .i64 0))] [(0,(.tmp 33))],none,0⟩,⟨(some 35),.ap 8 88 (.tmp 32) (.tmp 34),none,1⟩,⟨(some 5),.mv (.tmp 35),none,2⟩] none 0 [])))) (.reg 0 [⟨(some 21),.mv (.tmp 7),none,0⟩,⟨(some 22),.bin .add (.tmp 21) (.const (.int .i64 1)),none,0⟩,⟨(some 7),.mv (.tmp 22),none,0⟩] none 0 [])))))) (.seq (.reg 0 [⟨(some 36),.mv (.tmp 5),none,0⟩,⟨(some 4),.mv (.tmp 36),none,0⟩] none 0 []) .ret))))))
theorem gc26_ok : compF Tryz.prog Tryz.f26 = some (gc26.er,37,[.tmp 4]) := by unfold gc26;kernel_rfl
set_option maxRecDepth 100000 in
set_option maxHeartbeats 4000000 in
theorem p_ref26_All_v {u1 u2 u3 : Bool} (a0 : SnapEyes) (a1 : BookState) : CallsO Tryz.prog 26 [.agg [.sl (List.map V.s a0.Users) u1,.sl (List.map V.s a0.Keys) u2],.agg [.i a1.Seq,.sl (List.map BookRow.v a1.Rows) u3]] (fun l : List StanzaStanza=>V.sl (l.map StanzaStanza.v) false) (p_ref26_All a0 a1) := by
 refine callsO_comp mix Tryz.func26 gc26_ok fun r H=>?_
 rw [p_ref26_All] at H
 conv=>whnf
 refine ask_c (p_ref24_Check_v _) H rfl rfl (fun v1 H=>?_);conv=>whnf
 refine tst_c H (fun b2 H=>?_) (fun b2 H=>?_)
 ·conv=>whnf
  refine finR_c (enc := (fun l : List StanzaStanza=>V.sl (l.map StanzaStanza.v) false)) H ?_;conv=>whnf
  exact ⟨_,.v (.c (.slw))⟩
 conv=>whnf
 refine ⟨Nat.le_of_ble_eq_true rfl,?_⟩;conv=>whnf
 obtain ⟨o4,HL5,HQ6⟩ := bind_c H
 refine loop_c [5,7] [8,9,10,15,16,17,18,19,20,21,22,23,24,25,26,27,28,29,30,31,32,33,34,35] [8,9,10,15,16,17,18,19,20,21,22,23,24,25,26,27,28,29,30,31,32,33,34,35] (fun n vals st=>(∃ y8 y9,p_ref26_All_l1  a0 a1 n [] y8 y9 = some o4 ∧ vals = [.sl (List.map StanzaStanza.v []) true,.i y8] ∧ st = [.live [.sl (List.map V.s a0.Users) u1,.sl (List.map V.s a0.Keys) u2] 0,.live [.i a1.Seq,.sl (List.map BookRow.v a1.Rows) u3] 0,.live [.b y9.On,.b y9.Begun,.s y9.After,.i y9.Told] 0]) ∨ (∃ y14 y15 y16,p_ref26_All_l1  a0 a1 n y14 y15 y16 = some o4 ∧ vals = [.osl 3 0 (List.length y14) 8 false,.i y15] ∧ st = [.live [.sl (List.map V.s a0.Users) u1,.sl (List.map V.s a0.Keys) u2] 0,.live [.i a1.Seq,.sl (List.map BookRow.v a1.Rows) u3] 0,.live [.b y16.On,.b y16.Begun,.s y16.After,.i y16.Told] 0,.live (cellsM StanzaStanza.v y14) (cellsM StanzaStanza.v y14).length])) fuel 3 [] (.inl (⟨_,_,HL5,rfl,rfl⟩)) (Nat.zero_le _) rfl (by kernel_rfl) (by kernel_rfl) rfl ⟨⟨rfl,rfl,rfl⟩,⟨⟨rfl,rfl,rfl⟩,⟨⟨rfl,rfl,rfl⟩,trivial⟩⟩⟩ ?_
 rintro (_ | n7) _ _ (⟨y8,y9,H,rfl,rfl⟩ | ⟨y14,y15,y16,H,rfl,rfl⟩)
 ·rw [p_ref26_All_l1] at H;cases H
 ·rw [p_ref26_All_l1] at H;cases H
 ·rw [p_ref26_All_l1] at H
  conv=>whnf
  refine tst_d H (fun b10 H=>?_) (fun b10 H=>?_)
  ·conv=>whnf
   iterate 3 (refine Tst.F ?_;conv=>whnf)
   obtain rfl := Option.some.inj H
   have H := HQ6
   try dsimp only at H
   refine finR_c (enc := (fun l : List StanzaStanza=>V.sl (l.map StanzaStanza.v) false)) H ?_;conv=>whnf
   exact ⟨_,.v (.c (.slw))⟩
  conv=>whnf
  iterate 2 (refine Tst.T ?_;conv=>whnf)
  refine tst_d H (fun b11 H=>?_) (fun b11 H=>?_)
  ·conv=>whnf
   obtain rfl := Option.some.inj H
   have H := HQ6
   try dsimp only at H
   refine finR_c (enc := (fun l : List StanzaStanza=>V.sl (l.map StanzaStanza.v) false)) H ?_;conv=>whnf
   exact ⟨_,.v (.c (.slw))⟩
  conv=>whnf
  refine ask_c (p_ref26_Next_v _ _ _) H rfl rfl (fun v12 H=>?_);conv=>whnf
  refine ⟨Nat.le_of_ble_eq_true rfl,?_⟩;conv=>whnf
  refine ⟨Nat.le_of_ble_eq_true rfl,?_⟩;conv=>whnf
  refine ⟨Nat.le_of_ble_eq_true rfl,?_⟩;conv=>whnf
  refine appN_c (f := StanzaStanza.v) H (fun _=>rfl) (srcM (f := StanzaStanza.v) (fun _=>rfl) _ _) rfl (.v (srcOwn (f := StanzaStanza.v) (l := [v12.2.1]) (fun _=>rfl) rfl rfl rfl)) (by decide) rfl (by simp) (fun l13 H=>?_);conv=>whnf
  refine Ari.w ?_;conv=>whnf
  exact again_c [8,9,10,15,16,17,18,19,20,21,22,23,24,25,26,27,28,29,30,31,32,33,34,35] n7 4 [0,1,2,6] (.inr (⟨_,_,_,H,rfl,rfl⟩)) (Nat.lt_succ_self _) (Nat.zero_le _) rfl (by kernel_rfl) (by kernel_rfl) rfl ⟨⟨rfl,rfl,rfl⟩,⟨⟨rfl,rfl,rfl⟩,⟨⟨rfl,rfl,rfl⟩,wkB_live0 rfl (cellsM_idlt (f := StanzaStanza.v) (fun _=>rfl) _) rfl trivial⟩⟩⟩
 rw [p_ref26_All_l1] at H
 conv=>whnf
 refine tst_d H (fun b17 H=>?_) (fun b17 H=>?_)
 ·conv=>whnf
  iterate 3 (refine Tst.F ?_;conv=>whnf)
  obtain rfl := Option.some.inj H
  have H := HQ6
  try dsimp only at H
  refine finR_c (enc := (fun l : List StanzaStanza=>V.sl (l.map StanzaStanza.v) false)) H ?_;conv=>whnf
  exact ⟨_,.v (.c (fzown (f := StanzaStanza.v) (l := y14) rfl rfl (fun _=>rfl) (fun _=>rfl)))⟩
 conv=>whnf
 iterate 2 (refine Tst.T ?_;conv=>whnf)
 refine tst_d H (fun b18 H=>?_) (fun b18 H=>?_)
 ·conv=>whnf
  obtain rfl := Option.some.inj H
  have H := HQ6
  try dsimp only at H
  refine finR_c (enc := (fun l : List StanzaStanza=>V.sl (l.map StanzaStanza.v) false)) H ?_;conv=>whnf
  exact ⟨_,.v (.c (fzown (f := StanzaStanza.v) (l := y14) rfl rfl (fun _=>rfl) (fun _=>rfl)))⟩
 conv=>whnf
 refine ask_c (p_ref26_Next_v _ _ _) H rfl rfl (fun v19 H=>?_);conv=>whnf
 refine ⟨Nat.le_of_ble_eq_true rfl,?_⟩;conv=>whnf
 refine ⟨Nat.le_of_ble_eq_true rfl,?_⟩;conv=>whnf
 refine ⟨Nat.le_of_ble_eq_true rfl,?_⟩;conv=>whnf
 refine appO_c (f := StanzaStanza.v) H (fun _=>rfl) rfl (Nat.le_refl _) (.v (srcOwn (f := StanzaStanza.v) (l := [v19.2.1]) (fun _=>rfl) rfl rfl rfl)) (by decide) rfl (by simp) (fun l20 H=>?_);conv=>whnf
 refine Ari.w ?_;conv=>whnf
 exact again_c [8,9,10,15,16,17,18,19,20,21,22,23,24,25,26,27,28,29,30,31,32,33,34,35] n7 4 [0,1,2,7] (.inr (⟨_,_,_,H,rfl,rfl⟩)) (Nat.lt_succ_self _) (Nat.zero_le _) rfl (by kernel_rfl) (by kernel_rfl) rfl ⟨⟨rfl,rfl,rfl⟩,⟨⟨rfl,rfl,rfl⟩,⟨⟨rfl,rfl,rfl⟩,wkB_live0 rfl (cellsM_idlt (f := StanzaStanza.v) (fun _=>rfl) _) rfl trivial⟩⟩⟩
def gc23 : BCode := (.seq (.reg 0 [⟨(some 4),.mv (.const (.bool false)),none,0⟩] none 0 []) (.seq (.seq (.reg 0 [⟨(some 6),.mv (.tmp 0),none,0⟩,⟨(some 7),.lens (.tmp 6),none,0⟩,⟨(some 8),.mv (.tmp 1),none,0⟩,⟨(some 9),.lens (.tmp 8),none,0⟩,⟨(some 10),.bin .neq (.tmp 7) (.tmp 9),none,0⟩] none 0 []) (.cond (.tmp 10) (.seq (.reg 0 [⟨(some 4),.mv (.const (.bool false)),none,0⟩] none 0 []) .ret) .skip)) (.seq (.seq (.reg 0 [⟨(some 5),.mv (.const (.int .i64 0)),none,0⟩] none 0 []) (.block 0 (.loop (.seq (.seq (.reg 0 [⟨(some 11),.mv (.tmp 5),none,0⟩,⟨(some 12),.mv (.tmp 0),none,0⟩,⟨(some 13),.lens (.tmp 12),none,0⟩,⟨(some 14),.bin .lss (.tmp 11) (.tmp 13),none,0⟩] none 0 []) (.cond (.tmp 14) .skip (.exit 0))) (.seq (.block 1 (.seq (.reg 0 [⟨(some 17),.mv (.tmp 0),none,0⟩,⟨(some 18),.mv (.tmp 5),none,0⟩,⟨(some 19),.ixs 8 (.tmp 17) (.tmp 18),none,0⟩,⟨(some 20),.ld 8 true (.tmp 19),none,0⟩,⟨(some 21),.mv (.tmp 1),none,0⟩,⟨(some 22),.mv (.tmp 5),none,0⟩,⟨(some 23),.ixs 8 (.tmp 21) (.tmp 22),none,0⟩,⟨(some 24),.ld 8 true (.tmp 23),none,0⟩,⟨(some 25),.eqa true [1,2,2,2,1,1,1,1] (.tmp 20) (.tmp 24),none,0⟩] (some [[],[],[1,0],[0,1,2],[],[],[5,4],[4,5,6],[6,5,4,7,2,1,0,3]]) 0 []) (.cond (.tmp 25) (.seq (.reg 0 [⟨(some 4),.mv (.const (.bool false)),none,0⟩] none 0 []) .ret) .skip))) (.reg 0 [⟨(some 15),.mv (.tmp 5),none,0⟩,⟨(some 16),.bin .add (.tmp 15) (.const (.int .i64 1)),none,0⟩,⟨(some 5),.mv (.tmp 16),none,0⟩] none 0 [])))))) (.seq (.reg 0 [⟨(some 4),.mv (.const (.bool true)),none,0⟩] none 0 []) .ret))))
theorem gc23_ok : compF Tryz.prog Tryz.f23 = some (gc23.er,26,[.tmp 4]) := by unfold gc23;kernel_rfl
set_option maxRecDepth 100000 in
set_option maxHeartbeats 4000000 in
theorem p_ref10_SameAll_v {u1 u2 : Bool} (a0 : List StanzaStanza) (a1 : List StanzaStanza) : CallsO Tryz.prog 23 [.sl (List.map StanzaStanza.v a0) u1,.sl (List.map StanzaStanza.v a1) u2] V.b (p_ref10_SameAll a0 a1) := by
 refine callsO_comp mix Tryz.func23 gc23_ok fun r H=>?_
 rw [p_ref10_SameAll] at H
 conv=>whnf
 iterate 2 (refine LenQ.M ?_;conv=>whnf)
 refine tst_c H (fun b1 H=>?_) (fun b1 H=>?_)
 ·conv=>whnf
  exact fin0_c (enc := V.b) H (.inr rfl) (.cons (.tmp rfl) (.nil)) rfl rfl
 conv=>whnf
 obtain ⟨o3,HL4,HQ5⟩ := bind_c H
 refine loop_c [4,5] [11,12,13,14,15,16,17,18,19,20,21,22,23,24,25] [11,12,13,14,15,16,17,18,19,20,21,22,23,24,25] (fun n vals st=>(∃ y7,p_ref10_SameAll_l1  a0 a1 n y7 = some o3 ∧ vals = [.b false,.i y7] ∧ st = [])) fuel 0 [] (⟨_,HL4,rfl,rfl⟩) (Nat.zero_le _) rfl (by kernel_rfl) (by kernel_rfl) rfl trivial ?_
 rintro (_ | n6) _ _ (⟨y7,H,rfl,rfl⟩)
 ·rw [p_ref10_SameAll_l1] at H;cases H
 rw [p_ref10_SameAll_l1] at H
 conv=>whnf
 refine LenQ.M ?_;conv=>whnf
 refine tst_d H (fun b8 H=>?_) (fun b8 H=>?_)
 ·conv=>whnf
  obtain rfl := Option.some.inj H
  have H := HQ5
  try dsimp only at H
  exact fin0_c (enc := V.b) H (.inr rfl) (.cons (.tmp rfl) (.nil)) rfl rfl
 conv=>whnf
 refine ixs_c (f := StanzaStanza.v) H (fun _=>rfl) (fun x9 H=>?_);conv=>whnf
 refine ixs_c (f := StanzaStanza.v) H (fun _=>rfl) (fun x10 H=>?_);conv=>whnf
 refine FootQ.mk ⟨rfl,?_⟩;conv=>whnf
 refine Tst.not ?_
 refine tst_d H (fun b11 H=>?_) (fun b11 H=>?_)
 ·conv=>whnf
  obtain rfl := Option.some.inj H
  have H := HQ5
  try dsimp only at H
  exact fin0_c (enc := V.b) H (.inr rfl) (.cons (.tmp rfl) (.nil)) rfl rfl
 conv=>whnf
 refine Ari.w ?_;conv=>whnf
 exact again_c [11,12,13,14,15,16,17,18,19,20,21,22,23,24,25] n6 0 [] (⟨_,H,rfl,rfl⟩) (Nat.lt_succ_self _) (Nat.zero_le _) rfl (by kernel_rfl) (by kernel_rfl) rfl trivial
end Go.Proofs.YthlhbgedidipkaaGreat
/- That the program's functions yield what the plain ones tell (written by a program of mine). -/
namespace Go.Proofs.YthlhbgedidipkaaGreat
open Go.RowKit
def gc79 : BCode := (.seq (.reg 3 [⟨(some 5),.bx (.tmp 0),none,0⟩,⟨(some 10),.al (.agg [(.lit (.int .i64 0)),(.sl [] true)]),none,1⟩,⟨(some 11),.al (.agg [(.lit (.bool false)),(.lit (.int .i64 0)),(.lit (.int .i64 0)),(.lit (.int .i64 0))]),none,2⟩,⟨(some 12),.mv (.const (.int .i64 0)),none,3⟩] none 0 []) (.seq (.reg 1 [⟨(some 13),.al (.agg [(.lit (.bool false)),(.lit (.int .i64 0)),(.lit (.int .i64 0)),(.lit (.int .i64 0))]),none,0⟩] none 0 []) (.seq (.seq (.reg 0 [⟨(some 20),.ld 2 true (.tmp 5),none,0⟩,⟨(some 21),.cl 152 [(.tmp 20)],none,0⟩,⟨(some 14),.mv (.tmp 21),none,0⟩] none 0 []) (.seq (.reg 0 [⟨(some 22),.mv (.tmp 14),none,0⟩,⟨(some 23),.bin .neq (.tmp 22) (.const (.int .i64 0)),none,0⟩] none 0 []) (.cond (.tmp 23) (.seq (.reg 0 [⟨(some 24),.ld 2 true (.tmp 5),none,0⟩,⟨(some 25),.ld 4 true (.tmp 13),none,0⟩,⟨(some 26),.mv (.tmp 14),none,0⟩,⟨none,.st 2 (.tmp 10) (.tmp 24),none,0⟩,⟨none,.st 4 (.tmp 11) (.tmp 25),none,0⟩,⟨(some 12),.mv (.tmp 26),none,0⟩] (some [[],[],[],[0],[0,3,1],[1,3,0,4,2]]) 0 []) .ret) .skip))) (.seq (.reg 1 [⟨(some 27),.mv (.tmp 1),none,0⟩,⟨(some 28),.mv (.tmp 2),none,0⟩,⟨(some 29),.mv (.tmp 3),none,0⟩,⟨(some 30),.mv (.tmp 4),none,0⟩,⟨(some 31),.bd [(.lit (.bool false)),(.lit (.int .i64 0)),(.lit (.int .i64 0)),(.lit (.int .i64 0))] [(0,1,(.const (.bool true))),(1,1,(.tmp 29)),(2,1,(.tmp 30))],none,0⟩,⟨(some 32),.bd [(.lit (.string ⟨#[]⟩)),(.lit (.string ⟨#[]⟩)),(.lit (.bool false)),(.lit (.int .i64 0)),(.lit (.int .i64 0)),(.lit (.int .i64 0))] [(0,1,(.tmp 27)),(1,1,(.tmp 28)),(2,4,(.tmp 31))],none,0⟩,⟨(some 15),.al (.agg [(.lit (.string ⟨#[]⟩)),(.lit (.string ⟨#[]⟩)),(.lit (.bool false)),(.lit (.int .i64 0)),(.lit (.int .i64 0)),(.lit (.int .i64 0))]),none,0⟩,⟨none,.st 6 (.tmp 15) (.tmp 32),none,1⟩] none 0 []) (.seq (.seq (.reg 0 [⟨(some 33),.ld 6 true (.tmp 15),none,0⟩,⟨(some 34),.cl 153 [(.tmp 33)],none,0⟩,⟨(some 35),.bin .eql (.tmp 34) (.const (.string ⟨#[]⟩)),none,0⟩] none 0 []) (.cond (.tmp 35) (.seq (.reg 0 [⟨(some 36),.ld 2 true (.tmp 5),none,0⟩,⟨(some 37),.ld 4 true (.tmp 13),none,0⟩,⟨none,.st 2 (.tmp 10) (.tmp 36),none,0⟩,⟨none,.st 4 (.tmp 11) (.tmp 37),none,0⟩,⟨(some 12),.mv (.const (.int .i64 11)),none,0⟩] (some [[],[],[0],[0,2,1],[1,2,0,3]]) 0 []) .ret) .skip)) (.seq (.seq (.reg 0 [⟨(some 38),.fa 2 (.tmp 15),none,0⟩,⟨(some 39),.ld 4 true (.tmp 38),none,0⟩,⟨(some 40),.cl 148 [(.tmp 39)],none,0⟩,⟨(some 16),.mv (.tmp 40),none,0⟩] none 0 []) (.seq (.reg 0 [⟨(some 41),.mv (.tmp 16),none,0⟩,⟨(some 42),.bin .neq (.tmp 41) (.const (.int .i64 0)),none,0⟩] none 0 []) (.cond (.tmp 42) (.seq (.reg 0 [⟨(some 43),.ld 2 true (.tmp 5),none,0⟩,⟨(some 44),.ld 4 true (.tmp 13),none,0⟩,⟨(some 45),.mv (.tmp 16),none,0⟩,⟨none,.st 2 (.tmp 10) (.tmp 43),none,0⟩,⟨none,.st 4 (.tmp 11) (.tmp 44),none,0⟩,⟨(some 12),.mv (.tmp 45),none,0⟩] (some [[],[],[],[0],[0,3,1],[1,3,0,4,2]]) 0 []) .ret) .skip))) (.seq (.reg 0 [⟨(some 47),.ld 2 true (.tmp 5),none,0⟩,⟨(some 48),.ld 6 true (.tmp 15),none,0⟩,⟨(some 49),.cl 153 [(.tmp 48)],none,0⟩,⟨(some 50),.cl 154 [(.tmp 47),(.tmp 49)],none,0⟩,⟨(some 46),.mv (.tmp 50),none,0⟩,⟨(some 51),.ex (.tmp 46) 0,none,0⟩,⟨(some 52),.ex (.tmp 46) 1,none,0⟩,⟨(some 17),.mv (.tmp 51),none,0⟩,⟨(some 18),.mv (.tmp 52),none,0⟩] (some [[],[],[1],[1,2,0],[0,2,1,3],[3,1,2,0,4],[3,1,2,0,4],[4,0,2,1,3,5],[5,7,4,0,2,1,3,6]]) 0 []) (.seq (.seq (.reg 0 [⟨(some 53),.mv (.tmp 18),none,0⟩,⟨(some 54),.un .not (.tmp 53),none,0⟩,⟨(some 55),.mv (.tmp 54),none,0⟩,⟨(some 56),.fa 1 (.tmp 5),(some (55,true)),0⟩,⟨(some 57),.ld 1 false (.tmp 56),(some (55,true)),0⟩,⟨(some 58),.lens (.tmp 57),(some (55,true)),0⟩,⟨(some 59),.bin .geq (.tmp 58) (.const (.int .i64 16)),(some (55,true)),0⟩,⟨(some 60),.mv (.tmp 59),(some (55,true)),0⟩,⟨(some 61),.ld 2 true (.tmp 5),(some (60,false)),0⟩,⟨(some 62),.mv (.tmp 1),(some (60,false)),0⟩,⟨(some 63),.cl 155 [(.tmp 61),(.tmp 62)],(some (60,false)),0⟩,⟨(some 64),.bin .geq (.tmp 63) (.const (.int .i64 3)),(some (60,false)),0⟩,⟨(some 65),.pick (.tmp 60) (.const (.bool true)) (.tmp 64),(some (55,true)),0⟩,⟨(some 66),.pick (.tmp 55) (.tmp 65) (.const (.bool false)),none,0⟩] none 0 []) (.cond (.tmp 66) (.seq (.reg 0 [⟨(some 67),.ld 2 true (.tmp 5),none,0⟩,⟨(some 68),.ld 4 true (.tmp 13),none,0⟩,⟨none,.st 2 (.tmp 10) (.tmp 67),none,0⟩,⟨none,.st 4 (.tmp 11) (.tmp 68),none,0⟩,⟨(some 12),.mv (.const (.int .i64 7)),none,0⟩] (some [[],[],[0],[0,2,1],[1,2,0,3]]) 0 []) .ret) .skip)) (.seq (.seq (.reg 0 [⟨(some 69),.fa 0 (.tmp 5),none,0⟩,⟨(some 70),.ld 1 false (.tmp 69),none,0⟩,⟨(some 71),.bin .geq (.tmp 70) (.const (.int .i64 1099511627776)),none,0⟩] none 0 []) (.cond (.tmp 71) (.seq (.reg 0 [⟨(some 72),.ld 2 true (.tmp 5),none,0⟩,⟨(some 73),.ld 4 true (.tmp 13),none,0⟩,⟨none,.st 2 (.tmp 10) (.tmp 72),none,0⟩,⟨none,.st 4 (.tmp 11) (.tmp 73),none,0⟩,⟨(some 12),.mv (.const (.int .i64 9)),none,0⟩] (some [[],[],[0],[0,2,1],[1,2,0,3]]) 0 []) .ret) .skip)) (.seq (.reg 0 [⟨(some 74),.fa 0 (.tmp 5),none,0⟩,⟨(some 75),.ld 1 false (.tmp 74),none,0⟩,⟨(some 76),.bin .add (.tmp 75) (.const (.int .i64 1)),none,0⟩,⟨(some 77),.fa 0 (.tmp 5),none,0⟩,⟨none,.st 1 (.tmp 77) (.tmp 76),none,0⟩] none 0 []) (.seq (.reg 0 [⟨(some 78),.fa 0 (.tmp 5),none,0⟩,⟨(some 79),.ld 1 false (.tmp 78),none,0⟩,⟨(some 80),.fa 2 (.tmp 15),none,0⟩,⟨(some 81),.fa 3 (.tmp 80),none,0⟩,⟨none,.st 1 (.tmp 81) (.tmp 79),none,0⟩] none 0 []) (.seq (.reg 0 [⟨(some 82),.fa 1 (.tmp 5),none,0⟩,⟨(some 83),.ld 1 false (.tmp 82),none,0⟩,⟨(some 84),.mv (.tmp 17),none,0⟩,⟨(some 85),.sls 6 (.tmp 83) (some (.tmp 84)) none none,none,0⟩,⟨(some 19),.mv (.tmp 85),none,0⟩] none 0 []) (.seq (.seq (.reg 0 [⟨(some 86),.mv (.tmp 18),none,0⟩] none 0 []) (.cond (.tmp 86) (.reg 0 [⟨(some 87),.fa 1 (.tmp 5),none,0⟩,⟨(some 88),.ld 1 false (.tmp 87),none,0⟩,⟨(some 89),.mv (.tmp 17),none,0⟩,⟨(some 90),.bin .add (.tmp 89) (.const (.int .i64 1)),none,0⟩,⟨(some 91),.sls 6 (.tmp 88) (some (.tmp 90)) none none,none,0⟩,⟨(some 19),.mv (.tmp 91),none,0⟩] none 0 []) .skip)) (.seq (.reg 3 [⟨(some 92),.fa 1 (.tmp 5),none,0⟩,⟨(some 93),.ld 1 false (.tmp 92),none,0⟩,⟨(some 94),.mv (.tmp 17),none,0⟩,⟨(some 95),.mv (.tmp 17),none,0⟩,⟨(some 96),.sls 6 (.tmp 93) none (some (.tmp 94)) (some (.tmp 95)),none,0⟩,⟨(some 97),.ld 6 true (.tmp 15),none,0⟩,⟨(some 98),.bs 6 1 [(.lit (.string ⟨#[]⟩)),(.lit (.string ⟨#[]⟩)),(.lit (.bool false)),(.lit (.int .i64 0)),(.lit (.int .i64 0)),(.lit (.int .i64 0))] [(0,(.tmp 97))],none,0⟩,⟨(some 99),.ap 6 64 (.tmp 96) (.tmp 98),none,1⟩,⟨(some 100),.mv (.tmp 19),none,2⟩,⟨(some 101),.ap 6 64 (.tmp 99) (.tmp 100),none,2⟩,⟨(some 102),.fa 1 (.tmp 5),none,3⟩,⟨none,.st 1 (.tmp 102) (.tmp 101),none,3⟩] (some [[],[0],[],[],[3,2,0,1],[],[5],[5,6,1,0,2,3,4],[],[8,4,3,2,0,1,6,5,7],[9,8,7,6,5,4,3,2,1,0],[0,1,2,3,4,5,6,7,8,9,10]]) 0 []) (.seq (.reg 0 [⟨(some 103),.ld 2 true (.tmp 5),none,0⟩,⟨(some 104),.fa 2 (.tmp 15),none,0⟩,⟨(some 105),.ld 4 true (.tmp 104),none,0⟩,⟨none,.st 2 (.tmp 10) (.tmp 103),none,0⟩,⟨none,.st 4 (.tmp 11) (.tmp 105),none,0⟩,⟨(some 12),.mv (.const (.int .i64 0)),none,0⟩] (some [[],[],[1],[0],[0,3,1,2],[2,1,3,0,4]]) 0 []) .ret)))))))))))))))
set_option maxRecDepth 1000000 in
theorem gc79_ok : compF Tryz.prog Tryz.f79 = some (gc79.er,106,[.cell 10 2 true,.cell 11 4 true,.tmp 12]) := by unfold gc79;kernel_rfl
set_option maxRecDepth 100000 in
set_option maxHeartbeats 4000000 in
theorem p_book_Set_v {u1 : Bool} (a0 : BookState) (a1 : ByteArray) (a2 : ByteArray) (a3 : Int) (a4 : Int) : CallsO Tryz.prog 79 [.agg [.i a0.Seq,.sl (List.map BookRow.v a0.Rows) u1],.s a1,.s a2,.i a3,.i a4] (fun r : BookState × PresPres × Int=>.tup [BookState.v r.1,PresPres.v r.2.1,V.i r.2.2]) (p_book_Set a0 a1 a2 a3 a4) := by
 refine callsO_comp mix Tryz.func79 gc79_ok fun r H=>?_
 rw [p_book_Set] at H
 conv=>whnf
 refine ask_c (p_book_Check_v _) H rfl rfl (fun v1 H=>?_);conv=>whnf
 refine tst_c H (fun b2 H=>?_) (fun b2 H=>?_)
 ·conv=>whnf
  refine ⟨Nat.le_of_ble_eq_true rfl,?_⟩;conv=>whnf
  refine ⟨Nat.le_of_ble_eq_true rfl,?_⟩;conv=>whnf
  refine FootQ.mk ⟨rfl,?_⟩;conv=>whnf
  refine finR_c (enc := (fun r : BookState × PresPres × Int=>.tup [BookState.v r.1,PresPres.v r.2.1,V.i r.2.2])) H ?_;conv=>whnf
  exact ⟨_,.tup (.cons (fzagg (.cons (.id rfl) (.cons (.slw) (.nil))) rfl) (.cons (fzagg (.cons (.id rfl) (.cons (.id rfl) (.cons (.id rfl) (.cons (.id rfl) (.nil))))) rfl) (.cons (.c (.id rfl)) (.nil))))⟩
 conv=>whnf
 refine ⟨Nat.le_of_ble_eq_true rfl,?_⟩;conv=>whnf
 refine ask_c (p_book_Row_key_v _) H rfl rfl (fun v3 H=>?_);conv=>whnf
 refine tst_c H (fun b4 H=>?_) (fun b4 H=>?_)
 ·conv=>whnf
  refine ⟨Nat.le_of_ble_eq_true rfl,?_⟩;conv=>whnf
  refine ⟨Nat.le_of_ble_eq_true rfl,?_⟩;conv=>whnf
  refine FootQ.mk ⟨rfl,?_⟩;conv=>whnf
  refine finR_c (enc := (fun r : BookState × PresPres × Int=>.tup [BookState.v r.1,PresPres.v r.2.1,V.i r.2.2])) H ?_;conv=>whnf
  exact ⟨_,.tup (.cons (fzagg (.cons (.id rfl) (.cons (.slw) (.nil))) rfl) (.cons (fzagg (.cons (.id rfl) (.cons (.id rfl) (.cons (.id rfl) (.cons (.id rfl) (.nil))))) rfl) (.cons (.c (.id rfl)) (.nil))))⟩
 conv=>whnf
 refine ask_c (p_pres_Check_v _) H rfl rfl (fun v5 H=>?_);conv=>whnf
 refine tst_c H (fun b6 H=>?_) (fun b6 H=>?_)
 ·conv=>whnf
  refine ⟨Nat.le_of_ble_eq_true rfl,?_⟩;conv=>whnf
  refine ⟨Nat.le_of_ble_eq_true rfl,?_⟩;conv=>whnf
  refine FootQ.mk ⟨rfl,?_⟩;conv=>whnf
  refine finR_c (enc := (fun r : BookState × PresPres × Int=>.tup [BookState.v r.1,PresPres.v r.2.1,V.i r.2.2])) H ?_;conv=>whnf
  exact ⟨_,.tup (.cons (fzagg (.cons (.id rfl) (.cons (.slw) (.nil))) rfl) (.cons (fzagg (.cons (.id rfl) (.cons (.id rfl) (.cons (.id rfl) (.cons (.id rfl) (.nil))))) rfl) (.cons (.c (.id rfl)) (.nil))))⟩
 conv=>whnf
 refine ask_c (p_book_Row_key_v _) H rfl rfl (fun v7 H=>?_);conv=>whnf
 refine ask_c (p_book_State_find_v _ _) H rfl rfl (fun v8 H=>?_);conv=>whnf
 refine FootQ.mk ⟨rfl,?_⟩;conv=>whnf
 refine Tst.not ?_
 refine tst_c H (fun b9 H=>?_) (fun b9 H=>?_)
 ·conv=>whnf
  iterate 7 (refine Tst.F ?_;conv=>whnf)
  refine tst_c H (fun b10 H=>?_) (fun b10 H=>?_)
  ·conv=>whnf
   refine ⟨Nat.le_of_ble_eq_true rfl,?_⟩;conv=>whnf
   refine ⟨Nat.le_of_ble_eq_true rfl,?_⟩;conv=>whnf
   refine FootQ.mk ⟨rfl,?_⟩;conv=>whnf
   refine finR_c (enc := (fun r : BookState × PresPres × Int=>.tup [BookState.v r.1,PresPres.v r.2.1,V.i r.2.2])) H ?_;conv=>whnf
   exact ⟨_,.tup (.cons (fzagg (.cons (.id rfl) (.cons (.slw) (.nil))) rfl) (.cons (fzagg (.cons (.id rfl) (.cons (.id rfl) (.cons (.id rfl) (.cons (.id rfl) (.nil))))) rfl) (.cons (.c (.id rfl)) (.nil))))⟩
  conv=>whnf
  refine Ari.w ?_;conv=>whnf
  refine ⟨Nat.le_of_ble_eq_true rfl,?_⟩;conv=>whnf
  refine ⟨Nat.le_of_ble_eq_true rfl,?_⟩;conv=>whnf
  refine slsE_c (f := BookRow.v) H (fun _=>rfl) (fun x11 H=>?_);conv=>whnf
  refine Tst.isT b9 ?_;conv=>whnf
  refine Ari.w ?_;conv=>whnf
  refine slsE_c (f := BookRow.v) H (fun _=>rfl) (fun x12 H=>?_);conv=>whnf
  refine slsC_c (f := BookRow.v) H (fun _=>rfl) (fun x13 H=>?_);conv=>whnf
  refine appN_c (f := BookRow.v) H (fun _=>rfl) (srcM (f := BookRow.v) (fun _=>rfl) _ _) rfl (.v (srcOwn (f := BookRow.v) (l := [(BookRow.mk a1 a2 (PresPres.mk true a3 a4 (w64 (a0.Seq + (1 : Int)))))]) (fun _=>rfl) rfl rfl rfl)) (by decide) rfl (by simp) (fun l14 H=>?_);conv=>whnf
  refine appP_c (f := BookRow.v) H (fun _=>rfl) rfl rfl (.v (srcM (f := BookRow.v) (fun _=>rfl) _ _)) (by decide) rfl (fun l15 H=>?_) (fun l15 H=>?_)
  ·conv=>whnf
   refine ⟨Nat.le_of_ble_eq_true rfl,?_⟩;conv=>whnf
   refine FootQ.mk ⟨rfl,?_⟩;conv=>whnf
   refine ⟨Nat.le_of_ble_eq_true rfl,?_⟩;conv=>whnf
   refine ⟨Nat.le_of_ble_eq_true rfl,?_⟩;conv=>whnf
   refine FootQ.mk ⟨rfl,?_⟩;conv=>whnf
   refine finR_c (enc := (fun r : BookState × PresPres × Int=>.tup [BookState.v r.1,PresPres.v r.2.1,V.i r.2.2])) H ?_;conv=>whnf
   exact ⟨_,.tup (.cons (fzagg (.cons (.id rfl) (.cons (fzown (f := BookRow.v) (l := l15) rfl rfl (fun _=>rfl) (fun _=>rfl)) (.nil))) rfl) (.cons (fzagg (.cons (.id rfl) (.cons (.id rfl) (.cons (.id rfl) (.cons (.id rfl) (.nil))))) rfl) (.cons (.c (.id rfl)) (.nil))))⟩
  conv=>whnf
  refine ⟨Nat.le_of_ble_eq_true rfl,?_⟩;conv=>whnf
  refine FootQ.mk ⟨rfl,?_⟩;conv=>whnf
  refine ⟨Nat.le_of_ble_eq_true rfl,?_⟩;conv=>whnf
  refine ⟨Nat.le_of_ble_eq_true rfl,?_⟩;conv=>whnf
  refine FootQ.mk ⟨rfl,?_⟩;conv=>whnf
  refine finR_c (enc := (fun r : BookState × PresPres × Int=>.tup [BookState.v r.1,PresPres.v r.2.1,V.i r.2.2])) H ?_;conv=>whnf
  exact ⟨_,.tup (.cons (fzagg (.cons (.id rfl) (.cons (fzown (f := BookRow.v) (l := l15) rfl rfl (fun _=>rfl) (fun _=>rfl)) (.nil))) rfl) (.cons (fzagg (.cons (.id rfl) (.cons (.id rfl) (.cons (.id rfl) (.cons (.id rfl) (.nil))))) rfl) (.cons (.c (.id rfl)) (.nil))))⟩
 conv=>whnf
 iterate 2 (refine Tst.T ?_;conv=>whnf)
 refine LenQ.M ?_;conv=>whnf
 iterate 2 (refine Tst.T ?_;conv=>whnf)
 refine tst_c H (fun b16 H=>?_) (fun b16 H=>?_)
 ·conv=>whnf
  iterate 7 (refine Tst.T ?_;conv=>whnf)
  refine ⟨Nat.le_of_ble_eq_true rfl,?_⟩;conv=>whnf
  refine ⟨Nat.le_of_ble_eq_true rfl,?_⟩;conv=>whnf
  refine FootQ.mk ⟨rfl,?_⟩;conv=>whnf
  refine finR_c (enc := (fun r : BookState × PresPres × Int=>.tup [BookState.v r.1,PresPres.v r.2.1,V.i r.2.2])) H ?_;conv=>whnf
  exact ⟨_,.tup (.cons (fzagg (.cons (.id rfl) (.cons (.slw) (.nil))) rfl) (.cons (fzagg (.cons (.id rfl) (.cons (.id rfl) (.cons (.id rfl) (.cons (.id rfl) (.nil))))) rfl) (.cons (.c (.id rfl)) (.nil))))⟩
 conv=>whnf
 iterate 2 (refine Tst.F ?_;conv=>whnf)
 refine ask_c (p_book_State_many_v _ _) H rfl rfl (fun v17 H=>?_);conv=>whnf
 refine Tst.F ?_;conv=>whnf
 refine Tst.T ?_;conv=>whnf
 refine Tst.F ?_;conv=>whnf
 refine Tst.T ?_;conv=>whnf
 refine tst_c H (fun b18 H=>?_) (fun b18 H=>?_)
 ·conv=>whnf
  refine ⟨Nat.le_of_ble_eq_true rfl,?_⟩;conv=>whnf
  refine ⟨Nat.le_of_ble_eq_true rfl,?_⟩;conv=>whnf
  refine FootQ.mk ⟨rfl,?_⟩;conv=>whnf
  refine finR_c (enc := (fun r : BookState × PresPres × Int=>.tup [BookState.v r.1,PresPres.v r.2.1,V.i r.2.2])) H ?_;conv=>whnf
  exact ⟨_,.tup (.cons (fzagg (.cons (.id rfl) (.cons (.slw) (.nil))) rfl) (.cons (fzagg (.cons (.id rfl) (.cons (.id rfl) (.cons (.id rfl) (.cons (.id rfl) (.nil))))) rfl) (.cons (.c (.id rfl)) (.nil))))⟩
 conv=>whnf
 refine tst_c H (fun b19 H=>?_) (fun b19 H=>?_)
 ·conv=>whnf
  refine ⟨Nat.le_of_ble_eq_true rfl,?_⟩;conv=>whnf
  refine ⟨Nat.le_of_ble_eq_true rfl,?_⟩;conv=>whnf
  refine FootQ.mk ⟨rfl,?_⟩;conv=>whnf
  refine finR_c (enc := (fun r : BookState × PresPres × Int=>.tup [BookState.v r.1,PresPres.v r.2.1,V.i r.2.2])) H ?_;conv=>whnf
  exact ⟨_,.tup (.cons (fzagg (.cons (.id rfl) (.cons (.slw) (.nil))) rfl) (.cons (fzagg (.cons (.id rfl) (.cons (.id rfl) (.cons (.id rfl) (.cons (.id rfl) (.nil))))) rfl) (.cons (.c (.id rfl)) (.nil))))⟩
 conv=>whnf
 refine Ari.w ?_;conv=>whnf
 refine ⟨Nat.le_of_ble_eq_true rfl,?_⟩;conv=>whnf
 refine ⟨Nat.le_of_ble_eq_true rfl,?_⟩;conv=>whnf
 refine slsE_c (f := BookRow.v) H (fun _=>rfl) (fun x20 H=>?_);conv=>whnf
 refine Tst.isF b9 ?_;conv=>whnf
 refine slsC_c (f := BookRow.v) H (fun _=>rfl) (fun x21 H=>?_);conv=>whnf
 refine appN_c (f := BookRow.v) H (fun _=>rfl) (srcM (f := BookRow.v) (fun _=>rfl) _ _) rfl (.v (srcOwn (f := BookRow.v) (l := [(BookRow.mk a1 a2 (PresPres.mk true a3 a4 (w64 (a0.Seq + (1 : Int)))))]) (fun _=>rfl) rfl rfl rfl)) (by decide) rfl (by simp) (fun l22 H=>?_);conv=>whnf
 refine appP_c (f := BookRow.v) H (fun _=>rfl) rfl rfl (.v (srcM (f := BookRow.v) (fun _=>rfl) _ _)) (by decide) rfl (fun l23 H=>?_) (fun l23 H=>?_)
 ·conv=>whnf
  refine ⟨Nat.le_of_ble_eq_true rfl,?_⟩;conv=>whnf
  refine FootQ.mk ⟨rfl,?_⟩;conv=>whnf
  refine ⟨Nat.le_of_ble_eq_true rfl,?_⟩;conv=>whnf
  refine ⟨Nat.le_of_ble_eq_true rfl,?_⟩;conv=>whnf
  refine FootQ.mk ⟨rfl,?_⟩;conv=>whnf
  refine finR_c (enc := (fun r : BookState × PresPres × Int=>.tup [BookState.v r.1,PresPres.v r.2.1,V.i r.2.2])) H ?_;conv=>whnf
  exact ⟨_,.tup (.cons (fzagg (.cons (.id rfl) (.cons (fzown (f := BookRow.v) (l := l23) rfl rfl (fun _=>rfl) (fun _=>rfl)) (.nil))) rfl) (.cons (fzagg (.cons (.id rfl) (.cons (.id rfl) (.cons (.id rfl) (.cons (.id rfl) (.nil))))) rfl) (.cons (.c (.id rfl)) (.nil))))⟩
 conv=>whnf
 refine ⟨Nat.le_of_ble_eq_true rfl,?_⟩;conv=>whnf
 refine FootQ.mk ⟨rfl,?_⟩;conv=>whnf
 refine ⟨Nat.le_of_ble_eq_true rfl,?_⟩;conv=>whnf
 refine ⟨Nat.le_of_ble_eq_true rfl,?_⟩;conv=>whnf
 refine FootQ.mk ⟨rfl,?_⟩;conv=>whnf
 refine finR_c (enc := (fun r : BookState × PresPres × Int=>.tup [BookState.v r.1,PresPres.v r.2.1,V.i r.2.2])) H ?_;conv=>whnf
 exact ⟨_,.tup (.cons (fzagg (.cons (.id rfl) (.cons (fzown (f := BookRow.v) (l := l23) rfl rfl (fun _=>rfl) (fun _=>rfl)) (.nil))) rfl) (.cons (fzagg (.cons (.id rfl) (.cons (.id rfl) (.cons (.id rfl) (.cons (.id rfl) (.nil))))) rfl) (.cons (.c (.id rfl)) (.nil))))⟩
end Go.Proofs.YthlhbgedidipkaaGreat
