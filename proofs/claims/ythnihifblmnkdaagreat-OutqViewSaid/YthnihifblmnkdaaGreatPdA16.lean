/- A part of the proof: 11 texts joined. -/
import Derived.Test.YthnihifblmnkdaaGreatPdA12
import Derived.KernelRfl
import Derived.Test.YthnihifblmnkdaaGreatPdA15
import Derived.Test.YthnihifblmnkdaaGreatPdA11
import Derived.Test.YthnihifblmnkdaaGreatPdA6
import Derived.Test.YthnihifblmnkdaaGreatPdA10
import Derived.Test.YthnihifblmnkdaaGreatPdA14
import Derived.Test.YthnihifblmnkdaaGreatPdA13
set_option linter.all false
namespace Go.Proofs.YthnihifblmnkdaaGreat
open Go.RowKit
def da87:BCode:=(.seq (.reg 0 [⟨(some 9),.mv (.tmp 40),none,0⟩] none 0 []) (.reg 1 [⟨(some 10),.al (.agg [(.lit (.string ⟨#[]⟩)),(.lit (.string ⟨#[]⟩)),(.lit (.bool false)),(.lit (.int .i64 0)),(.lit (.int .i64 0)),(.lit (.int .i64 0))]),none,0⟩,⟨none,.st 6 (.tmp 10) (.tmp 41),none,1⟩] none 0 []))
def db87:BCode:=(.block 1 (.seq (.reg 0 [⟨(some 42),.mv (.tmp 9),none,0⟩,⟨(some 43),.fa 2 (.tmp 3),none,0⟩,⟨none,.st 1 (.tmp 43) (.tmp 42),none,0⟩] none 0 []) (.seq (.reg 0 [⟨(some 44),.fa 3 (.tmp 3),none,0⟩,⟨(some 45),.ld 1 false (.tmp 44),none,0⟩,⟨(some 46),.bin .add (.tmp 45) (.const (.int .i64 1)),none,0⟩,⟨(some 47),.mn false (.tmp 46) (.const (.int .i64 1099511627776)),none,0⟩,⟨(some 48),.fa 3 (.tmp 3),none,0⟩,⟨none,.st 1 (.tmp 48) (.tmp 47),none,0⟩] none 0 []) (.seq (.reg 0 [⟨(some 49),.ld 4 true (.tmp 3),none,0⟩,⟨(some 50),.fa 0 (.tmp 10),none,0⟩,⟨(some 51),.ld 1 false (.tmp 50),none,0⟩,⟨(some 52),.fa 1 (.tmp 10),none,0⟩,⟨(some 53),.ld 1 false (.tmp 52),none,0⟩,⟨(some 54),.fa 2 (.tmp 10),none,0⟩,⟨(some 55),.ld 4 true (.tmp 54),none,0⟩,⟨(some 56),.cl 91 [(.tmp 51),(.tmp 53),(.tmp 55)],none,0⟩,⟨none,.st 4 (.tmp 6) (.tmp 49),none,0⟩,⟨none,.st 8 (.tmp 7) (.tmp 56),none,0⟩,⟨none,.st 1 (.tmp 8) (.const (.bool true)),none,0⟩] (some [[],[],[1],[],[3],[],[5],[5,6,3,4,1,2],[2,1,4,3,6,5,7,0],[0,8,2,1,4,3,6,5,7],[7,5,6,3,4,1,2,8,0,9]]) 0 []) .ret))))
theorem rg87:rangeAt Tryz.f87 0=.rangeFunc (.tmp 39) #[40,41] (rangeAsg (rangeAt Tryz.f87 0)) (rangeBody (rangeAt Tryz.f87 0)):=by kernel_rfl
theorem da87_ok:comp Tryz.prog (rangeAsg (rangeAt Tryz.f87 0))=some da87.er:=by unfold da87;kernel_rfl
theorem db87_ok:comp Tryz.prog (rangeBody (rangeAt Tryz.f87 0))=some db87.er:=by unfold db87;kernel_rfl
theorem fl87:da87.er.flat=true∧db87.er.flat=true:=⟨rfl,rfl⟩
theorem sc87:(rangeAsg (rangeAt Tryz.f87 0)).scopes=false∧(rangeBody (rangeAt Tryz.f87 0)).scopes=false:=⟨by kernel_rfl,by kernel_rfl⟩
end Go.Proofs.YthnihifblmnkdaaGreat

namespace Go.Proofs.YthnihifblmnkdaaGreat
open Go.RowKit
set_option maxRecDepth 100000
set_option maxHeartbeats 4000000
def gc105:BCode:=(.seq (R_ 2 [O_ 2 (.bx (t_ 0)) 0,O_ 3 (.bx (t_ 1)) 1,O_ 4 (.mv (i_ 0)) 2]) (.seq (R_ 0 [O_ 5 (.ld 2 true (t_ 2)) 0,O_ 6 (.ld 2 true (t_ 3)) 0,O_ 7 (.cl 119 [(t_ 5),(t_ 6)]) 0,O_ 8 (.lens (t_ 7)) 0,O_ 4 (.mv (t_ 8)) 0]) .ret))
theorem gc105_ok:compF Tryz.prog Tryz.f105=some (gc105.er,9,[.tmp 4]):=by unfold gc105;kernel_rfl
theorem p_snap_Count_v {u1 u2 u3:Bool} (a0:SnapEyes) (a1:BookState):CallsO Tryz.prog 105 [.agg [.sl (List.map V.s a0.Users) u1,.sl (List.map V.s a0.Keys) u2],.agg [.i a1.Seq,.sl (List.map BookRow.v a1.Rows) u3]] V.i (p_snap_Count a0 a1):=by
 refine callsO_comp mix Tryz.func105 gc105_ok fun r H=>?_
 rw [p_snap_Count] at H
 conv=>whnf
 refine ask_c (p_snap_View_v _ _) H rfl rfl (fun v1 H=>?_);conv=>whnf
 refine LenQ.M ?_;conv=>whnf
 exact fi_ H
end Go.Proofs.YthnihifblmnkdaaGreat

namespace Go.Proofs.YthnihifblmnkdaaGreat
open Go.RowKit
def p_snap_Next (a0:SnapState) (a1:SnapEyes) (a2:BookState):Option (SnapState × StanzaStanza × Bool) :=
 bif a0.On then
  (p_snap_Check a0).bind fun v2 =>
  bif (v2 != (0:Int)) then
   some (a0,(StanzaStanza.mk (0:Int) (⟨#[]⟩ : ByteArray) (⟨#[]⟩ : ByteArray) (⟨#[]⟩ : ByteArray) (0:Int) (0:Int) (0:Int) (0:Int)),false)
  else
  (p_book_Check a2).bind fun v4 =>
  bif (v4 != (0:Int)) then
   some (a0,(StanzaStanza.mk (0:Int) (⟨#[]⟩ : ByteArray) (⟨#[]⟩ : ByteArray) (⟨#[]⟩ : ByteArray) (0:Int) (0:Int) (0:Int) (0:Int)),false)
  else
  bif a0.Begun then
   (p_snap_items a1 a2 a0.After).bind fun xs=>match xs with
   | []=>some ((SnapState.mk false false (⟨#[]⟩ : ByteArray) (0:Int)),(StanzaStanza.mk (37:Int) (⟨#[]⟩ : ByteArray) (⟨#[]⟩ : ByteArray) (⟨#[]⟩ : ByteArray) (0:Int) (0:Int) (0:Int) (0:Int)),true)
   | x :: _=>(p_pres_Say x.2.User x.2.Res x.2.P).bind fun s=>some ((SnapState.mk a0.On a0.Begun x.1 (if (1099511627776:Int) < w64 (a0.Told + (1:Int)) then (1099511627776:Int) else w64 (a0.Told + (1:Int)))),s,true)
  else
  (p_snap_Count a1 a2).bind fun v7 =>
  some ((SnapState.mk a0.On true a0.After a0.Told),(StanzaStanza.mk (36:Int) (⟨#[]⟩ : ByteArray) (⟨#[]⟩ : ByteArray) (⟨#[]⟩ : ByteArray) (0:Int) (0:Int) (0:Int) v7),true)
 else
 some (a0,(StanzaStanza.mk (0:Int) (⟨#[]⟩ : ByteArray) (⟨#[]⟩ : ByteArray) (⟨#[]⟩ : ByteArray) (0:Int) (0:Int) (0:Int) (0:Int)),false)
def gc87 (c:Code):BCode:=(.seq (.reg 6 [⟨(some 3),.bx (.tmp 0),none,0⟩,⟨(some 4),.bx (.tmp 1),none,1⟩,⟨(some 5),.bx (.tmp 2),none,2⟩,⟨(some 6),.al (.agg [(.lit (.bool false)),(.lit (.bool false)),(.lit (.string ⟨#[]⟩)),(.lit (.int .i64 0))]),none,3⟩,⟨(some 7),.al (.agg [(.lit (.int .u8 0)),(.lit (.string ⟨#[]⟩)),(.lit (.string ⟨#[]⟩)),(.lit (.string ⟨#[]⟩)),(.lit (.int .i64 0)),(.lit (.int .i64 0)),(.lit (.int .i64 0)),(.lit (.int .i64 0))]),none,4⟩,⟨(some 8),.al (.lit (.bool false)),none,5⟩] none 0 []) (.seq (.seq (.reg 0 [⟨(some 11),.fa 0 (.tmp 3),none,0⟩,⟨(some 12),.ld 1 false (.tmp 11),none,0⟩,⟨(some 13),.un .not (.tmp 12),none,0⟩,⟨(some 14),.mv (.tmp 13),none,0⟩,⟨(some 15),.ld 4 true (.tmp 3),(some (14,false)),0⟩,⟨(some 16),.cl 44 [(.tmp 15)],(some (14,false)),0⟩,⟨(some 17),.bin .neq (.tmp 16) (.const (.int .i64 0)),(some (14,false)),0⟩,⟨(some 18),.pick (.tmp 14) (.const (.bool true)) (.tmp 17),none,0⟩,⟨(some 19),.mv (.tmp 18),none,0⟩,⟨(some 20),.ld 2 true (.tmp 5),(some (19,false)),0⟩,⟨(some 21),.cl 48 [(.tmp 20)],(some (19,false)),0⟩,⟨(some 22),.bin .neq (.tmp 21) (.const (.int .i64 0)),(some (19,false)),0⟩,⟨(some 23),.pick (.tmp 19) (.const (.bool true)) (.tmp 22),none,0⟩] none 0 []) (.cond (.tmp 23) (.seq (.reg 0 [⟨(some 24),.ld 4 true (.tmp 3),none,0⟩,⟨(some 25),.bd [(.lit (.int .u8 0)),(.lit (.string ⟨#[]⟩)),(.lit (.string ⟨#[]⟩)),(.lit (.string ⟨#[]⟩)),(.lit (.int .i64 0)),(.lit (.int .i64 0)),(.lit (.int .i64 0)),(.lit (.int .i64 0))] [],none,0⟩,⟨none,.st 4 (.tmp 6) (.tmp 24),none,0⟩,⟨none,.st 8 (.tmp 7) (.tmp 25),none,0⟩,⟨none,.st 1 (.tmp 8) (.const (.bool false)),none,0⟩] none 0 []) .ret) .skip)) (.seq (.seq (.reg 0 [⟨(some 26),.fa 1 (.tmp 3),none,0⟩,⟨(some 27),.ld 1 false (.tmp 26),none,0⟩,⟨(some 28),.un .not (.tmp 27),none,0⟩] none 0 []) (.cond (.tmp 28) (.seq (.reg 0 [⟨(some 29),.fa 1 (.tmp 3),none,0⟩,⟨none,.st 1 (.tmp 29) (.const (.bool true)),none,0⟩] none 0 []) (.seq (.reg 0 [⟨(some 30),.ld 4 true (.tmp 3),none,0⟩,⟨(some 31),.ld 2 true (.tmp 4),none,0⟩,⟨(some 32),.ld 2 true (.tmp 5),none,0⟩,⟨(some 33),.cl 105 [(.tmp 31),(.tmp 32)],none,0⟩,⟨(some 34),.bd [(.lit (.int .u8 0)),(.lit (.string ⟨#[]⟩)),(.lit (.string ⟨#[]⟩)),(.lit (.string ⟨#[]⟩)),(.lit (.int .i64 0)),(.lit (.int .i64 0)),(.lit (.int .i64 0)),(.lit (.int .i64 0))] [(0,1,(.const (.int .u8 36))),(7,1,(.tmp 33))],none,0⟩,⟨none,.st 4 (.tmp 6) (.tmp 30),none,0⟩,⟨none,.st 8 (.tmp 7) (.tmp 34),none,0⟩,⟨none,.st 1 (.tmp 8) (.const (.bool true)),none,0⟩] (some [[],[],[],[2,1],[1,2,3],[1,2,3,0],[0,5,3,2,1,4],[4,1,2,3,5,0,6]]) 0 []) .ret)) .skip)) (.seq (.seq (.reg 0 [⟨(some 35),.ld 2 true (.tmp 4),none,0⟩,⟨(some 36),.ld 2 true (.tmp 5),none,0⟩,⟨(some 37),.fa 2 (.tmp 3),none,0⟩,⟨(some 38),.ld 1 false (.tmp 37),none,0⟩,⟨(some 39),.cl 106 [(.tmp 35),(.tmp 36),(.tmp 38)],none,0⟩] none 3 []) (.block 0 (.raw c))) (.seq (.reg 0 [⟨(some 57),.bd [(.lit (.bool false)),(.lit (.bool false)),(.lit (.string ⟨#[]⟩)),(.lit (.int .i64 0))] [],none,0⟩,⟨(some 58),.bd [(.lit (.int .u8 0)),(.lit (.string ⟨#[]⟩)),(.lit (.string ⟨#[]⟩)),(.lit (.string ⟨#[]⟩)),(.lit (.int .i64 0)),(.lit (.int .i64 0)),(.lit (.int .i64 0)),(.lit (.int .i64 0))] [(0,1,(.const (.int .u8 37)))],none,0⟩,⟨none,.st 4 (.tmp 6) (.tmp 57),none,0⟩,⟨none,.st 8 (.tmp 7) (.tmp 58),none,0⟩,⟨none,.st 1 (.tmp 8) (.const (.bool true)),none,0⟩] none 0 []) .ret)))))
theorem gc87_ok:compF Tryz.prog Tryz.f87=some ((gc87 (rangeAt Tryz.f87 0)).er,59,[.cell 6 4 true,.cell 7 8 true,.cell 8 1 false]):=by unfold gc87;kernel_rfl
set_option maxRecDepth 100000 in
set_option maxHeartbeats 4000000 in
theorem p_snap_Next_f (a0:SnapState) (a1:SnapEyes) (a2:BookState):CallsO Tryz.prog 87 [.agg [.b a0.On,.b a0.Begun,.s a0.After,.i a0.Told],.agg [.sl (List.map V.s a1.Users) false,.sl (List.map V.s a1.Keys) false],.agg [.i a2.Seq,.sl (List.map BookRow.v a2.Rows) false]] (fun r:SnapState × StanzaStanza × Bool=>.tup [SnapState.v r.1,StanzaStanza.v r.2.1,V.b r.2.2]) (p_snap_Next a0 a1 a2):=by
 refine callsO_comp mix Tryz.func87 gc87_ok fun r H=>?_
 rw [p_snap_Next] at H
 conv=>whnf
 refine Tst.not ?_
 refine tst_d H (fun b1 H=>?_) (fun b1 H=>?_)
 ·conv=>whnf
  iterate 8 (refine Tst.T ?_;conv=>whnf)
  refine ⟨Nat.le_of_ble_eq_true rfl,?_⟩;conv=>whnf
  refine ⟨Nat.le_of_ble_eq_true rfl,?_⟩;conv=>whnf
  refine ⟨Nat.le_of_ble_eq_true rfl,?_⟩;conv=>whnf
  exact fin0_c (enc:=(fun r:SnapState × StanzaStanza × Bool=>.tup [SnapState.v r.1,StanzaStanza.v r.2.1,V.b r.2.2])) H (.inr rfl) (.cons (.cell rfl rfl (Nat.le_of_ble_eq_true rfl)) (.cons (.cell rfl rfl (Nat.le_of_ble_eq_true rfl)) (.cons (.cell rfl rfl (Nat.le_of_ble_eq_true rfl)) (.nil)))) rfl rfl
 conv=>whnf
 refine Tst.F ?_;conv=>whnf
 refine ask_c (p_snap_Check_v _) H rfl rfl (fun v2 H=>?_);conv=>whnf
 iterate 2 (refine Tst.F ?_;conv=>whnf)
 refine tst_c H (fun b3 H=>?_) (fun b3 H=>?_)
 ·conv=>whnf
  iterate 4 (refine Tst.T ?_;conv=>whnf)
  refine ⟨Nat.le_of_ble_eq_true rfl,?_⟩;conv=>whnf
  refine ⟨Nat.le_of_ble_eq_true rfl,?_⟩;conv=>whnf
  refine ⟨Nat.le_of_ble_eq_true rfl,?_⟩;conv=>whnf
  exact fin0_c (enc:=(fun r:SnapState × StanzaStanza × Bool=>.tup [SnapState.v r.1,StanzaStanza.v r.2.1,V.b r.2.2])) H (.inr rfl) (.cons (.cell rfl rfl (Nat.le_of_ble_eq_true rfl)) (.cons (.cell rfl rfl (Nat.le_of_ble_eq_true rfl)) (.cons (.cell rfl rfl (Nat.le_of_ble_eq_true rfl)) (.nil)))) rfl rfl
 conv=>whnf
 refine Tst.F ?_;conv=>whnf
 refine ask_c (p_book_Check_v _) H rfl rfl (fun v4 H=>?_);conv=>whnf
 iterate 2 (refine Tst.F ?_;conv=>whnf)
 refine tst_c H (fun b5 H=>?_) (fun b5 H=>?_)
 ·conv=>whnf
  refine ⟨Nat.le_of_ble_eq_true rfl,?_⟩;conv=>whnf
  refine ⟨Nat.le_of_ble_eq_true rfl,?_⟩;conv=>whnf
  refine ⟨Nat.le_of_ble_eq_true rfl,?_⟩;conv=>whnf
  exact fin0_c (enc:=(fun r:SnapState × StanzaStanza × Bool=>.tup [SnapState.v r.1,StanzaStanza.v r.2.1,V.b r.2.2])) H (.inr rfl) (.cons (.cell rfl rfl (Nat.le_of_ble_eq_true rfl)) (.cons (.cell rfl rfl (Nat.le_of_ble_eq_true rfl)) (.cons (.cell rfl rfl (Nat.le_of_ble_eq_true rfl)) (.nil)))) rfl rfl
 conv=>whnf
 refine Tst.not ?_
 refine tst_d H (fun b6 H=>?_) (fun b6 H=>?_)
 ·conv=>whnf
  refine ⟨Nat.le_of_ble_eq_true rfl,?_⟩;conv=>whnf
  refine ask_c (p_snap_Count_v _ _) H rfl rfl (fun v7 H=>?_);conv=>whnf
  refine ⟨Nat.le_of_ble_eq_true rfl,?_⟩;conv=>whnf
  refine ⟨Nat.le_of_ble_eq_true rfl,?_⟩;conv=>whnf
  refine ⟨Nat.le_of_ble_eq_true rfl,?_⟩;conv=>whnf
  refine FootQ.mk ⟨rfl,?_⟩;conv=>whnf
  exact fin0_c (enc:=(fun r:SnapState × StanzaStanza × Bool=>.tup [SnapState.v r.1,StanzaStanza.v r.2.1,V.b r.2.2])) H (.inr rfl) (.cons (.cell rfl rfl (Nat.le_of_ble_eq_true rfl)) (.cons (.cell rfl rfl (Nat.le_of_ble_eq_true rfl)) (.cons (.cell rfl rfl (Nat.le_of_ble_eq_true rfl)) (.nil)))) rfl rfl
 conv=>whnf
 refine Ask_S (rowsS6 rfl rfl rfl rfl rfl rfl a1 a2 a0.After) rfl ?_;conv=>whnf
 obtain ⟨xs,hxs,H⟩:=bind_c H
 rw [rg87]
 refine range_c (α:=ItmS) mix da87_ok db87_ok fl87.1 fl87.2 sc87.1 sc87.2 (enters_of Tryz.func120 (by kernel_rfl) rfl) rfl (items_it hxs rfl rfl rfl) haenS (fun _=>rfl)
  (fun pre st1=>pre=[]∧∃ s:ByteArray,st1=[.live [.b a0.On,.b a0.Begun,.s a0.After,.i a0.Told] 0,.live [.sl (List.map V.s a1.Users) false,.sl (List.map V.s a1.Keys) false] 0,.live [.i a2.Seq,.sl (List.map BookRow.v a2.Rows) false] 0,.live [.b false,.b false,.s (⟨#[]⟩ : ByteArray),.i (0:Int)] 0,.live [.y8 (0:Int),.s (⟨#[]⟩ : ByteArray),.s (⟨#[]⟩ : ByteArray),.s (⟨#[]⟩ : ByteArray),.i (0:Int),.i (0:Int),.i (0:Int),.i (0:Int)] 0,.live [.b false] 0,.live [.i a2.Seq,.sl (List.map BookRow.v a2.Rows) false] 2,.live [.s s] 0,.live [.sl (List.map V.s a1.Users) false,.sl (List.map V.s a1.Keys) false] 2]) ?_ ?_ ⟨rfl,_,rfl⟩ ?_ ?_
 ·rintro pre st1 s ⟨h,s0,rfl⟩;exact ⟨h,s,rfl⟩
 ·rintro pre st1 ⟨h,s0,rfl⟩;exact ⟨s0,rfl⟩
 ·rintro pre ⟨k,x⟩ post st1 hx ⟨rfl,s,rfl⟩
  rw [List.nil_append] at hx
  subst hx
  dsimp only at H
  conv=>whnf
  refine ⟨Nat.le_of_ble_eq_true rfl,?_⟩;conv=>whnf
  refine ⟨rfl,fun s2=>?_⟩;conv=>whnf
  refine ⟨Nat.le_of_ble_eq_true rfl,?_⟩;conv=>whnf
  refine Ari.w ?_;conv=>whnf
  refine ⟨Nat.le_of_ble_eq_true rfl,?_⟩;conv=>whnf
  refine ask_c (p_pres_Say_v _ _ _) H rfl rfl (fun v H=>?_);conv=>whnf
  refine ⟨Nat.le_of_ble_eq_true rfl,?_⟩;conv=>whnf
  refine ⟨Nat.le_of_ble_eq_true rfl,?_⟩;conv=>whnf
  refine ⟨Nat.le_of_ble_eq_true rfl,?_⟩;conv=>whnf
  refine FootQ.mk ⟨rfl,?_⟩;conv=>whnf
  refine RoundEnd.mk ⟨rfl,fun h=>(by cases h),fun _ s3=>?_⟩;conv=>whnf
  exact fin0_c (enc:=(fun r:SnapState × StanzaStanza × Bool=>.tup [SnapState.v r.1,StanzaStanza.v r.2.1,V.b r.2.2])) H (.inr rfl) (.cons (.cell rfl rfl (Nat.le_of_ble_eq_true rfl)) (.cons (.cell rfl rfl (Nat.le_of_ble_eq_true rfl)) (.cons (.cell rfl rfl (Nat.le_of_ble_eq_true rfl)) (.nil)))) rfl rfl
 ·rintro st1 ⟨h,s,rfl⟩
  subst h
  dsimp only at H
  conv=>whnf
  refine ⟨Nat.le_of_ble_eq_true rfl,?_⟩;conv=>whnf
  refine ⟨Nat.le_of_ble_eq_true rfl,?_⟩;conv=>whnf
  refine ⟨Nat.le_of_ble_eq_true rfl,?_⟩;conv=>whnf
  exact fin0_c (enc:=(fun r:SnapState × StanzaStanza × Bool=>.tup [SnapState.v r.1,StanzaStanza.v r.2.1,V.b r.2.2])) H (.inr rfl) (.cons (.cell rfl rfl (Nat.le_of_ble_eq_true rfl)) (.cons (.cell rfl rfl (Nat.le_of_ble_eq_true rfl)) (.cons (.cell rfl rfl (Nat.le_of_ble_eq_true rfl)) (.nil)))) rfl rfl
theorem p_snap_Next_v {u1 u2 u3:Bool} (a0:SnapState) (a1:SnapEyes) (a2:BookState):CallsO Tryz.prog 87 [.agg [.b a0.On,.b a0.Begun,.s a0.After,.i a0.Told],.agg [.sl (List.map V.s a1.Users) u1,.sl (List.map V.s a1.Keys) u2],.agg [.i a2.Seq,.sl (List.map BookRow.v a2.Rows) u3]] (fun r:SnapState × StanzaStanza × Bool=>.tup [SnapState.v r.1,StanzaStanza.v r.2.1,V.b r.2.2]) (p_snap_Next a0 a1 a2):=fun r hr =>
 callsV_fz (.cons (.c (.id rfl)) (.cons (fzagg (.cons .slw (.cons .slw .nil)) rfl) (.cons (fzagg (.cons (.id rfl) (.cons .slw .nil)) rfl) .nil))) (p_snap_Next_f a0 a1 a2 r hr)
end Go.Proofs.YthnihifblmnkdaaGreat

namespace Go.Proofs.YthnihifblmnkdaaGreat
open Go.RowKit
abbrev V.u8 (k:UInt8):V:=.lit (.int .u8 k.toNat)
theorem has_v (k:UInt8):CallsV Tryz.prog 108 [.u8 k] (.s (ba (hasN k.toNat))) :=
 callsV_old #[.int .u8 k.toNat] (fun _ _ h=>lits_eq (vs:=[.int .u8 k.toNat]) h) (fun w _=>ret_of (has_c k w)) fun _=>.lit rfl
theorem known_v (k:UInt8):CallsV Tryz.prog 109 [.u8 k] (.b (knownN k.toNat)) :=
 callsV_old #[.int .u8 k.toNat] (fun _ _ h=>lits_eq (vs:=[.int .u8 k.toNat]) h) (fun w _=>ret_of (known_c k w)) fun _=>.lit rfl
theorem stzIn_v (n a b:Int):CallsV Tryz.prog 111 [.i n,.i a,.i b] (.b (decide (a≤n) && decide (n≤b))) :=
 callsV_old #[.int .i64 n,.int .i64 a,.int .i64 b] (fun _ _ h=>lits_eq (vs:=[.int .i64 n,.int .i64 a,.int .i64 b]) h) (fun w _=>ret_of (stzIn_c n a b w)) fun _=>.lit rfl
def StzD.l (s:StzD):List Value:=[.int .u8 s.kind.toNat,.string s.user,.string s.res,.string s.name,.int .i64 s.show_,.int .i64 s.prio,.int .i64 s.code,.int .i64 s.n]
def stzV (s:StzD):V:=.agg [.u8 s.kind,.s s.user,.s s.res,.s s.name,.i s.show_,.i s.prio,.i s.code,.i s.n]
end Go.Proofs.YthnihifblmnkdaaGreat

namespace Go.Proofs.YthnihifblmnkdaaGreat
open Go.RowKit
def ac136:ACode:=(.seq (.reg 0 [⟨(some 4),.mv (.const (.pointer none)),none,0⟩,⟨(some 5),.mv (.const (.int .i64 0)),none,0⟩] none) (.seq (.seq (.reg 0 [⟨(some 6),.mv (.tmp 1),none,0⟩] none) (.block 0 (.seq (.reg 0 [⟨(some 8),.bin .eql (.tmp 6) (.const (.int .u8 117)),none,0⟩,⟨(some 7),.mv (.tmp 8),none,0⟩] none) (.cond (.tmp 7) (.seq (.reg 0 [⟨(some 9),.mv (.tmp 0),none,0⟩,⟨(some 10),.nc (.tmp 9),none,0⟩,⟨(some 11),.fa 1 (.tmp 10),none,0⟩,⟨(some 4),.mv (.tmp 11),none,0⟩,⟨(some 5),.mv (.const (.int .i64 33)),none,0⟩] none) .ret) (.seq (.reg 0 [⟨(some 13),.bin .eql (.tmp 6) (.const (.int .u8 114)),none,0⟩,⟨(some 12),.mv (.tmp 13),none,0⟩] none) (.cond (.tmp 12) (.seq (.reg 0 [⟨(some 14),.mv (.tmp 0),none,0⟩,⟨(some 15),.nc (.tmp 14),none,0⟩,⟨(some 16),.fa 2 (.tmp 15),none,0⟩,⟨(some 4),.mv (.tmp 16),none,0⟩,⟨(some 5),.mv (.const (.int .i64 12)),none,0⟩] none) .ret) (.seq (.reg 0 [⟨(some 18),.bin .eql (.tmp 6) (.const (.int .u8 109)),none,0⟩,⟨(some 17),.mv (.tmp 18),none,0⟩] none) (.cond (.tmp 17) (.seq (.reg 0 [⟨(some 19),.mv (.tmp 0),none,0⟩,⟨(some 20),.nc (.tmp 19),none,0⟩,⟨(some 21),.fa 3 (.tmp 20),none,0⟩,⟨(some 4),.mv (.tmp 21),none,0⟩,⟨(some 5),.mv (.const (.int .i64 24)),none,0⟩] none) .ret) .skip)))))))) (.seq (.reg 0 [⟨(some 4),.mv (.const (.pointer none)),none,0⟩,⟨(some 5),.mv (.const (.int .i64 0)),none,0⟩] none) .ret)))
theorem ac136_ok:compF Tryz.prog Tryz.f136=some (ac136,22,[.tmp 4,.tmp 5]):=by unfold ac136;kernel_rfl
def ac137:ACode:=(.seq (.reg 0 [⟨(some 4),.mv (.const (.pointer none)),none,0⟩,⟨(some 5),.mv (.const (.int .i64 0)),none,0⟩,⟨(some 6),.mv (.const (.int .i64 0)),none,0⟩] none) (.seq (.seq (.reg 0 [⟨(some 7),.mv (.tmp 1),none,0⟩] none) (.block 0 (.seq (.reg 0 [⟨(some 9),.bin .eql (.tmp 7) (.const (.int .u8 115)),none,0⟩,⟨(some 8),.mv (.tmp 9),none,0⟩] none) (.cond (.tmp 8) (.seq (.reg 0 [⟨(some 10),.mv (.tmp 0),none,0⟩,⟨(some 11),.nc (.tmp 10),none,0⟩,⟨(some 12),.fa 4 (.tmp 11),none,0⟩,⟨(some 4),.mv (.tmp 12),none,0⟩,⟨(some 5),.mv (.const (.int .i64 1)),none,0⟩,⟨(some 6),.mv (.const (.int .i64 0)),none,0⟩] none) .ret) (.seq (.reg 0 [⟨(some 14),.bin .eql (.tmp 7) (.const (.int .u8 112)),none,0⟩,⟨(some 13),.mv (.tmp 14),none,0⟩] none) (.cond (.tmp 13) (.seq (.reg 0 [⟨(some 15),.mv (.tmp 0),none,0⟩,⟨(some 16),.nc (.tmp 15),none,0⟩,⟨(some 17),.fa 5 (.tmp 16),none,0⟩,⟨(some 4),.mv (.tmp 17),none,0⟩,⟨(some 5),.mv (.const (.int .i64 1)),none,0⟩,⟨(some 6),.mv (.const (.int .i64 128)),none,0⟩] none) .ret) (.seq (.reg 0 [⟨(some 19),.bin .eql (.tmp 7) (.const (.int .u8 99)),none,0⟩,⟨(some 18),.mv (.tmp 19),none,0⟩] none) (.cond (.tmp 18) (.seq (.reg 0 [⟨(some 20),.mv (.tmp 0),none,0⟩,⟨(some 21),.nc (.tmp 20),none,0⟩,⟨(some 22),.fa 6 (.tmp 21),none,0⟩,⟨(some 4),.mv (.tmp 22),none,0⟩,⟨(some 5),.mv (.const (.int .i64 1)),none,0⟩,⟨(some 6),.mv (.const (.int .i64 0)),none,0⟩] none) .ret) .skip)))))))) (.seq (.reg 0 [⟨(some 23),.mv (.tmp 0),none,0⟩,⟨(some 24),.nc (.tmp 23),none,0⟩,⟨(some 25),.fa 7 (.tmp 24),none,0⟩,⟨(some 4),.mv (.tmp 25),none,0⟩,⟨(some 5),.mv (.const (.int .i64 6)),none,0⟩,⟨(some 6),.mv (.const (.int .i64 0)),none,0⟩] none) .ret)))
theorem ac137_ok:compF Tryz.prog Tryz.f137=some (ac137,26,[.tmp 4,.tmp 5,.tmp 6]):=by unfold ac137;kernel_rfl
def ac124:ACode:=(.seq (.reg 1 [⟨(some 10),.mv (.tmp 0),none,0⟩,⟨(some 11),.nc (.tmp 10),none,0⟩,⟨(some 12),.fa 0 (.tmp 11),none,0⟩,⟨(some 13),.ld 1 false (.tmp 12),none,0⟩,⟨(some 14),.cl 108 [(.tmp 13)],none,0⟩,⟨(some 15),.s2b (.tmp 14),none,0⟩,⟨(some 16),.lens (.tmp 15),none,1⟩,⟨(some 17),.mv (.const (.int .i64 0)),none,1⟩] none) (.block 0 (.loop (.seq (.reg 0 [⟨(some 18),.bin .lss (.tmp 17) (.tmp 16),none,0⟩] none) (.seq (.cond (.tmp 18) .skip (.exit 0)) (.seq (.block 1 (.seq (.reg 0 [⟨(some 19),.ixs 1 (.tmp 15) (.tmp 17),none,0⟩,⟨(some 20),.ld 1 false (.tmp 19),none,0⟩,⟨(some 7),.mv (.tmp 20),none,0⟩] none) (.seq (.reg 0 [⟨(some 22),.mv (.tmp 0),none,0⟩,⟨(some 23),.mv (.tmp 7),none,0⟩,⟨(some 24),.cl 136 [(.tmp 22),(.tmp 23)],none,0⟩,⟨(some 21),.mv (.tmp 24),none,0⟩,⟨(some 25),.ex (.tmp 21) 0,none,0⟩,⟨(some 26),.ex (.tmp 21) 1,none,0⟩,⟨(some 8),.mv (.tmp 25),none,0⟩,⟨(some 9),.mv (.tmp 26),none,0⟩] none) (.seq (.reg 0 [⟨(some 27),.mv (.tmp 8),none,0⟩,⟨(some 28),.eqp true (.tmp 27) (.const (.pointer none)),none,0⟩] none) (.cond (.tmp 28) (.reg 0 [⟨(some 29),.mv (.tmp 1),none,0⟩,⟨(some 30),.mv (.tmp 8),none,0⟩,⟨(some 31),.mv (.tmp 9),none,0⟩,⟨(some 32),.cv (.tmp 29) [(.tmp 30),(.tmp 31)],none,0⟩] none) (.reg 0 [⟨(some 33),.mv (.tmp 2),none,0⟩,⟨(some 34),.mv (.tmp 0),none,0⟩,⟨(some 35),.mv (.tmp 7),none,0⟩,⟨(some 36),.cl 137 [(.tmp 34),(.tmp 35)],none,0⟩,⟨(some 37),.ex (.tmp 36) 0,none,0⟩,⟨(some 38),.ex (.tmp 36) 1,none,0⟩,⟨(some 39),.ex (.tmp 36) 2,none,0⟩,⟨(some 40),.cv (.tmp 33) [(.tmp 37),(.tmp 38),(.tmp 39)],none,0⟩] none)))))) (.reg 0 [⟨(some 41),.bin .add (.tmp 17) (.const (.int .i64 1)),none,0⟩,⟨(some 17),.mv (.tmp 41),none,0⟩] none)))))))
theorem ac124_ok:compF Tryz.prog Tryz.f124=some (ac124,42,[]):=by unfold ac124;kernel_rfl
def ac125:ACode:=(.reg 0 [⟨(some 4),.mv (.tmp 0),none,0⟩,⟨(some 5),.nc (.tmp 4),none,0⟩,⟨none,.st 1 (.tmp 5) (.const (.string ⟨#[]⟩)),none,0⟩] none)
theorem ac125_ok:compF Tryz.prog Tryz.f125=some (ac125,6,[]):=by unfold ac125;kernel_rfl
def ac126:ACode:=(.reg 0 [⟨(some 6),.mv (.tmp 0),none,0⟩,⟨(some 7),.nc (.tmp 6),none,0⟩,⟨none,.st 1 (.tmp 7) (.const (.int .i64 0)),none,0⟩] none)
theorem ac126_ok:compF Tryz.prog Tryz.f126=some (ac126,8,[]):=by unfold ac126;kernel_rfl
def ac110:ACode:=(.seq (.reg 1 [⟨(some 1),.bx (.tmp 0),none,0⟩,⟨(some 2),.mv (.const (.bool false)),none,1⟩] none) (.seq (.reg 0 [⟨(some 3),.cl 124 [(.tmp 1),(.func 125),(.func 126)],none,0⟩] none) (.seq (.reg 0 [⟨(some 4),.ld 8 true (.tmp 1),none,0⟩,⟨(some 5),.fa 0 (.tmp 1),none,0⟩,⟨(some 6),.ld 1 false (.tmp 5),none,0⟩,⟨(some 7),.bd [(.lit (.int .u8 0)),(.lit (.string ⟨#[]⟩)),(.lit (.string ⟨#[]⟩)),(.lit (.string ⟨#[]⟩)),(.lit (.int .i64 0)),(.lit (.int .i64 0)),(.lit (.int .i64 0)),(.lit (.int .i64 0))] [(0,1,(.tmp 6))],none,0⟩,⟨(some 8),.eqa false [1,2,2,2,1,1,1,1] (.tmp 4) (.tmp 7),none,0⟩,⟨(some 2),.mv (.tmp 8),none,0⟩] none) .ret)))
theorem ac110_ok:compF Tryz.prog Tryz.f110=some (ac110,9,[.tmp 2]):=by unfold ac110;kernel_rfl
def ac93:ACode:=(.seq (.reg 1 [⟨(some 1),.bx (.tmp 0),none,0⟩,⟨(some 2),.mv (.const (.int .i64 0)),none,1⟩] none) (.seq (.reg 0 [⟨(some 4),.fa 0 (.tmp 1),none,0⟩,⟨(some 5),.ld 1 false (.tmp 4),none,0⟩,⟨(some 6),.cl 108 [(.tmp 5)],none,0⟩,⟨(some 3),.mv (.tmp 6),none,0⟩] none) (.seq (.block 0 (.seq (.reg 0 [⟨(some 8),.fa 0 (.tmp 1),none,0⟩,⟨(some 9),.ld 1 false (.tmp 8),none,0⟩,⟨(some 10),.cl 109 [(.tmp 9)],none,0⟩,⟨(some 11),.un .not (.tmp 10),none,0⟩,⟨(some 7),.mv (.tmp 11),none,0⟩] none) (.cond (.tmp 7) (.seq (.reg 0 [⟨(some 2),.mv (.const (.int .i64 12)),none,0⟩] none) .ret) (.seq (.reg 0 [⟨(some 13),.ld 8 true (.tmp 1),none,0⟩,⟨(some 14),.cl 110 [(.tmp 13)],none,0⟩,⟨(some 15),.un .not (.tmp 14),none,0⟩,⟨(some 12),.mv (.tmp 15),none,0⟩] none) (.cond (.tmp 12) (.seq (.reg 0 [⟨(some 2),.mv (.const (.int .i64 4)),none,0⟩] none) .ret) (.seq (.seq (.reg 0 [⟨(some 17),.fa 4 (.tmp 1),none,0⟩,⟨(some 18),.ld 1 false (.tmp 17),none,0⟩,⟨(some 19),.cl 111 [(.tmp 18),(.const (.int .i64 0)),(.const (.int .i64 63))],none,0⟩,⟨(some 20),.un .not (.tmp 19),none,0⟩,⟨(some 16),.mv (.tmp 20),none,0⟩] none) (.cond (.tmp 16) .skip (.seq (.reg 0 [⟨(some 21),.fa 5 (.tmp 1),none,0⟩,⟨(some 22),.ld 1 false (.tmp 21),none,0⟩,⟨(some 23),.cl 111 [(.tmp 22),(.const (.int .i64 (-128))),(.const (.int .i64 127))],none,0⟩,⟨(some 24),.un .not (.tmp 23),none,0⟩,⟨(some 16),.mv (.tmp 24),none,0⟩] none) (.cond (.tmp 16) .skip (.seq (.reg 0 [⟨(some 25),.fa 6 (.tmp 1),none,0⟩,⟨(some 26),.ld 1 false (.tmp 25),none,0⟩,⟨(some 27),.cl 111 [(.tmp 26),(.const (.int .i64 0)),(.const (.int .i64 255))],none,0⟩,⟨(some 28),.un .not (.tmp 27),none,0⟩,⟨(some 16),.mv (.tmp 28),none,0⟩] none) (.cond (.tmp 16) .skip (.reg 0 [⟨(some 29),.fa 7 (.tmp 1),none,0⟩,⟨(some 30),.ld 1 false (.tmp 29),none,0⟩,⟨(some 31),.cl 111 [(.tmp 30),(.const (.int .i64 0)),(.const (.int .i64 281474976710655))],none,0⟩,⟨(some 32),.un .not (.tmp 31),none,0⟩,⟨(some 16),.mv (.tmp 32),none,0⟩] none))))))) (.cond (.tmp 16) (.seq (.reg 0 [⟨(some 2),.mv (.const (.int .i64 8)),none,0⟩] none) .ret) (.seq (.reg 0 [⟨(some 34),.fa 3 (.tmp 1),none,0⟩,⟨(some 35),.ld 1 false (.tmp 34),none,0⟩,⟨(some 36),.lent (.tmp 35),none,0⟩,⟨(some 37),.bin .gtr (.tmp 36) (.const (.int .i64 24)),none,0⟩,⟨(some 33),.mv (.tmp 37),none,0⟩] none) (.cond (.tmp 33) (.seq (.reg 0 [⟨(some 2),.mv (.const (.int .i64 5)),none,0⟩] none) .ret) (.seq (.seq (.reg 0 [⟨(some 39),.fa 3 (.tmp 1),none,0⟩,⟨(some 40),.ld 1 false (.tmp 39),none,0⟩,⟨(some 41),.cl 103 [(.tmp 40)],none,0⟩,⟨(some 42),.un .not (.tmp 41),none,0⟩,⟨(some 38),.mv (.tmp 42),none,0⟩] none) (.cond (.tmp 38) .skip (.reg 0 [⟨(some 43),.mv (.tmp 3),none,0⟩,⟨(some 44),.bin .neq (.tmp 43) (.const (.string ⟨#[]⟩)),none,0⟩,⟨(some 45),.mv (.tmp 44),none,0⟩,⟨(some 46),.mv (.tmp 3),(some (45,true)),0⟩,⟨(some 47),.ixt (.tmp 46) (.const (.int .i64 0)),(some (45,true)),0⟩,⟨(some 48),.bin .eql (.tmp 47) (.const (.int .u8 117)),(some (45,true)),0⟩,⟨(some 49),.pick (.tmp 45) (.tmp 48) (.const (.bool false)),none,0⟩,⟨(some 50),.mv (.tmp 49),none,0⟩,⟨(some 51),.fa 1 (.tmp 1),(some (50,true)),0⟩,⟨(some 52),.ld 1 false (.tmp 51),(some (50,true)),0⟩,⟨(some 53),.cl 86 [(.tmp 52)],(some (50,true)),0⟩,⟨(some 54),.un .not (.tmp 53),(some (50,true)),0⟩,⟨(some 55),.pick (.tmp 50) (.tmp 54) (.const (.bool false)),none,0⟩,⟨(some 38),.mv (.tmp 55),none,0⟩] none))) (.cond (.tmp 38) (.seq (.reg 0 [⟨(some 2),.mv (.const (.int .i64 11)),none,0⟩] none) .ret) .skip))))))))))) (.seq (.reg 0 [⟨(some 56),.fa 2 (.tmp 1),none,0⟩,⟨(some 57),.ld 1 false (.tmp 56),none,0⟩,⟨(some 58),.cl 85 [(.tmp 57)],none,0⟩,⟨(some 2),.mv (.tmp 58),none,0⟩] none) .ret))))
theorem ac93_ok:compF Tryz.prog Tryz.f93=some (ac93,59,[.tmp 2]):=by unfold ac93;kernel_rfl
end Go.Proofs.YthnihifblmnkdaaGreat

namespace Go.Proofs.YthnihifblmnkdaaGreat
open Go.RowKit
def zeroF (s:StzD) (c:UInt8):StzD:=if c=117 then { s with user:=⟨#[]⟩ } else if c=114 then { s with res:=⟨#[]⟩ } else if c=109 then { s with name:=⟨#[]⟩ } else if c=115 then { s with show_:=0 } else if c=112 then { s with prio:=0 } else if c=99 then { s with code:=0 } else { s with n:=0 }
def letV (c:UInt8):V:=if c=117 then .tup [.ptr 0 1,.i 33] else if c=114 then .tup [.ptr 0 2,.i 12] else if c=109 then .tup [.ptr 0 3,.i 24] else .tup [.lit (.pointer none),.i 0]
def numbV (c:UInt8):V:=if c=115 then .tup [.ptr 0 4,.i 1,.i 0] else if c=112 then .tup [.ptr 0 5,.i 1,.i 128] else if c=99 then .tup [.ptr 0 6,.i 1,.i 0] else .tup [.ptr 0 7,.i 6,.i 0]
theorem bytes_idlt (l:List UInt8):V.idlt.belowL 0 (l.map byteV)=true:=belowL_mem fun v hv=>by
 obtain ⟨b,_,rfl⟩:=List.mem_map.1 hv;rfl
attribute [local irreducible] AW Fin FinR seqQ blkQ regQ loopQ CallsV CallsS Callable
theorem text_s (c:UInt8) (s:StzD) (l:List UInt8) (hc:c=117∨c=114∨c=109∨c=115∨c=112∨c=99∨c=110):CallsS Tryz.prog 136 [.ptr 0 0,.u8 c] [.live (stzV s).cells 0] (letV c) [.live (stzV s).cells 0]:=by
 have hid:=bytes_idlt l
 refine callsR_comp mix Tryz.func136 ac136_ok rfl ?_
 unfold ac136
 simp only [List.length_cons,List.length_nil,List.replicate_succ,List.replicate_zero,List.cons_append,List.nil_append,Nat.reduceAdd,Nat.reduceSub]
 rcases hc with rfl | rfl | rfl | rfl | rfl | rfl | rfl
 all_goals (repeat' (first | ((try simp only [Nat.reduceAdd,Nat.reduceMul,Nat.zero_add,Nat.add_zero,Int.toNat_natCast,Int.reduceToNat,stzV]);refine hK' _ _ _ ?_;clear hK' K';first | refine q_regT ?_ | refine q_regD rfl ?_) | first | refine w_seq ?_ | refine q_seqN ?_ | (refine w_reg (by (try simp only [List.length_cons,List.length_nil,Nat.reduceAdd]);rfl) (by (try simp only [List.replicate_succ,List.replicate_zero,List.cons_append,List.nil_append,List.append_nil]);rfl) (fun K' hK'=>wpOps_ok ?_);conv=>whnf) | (refine w_condTst rfl ?_;(repeat refine Tst.not ?_);(first | refine Tst.T ?_ | refine Tst.F ?_ | refine Tst.decT (by assumption) ?_ | refine Tst.decF (by assumption) ?_ | refine Tst.eqT (by assumption) ?_ | refine Tst.eqF (by assumption) ?_ | refine Tst.neT (by assumption) ?_ | refine Tst.neF (by assumption) ?_ | refine Tst.isT (by assumption) ?_ | refine Tst.isF (by assumption) ?_ | refine Tst.dec (fun hb=>?_) (fun hb=>?_) | refine Tst.eqI (fun hb=>?_) (fun hb=>?_) | refine Tst.neI (fun hb=>?_) (fun hb=>?_) | refine Tst.not ?_ | refine Tst.any (fun hb=>?_) (fun hb=>?_)) <;> conv=>whnf) | refine w_ret ?_ | refine w_skip ?_ | refine w_blk ?_ | refine w_exit ?_ | refine q_seqR ?_ | refine q_seqE ?_ | refine q_blkN ?_ | refine q_blkR ?_ | refine q_blkH ?_ | refine q_blkE rfl ?_ | refine q_loopR ?_ | refine q_loopE ?_ | fail | first | (refine LenQ.ok ?_;conv=>whnf) | ((first | refine Tst.T ?_ | refine Tst.F ?_ | refine Tst.decT (by assumption) ?_ | refine Tst.decF (by assumption) ?_ | refine Tst.eqT (by assumption) ?_ | refine Tst.eqF (by assumption) ?_ | refine Tst.neT (by assumption) ?_ | refine Tst.neF (by assumption) ?_ | refine Tst.isT (by assumption) ?_ | refine Tst.isF (by assumption) ?_ | refine Tst.dec (fun hb=>?_) (fun hb=>?_) | refine Tst.eqI (fun hb=>?_) (fun hb=>?_) | refine Tst.neI (fun hb=>?_) (fun hb=>?_) | refine Tst.not ?_ | refine Tst.any (fun hb=>?_) (fun hb=>?_)) <;> conv=>whnf) | (refine Ari.ok (by omega) ?_;conv=>whnf) | (refine IxO.ok (by omega) (by omega) ?_;conv=>whnf) | (refine IxS.M (by omega) (by omega) (fun _=>rfl) ?_;conv=>whnf) | (refine ⟨Nat.le_of_ble_eq_true rfl,?_⟩;conv=>whnf) | (refine ⟨rfl,?_⟩;conv=>whnf) | (refine Cat.ok (by omega) ?_;conv=>whnf)))
 all_goals exact f_R0 (by simp) (ResL.cons (ResOne.tmp rfl) (ResL.cons (ResOne.tmp rfl) ResL.nil)) rfl rfl rfl rfl (by repeat' (first | exact trivial | refine wkS_f ?_ | refine wkS_d ?_ | refine ⟨rfl,?_⟩ | refine wkS_live0 (by assumption) ?_))
theorem number_s (c:UInt8) (s:StzD) (l:List UInt8) (hc:c=115∨c=112∨c=99∨c=110):CallsS Tryz.prog 137 [.ptr 0 0,.u8 c] [.live (stzV s).cells 0] (numbV c) [.live (stzV s).cells 0]:=by
 have hid:=bytes_idlt l
 refine callsR_comp mix Tryz.func137 ac137_ok rfl ?_
 unfold ac137
 simp only [List.length_cons,List.length_nil,List.replicate_succ,List.replicate_zero,List.cons_append,List.nil_append,Nat.reduceAdd,Nat.reduceSub]
 rcases hc with rfl | rfl | rfl | rfl
 all_goals (repeat' (first | ((try simp only [Nat.reduceAdd,Nat.reduceMul,Nat.zero_add,Nat.add_zero,Int.toNat_natCast,Int.reduceToNat,stzV]);refine hK' _ _ _ ?_;clear hK' K';first | refine q_regT ?_ | refine q_regD rfl ?_) | first | refine w_seq ?_ | refine q_seqN ?_ | (refine w_reg (by (try simp only [List.length_cons,List.length_nil,Nat.reduceAdd]);rfl) (by (try simp only [List.replicate_succ,List.replicate_zero,List.cons_append,List.nil_append,List.append_nil]);rfl) (fun K' hK'=>wpOps_ok ?_);conv=>whnf) | (refine w_condTst rfl ?_;(repeat refine Tst.not ?_);(first | refine Tst.T ?_ | refine Tst.F ?_ | refine Tst.decT (by assumption) ?_ | refine Tst.decF (by assumption) ?_ | refine Tst.eqT (by assumption) ?_ | refine Tst.eqF (by assumption) ?_ | refine Tst.neT (by assumption) ?_ | refine Tst.neF (by assumption) ?_ | refine Tst.isT (by assumption) ?_ | refine Tst.isF (by assumption) ?_ | refine Tst.dec (fun hb=>?_) (fun hb=>?_) | refine Tst.eqI (fun hb=>?_) (fun hb=>?_) | refine Tst.neI (fun hb=>?_) (fun hb=>?_) | refine Tst.not ?_ | refine Tst.any (fun hb=>?_) (fun hb=>?_)) <;> conv=>whnf) | refine w_ret ?_ | refine w_skip ?_ | refine w_blk ?_ | refine w_exit ?_ | refine q_seqR ?_ | refine q_seqE ?_ | refine q_blkN ?_ | refine q_blkR ?_ | refine q_blkH ?_ | refine q_blkE rfl ?_ | refine q_loopR ?_ | refine q_loopE ?_ | fail | first | (refine LenQ.ok ?_;conv=>whnf) | ((first | refine Tst.T ?_ | refine Tst.F ?_ | refine Tst.decT (by assumption) ?_ | refine Tst.decF (by assumption) ?_ | refine Tst.eqT (by assumption) ?_ | refine Tst.eqF (by assumption) ?_ | refine Tst.neT (by assumption) ?_ | refine Tst.neF (by assumption) ?_ | refine Tst.isT (by assumption) ?_ | refine Tst.isF (by assumption) ?_ | refine Tst.dec (fun hb=>?_) (fun hb=>?_) | refine Tst.eqI (fun hb=>?_) (fun hb=>?_) | refine Tst.neI (fun hb=>?_) (fun hb=>?_) | refine Tst.not ?_ | refine Tst.any (fun hb=>?_) (fun hb=>?_)) <;> conv=>whnf) | (refine Ari.ok (by omega) ?_;conv=>whnf) | (refine IxO.ok (by omega) (by omega) ?_;conv=>whnf) | (refine IxS.M (by omega) (by omega) (fun _=>rfl) ?_;conv=>whnf) | (refine ⟨Nat.le_of_ble_eq_true rfl,?_⟩;conv=>whnf) | (refine ⟨rfl,?_⟩;conv=>whnf) | (refine Cat.ok (by omega) ?_;conv=>whnf)))
 all_goals exact f_R0 (by simp) (ResL.cons (ResOne.tmp rfl) (ResL.cons (ResOne.tmp rfl) (ResL.cons (ResOne.tmp rfl) ResL.nil))) rfl rfl rfl rfl (by repeat' (first | exact trivial | refine wkS_f ?_ | refine wkS_d ?_ | refine ⟨rfl,?_⟩ | refine wkS_live0 (by assumption) ?_))
theorem bare1_s (s s' : StzD) (l:List UInt8) (off:Nat) (m:Int) (h:off=1∧s'={ s with user:=⟨#[]⟩ }∨off=2∧s'={ s with res:=⟨#[]⟩ }∨off=3∧s'={ s with name:=⟨#[]⟩ }):CallsS Tryz.prog 125 [.ptr 0 off,.i m] [.live (stzV s).cells 0] (.tup []) [.live (stzV s').cells 0]:=by
 have hid:=bytes_idlt l
 refine callsR_comp mix Tryz.func125 ac125_ok rfl ?_
 unfold ac125
 simp only [List.length_cons,List.length_nil,List.replicate_succ,List.replicate_zero,List.cons_append,List.nil_append,Nat.reduceAdd,Nat.reduceSub]
 rcases h with ⟨rfl,rfl⟩ | ⟨rfl,rfl⟩ | ⟨rfl,rfl⟩
 all_goals (repeat' (first | ((try simp only [Nat.reduceAdd,Nat.reduceMul,Nat.zero_add,Nat.add_zero,Int.toNat_natCast,Int.reduceToNat,stzV]);refine hK' _ _ _ ?_;clear hK' K';first | refine q_regT ?_ | refine q_regD rfl ?_) | first | refine w_seq ?_ | refine q_seqN ?_ | (refine w_reg (by (try simp only [List.length_cons,List.length_nil,Nat.reduceAdd]);rfl) (by (try simp only [List.replicate_succ,List.replicate_zero,List.cons_append,List.nil_append,List.append_nil]);rfl) (fun K' hK'=>wpOps_ok ?_);conv=>whnf) | (refine w_condTst rfl ?_;(repeat refine Tst.not ?_);(first | refine Tst.T ?_ | refine Tst.F ?_ | refine Tst.decT (by assumption) ?_ | refine Tst.decF (by assumption) ?_ | refine Tst.eqT (by assumption) ?_ | refine Tst.eqF (by assumption) ?_ | refine Tst.neT (by assumption) ?_ | refine Tst.neF (by assumption) ?_ | refine Tst.isT (by assumption) ?_ | refine Tst.isF (by assumption) ?_ | refine Tst.dec (fun hb=>?_) (fun hb=>?_) | refine Tst.eqI (fun hb=>?_) (fun hb=>?_) | refine Tst.neI (fun hb=>?_) (fun hb=>?_) | refine Tst.not ?_ | refine Tst.any (fun hb=>?_) (fun hb=>?_)) <;> conv=>whnf) | refine w_ret ?_ | refine w_skip ?_ | refine w_blk ?_ | refine w_exit ?_ | refine q_seqR ?_ | refine q_seqE ?_ | refine q_blkN ?_ | refine q_blkR ?_ | refine q_blkH ?_ | refine q_blkE rfl ?_ | refine q_loopR ?_ | refine q_loopE ?_ | fail | first | (refine LenQ.ok ?_;conv=>whnf) | ((first | refine Tst.T ?_ | refine Tst.F ?_ | refine Tst.decT (by assumption) ?_ | refine Tst.decF (by assumption) ?_ | refine Tst.eqT (by assumption) ?_ | refine Tst.eqF (by assumption) ?_ | refine Tst.neT (by assumption) ?_ | refine Tst.neF (by assumption) ?_ | refine Tst.isT (by assumption) ?_ | refine Tst.isF (by assumption) ?_ | refine Tst.dec (fun hb=>?_) (fun hb=>?_) | refine Tst.eqI (fun hb=>?_) (fun hb=>?_) | refine Tst.neI (fun hb=>?_) (fun hb=>?_) | refine Tst.not ?_ | refine Tst.any (fun hb=>?_) (fun hb=>?_)) <;> conv=>whnf) | (refine Ari.ok (by omega) ?_;conv=>whnf) | (refine IxO.ok (by omega) (by omega) ?_;conv=>whnf) | (refine IxS.M (by omega) (by omega) (fun _=>rfl) ?_;conv=>whnf) | (refine ⟨Nat.le_of_ble_eq_true rfl,?_⟩;conv=>whnf) | (refine ⟨rfl,?_⟩;conv=>whnf) | (refine Cat.ok (by omega) ?_;conv=>whnf)))
 all_goals exact f_R0 (by simp) .nil rfl rfl rfl rfl (by repeat' (first | exact trivial | refine wkS_f ?_ | refine wkS_d ?_ | refine ⟨rfl,?_⟩ | refine wkS_live0 (by assumption) ?_))
theorem bare2_s (s s' : StzD) (l:List UInt8) (off:Nat) (m m' : Int) (h:off=4∧s'={ s with show_:=0 }∨off=5∧s'={ s with prio:=0 }∨off=6∧s'={ s with code:=0 }∨off=7∧s'={ s with n:=0 }):CallsS Tryz.prog 126 [.ptr 0 off,.i m,.i m'] [.live (stzV s).cells 0] (.tup []) [.live (stzV s').cells 0]:=by
 have hid:=bytes_idlt l
 refine callsR_comp mix Tryz.func126 ac126_ok rfl ?_
 unfold ac126
 simp only [List.length_cons,List.length_nil,List.replicate_succ,List.replicate_zero,List.cons_append,List.nil_append,Nat.reduceAdd,Nat.reduceSub]
 rcases h with ⟨rfl,rfl⟩ | ⟨rfl,rfl⟩ | ⟨rfl,rfl⟩ | ⟨rfl,rfl⟩
 all_goals (repeat' (first | ((try simp only [Nat.reduceAdd,Nat.reduceMul,Nat.zero_add,Nat.add_zero,Int.toNat_natCast,Int.reduceToNat,stzV]);refine hK' _ _ _ ?_;clear hK' K';first | refine q_regT ?_ | refine q_regD rfl ?_) | first | refine w_seq ?_ | refine q_seqN ?_ | (refine w_reg (by (try simp only [List.length_cons,List.length_nil,Nat.reduceAdd]);rfl) (by (try simp only [List.replicate_succ,List.replicate_zero,List.cons_append,List.nil_append,List.append_nil]);rfl) (fun K' hK'=>wpOps_ok ?_);conv=>whnf) | (refine w_condTst rfl ?_;(repeat refine Tst.not ?_);(first | refine Tst.T ?_ | refine Tst.F ?_ | refine Tst.decT (by assumption) ?_ | refine Tst.decF (by assumption) ?_ | refine Tst.eqT (by assumption) ?_ | refine Tst.eqF (by assumption) ?_ | refine Tst.neT (by assumption) ?_ | refine Tst.neF (by assumption) ?_ | refine Tst.isT (by assumption) ?_ | refine Tst.isF (by assumption) ?_ | refine Tst.dec (fun hb=>?_) (fun hb=>?_) | refine Tst.eqI (fun hb=>?_) (fun hb=>?_) | refine Tst.neI (fun hb=>?_) (fun hb=>?_) | refine Tst.not ?_ | refine Tst.any (fun hb=>?_) (fun hb=>?_)) <;> conv=>whnf) | refine w_ret ?_ | refine w_skip ?_ | refine w_blk ?_ | refine w_exit ?_ | refine q_seqR ?_ | refine q_seqE ?_ | refine q_blkN ?_ | refine q_blkR ?_ | refine q_blkH ?_ | refine q_blkE rfl ?_ | refine q_loopR ?_ | refine q_loopE ?_ | fail | first | (refine LenQ.ok ?_;conv=>whnf) | ((first | refine Tst.T ?_ | refine Tst.F ?_ | refine Tst.decT (by assumption) ?_ | refine Tst.decF (by assumption) ?_ | refine Tst.eqT (by assumption) ?_ | refine Tst.eqF (by assumption) ?_ | refine Tst.neT (by assumption) ?_ | refine Tst.neF (by assumption) ?_ | refine Tst.isT (by assumption) ?_ | refine Tst.isF (by assumption) ?_ | refine Tst.dec (fun hb=>?_) (fun hb=>?_) | refine Tst.eqI (fun hb=>?_) (fun hb=>?_) | refine Tst.neI (fun hb=>?_) (fun hb=>?_) | refine Tst.not ?_ | refine Tst.any (fun hb=>?_) (fun hb=>?_)) <;> conv=>whnf) | (refine Ari.ok (by omega) ?_;conv=>whnf) | (refine IxO.ok (by omega) (by omega) ?_;conv=>whnf) | (refine IxS.M (by omega) (by omega) (fun _=>rfl) ?_;conv=>whnf) | (refine ⟨Nat.le_of_ble_eq_true rfl,?_⟩;conv=>whnf) | (refine ⟨rfl,?_⟩;conv=>whnf) | (refine Cat.ok (by omega) ?_;conv=>whnf)))
 all_goals exact f_R0 (by simp) .nil rfl rfl rfl rfl (by repeat' (first | exact trivial | refine wkS_f ?_ | refine wkS_d ?_ | refine ⟨rfl,?_⟩ | refine wkS_live0 (by assumption) ?_))
theorem bare1_ok:Callable Tryz.prog 125:=callable_comp Tryz.func125 ac125_ok (by kernel_rfl)
theorem bare2_ok:Callable Tryz.prog 126:=callable_comp Tryz.func126 ac126_ok (by kernel_rfl)
end Go.Proofs.YthnihifblmnkdaaGreat

namespace Go.Proofs.YthnihifblmnkdaaGreat
open Go.RowKit
theorem ite_all {p:Prop} [Decidable p] {a b:List UInt8} {f:UInt8→Bool} (ha:a.all f=true) (hb:b.all f=true):(if p then a else b).all f=true:=by split <;> assumption
theorem hasN_in (k:Nat):∀ c ∈ hasN k,c=117∨c=114∨c=109∨c=115∨c=112∨c=99∨c=110:=by
 have h:(hasN k).all (fun c=>c == 117 || c == 114 || c == 109 || c == 115 || c == 112 || c == 99 || c == 110)=true:=by
  unfold hasN
  repeat' (refine ite_all ?_ ?_)
  all_goals rfl
 intro c hc
 have:=List.all_eq_true.1 h c hc
 simpa [or_assoc] using this
attribute [local irreducible] AW Fin FinR seqQ blkQ regQ loopQ CallsV CallsS Callable
theorem each_s (s:StzD):CallsS Tryz.prog 124 [.ptr 0 0,.clo (.func 125) [],.clo (.func 126) []] [.live (stzV s).cells 0] (.tup []) [.live (stzV ((hasN s.kind.toNat).foldl zeroF s)).cells 0]:=by
 have hc:=has_v s.kind
 have hl:=hasN_len s.kind.toNat
 have hin:=hasN_in s.kind.toNat
 have hb0:=ba_list (hasN s.kind.toNat)
 have hz:=ba_size (hasN s.kind.toNat)
 generalize hasN s.kind.toNat=L at *
 generalize ba L=u at *
 have hid:=bytes_idlt L
 refine callsR_comp mix Tryz.func124 ac124_ok rfl ?_
 unfold ac124
 simp only [List.length_cons,List.length_nil,List.replicate_succ,List.replicate_zero,List.cons_append,List.nil_append,Nat.reduceAdd,Nat.reduceSub]
 repeat' (first | ((try simp only [Nat.reduceAdd,Nat.reduceMul,Nat.zero_add,Nat.add_zero,Int.toNat_natCast,Int.reduceToNat,stzV]);refine hK' _ _ _ ?_;clear hK' K';first | refine q_regT ?_ | refine q_regD rfl ?_) | first | refine w_seq ?_ | refine q_seqN ?_ | (refine w_reg (by (try simp only [List.length_cons,List.length_nil,Nat.reduceAdd]);rfl) (by (try simp only [List.replicate_succ,List.replicate_zero,List.cons_append,List.nil_append,List.append_nil]);rfl) (fun K' hK'=>wpOps_ok ?_);conv=>whnf) | (refine w_condTst rfl ?_;(repeat refine Tst.not ?_);(first | refine Tst.T ?_ | refine Tst.F ?_ | refine Tst.decT (by assumption) ?_ | refine Tst.decF (by assumption) ?_ | refine Tst.eqT (by assumption) ?_ | refine Tst.eqF (by assumption) ?_ | refine Tst.neT (by assumption) ?_ | refine Tst.neF (by assumption) ?_ | refine Tst.isT (by assumption) ?_ | refine Tst.isF (by assumption) ?_ | refine Tst.dec (fun hb=>?_) (fun hb=>?_) | refine Tst.eqI (fun hb=>?_) (fun hb=>?_) | refine Tst.neI (fun hb=>?_) (fun hb=>?_) | refine Tst.not ?_ | refine Tst.any (fun hb=>?_) (fun hb=>?_)) <;> conv=>whnf) | refine w_ret ?_ | refine w_skip ?_ | refine w_blk ?_ | refine w_exit ?_ | refine q_seqR ?_ | refine q_seqE ?_ | refine q_blkN ?_ | refine q_blkR ?_ | refine q_blkH ?_ | refine q_blkE rfl ?_ | refine q_loopR ?_ | refine q_loopE ?_ | (refine Ask_V0 (hc) rfl rfl ?_;conv=>whnf) | first | (refine LenQ.ok ?_;conv=>whnf) | ((first | refine Tst.T ?_ | refine Tst.F ?_ | refine Tst.decT (by assumption) ?_ | refine Tst.decF (by assumption) ?_ | refine Tst.eqT (by assumption) ?_ | refine Tst.eqF (by assumption) ?_ | refine Tst.neT (by assumption) ?_ | refine Tst.neF (by assumption) ?_ | refine Tst.isT (by assumption) ?_ | refine Tst.isF (by assumption) ?_ | refine Tst.dec (fun hb=>?_) (fun hb=>?_) | refine Tst.eqI (fun hb=>?_) (fun hb=>?_) | refine Tst.neI (fun hb=>?_) (fun hb=>?_) | refine Tst.not ?_ | refine Tst.any (fun hb=>?_) (fun hb=>?_)) <;> conv=>whnf) | (refine Ari.ok (by omega) ?_;conv=>whnf) | (refine IxO.ok (by omega) (by omega) ?_;conv=>whnf) | (refine IxS.M (by omega) (by omega) (fun _=>rfl) ?_;conv=>whnf) | (refine ⟨Nat.le_of_ble_eq_true rfl,?_⟩;conv=>whnf) | (refine ⟨rfl,?_⟩;conv=>whnf) | (refine Cat.ok (by omega) ?_;conv=>whnf))
 try rw [hb0]
 try rw [hz]
 try simp only [List.length_map]
 refine w_loop [17] [7,8,9,18,19,20,21,22,23,24,25,26,27,28,29,30,31,32,33,34,35,36,37,38,39,40,41] (fun n vals st=>∃ k:Nat,k + n=L.length∧vals=[.i k]∧st=[.live (stzV ((L.take k).foldl zeroF s)).cells 0]) L.length 1 [] [.i 0] (by refine wk0_intro (by omega) (by simp only [setF,maskF,List.set_cons_zero,List.set_cons_succ];repeat' (first | exact trivial | refine ⟨?_,?_⟩ | exact .inr (.inl ⟨rfl,rfl,rfl⟩) | exact .inr (.inr ⟨rfl,rfl⟩) | exact .inl rfl)) rfl rfl (by repeat' (first | exact trivial | refine wkS_f ?_ | refine wkS_d ?_ | refine ⟨rfl,?_⟩ | refine wkS_live0 (by assumption) ?_))) ⟨0,by omega,rfl,rfl⟩ ?_
 rintro n vals st ⟨k,hk,rfl,rfl⟩
 simp only [setF,maskF,List.set_cons_zero,List.set_cons_succ]
 have hstep:∀ h:k < L.length,(L.take (k + 1)).foldl zeroF s=zeroF ((L.take k).foldl zeroF s) L[k]:=by
  intro h;rw [List.take_succ_eq_append_getElem h,List.foldl_append];rfl
 have hin2:∀ h:k < L.length,_:=fun h=>hin L[k] (List.getElem_mem h)
 generalize hq:(L.take k).foldl zeroF s=q at *
 simp only [putF,List.set_cons_zero,List.set_cons_succ,evO,List.getD_cons_zero,List.getD_cons_succ,V.ofValue,ofC,V.cells,partV,List.drop_zero,List.drop_succ_cons,List.take_succ_cons,List.take_zero,Nat.reduceAdd,Nat.reduceMul,Nat.zero_add,Nat.add_zero,if_true,if_false,Bool.false_eq_true,List.nil_append,List.cons_append,List.append_nil,List.map_cons,List.map_nil,stzV]
 repeat' (first | ((try simp only [Nat.reduceAdd,Nat.reduceMul,Nat.zero_add,Nat.add_zero,Int.toNat_natCast,Int.reduceToNat,stzV]);refine hK' _ _ _ ?_;clear hK' K';first | refine q_regT ?_ | refine q_regD rfl ?_) | first | refine w_seq ?_ | refine q_seqN ?_ | (refine w_reg (by (try simp only [List.length_cons,List.length_nil,Nat.reduceAdd]);rfl) (by (try simp only [List.replicate_succ,List.replicate_zero,List.cons_append,List.nil_append,List.append_nil]);rfl) (fun K' hK'=>wpOps_ok ?_);conv=>whnf) | (refine w_condTst rfl ?_;(repeat refine Tst.not ?_);(first | refine Tst.T ?_ | refine Tst.F ?_ | refine Tst.decT (by assumption) ?_ | refine Tst.decF (by assumption) ?_ | refine Tst.eqT (by assumption) ?_ | refine Tst.eqF (by assumption) ?_ | refine Tst.neT (by assumption) ?_ | refine Tst.neF (by assumption) ?_ | refine Tst.isT (by assumption) ?_ | refine Tst.isF (by assumption) ?_ | refine Tst.dec (fun hb=>?_) (fun hb=>?_) | refine Tst.eqI (fun hb=>?_) (fun hb=>?_) | refine Tst.neI (fun hb=>?_) (fun hb=>?_) | refine Tst.not ?_ | refine Tst.any (fun hb=>?_) (fun hb=>?_)) <;> conv=>whnf) | refine w_ret ?_ | refine w_skip ?_ | refine w_blk ?_ | refine w_exit ?_ | refine q_seqR ?_ | refine q_seqE ?_ | refine q_blkN ?_ | refine q_blkR ?_ | refine q_blkH ?_ | refine q_blkE rfl ?_ | refine q_loopR ?_ | refine q_loopE ?_ | fail | first | (refine LenQ.ok ?_;conv=>whnf) | ((first | refine Tst.T ?_ | refine Tst.F ?_ | refine Tst.decT (by assumption) ?_ | refine Tst.decF (by assumption) ?_ | refine Tst.eqT (by assumption) ?_ | refine Tst.eqF (by assumption) ?_ | refine Tst.neT (by assumption) ?_ | refine Tst.neF (by assumption) ?_ | refine Tst.isT (by assumption) ?_ | refine Tst.isF (by assumption) ?_ | refine Tst.dec (fun hb=>?_) (fun hb=>?_) | refine Tst.eqI (fun hb=>?_) (fun hb=>?_) | refine Tst.neI (fun hb=>?_) (fun hb=>?_) | refine Tst.not ?_ | refine Tst.any (fun hb=>?_) (fun hb=>?_)) <;> conv=>whnf) | (refine Ari.ok (by omega) ?_;conv=>whnf) | (refine IxO.ok (by omega) (by omega) ?_;conv=>whnf) | (refine IxS.M (by omega) (by omega) (fun _=>rfl) ?_;conv=>whnf) | (refine ⟨Nat.le_of_ble_eq_true rfl,?_⟩;conv=>whnf) | (refine ⟨rfl,?_⟩;conv=>whnf) | (refine Cat.ok (by omega) ?_;conv=>whnf))
 ·have hlt:k < L.length:=by omega
  replace hstep:=hstep hlt
  have hi:=hin2 hlt
  generalize L[k]=c at hstep hi ⊢
  rcases hi with rfl | rfl | rfl | rfl | rfl | rfl | rfl
  ·repeat' (first | ((try simp only [Nat.reduceAdd,Nat.reduceMul,Nat.zero_add,Nat.add_zero,Int.toNat_natCast,Int.reduceToNat,stzV]);refine hK' _ _ _ ?_;clear hK' K';first | refine q_regT ?_ | refine q_regD rfl ?_) | first | refine w_seq ?_ | refine q_seqN ?_ | (refine w_reg (by (try simp only [List.length_cons,List.length_nil,Nat.reduceAdd]);rfl) (by (try simp only [List.replicate_succ,List.replicate_zero,List.cons_append,List.nil_append,List.append_nil]);rfl) (fun K' hK'=>wpOps_ok ?_);conv=>whnf) | (refine w_condTst rfl ?_;(repeat refine Tst.not ?_);(first | refine Tst.T ?_ | refine Tst.F ?_ | refine Tst.decT (by assumption) ?_ | refine Tst.decF (by assumption) ?_ | refine Tst.eqT (by assumption) ?_ | refine Tst.eqF (by assumption) ?_ | refine Tst.neT (by assumption) ?_ | refine Tst.neF (by assumption) ?_ | refine Tst.isT (by assumption) ?_ | refine Tst.isF (by assumption) ?_ | refine Tst.dec (fun hb=>?_) (fun hb=>?_) | refine Tst.eqI (fun hb=>?_) (fun hb=>?_) | refine Tst.neI (fun hb=>?_) (fun hb=>?_) | refine Tst.not ?_ | refine Tst.any (fun hb=>?_) (fun hb=>?_)) <;> conv=>whnf) | refine w_ret ?_ | refine w_skip ?_ | refine w_blk ?_ | refine w_exit ?_ | refine q_seqR ?_ | refine q_seqE ?_ | refine q_blkN ?_ | refine q_blkR ?_ | refine q_blkH ?_ | refine q_blkE rfl ?_ | refine q_loopR ?_ | refine q_loopE ?_ | (refine Ask_S (text_s _ q L (by decide)) rfl ?_;conv=>whnf) | (refine ⟨bare1_ok,?_⟩;conv=>whnf) | (refine Ask_S (bare1_s q _ L _ _ (.inl ⟨rfl,rfl⟩)) rfl ?_;conv=>whnf) | first | (refine LenQ.ok ?_;conv=>whnf) | ((first | refine Tst.T ?_ | refine Tst.F ?_ | refine Tst.decT (by assumption) ?_ | refine Tst.decF (by assumption) ?_ | refine Tst.eqT (by assumption) ?_ | refine Tst.eqF (by assumption) ?_ | refine Tst.neT (by assumption) ?_ | refine Tst.neF (by assumption) ?_ | refine Tst.isT (by assumption) ?_ | refine Tst.isF (by assumption) ?_ | refine Tst.dec (fun hb=>?_) (fun hb=>?_) | refine Tst.eqI (fun hb=>?_) (fun hb=>?_) | refine Tst.neI (fun hb=>?_) (fun hb=>?_) | refine Tst.not ?_ | refine Tst.any (fun hb=>?_) (fun hb=>?_)) <;> conv=>whnf) | (refine Ari.ok (by omega) ?_;conv=>whnf) | (refine IxO.ok (by omega) (by omega) ?_;conv=>whnf) | (refine IxS.M (by omega) (by omega) (fun _=>rfl) ?_;conv=>whnf) | (refine ⟨Nat.le_of_ble_eq_true rfl,?_⟩;conv=>whnf) | (refine ⟨rfl,?_⟩;conv=>whnf) | (refine Cat.ok (by omega) ?_;conv=>whnf))
   exact q_loop (n - 1) 1 [] [_] (by omega) (by refine wk0_intro (by omega) (by simp only [setF,maskF,List.set_cons_zero,List.set_cons_succ];repeat' (first | exact trivial | refine ⟨?_,?_⟩ | exact .inr (.inl ⟨rfl,rfl,rfl⟩) | exact .inr (.inr ⟨rfl,rfl⟩) | exact .inl rfl)) rfl rfl (by repeat' (first | exact trivial | refine wkS_f ?_ | refine wkS_d ?_ | refine ⟨rfl,?_⟩ | refine wkS_live0 (by assumption) ?_))) ⟨k + 1,by omega,rfl,by rw [hstep];rfl⟩
  ·repeat' (first | ((try simp only [Nat.reduceAdd,Nat.reduceMul,Nat.zero_add,Nat.add_zero,Int.toNat_natCast,Int.reduceToNat,stzV]);refine hK' _ _ _ ?_;clear hK' K';first | refine q_regT ?_ | refine q_regD rfl ?_) | first | refine w_seq ?_ | refine q_seqN ?_ | (refine w_reg (by (try simp only [List.length_cons,List.length_nil,Nat.reduceAdd]);rfl) (by (try simp only [List.replicate_succ,List.replicate_zero,List.cons_append,List.nil_append,List.append_nil]);rfl) (fun K' hK'=>wpOps_ok ?_);conv=>whnf) | (refine w_condTst rfl ?_;(repeat refine Tst.not ?_);(first | refine Tst.T ?_ | refine Tst.F ?_ | refine Tst.decT (by assumption) ?_ | refine Tst.decF (by assumption) ?_ | refine Tst.eqT (by assumption) ?_ | refine Tst.eqF (by assumption) ?_ | refine Tst.neT (by assumption) ?_ | refine Tst.neF (by assumption) ?_ | refine Tst.isT (by assumption) ?_ | refine Tst.isF (by assumption) ?_ | refine Tst.dec (fun hb=>?_) (fun hb=>?_) | refine Tst.eqI (fun hb=>?_) (fun hb=>?_) | refine Tst.neI (fun hb=>?_) (fun hb=>?_) | refine Tst.not ?_ | refine Tst.any (fun hb=>?_) (fun hb=>?_)) <;> conv=>whnf) | refine w_ret ?_ | refine w_skip ?_ | refine w_blk ?_ | refine w_exit ?_ | refine q_seqR ?_ | refine q_seqE ?_ | refine q_blkN ?_ | refine q_blkR ?_ | refine q_blkH ?_ | refine q_blkE rfl ?_ | refine q_loopR ?_ | refine q_loopE ?_ | (refine Ask_S (text_s _ q L (by decide)) rfl ?_;conv=>whnf) | (refine ⟨bare1_ok,?_⟩;conv=>whnf) | (refine Ask_S (bare1_s q _ L _ _ (.inr (.inl ⟨rfl,rfl⟩))) rfl ?_;conv=>whnf) | first | (refine LenQ.ok ?_;conv=>whnf) | ((first | refine Tst.T ?_ | refine Tst.F ?_ | refine Tst.decT (by assumption) ?_ | refine Tst.decF (by assumption) ?_ | refine Tst.eqT (by assumption) ?_ | refine Tst.eqF (by assumption) ?_ | refine Tst.neT (by assumption) ?_ | refine Tst.neF (by assumption) ?_ | refine Tst.isT (by assumption) ?_ | refine Tst.isF (by assumption) ?_ | refine Tst.dec (fun hb=>?_) (fun hb=>?_) | refine Tst.eqI (fun hb=>?_) (fun hb=>?_) | refine Tst.neI (fun hb=>?_) (fun hb=>?_) | refine Tst.not ?_ | refine Tst.any (fun hb=>?_) (fun hb=>?_)) <;> conv=>whnf) | (refine Ari.ok (by omega) ?_;conv=>whnf) | (refine IxO.ok (by omega) (by omega) ?_;conv=>whnf) | (refine IxS.M (by omega) (by omega) (fun _=>rfl) ?_;conv=>whnf) | (refine ⟨Nat.le_of_ble_eq_true rfl,?_⟩;conv=>whnf) | (refine ⟨rfl,?_⟩;conv=>whnf) | (refine Cat.ok (by omega) ?_;conv=>whnf))
   exact q_loop (n - 1) 1 [] [_] (by omega) (by refine wk0_intro (by omega) (by simp only [setF,maskF,List.set_cons_zero,List.set_cons_succ];repeat' (first | exact trivial | refine ⟨?_,?_⟩ | exact .inr (.inl ⟨rfl,rfl,rfl⟩) | exact .inr (.inr ⟨rfl,rfl⟩) | exact .inl rfl)) rfl rfl (by repeat' (first | exact trivial | refine wkS_f ?_ | refine wkS_d ?_ | refine ⟨rfl,?_⟩ | refine wkS_live0 (by assumption) ?_))) ⟨k + 1,by omega,rfl,by rw [hstep];rfl⟩
  ·repeat' (first | ((try simp only [Nat.reduceAdd,Nat.reduceMul,Nat.zero_add,Nat.add_zero,Int.toNat_natCast,Int.reduceToNat,stzV]);refine hK' _ _ _ ?_;clear hK' K';first | refine q_regT ?_ | refine q_regD rfl ?_) | first | refine w_seq ?_ | refine q_seqN ?_ | (refine w_reg (by (try simp only [List.length_cons,List.length_nil,Nat.reduceAdd]);rfl) (by (try simp only [List.replicate_succ,List.replicate_zero,List.cons_append,List.nil_append,List.append_nil]);rfl) (fun K' hK'=>wpOps_ok ?_);conv=>whnf) | (refine w_condTst rfl ?_;(repeat refine Tst.not ?_);(first | refine Tst.T ?_ | refine Tst.F ?_ | refine Tst.decT (by assumption) ?_ | refine Tst.decF (by assumption) ?_ | refine Tst.eqT (by assumption) ?_ | refine Tst.eqF (by assumption) ?_ | refine Tst.neT (by assumption) ?_ | refine Tst.neF (by assumption) ?_ | refine Tst.isT (by assumption) ?_ | refine Tst.isF (by assumption) ?_ | refine Tst.dec (fun hb=>?_) (fun hb=>?_) | refine Tst.eqI (fun hb=>?_) (fun hb=>?_) | refine Tst.neI (fun hb=>?_) (fun hb=>?_) | refine Tst.not ?_ | refine Tst.any (fun hb=>?_) (fun hb=>?_)) <;> conv=>whnf) | refine w_ret ?_ | refine w_skip ?_ | refine w_blk ?_ | refine w_exit ?_ | refine q_seqR ?_ | refine q_seqE ?_ | refine q_blkN ?_ | refine q_blkR ?_ | refine q_blkH ?_ | refine q_blkE rfl ?_ | refine q_loopR ?_ | refine q_loopE ?_ | (refine Ask_S (text_s _ q L (by decide)) rfl ?_;conv=>whnf) | (refine ⟨bare1_ok,?_⟩;conv=>whnf) | (refine Ask_S (bare1_s q _ L _ _ (.inr (.inr ⟨rfl,rfl⟩))) rfl ?_;conv=>whnf) | first | (refine LenQ.ok ?_;conv=>whnf) | ((first | refine Tst.T ?_ | refine Tst.F ?_ | refine Tst.decT (by assumption) ?_ | refine Tst.decF (by assumption) ?_ | refine Tst.eqT (by assumption) ?_ | refine Tst.eqF (by assumption) ?_ | refine Tst.neT (by assumption) ?_ | refine Tst.neF (by assumption) ?_ | refine Tst.isT (by assumption) ?_ | refine Tst.isF (by assumption) ?_ | refine Tst.dec (fun hb=>?_) (fun hb=>?_) | refine Tst.eqI (fun hb=>?_) (fun hb=>?_) | refine Tst.neI (fun hb=>?_) (fun hb=>?_) | refine Tst.not ?_ | refine Tst.any (fun hb=>?_) (fun hb=>?_)) <;> conv=>whnf) | (refine Ari.ok (by omega) ?_;conv=>whnf) | (refine IxO.ok (by omega) (by omega) ?_;conv=>whnf) | (refine IxS.M (by omega) (by omega) (fun _=>rfl) ?_;conv=>whnf) | (refine ⟨Nat.le_of_ble_eq_true rfl,?_⟩;conv=>whnf) | (refine ⟨rfl,?_⟩;conv=>whnf) | (refine Cat.ok (by omega) ?_;conv=>whnf))
   exact q_loop (n - 1) 1 [] [_] (by omega) (by refine wk0_intro (by omega) (by simp only [setF,maskF,List.set_cons_zero,List.set_cons_succ];repeat' (first | exact trivial | refine ⟨?_,?_⟩ | exact .inr (.inl ⟨rfl,rfl,rfl⟩) | exact .inr (.inr ⟨rfl,rfl⟩) | exact .inl rfl)) rfl rfl (by repeat' (first | exact trivial | refine wkS_f ?_ | refine wkS_d ?_ | refine ⟨rfl,?_⟩ | refine wkS_live0 (by assumption) ?_))) ⟨k + 1,by omega,rfl,by rw [hstep];rfl⟩
  ·repeat' (first | ((try simp only [Nat.reduceAdd,Nat.reduceMul,Nat.zero_add,Nat.add_zero,Int.toNat_natCast,Int.reduceToNat,stzV]);refine hK' _ _ _ ?_;clear hK' K';first | refine q_regT ?_ | refine q_regD rfl ?_) | first | refine w_seq ?_ | refine q_seqN ?_ | (refine w_reg (by (try simp only [List.length_cons,List.length_nil,Nat.reduceAdd]);rfl) (by (try simp only [List.replicate_succ,List.replicate_zero,List.cons_append,List.nil_append,List.append_nil]);rfl) (fun K' hK'=>wpOps_ok ?_);conv=>whnf) | (refine w_condTst rfl ?_;(repeat refine Tst.not ?_);(first | refine Tst.T ?_ | refine Tst.F ?_ | refine Tst.decT (by assumption) ?_ | refine Tst.decF (by assumption) ?_ | refine Tst.eqT (by assumption) ?_ | refine Tst.eqF (by assumption) ?_ | refine Tst.neT (by assumption) ?_ | refine Tst.neF (by assumption) ?_ | refine Tst.isT (by assumption) ?_ | refine Tst.isF (by assumption) ?_ | refine Tst.dec (fun hb=>?_) (fun hb=>?_) | refine Tst.eqI (fun hb=>?_) (fun hb=>?_) | refine Tst.neI (fun hb=>?_) (fun hb=>?_) | refine Tst.not ?_ | refine Tst.any (fun hb=>?_) (fun hb=>?_)) <;> conv=>whnf) | refine w_ret ?_ | refine w_skip ?_ | refine w_blk ?_ | refine w_exit ?_ | refine q_seqR ?_ | refine q_seqE ?_ | refine q_blkN ?_ | refine q_blkR ?_ | refine q_blkH ?_ | refine q_blkE rfl ?_ | refine q_loopR ?_ | refine q_loopE ?_ | (refine Ask_S (text_s _ q L (by decide)) rfl ?_;conv=>whnf) | (refine Ask_S (number_s _ q L (by decide)) rfl ?_;conv=>whnf) | (refine ⟨bare2_ok,?_⟩;conv=>whnf) | (refine Ask_S (bare2_s q _ L _ _ _ (.inl ⟨rfl,rfl⟩)) rfl ?_;conv=>whnf) | first | (refine LenQ.ok ?_;conv=>whnf) | ((first | refine Tst.T ?_ | refine Tst.F ?_ | refine Tst.decT (by assumption) ?_ | refine Tst.decF (by assumption) ?_ | refine Tst.eqT (by assumption) ?_ | refine Tst.eqF (by assumption) ?_ | refine Tst.neT (by assumption) ?_ | refine Tst.neF (by assumption) ?_ | refine Tst.isT (by assumption) ?_ | refine Tst.isF (by assumption) ?_ | refine Tst.dec (fun hb=>?_) (fun hb=>?_) | refine Tst.eqI (fun hb=>?_) (fun hb=>?_) | refine Tst.neI (fun hb=>?_) (fun hb=>?_) | refine Tst.not ?_ | refine Tst.any (fun hb=>?_) (fun hb=>?_)) <;> conv=>whnf) | (refine Ari.ok (by omega) ?_;conv=>whnf) | (refine IxO.ok (by omega) (by omega) ?_;conv=>whnf) | (refine IxS.M (by omega) (by omega) (fun _=>rfl) ?_;conv=>whnf) | (refine ⟨Nat.le_of_ble_eq_true rfl,?_⟩;conv=>whnf) | (refine ⟨rfl,?_⟩;conv=>whnf) | (refine Cat.ok (by omega) ?_;conv=>whnf))
   exact q_loop (n - 1) 1 [] [_] (by omega) (by refine wk0_intro (by omega) (by simp only [setF,maskF,List.set_cons_zero,List.set_cons_succ];repeat' (first | exact trivial | refine ⟨?_,?_⟩ | exact .inr (.inl ⟨rfl,rfl,rfl⟩) | exact .inr (.inr ⟨rfl,rfl⟩) | exact .inl rfl)) rfl rfl (by repeat' (first | exact trivial | refine wkS_f ?_ | refine wkS_d ?_ | refine ⟨rfl,?_⟩ | refine wkS_live0 (by assumption) ?_))) ⟨k + 1,by omega,rfl,by rw [hstep];rfl⟩
  ·repeat' (first | ((try simp only [Nat.reduceAdd,Nat.reduceMul,Nat.zero_add,Nat.add_zero,Int.toNat_natCast,Int.reduceToNat,stzV]);refine hK' _ _ _ ?_;clear hK' K';first | refine q_regT ?_ | refine q_regD rfl ?_) | first | refine w_seq ?_ | refine q_seqN ?_ | (refine w_reg (by (try simp only [List.length_cons,List.length_nil,Nat.reduceAdd]);rfl) (by (try simp only [List.replicate_succ,List.replicate_zero,List.cons_append,List.nil_append,List.append_nil]);rfl) (fun K' hK'=>wpOps_ok ?_);conv=>whnf) | (refine w_condTst rfl ?_;(repeat refine Tst.not ?_);(first | refine Tst.T ?_ | refine Tst.F ?_ | refine Tst.decT (by assumption) ?_ | refine Tst.decF (by assumption) ?_ | refine Tst.eqT (by assumption) ?_ | refine Tst.eqF (by assumption) ?_ | refine Tst.neT (by assumption) ?_ | refine Tst.neF (by assumption) ?_ | refine Tst.isT (by assumption) ?_ | refine Tst.isF (by assumption) ?_ | refine Tst.dec (fun hb=>?_) (fun hb=>?_) | refine Tst.eqI (fun hb=>?_) (fun hb=>?_) | refine Tst.neI (fun hb=>?_) (fun hb=>?_) | refine Tst.not ?_ | refine Tst.any (fun hb=>?_) (fun hb=>?_)) <;> conv=>whnf) | refine w_ret ?_ | refine w_skip ?_ | refine w_blk ?_ | refine w_exit ?_ | refine q_seqR ?_ | refine q_seqE ?_ | refine q_blkN ?_ | refine q_blkR ?_ | refine q_blkH ?_ | refine q_blkE rfl ?_ | refine q_loopR ?_ | refine q_loopE ?_ | (refine Ask_S (text_s _ q L (by decide)) rfl ?_;conv=>whnf) | (refine Ask_S (number_s _ q L (by decide)) rfl ?_;conv=>whnf) | (refine ⟨bare2_ok,?_⟩;conv=>whnf) | (refine Ask_S (bare2_s q _ L _ _ _ (.inr (.inl ⟨rfl,rfl⟩))) rfl ?_;conv=>whnf) | first | (refine LenQ.ok ?_;conv=>whnf) | ((first | refine Tst.T ?_ | refine Tst.F ?_ | refine Tst.decT (by assumption) ?_ | refine Tst.decF (by assumption) ?_ | refine Tst.eqT (by assumption) ?_ | refine Tst.eqF (by assumption) ?_ | refine Tst.neT (by assumption) ?_ | refine Tst.neF (by assumption) ?_ | refine Tst.isT (by assumption) ?_ | refine Tst.isF (by assumption) ?_ | refine Tst.dec (fun hb=>?_) (fun hb=>?_) | refine Tst.eqI (fun hb=>?_) (fun hb=>?_) | refine Tst.neI (fun hb=>?_) (fun hb=>?_) | refine Tst.not ?_ | refine Tst.any (fun hb=>?_) (fun hb=>?_)) <;> conv=>whnf) | (refine Ari.ok (by omega) ?_;conv=>whnf) | (refine IxO.ok (by omega) (by omega) ?_;conv=>whnf) | (refine IxS.M (by omega) (by omega) (fun _=>rfl) ?_;conv=>whnf) | (refine ⟨Nat.le_of_ble_eq_true rfl,?_⟩;conv=>whnf) | (refine ⟨rfl,?_⟩;conv=>whnf) | (refine Cat.ok (by omega) ?_;conv=>whnf))
   exact q_loop (n - 1) 1 [] [_] (by omega) (by refine wk0_intro (by omega) (by simp only [setF,maskF,List.set_cons_zero,List.set_cons_succ];repeat' (first | exact trivial | refine ⟨?_,?_⟩ | exact .inr (.inl ⟨rfl,rfl,rfl⟩) | exact .inr (.inr ⟨rfl,rfl⟩) | exact .inl rfl)) rfl rfl (by repeat' (first | exact trivial | refine wkS_f ?_ | refine wkS_d ?_ | refine ⟨rfl,?_⟩ | refine wkS_live0 (by assumption) ?_))) ⟨k + 1,by omega,rfl,by rw [hstep];rfl⟩
  ·repeat' (first | ((try simp only [Nat.reduceAdd,Nat.reduceMul,Nat.zero_add,Nat.add_zero,Int.toNat_natCast,Int.reduceToNat,stzV]);refine hK' _ _ _ ?_;clear hK' K';first | refine q_regT ?_ | refine q_regD rfl ?_) | first | refine w_seq ?_ | refine q_seqN ?_ | (refine w_reg (by (try simp only [List.length_cons,List.length_nil,Nat.reduceAdd]);rfl) (by (try simp only [List.replicate_succ,List.replicate_zero,List.cons_append,List.nil_append,List.append_nil]);rfl) (fun K' hK'=>wpOps_ok ?_);conv=>whnf) | (refine w_condTst rfl ?_;(repeat refine Tst.not ?_);(first | refine Tst.T ?_ | refine Tst.F ?_ | refine Tst.decT (by assumption) ?_ | refine Tst.decF (by assumption) ?_ | refine Tst.eqT (by assumption) ?_ | refine Tst.eqF (by assumption) ?_ | refine Tst.neT (by assumption) ?_ | refine Tst.neF (by assumption) ?_ | refine Tst.isT (by assumption) ?_ | refine Tst.isF (by assumption) ?_ | refine Tst.dec (fun hb=>?_) (fun hb=>?_) | refine Tst.eqI (fun hb=>?_) (fun hb=>?_) | refine Tst.neI (fun hb=>?_) (fun hb=>?_) | refine Tst.not ?_ | refine Tst.any (fun hb=>?_) (fun hb=>?_)) <;> conv=>whnf) | refine w_ret ?_ | refine w_skip ?_ | refine w_blk ?_ | refine w_exit ?_ | refine q_seqR ?_ | refine q_seqE ?_ | refine q_blkN ?_ | refine q_blkR ?_ | refine q_blkH ?_ | refine q_blkE rfl ?_ | refine q_loopR ?_ | refine q_loopE ?_ | (refine Ask_S (text_s _ q L (by decide)) rfl ?_;conv=>whnf) | (refine Ask_S (number_s _ q L (by decide)) rfl ?_;conv=>whnf) | (refine ⟨bare2_ok,?_⟩;conv=>whnf) | (refine Ask_S (bare2_s q _ L _ _ _ (.inr (.inr (.inl ⟨rfl,rfl⟩)))) rfl ?_;conv=>whnf) | first | (refine LenQ.ok ?_;conv=>whnf) | ((first | refine Tst.T ?_ | refine Tst.F ?_ | refine Tst.decT (by assumption) ?_ | refine Tst.decF (by assumption) ?_ | refine Tst.eqT (by assumption) ?_ | refine Tst.eqF (by assumption) ?_ | refine Tst.neT (by assumption) ?_ | refine Tst.neF (by assumption) ?_ | refine Tst.isT (by assumption) ?_ | refine Tst.isF (by assumption) ?_ | refine Tst.dec (fun hb=>?_) (fun hb=>?_) | refine Tst.eqI (fun hb=>?_) (fun hb=>?_) | refine Tst.neI (fun hb=>?_) (fun hb=>?_) | refine Tst.not ?_ | refine Tst.any (fun hb=>?_) (fun hb=>?_)) <;> conv=>whnf) | (refine Ari.ok (by omega) ?_;conv=>whnf) | (refine IxO.ok (by omega) (by omega) ?_;conv=>whnf) | (refine IxS.M (by omega) (by omega) (fun _=>rfl) ?_;conv=>whnf) | (refine ⟨Nat.le_of_ble_eq_true rfl,?_⟩;conv=>whnf) | (refine ⟨rfl,?_⟩;conv=>whnf) | (refine Cat.ok (by omega) ?_;conv=>whnf))
   exact q_loop (n - 1) 1 [] [_] (by omega) (by refine wk0_intro (by omega) (by simp only [setF,maskF,List.set_cons_zero,List.set_cons_succ];repeat' (first | exact trivial | refine ⟨?_,?_⟩ | exact .inr (.inl ⟨rfl,rfl,rfl⟩) | exact .inr (.inr ⟨rfl,rfl⟩) | exact .inl rfl)) rfl rfl (by repeat' (first | exact trivial | refine wkS_f ?_ | refine wkS_d ?_ | refine ⟨rfl,?_⟩ | refine wkS_live0 (by assumption) ?_))) ⟨k + 1,by omega,rfl,by rw [hstep];rfl⟩
  ·repeat' (first | ((try simp only [Nat.reduceAdd,Nat.reduceMul,Nat.zero_add,Nat.add_zero,Int.toNat_natCast,Int.reduceToNat,stzV]);refine hK' _ _ _ ?_;clear hK' K';first | refine q_regT ?_ | refine q_regD rfl ?_) | first | refine w_seq ?_ | refine q_seqN ?_ | (refine w_reg (by (try simp only [List.length_cons,List.length_nil,Nat.reduceAdd]);rfl) (by (try simp only [List.replicate_succ,List.replicate_zero,List.cons_append,List.nil_append,List.append_nil]);rfl) (fun K' hK'=>wpOps_ok ?_);conv=>whnf) | (refine w_condTst rfl ?_;(repeat refine Tst.not ?_);(first | refine Tst.T ?_ | refine Tst.F ?_ | refine Tst.decT (by assumption) ?_ | refine Tst.decF (by assumption) ?_ | refine Tst.eqT (by assumption) ?_ | refine Tst.eqF (by assumption) ?_ | refine Tst.neT (by assumption) ?_ | refine Tst.neF (by assumption) ?_ | refine Tst.isT (by assumption) ?_ | refine Tst.isF (by assumption) ?_ | refine Tst.dec (fun hb=>?_) (fun hb=>?_) | refine Tst.eqI (fun hb=>?_) (fun hb=>?_) | refine Tst.neI (fun hb=>?_) (fun hb=>?_) | refine Tst.not ?_ | refine Tst.any (fun hb=>?_) (fun hb=>?_)) <;> conv=>whnf) | refine w_ret ?_ | refine w_skip ?_ | refine w_blk ?_ | refine w_exit ?_ | refine q_seqR ?_ | refine q_seqE ?_ | refine q_blkN ?_ | refine q_blkR ?_ | refine q_blkH ?_ | refine q_blkE rfl ?_ | refine q_loopR ?_ | refine q_loopE ?_ | (refine Ask_S (text_s _ q L (by decide)) rfl ?_;conv=>whnf) | (refine Ask_S (number_s _ q L (by decide)) rfl ?_;conv=>whnf) | (refine ⟨bare2_ok,?_⟩;conv=>whnf) | (refine Ask_S (bare2_s q _ L _ _ _ (.inr (.inr (.inr ⟨rfl,rfl⟩)))) rfl ?_;conv=>whnf) | first | (refine LenQ.ok ?_;conv=>whnf) | ((first | refine Tst.T ?_ | refine Tst.F ?_ | refine Tst.decT (by assumption) ?_ | refine Tst.decF (by assumption) ?_ | refine Tst.eqT (by assumption) ?_ | refine Tst.eqF (by assumption) ?_ | refine Tst.neT (by assumption) ?_ | refine Tst.neF (by assumption) ?_ | refine Tst.isT (by assumption) ?_ | refine Tst.isF (by assumption) ?_ | refine Tst.dec (fun hb=>?_) (fun hb=>?_) | refine Tst.eqI (fun hb=>?_) (fun hb=>?_) | refine Tst.neI (fun hb=>?_) (fun hb=>?_) | refine Tst.not ?_ | refine Tst.any (fun hb=>?_) (fun hb=>?_)) <;> conv=>whnf) | (refine Ari.ok (by omega) ?_;conv=>whnf) | (refine IxO.ok (by omega) (by omega) ?_;conv=>whnf) | (refine IxS.M (by omega) (by omega) (fun _=>rfl) ?_;conv=>whnf) | (refine ⟨Nat.le_of_ble_eq_true rfl,?_⟩;conv=>whnf) | (refine ⟨rfl,?_⟩;conv=>whnf) | (refine Cat.ok (by omega) ?_;conv=>whnf))
   exact q_loop (n - 1) 1 [] [_] (by omega) (by refine wk0_intro (by omega) (by simp only [setF,maskF,List.set_cons_zero,List.set_cons_succ];repeat' (first | exact trivial | refine ⟨?_,?_⟩ | exact .inr (.inl ⟨rfl,rfl,rfl⟩) | exact .inr (.inr ⟨rfl,rfl⟩) | exact .inl rfl)) rfl rfl (by repeat' (first | exact trivial | refine wkS_f ?_ | refine wkS_d ?_ | refine ⟨rfl,?_⟩ | refine wkS_live0 (by assumption) ?_))) ⟨k + 1,by omega,rfl,by rw [hstep];rfl⟩
 ·have hkl:k=L.length:=by omega
  subst hkl
  rw [List.take_length] at hq
  rw [hq]
  exact f_R0 (by simp) .nil rfl rfl rfl rfl (by repeat' (first | exact trivial | refine wkS_f ?_ | refine wkS_d ?_ | refine ⟨rfl,?_⟩ | refine wkS_live0 (by assumption) ?_))
end Go.Proofs.YthnihifblmnkdaaGreat

namespace Go.Proofs.YthnihifblmnkdaaGreat
open Go.RowKit
theorem w_cond2 {P:Program} {n0:Nat} {fr:List V} {st:List Slot} {Q:AExit→List V→List Slot→Prop} {a b:ACode} {i:Nat} {t:Bool} (hc:fr.getD i .any=.lit (.bool t)) (h1:t=true→AW P n0 a Q (fr.set i (.lit (.bool true))) st) (h2:t=false→AW P n0 b Q (fr.set i (.lit (.bool false))) st):AW P n0 (.cond (.tmp i) a b) Q fr st:=by
 cases t with
 | true=>exact w_condT hc (by have:=h1 rfl;rwa [set_getD hc] at this)
 | false=>exact w_condF hc (by have:=h2 rfl;rwa [set_getD hc] at this)
attribute [local irreducible] CallsS CallsV Callable
theorem zero_fold (L:List UInt8) (hL:∀ c ∈ L,c=117∨c=114∨c=109∨c=115∨c=112∨c=99∨c=110):∀ s:StzD,L.foldl zeroF s=⟨s.kind,if L.any (· == 117) then ⟨#[]⟩ else s.user,if L.any (· == 114) then ⟨#[]⟩ else s.res,if L.any (· == 109) then ⟨#[]⟩ else s.name,if L.any (· == 115) then 0 else s.show_,if L.any (· == 112) then 0 else s.prio,if L.any (· == 99) then 0 else s.code,if L.any (· == 110) then 0 else s.n⟩:=by
 induction L with
 | nil=>intro s;rfl
 | cons c L ih =>
  intro s
  rw [List.foldl_cons,ih (fun d hd=>hL d (by simp [hd]))]
  simp only [List.any_cons]
  rcases hL c (by simp) with rfl | rfl | rfl | rfl | rfl | rfl | rfl
  all_goals simp [zeroF]
theorem emp_if (b:Bool) (u:ByteArray):((if b then (⟨#[]⟩ : ByteArray) else u).toList == (⟨#[]⟩ : ByteArray).toList)=!(!u.toList.isEmpty && !b):=by
 have e:(⟨#[]⟩ : ByteArray).toList=[]:=by simp
 rw [e]
 cases b
 ·simp only [Bool.false_eq_true,if_false,Bool.not_false,Bool.and_true,Bool.not_not]
  cases u.toList <;> rfl
 ·simp [e]
theorem int_if (b:Bool) (n:Int):((if b then (0:Int) else n) == 0)=!(n != 0 && !b):=by
 cases b <;> simp [bne]
theorem bare_l (s z:StzD) (hz:List.foldl zeroF s (hasN s.kind.toNat)=z):((z.kind.toNat:Int) == (z.kind.toNat:Int) && (z.user.toList == (⟨#[]⟩ : ByteArray).toList && (z.res.toList == (⟨#[]⟩ : ByteArray).toList && (z.name.toList == (⟨#[]⟩ : ByteArray).toList && (z.show_ == 0 && (z.prio == 0 && (z.code == 0 && (z.n == 0 && true))))))))=!extraL s:=by
 rw [zero_fold _ (hasN_in _)] at hz
 subst hz
 simp only [emp_if,int_if,extraL,hasC,beq_self_eq_true,Bool.true_and,Bool.and_true,Bool.not_or,Bool.and_assoc]
theorem bare_v (s:StzD):CallsV Tryz.prog 110 [stzV s] (.b (!extraL s)):=by
 refine callsV_comp mix Tryz.func110 ac110_ok ?_
 unfold ac110
 simp only [List.length_cons,List.length_nil,List.replicate_succ,List.replicate_zero,List.cons_append,List.nil_append,Nat.reduceAdd,Nat.reduceSub]
 repeat' (first | (first | refine w_blk ?_ | refine w_seq ?_ | refine w_reg (by (try simp only [List.length_cons,List.length_nil,Nat.reduceAdd]);rfl) (by (try simp only [List.replicate_succ,List.replicate_zero,List.cons_append,List.nil_append,List.append_nil]);rfl) (fun K' hK'=>?_) | refine w_condT rfl ?_ | refine w_condF rfl ?_ | (refine w_cond2 rfl (fun hb=>?_) (fun hb=>?_) <;> simp only [putF,List.set_cons_zero,List.set_cons_succ,evO,List.getD_cons_zero,List.getD_cons_succ,V.ofValue,ofC,V.cells,partV,List.drop_zero,List.drop_succ_cons,List.take_succ_cons,List.take_zero,Nat.reduceAdd,Nat.reduceMul,Nat.zero_add,Nat.add_zero,if_true,if_false,Bool.false_eq_true,List.nil_append,List.cons_append,List.append_nil,List.map_cons,List.map_nil,stzV,List.set,byteV,Nat.mul_one]) | refine w_ret ?_ | refine w_skip ?_ | refine w_exit ?_ | refine q_seqN ?_ | refine q_seqR ?_ | refine q_seqE ?_ | refine q_blkN ?_ | refine q_blkR ?_ | refine q_blkH ?_ | refine q_blkE rfl ?_ | refine q_loopR ?_ | refine q_loopE ?_ | (refine x_end ?_;refine hK' _ _ _ ?_;clear hK' K';first | refine q_regT ?_ | refine q_regD rfl ?_)) | ((first | refine x_mv rfl ?_ | refine x_off rfl ?_ | refine x_ldP rfl rfl rfl (Nat.le_of_ble_eq_true rfl) ?_ | refine x_faP rfl rfl ?_ | refine x_ldE rfl rfl (Nat.le_of_ble_eq_true rfl) ?_ | refine x_faE rfl rfl (Nat.le_of_ble_eq_true rfl) ?_ | refine x_add rfl rfl rfl (by omega) ?_ | refine x_sub rfl rfl rfl (by omega) ?_ | refine x_cat rfl rfl rfl (by omega) ?_ | refine x_binI rfl rfl rfl rfl ?_ | refine x_binS rfl rfl rfl rfl ?_ | refine x_pick rfl rfl ?_ | refine x_un rfl rfl rfl ?_ | refine x_bx rfl rfl rfl ?_ | refine x_al rfl rfl rfl ?_ | refine x_st rfl rfl rfl rfl rfl (Nat.le_of_ble_eq_true rfl) (Nat.le_of_ble_eq_true rfl) ?_ | refine x_eqa rfl rfl rfl rfl rfl rfl ?_ | refine x_bd rfl rfl ?_ | refine x_ex rfl rfl rfl ?_ | refine x_fd rfl rfl (Nat.le_of_ble_eq_true rfl) ?_ | refine x_lenM rfl rfl ?_ | refine x_lenS rfl rfl ?_ | refine x_lent rfl rfl ?_ | refine x_lenO rfl rfl ?_ | refine x_binb rfl rfl rfl ?_ | refine x_cvs rfl rfl ?_ | refine x_cvi0 rfl rfl (by omega) ?_ | refine x_bs rfl rfl rfl rfl ?_ | refine x_mf rfl ?_ | refine x_s2b rfl rfl ?_ | refine x_eqpP rfl rfl rfl ?_ | refine x_eqpN rfl rfl rfl ?_ | refine x_ncP rfl rfl ?_ | refine x_ncE rfl rfl ?_ | refine x_ncC rfl rfl ?_);simp only [putF,List.set_cons_zero,List.set_cons_succ,evO,List.getD_cons_zero,List.getD_cons_succ,V.ofValue,ofC,V.cells,partV,List.drop_zero,List.drop_succ_cons,List.take_succ_cons,List.take_zero,Nat.reduceAdd,Nat.reduceMul,Nat.zero_add,Nat.add_zero,if_true,if_false,Bool.false_eq_true,List.nil_append,List.cons_append,List.append_nil,List.map_cons,List.map_nil,stzV,List.set,byteV,Nat.mul_one]) | (refine x_clS rfl (each_s s) rfl ?_;simp only [putF,List.set_cons_zero,List.set_cons_succ,evO,List.getD_cons_zero,List.getD_cons_succ,V.ofValue,ofC,V.cells,partV,List.drop_zero,List.drop_succ_cons,List.take_succ_cons,List.take_zero,Nat.reduceAdd,Nat.reduceMul,Nat.zero_add,Nat.add_zero,if_true,if_false,Bool.false_eq_true,List.nil_append,List.cons_append,List.append_nil,List.map_cons,List.map_nil,stzV,List.set,byteV,Nat.mul_one]) | (refine x_case rfl (fun hb=>?_) (fun hb=>?_) <;> simp only [putF,List.set_cons_zero,List.set_cons_succ,evO,List.getD_cons_zero,List.getD_cons_succ,V.ofValue,ofC,V.cells,partV,List.drop_zero,List.drop_succ_cons,List.take_succ_cons,List.take_zero,Nat.reduceAdd,Nat.reduceMul,Nat.zero_add,Nat.add_zero,if_true,if_false,Bool.false_eq_true,List.nil_append,List.cons_append,List.append_nil,List.map_cons,List.map_nil,stzV,List.set,byteV,Nat.mul_one]))
 generalize hz:List.foldl zeroF s (hasN s.kind.toNat)=z at *
 rw [bare_l s z hz]
 exact f_lit (by simp) rfl rfl
end Go.Proofs.YthnihifblmnkdaaGreat

namespace Go.Proofs.YthnihifblmnkdaaGreat
open Go.RowKit
theorem ite_P {P:List UInt8→Prop} {p:Prop} [Decidable p] {a b:List UInt8} (ha:P a) (hb:P b):P (if p then a else b):=by split <;> assumption
theorem hasN_first (k:Nat):(hasN k).any (· == 117)=((hasN k).headD 0 == 117):=by
 unfold hasN
 repeat' (refine ite_P (P:=fun l=>l.any (· == 117)=(l.headD 0 == 117)) ?_ ?_)
 all_goals rfl
attribute [local irreducible] CallsS CallsV Callable
set_option maxHeartbeats 1000000 in
theorem stzCheck_v (s:StzD) (hu:s.user.size≤100000) (hr:s.res.size≤100000) (hn:s.name.size≤100000):CallsV Tryz.prog 93 [stzV s] (.i (checkS s)):=by
 refine callsV_comp mix Tryz.func93 ac93_ok ?_
 unfold ac93
 simp only [List.length_cons,List.length_nil,List.replicate_succ,List.replicate_zero,List.cons_append,List.nil_append,Nat.reduceAdd,Nat.reduceSub]
 have hc:=has_v s.kind
 have hl:=hasN_len s.kind.toNat
 have hb0:=ba_list (hasN s.kind.toNat)
 have hz:=ba_size (hasN s.kind.toNat)
 have hL:hasC s.kind 117=((hasN s.kind.toNat).headD 0 == 117):=hasN_first _
 generalize hasN s.kind.toNat=L at *
 generalize ba L=u at *
 obtain ⟨b1,hb1⟩ : ∃ b,(!(u.toList == (⟨#[]⟩ : ByteArray).toList))=b:=⟨_,rfl⟩
 have hpos:b1=true→0 < u.size:=by
  intro h;subst hb1;rw [hz];cases L with
  | nil =>
   have e:u.toList=(⟨#[]⟩ : ByteArray).toList:=by
    have:u=⟨#[]⟩:=by
     rcases u with ⟨⟨l⟩⟩
     simp at hb0;simp [hb0]
    rw [this]
   rw [e] at h;simp at h
  | cons=>simp
 have hk1:b1=false→hasC s.kind 117=false:=by
  intro h;subst hb1;rw [hL]
  have e:u.toList=(⟨#[]⟩ : ByteArray).toList:=by simpa using h
  cases L with
  | nil=>rfl
  | cons c L =>
   have:u.data.toList=[]:=by
    have e2:u.toList=[]:=by rw [e];simp
    rw [(Go.toList_nil_iff_emptyBytes u).1 e2];rfl
   rw [hb0] at this;cases this
 have hk2:∀ h:b1=true,hasC s.kind 117=(((u[0]'(hpos h)).toNat:Int) == 117):=by
  intro h
  rw [hL]
  have h0:=hpos h
  cases L with
  | nil=>rw [hz] at h0;exact absurd h0 (by simp)
  | cons c L =>
   have:u[0]=c:=by
    have e:u[0]=u.data.toList[0]'(by rw [hb0];simp):=rfl
    rw [e];simp [hb0]
   rw [this]
   show (c == 117)=_
   rw [Bool.eq_iff_iff];simp only [beq_iff_eq,← UInt8.toNat_inj]
   have:UInt8.toNat 117=117:=rfl
   omega
 repeat' (first | (first | refine w_blk ?_ | refine w_seq ?_ | refine w_reg (by (try simp only [List.length_cons,List.length_nil,Nat.reduceAdd]);rfl) (by (try simp only [List.replicate_succ,List.replicate_zero,List.cons_append,List.nil_append,List.append_nil]);rfl) (fun K' hK'=>?_) | refine w_condT rfl ?_ | refine w_condF rfl ?_ | (refine w_cond2 rfl (fun hb=>?_) (fun hb=>?_) <;> simp only [putF,List.set_cons_zero,List.set_cons_succ,evO,List.getD_cons_zero,List.getD_cons_succ,V.ofValue,ofC,V.cells,partV,List.drop_zero,List.drop_succ_cons,List.take_succ_cons,List.take_zero,Nat.reduceAdd,Nat.reduceMul,Nat.zero_add,Nat.add_zero,if_true,if_false,Bool.false_eq_true,List.nil_append,List.cons_append,List.append_nil,List.map_cons,List.map_nil,stzV,List.set,byteV,Nat.mul_one,hb1]) | refine w_ret ?_ | refine w_skip ?_ | refine w_exit ?_ | refine q_seqN ?_ | refine q_seqR ?_ | refine q_seqE ?_ | refine q_blkN ?_ | refine q_blkR ?_ | refine q_blkH ?_ | refine q_blkE rfl ?_ | refine q_loopR ?_ | refine q_loopE ?_ | (refine x_end ?_;refine hK' _ _ _ ?_;clear hK' K';first | refine q_regT ?_ | refine q_regD rfl ?_)) | ((first | refine x_mv rfl ?_ | refine x_off rfl ?_ | refine x_ldP rfl rfl rfl (Nat.le_of_ble_eq_true rfl) ?_ | refine x_faP rfl rfl ?_ | refine x_ldE rfl rfl (Nat.le_of_ble_eq_true rfl) ?_ | refine x_faE rfl rfl (Nat.le_of_ble_eq_true rfl) ?_ | refine x_add rfl rfl rfl (by omega) ?_ | refine x_sub rfl rfl rfl (by omega) ?_ | refine x_cat rfl rfl rfl (by omega) ?_ | refine x_binI rfl rfl rfl rfl ?_ | refine x_binS rfl rfl rfl rfl ?_ | refine x_pick rfl rfl ?_ | refine x_un rfl rfl rfl ?_ | refine x_bx rfl rfl rfl ?_ | refine x_al rfl rfl rfl ?_ | refine x_st rfl rfl rfl rfl rfl (Nat.le_of_ble_eq_true rfl) (Nat.le_of_ble_eq_true rfl) ?_ | refine x_eqa rfl rfl rfl rfl rfl rfl ?_ | refine x_bd rfl rfl ?_ | refine x_ex rfl rfl rfl ?_ | refine x_fd rfl rfl (Nat.le_of_ble_eq_true rfl) ?_ | refine x_lenM rfl rfl ?_ | refine x_lenS rfl rfl ?_ | refine x_lent rfl rfl ?_ | refine x_lenO rfl rfl ?_ | refine x_binb rfl rfl rfl ?_ | refine x_cvs rfl rfl ?_ | refine x_cvi0 rfl rfl (by omega) ?_ | refine x_bs rfl rfl rfl rfl ?_ | refine x_mf rfl ?_ | refine x_s2b rfl rfl ?_ | refine x_eqpP rfl rfl rfl ?_ | refine x_eqpN rfl rfl rfl ?_ | refine x_ncP rfl rfl ?_ | refine x_ncE rfl rfl ?_ | refine x_ncC rfl rfl ?_);simp only [putF,List.set_cons_zero,List.set_cons_succ,evO,List.getD_cons_zero,List.getD_cons_succ,V.ofValue,ofC,V.cells,partV,List.drop_zero,List.drop_succ_cons,List.take_succ_cons,List.take_zero,Nat.reduceAdd,Nat.reduceMul,Nat.zero_add,Nat.add_zero,if_true,if_false,Bool.false_eq_true,List.nil_append,List.cons_append,List.append_nil,List.map_cons,List.map_nil,stzV,List.set,byteV,Nat.mul_one,hb1]) | (refine x_cl0 rfl (hc) rfl rfl ?_;simp only [putF,List.set_cons_zero,List.set_cons_succ,evO,List.getD_cons_zero,List.getD_cons_succ,V.ofValue,ofC,V.cells,partV,List.drop_zero,List.drop_succ_cons,List.take_succ_cons,List.take_zero,Nat.reduceAdd,Nat.reduceMul,Nat.zero_add,Nat.add_zero,if_true,if_false,Bool.false_eq_true,List.nil_append,List.cons_append,List.append_nil,List.map_cons,List.map_nil,stzV,List.set,byteV,Nat.mul_one,hb1]) | (refine x_cl0 rfl (known_v s.kind) rfl rfl ?_;simp only [putF,List.set_cons_zero,List.set_cons_succ,evO,List.getD_cons_zero,List.getD_cons_succ,V.ofValue,ofC,V.cells,partV,List.drop_zero,List.drop_succ_cons,List.take_succ_cons,List.take_zero,Nat.reduceAdd,Nat.reduceMul,Nat.zero_add,Nat.add_zero,if_true,if_false,Bool.false_eq_true,List.nil_append,List.cons_append,List.append_nil,List.map_cons,List.map_nil,stzV,List.set,byteV,Nat.mul_one,hb1]) | (refine x_cl0 rfl (bare_v s) rfl rfl ?_;simp only [putF,List.set_cons_zero,List.set_cons_succ,evO,List.getD_cons_zero,List.getD_cons_succ,V.ofValue,ofC,V.cells,partV,List.drop_zero,List.drop_succ_cons,List.take_succ_cons,List.take_zero,Nat.reduceAdd,Nat.reduceMul,Nat.zero_add,Nat.add_zero,if_true,if_false,Bool.false_eq_true,List.nil_append,List.cons_append,List.append_nil,List.map_cons,List.map_nil,stzV,List.set,byteV,Nat.mul_one,hb1]) | (refine x_cl0 rfl (stzIn_v _ _ _) rfl rfl ?_;simp only [putF,List.set_cons_zero,List.set_cons_succ,evO,List.getD_cons_zero,List.getD_cons_succ,V.ofValue,ofC,V.cells,partV,List.drop_zero,List.drop_succ_cons,List.take_succ_cons,List.take_zero,Nat.reduceAdd,Nat.reduceMul,Nat.zero_add,Nat.add_zero,if_true,if_false,Bool.false_eq_true,List.nil_append,List.cons_append,List.append_nil,List.map_cons,List.map_nil,stzV,List.set,byteV,Nat.mul_one,hb1]) | (refine x_cl0 rfl (plain_v _ (by assumption)) rfl rfl ?_;simp only [putF,List.set_cons_zero,List.set_cons_succ,evO,List.getD_cons_zero,List.getD_cons_succ,V.ofValue,ofC,V.cells,partV,List.drop_zero,List.drop_succ_cons,List.take_succ_cons,List.take_zero,Nat.reduceAdd,Nat.reduceMul,Nat.zero_add,Nat.add_zero,if_true,if_false,Bool.false_eq_true,List.nil_append,List.cons_append,List.append_nil,List.map_cons,List.map_nil,stzV,List.set,byteV,Nat.mul_one,hb1]) | (refine x_cl0 rfl (isBare_v _ (by assumption)) rfl rfl ?_;simp only [putF,List.set_cons_zero,List.set_cons_succ,evO,List.getD_cons_zero,List.getD_cons_succ,V.ofValue,ofC,V.cells,partV,List.drop_zero,List.drop_succ_cons,List.take_succ_cons,List.take_zero,Nat.reduceAdd,Nat.reduceMul,Nat.zero_add,Nat.add_zero,if_true,if_false,Bool.false_eq_true,List.nil_append,List.cons_append,List.append_nil,List.map_cons,List.map_nil,stzV,List.set,byteV,Nat.mul_one,hb1]) | (refine x_cl0 rfl (res_v _ (by assumption)) rfl rfl ?_;simp only [putF,List.set_cons_zero,List.set_cons_succ,evO,List.getD_cons_zero,List.getD_cons_succ,V.ofValue,ofC,V.cells,partV,List.drop_zero,List.drop_succ_cons,List.take_succ_cons,List.take_zero,Nat.reduceAdd,Nat.reduceMul,Nat.zero_add,Nat.add_zero,if_true,if_false,Bool.false_eq_true,List.nil_append,List.cons_append,List.append_nil,List.map_cons,List.map_nil,stzV,List.set,byteV,Nat.mul_one,hb1]) | (refine x_ixt rfl rfl rfl (n:=0) rfl (hpos hb) ?_;simp only [putF,List.set_cons_zero,List.set_cons_succ,evO,List.getD_cons_zero,List.getD_cons_succ,V.ofValue,ofC,V.cells,partV,List.drop_zero,List.drop_succ_cons,List.take_succ_cons,List.take_zero,Nat.reduceAdd,Nat.reduceMul,Nat.zero_add,Nat.add_zero,if_true,if_false,Bool.false_eq_true,List.nil_append,List.cons_append,List.append_nil,List.map_cons,List.map_nil,stzV,List.set,byteV,Nat.mul_one,hb1]) | (refine x_case rfl (fun hb=>?_) (fun hb=>?_) <;> simp only [putF,List.set_cons_zero,List.set_cons_succ,evO,List.getD_cons_zero,List.getD_cons_succ,V.ofValue,ofC,V.cells,partV,List.drop_zero,List.drop_succ_cons,List.take_succ_cons,List.take_zero,Nat.reduceAdd,Nat.reduceMul,Nat.zero_add,Nat.add_zero,if_true,if_false,Bool.false_eq_true,List.nil_append,List.cons_append,List.append_nil,List.map_cons,List.map_nil,stzV,List.set,byteV,Nat.mul_one,hb1]))
 all_goals refine f_lit (by simp) rfl ?_
 all_goals
  clear hc hb0 hz hu hr hn hl
  unfold checkS rangeL
  first
  | (have h2:=(hk2 (by assumption)).trans (by first | assumption | exact eq_false_of_ne_true ‹_›);clear hk1 hk2 hL hb1;simp_all;done)
  | (have h2:=(hk2 (by assumption)).trans (by assumption);clear hk1 hk2 hL hb1;simp_all;omega)
  | (have h2:=hk1 (by assumption);clear hk1 hk2 hL hb1;simp_all;done)
  | (have h2:=hk1 (by assumption);clear hk1 hk2 hL hb1;simp_all;omega)
  | (clear hL hk1 hk2;generalize hasC s.kind 117=h1 at *;simp_all;done)
  | (clear hL hk1 hk2;generalize hasC s.kind 117=h1 at *;simp_all;omega)
  | (have h2:=hk1 (by assumption);clear hk1 hk2 hL hb1;simp_all;trace_state)
  | (have h2:=(hk2 (by assumption)).trans (by assumption);clear hk1 hk2 hL hb1;simp_all;trace_state)
end Go.Proofs.YthnihifblmnkdaaGreat

namespace Go.Proofs.YthnihifblmnkdaaGreat
open Go.RowKit
def stzOf (x:StanzaStanza):StzD:={ kind:=UInt8.ofNat x.Kind.toNat,user:=x.User,res:=x.Res,name:=x.Name,show_:=x.Show,prio:=x.Prio,code:=x.Code,n:=x.N }
def stzFits (x:StanzaStanza):Prop:=(0≤x.Kind∧x.Kind≤255)∧x.User.size≤100000∧x.Res.size≤100000∧x.Name.size≤100000
instance (x:StanzaStanza):Decidable (stzFits x):=inferInstanceAs (Decidable (_∧_))
theorem u8_of {k:Int} (h:0≤k∧k≤255):((UInt8.ofNat k.toNat).toNat:Int)=k:=by
 simp only [UInt8.toNat_ofNat'];omega
theorem stz_V {x:StanzaStanza} (h:stzFits x):x.v=stzV (stzOf x):=by
 unfold StanzaStanza.v stzV stzOf
 simp only [V.u8,V.y8,u8_of h.1]
def p_stanza_Check (x:StanzaStanza):Option Int:=if stzFits x then some (checkS (stzOf x)) else none
theorem p_stanza_Check_v (x:StanzaStanza):CallsO Tryz.prog 93 [x.v] V.i (p_stanza_Check x):=callsO_if fun h=>by
 rw [stz_V h];exact stzCheck_v (stzOf x) h.2.1 h.2.2.1 h.2.2.2
end Go.Proofs.YthnihifblmnkdaaGreat

namespace Go.Proofs.YthnihifblmnkdaaGreat
open Go.RowKit
def p_slices_IndexFunc_mail_State_mail_Entry__l1 (a1:MailEntry→Option Bool) (z5:List MailEntry) (z6:Int):Nat→Int→Option (Int ⊕ Int)
 | 0,_=>none
 | n + 1,y7 =>
  bif (decide (y7 < z6)) then
   (at? z5 y7).bind fun x9 =>
   (a1 x9).bind fun v10 =>
   bif v10 then
    some (.inl y7)
   else
   p_slices_IndexFunc_mail_State_mail_Entry__l1 a1 z5 z6 n (w64 (y7 + (1:Int)))
  else
  some (.inr y7)
def p_slices_IndexFunc_mail_State_mail_Entry_ (a0:List MailEntry) (a1:MailEntry→Option Bool):Option (Int) :=
 (p_slices_IndexFunc_mail_State_mail_Entry__l1 a1 a0 (a0.length:Int) fuel (0:Int)).bind fun o12=>match o12 with
 | .inl q13 =>
  some q13
 | .inr q14 =>
  some (-1:Int)
end Go.Proofs.YthnihifblmnkdaaGreat

