/- A part of the proof: 8 texts joined. -/
import Derived.Test.YthlhbgedidipkaaGreatVaA14
import Derived.Test.YthlhbgedidipkaaGreatVaA8
import Derived.KernelRfl
import Derived.Test.YthlhbgedidipkaaGreatVaA10
import Derived.Test.YthlhbgedidipkaaGreatVaA13
set_option linter.all false
/- snap.Next (written by a program of mine). -/
namespace Go.Proofs.YthlhbgedidipkaaGreat
open Go.RowKit
def p_snap_Next (a0 : SnapState) (a1 : SnapEyes) (a2 : BookState) : Option (SnapState × StanzaStanza × Bool) :=
  bif a0.On then
    (p_snap_Check a0).bind fun v2 =>
    bif (v2 != (0 : Int)) then
      some (a0,(StanzaStanza.mk (0 : Int) (⟨#[]⟩ : ByteArray) (⟨#[]⟩ : ByteArray) (⟨#[]⟩ : ByteArray) (0 : Int) (0 : Int) (0 : Int) (0 : Int)),false)
    else
    (p_book_Check a2).bind fun v4 =>
    bif (v4 != (0 : Int)) then
      some (a0,(StanzaStanza.mk (0 : Int) (⟨#[]⟩ : ByteArray) (⟨#[]⟩ : ByteArray) (⟨#[]⟩ : ByteArray) (0 : Int) (0 : Int) (0 : Int) (0 : Int)),false)
    else
    bif a0.Begun then
      (p_snap_items a1 a2 a0.After).bind fun xs => match xs with
      | [] => some ((SnapState.mk false false (⟨#[]⟩ : ByteArray) (0 : Int)),(StanzaStanza.mk (37 : Int) (⟨#[]⟩ : ByteArray) (⟨#[]⟩ : ByteArray) (⟨#[]⟩ : ByteArray) (0 : Int) (0 : Int) (0 : Int) (0 : Int)),true)
      | x :: _ => (p_pres_Say x.2.User x.2.Res x.2.P).bind fun s => some ((SnapState.mk a0.On a0.Begun x.1 (if (1099511627776 : Int) < w64 (a0.Told + (1 : Int)) then (1099511627776 : Int) else w64 (a0.Told + (1 : Int)))),s,true)
    else
    (p_snap_Count a1 a2).bind fun v7 =>
    some ((SnapState.mk a0.On true a0.After a0.Told),(StanzaStanza.mk (36 : Int) (⟨#[]⟩ : ByteArray) (⟨#[]⟩ : ByteArray) (⟨#[]⟩ : ByteArray) (0 : Int) (0 : Int) (0 : Int) v7),true)
  else
  some (a0,(StanzaStanza.mk (0 : Int) (⟨#[]⟩ : ByteArray) (⟨#[]⟩ : ByteArray) (⟨#[]⟩ : ByteArray) (0 : Int) (0 : Int) (0 : Int) (0 : Int)),false)
def gc80 (c : Code) : BCode := (.seq (.reg 6 [⟨(some 3),.bx (.tmp 0),none,0⟩,⟨(some 4),.bx (.tmp 1),none,1⟩,⟨(some 5),.bx (.tmp 2),none,2⟩,⟨(some 6),.al (.agg [(.lit (.bool false)),(.lit (.bool false)),(.lit (.string ⟨#[]⟩)),(.lit (.int .i64 0))]),none,3⟩,⟨(some 7),.al (.agg [(.lit (.int .u8 0)),(.lit (.string ⟨#[]⟩)),(.lit (.string ⟨#[]⟩)),(.lit (.string ⟨#[]⟩)),(.lit (.int .i64 0)),(.lit (.int .i64 0)),(.lit (.int .i64 0)),(.lit (.int .i64 0))]),none,4⟩,⟨(some 8),.al (.lit (.bool false)),none,5⟩] none 0 []) (.seq (.seq (.reg 0 [⟨(some 11),.fa 0 (.tmp 3),none,0⟩,⟨(some 12),.ld 1 false (.tmp 11),none,0⟩,⟨(some 13),.un .not (.tmp 12),none,0⟩,⟨(some 14),.mv (.tmp 13),none,0⟩,⟨(some 15),.ld 4 true (.tmp 3),(some (14,false)),0⟩,⟨(some 16),.cl 83 [(.tmp 15)],(some (14,false)),0⟩,⟨(some 17),.bin .neq (.tmp 16) (.const (.int .i64 0)),(some (14,false)),0⟩,⟨(some 18),.pick (.tmp 14) (.const (.bool true)) (.tmp 17),none,0⟩,⟨(some 19),.mv (.tmp 18),none,0⟩,⟨(some 20),.ld 2 true (.tmp 5),(some (19,false)),0⟩,⟨(some 21),.cl 152 [(.tmp 20)],(some (19,false)),0⟩,⟨(some 22),.bin .neq (.tmp 21) (.const (.int .i64 0)),(some (19,false)),0⟩,⟨(some 23),.pick (.tmp 19) (.const (.bool true)) (.tmp 22),none,0⟩] none 0 []) (.cond (.tmp 23) (.seq (.reg 0 [⟨(some 24),.ld 4 true (.tmp 3),none,0⟩,⟨(some 25),.bd [(.lit (.int .u8 0)),(.lit (.string ⟨#[]⟩)),(.lit (.string ⟨#[]⟩)),(.lit (.string ⟨#[]⟩)),(.lit (.int .i64 0)),(.lit (.int .i64 0)),(.lit (.int .i64 0)),(.lit (.int .i64 0))] [],none,0⟩,⟨none,.st 4 (.tmp 6) (.tmp 24),none,0⟩,⟨none,.st 8 (.tmp 7) (.tmp 25),none,0⟩,⟨none,.st 1 (.tmp 8) (.const (.bool false)),none,0⟩] none 0 []) .ret) .skip)) (.seq (.seq (.reg 0 [⟨(some 26),.fa 1 (.tmp 3),none,0⟩,⟨(some 27),.ld 1 false (.tmp 26),none,0⟩,⟨(some 28),.un .not (.tmp 27),none,0⟩] none 0 []) (.cond (.tmp 28) (.seq (.reg 0 [⟨(some 29),.fa 1 (.tmp 3),none,0⟩,⟨none,.st 1 (.tmp 29) (.const (.bool true)),none,0⟩] none 0 []) (.seq (.reg 0 [⟨(some 30),.ld 4 true (.tmp 3),none,0⟩,⟨(some 31),.ld 2 true (.tmp 4),none,0⟩,⟨(some 32),.ld 2 true (.tmp 5),none,0⟩,⟨(some 33),.cl 21 [(.tmp 31),(.tmp 32)],none,0⟩,⟨(some 34),.bd [(.lit (.int .u8 0)),(.lit (.string ⟨#[]⟩)),(.lit (.string ⟨#[]⟩)),(.lit (.string ⟨#[]⟩)),(.lit (.int .i64 0)),(.lit (.int .i64 0)),(.lit (.int .i64 0)),(.lit (.int .i64 0))] [(0,1,(.const (.int .u8 36))),(7,1,(.tmp 33))],none,0⟩,⟨none,.st 4 (.tmp 6) (.tmp 30),none,0⟩,⟨none,.st 8 (.tmp 7) (.tmp 34),none,0⟩,⟨none,.st 1 (.tmp 8) (.const (.bool true)),none,0⟩] (some [[],[],[],[2,1],[1,2,3],[1,2,3,0],[0,5,3,2,1,4],[4,1,2,3,5,0,6]]) 0 []) .ret)) .skip)) (.seq (.seq (.reg 0 [⟨(some 35),.ld 2 true (.tmp 4),none,0⟩,⟨(some 36),.ld 2 true (.tmp 5),none,0⟩,⟨(some 37),.fa 2 (.tmp 3),none,0⟩,⟨(some 38),.ld 1 false (.tmp 37),none,0⟩,⟨(some 39),.cl 88 [(.tmp 35),(.tmp 36),(.tmp 38)],none,0⟩] none 3 []) (.block 0 (.raw c))) (.seq (.reg 0 [⟨(some 57),.bd [(.lit (.bool false)),(.lit (.bool false)),(.lit (.string ⟨#[]⟩)),(.lit (.int .i64 0))] [],none,0⟩,⟨(some 58),.bd [(.lit (.int .u8 0)),(.lit (.string ⟨#[]⟩)),(.lit (.string ⟨#[]⟩)),(.lit (.string ⟨#[]⟩)),(.lit (.int .i64 0)),(.lit (.int .i64 0)),(.lit (.int .i64 0)),(.lit (.int .i64 0))] [(0,1,(.const (.int .u8 37)))],none,0⟩,⟨none,.st 4 (.tmp 6) (.tmp 57),none,0⟩,⟨none,.st 8 (.tmp 7) (.tmp 58),none,0⟩,⟨none,.st 1 (.tmp 8) (.const (.bool true)),none,0⟩] none 0 []) .ret)))))
theorem gc80_ok : compF Tryz.prog Tryz.f80 = some ((gc80 (rangeAt Tryz.f80 0)).er,59,[.cell 6 4 true,.cell 7 8 true,.cell 8 1 false]) := by unfold gc80;kernel_rfl
set_option maxRecDepth 100000 in
set_option maxHeartbeats 4000000 in
theorem p_snap_Next_f (a0 : SnapState) (a1 : SnapEyes) (a2 : BookState) : CallsO Tryz.prog 80 [.agg [.b a0.On,.b a0.Begun,.s a0.After,.i a0.Told],.agg [.sl (List.map V.s a1.Users) false,.sl (List.map V.s a1.Keys) false],.agg [.i a2.Seq,.sl (List.map BookRow.v a2.Rows) false]] (fun r : SnapState × StanzaStanza × Bool => .tup [SnapState.v r.1,StanzaStanza.v r.2.1,V.b r.2.2]) (p_snap_Next a0 a1 a2) := by
  refine callsO_comp mix Tryz.func80 gc80_ok fun r H => ?_
  rw [p_snap_Next] at H
  conv => whnf
  refine Tst.not ?_
  refine tst_d H (fun b1 H => ?_) (fun b1 H => ?_)
  · conv => whnf
    iterate 8 (refine Tst.T ?_;conv => whnf)
    refine ⟨Nat.le_of_ble_eq_true rfl,?_⟩;conv => whnf
    refine ⟨Nat.le_of_ble_eq_true rfl,?_⟩;conv => whnf
    refine ⟨Nat.le_of_ble_eq_true rfl,?_⟩;conv => whnf
    exact fin0_c (enc := (fun r : SnapState × StanzaStanza × Bool => .tup [SnapState.v r.1,StanzaStanza.v r.2.1,V.b r.2.2])) H (.inr rfl) (.cons (.cell rfl rfl (Nat.le_of_ble_eq_true rfl)) (.cons (.cell rfl rfl (Nat.le_of_ble_eq_true rfl)) (.cons (.cell rfl rfl (Nat.le_of_ble_eq_true rfl)) (.nil)))) rfl rfl
  conv => whnf
  refine Tst.F ?_;conv => whnf
  refine ask_c (p_snap_Check_v _) H rfl rfl (fun v2 H => ?_);conv => whnf
  iterate 2 (refine Tst.F ?_;conv => whnf)
  refine tst_c H (fun b3 H => ?_) (fun b3 H => ?_)
  · conv => whnf
    iterate 4 (refine Tst.T ?_;conv => whnf)
    refine ⟨Nat.le_of_ble_eq_true rfl,?_⟩;conv => whnf
    refine ⟨Nat.le_of_ble_eq_true rfl,?_⟩;conv => whnf
    refine ⟨Nat.le_of_ble_eq_true rfl,?_⟩;conv => whnf
    exact fin0_c (enc := (fun r : SnapState × StanzaStanza × Bool => .tup [SnapState.v r.1,StanzaStanza.v r.2.1,V.b r.2.2])) H (.inr rfl) (.cons (.cell rfl rfl (Nat.le_of_ble_eq_true rfl)) (.cons (.cell rfl rfl (Nat.le_of_ble_eq_true rfl)) (.cons (.cell rfl rfl (Nat.le_of_ble_eq_true rfl)) (.nil)))) rfl rfl
  conv => whnf
  refine Tst.F ?_;conv => whnf
  refine ask_c (p_book_Check_v _) H rfl rfl (fun v4 H => ?_);conv => whnf
  iterate 2 (refine Tst.F ?_;conv => whnf)
  refine tst_c H (fun b5 H => ?_) (fun b5 H => ?_)
  · conv => whnf
    refine ⟨Nat.le_of_ble_eq_true rfl,?_⟩;conv => whnf
    refine ⟨Nat.le_of_ble_eq_true rfl,?_⟩;conv => whnf
    refine ⟨Nat.le_of_ble_eq_true rfl,?_⟩;conv => whnf
    exact fin0_c (enc := (fun r : SnapState × StanzaStanza × Bool => .tup [SnapState.v r.1,StanzaStanza.v r.2.1,V.b r.2.2])) H (.inr rfl) (.cons (.cell rfl rfl (Nat.le_of_ble_eq_true rfl)) (.cons (.cell rfl rfl (Nat.le_of_ble_eq_true rfl)) (.cons (.cell rfl rfl (Nat.le_of_ble_eq_true rfl)) (.nil)))) rfl rfl
  conv => whnf
  refine Tst.not ?_
  refine tst_d H (fun b6 H => ?_) (fun b6 H => ?_)
  · conv => whnf
    refine ⟨Nat.le_of_ble_eq_true rfl,?_⟩;conv => whnf
    refine ask_c (p_snap_Count_v _ _) H rfl rfl (fun v7 H => ?_);conv => whnf
    refine ⟨Nat.le_of_ble_eq_true rfl,?_⟩;conv => whnf
    refine ⟨Nat.le_of_ble_eq_true rfl,?_⟩;conv => whnf
    refine ⟨Nat.le_of_ble_eq_true rfl,?_⟩;conv => whnf
    refine FootQ.mk ⟨rfl,?_⟩;conv => whnf
    exact fin0_c (enc := (fun r : SnapState × StanzaStanza × Bool => .tup [SnapState.v r.1,StanzaStanza.v r.2.1,V.b r.2.2])) H (.inr rfl) (.cons (.cell rfl rfl (Nat.le_of_ble_eq_true rfl)) (.cons (.cell rfl rfl (Nat.le_of_ble_eq_true rfl)) (.cons (.cell rfl rfl (Nat.le_of_ble_eq_true rfl)) (.nil)))) rfl rfl
  conv => whnf
  refine Ask_S (rowsS6 rfl rfl rfl rfl rfl rfl a1 a2 a0.After) rfl ?_;conv => whnf
  obtain ⟨xs,hxs,H⟩ := bind_c H
  rw [rg80]
  refine range_c (α := ItmS) mix da80_ok db80_ok fl80.1 fl80.2 sc80.1 sc80.2 (enters_of Tryz.func158 (by kernel_rfl) rfl) rfl (items_it hxs rfl rfl rfl) haenS (fun _ => rfl)
    (fun pre st1 => pre = [] ∧ ∃ s : ByteArray,st1 = [.live [.b a0.On,.b a0.Begun,.s a0.After,.i a0.Told] 0,.live [.sl (List.map V.s a1.Users) false,.sl (List.map V.s a1.Keys) false] 0,.live [.i a2.Seq,.sl (List.map BookRow.v a2.Rows) false] 0,.live [.b false,.b false,.s (⟨#[]⟩ : ByteArray),.i (0 : Int)] 0,.live [.y8 (0 : Int),.s (⟨#[]⟩ : ByteArray),.s (⟨#[]⟩ : ByteArray),.s (⟨#[]⟩ : ByteArray),.i (0 : Int),.i (0 : Int),.i (0 : Int),.i (0 : Int)] 0,.live [.b false] 0,.live [.i a2.Seq,.sl (List.map BookRow.v a2.Rows) false] 2,.live [.s s] 0,.live [.sl (List.map V.s a1.Users) false,.sl (List.map V.s a1.Keys) false] 2]) ?_ ?_ ⟨rfl,_,rfl⟩ ?_ ?_
  · rintro pre st1 s ⟨h,s0,rfl⟩;exact ⟨h,s,rfl⟩
  · rintro pre st1 ⟨h,s0,rfl⟩;exact ⟨s0,rfl⟩
  · rintro pre ⟨k,x⟩ post st1 hx ⟨rfl,s,rfl⟩
    rw [List.nil_append] at hx
    subst hx
    dsimp only at H
    conv => whnf
    refine ⟨Nat.le_of_ble_eq_true rfl,?_⟩;conv => whnf
    refine ⟨rfl,fun s2 => ?_⟩;conv => whnf
    refine ⟨Nat.le_of_ble_eq_true rfl,?_⟩;conv => whnf
    refine Ari.w ?_;conv => whnf
    refine ⟨Nat.le_of_ble_eq_true rfl,?_⟩;conv => whnf
    refine ask_c (p_pres_Say_v _ _ _) H rfl rfl (fun v H => ?_);conv => whnf
    refine ⟨Nat.le_of_ble_eq_true rfl,?_⟩;conv => whnf
    refine ⟨Nat.le_of_ble_eq_true rfl,?_⟩;conv => whnf
    refine ⟨Nat.le_of_ble_eq_true rfl,?_⟩;conv => whnf
    refine FootQ.mk ⟨rfl,?_⟩;conv => whnf
    refine RoundEnd.mk ⟨rfl,fun h => (by cases h),fun _ s3 => ?_⟩;conv => whnf
    exact fin0_c (enc := (fun r : SnapState × StanzaStanza × Bool => .tup [SnapState.v r.1,StanzaStanza.v r.2.1,V.b r.2.2])) H (.inr rfl) (.cons (.cell rfl rfl (Nat.le_of_ble_eq_true rfl)) (.cons (.cell rfl rfl (Nat.le_of_ble_eq_true rfl)) (.cons (.cell rfl rfl (Nat.le_of_ble_eq_true rfl)) (.nil)))) rfl rfl
  · rintro st1 ⟨h,s,rfl⟩
    subst h
    dsimp only at H
    conv => whnf
    refine ⟨Nat.le_of_ble_eq_true rfl,?_⟩;conv => whnf
    refine ⟨Nat.le_of_ble_eq_true rfl,?_⟩;conv => whnf
    refine ⟨Nat.le_of_ble_eq_true rfl,?_⟩;conv => whnf
    exact fin0_c (enc := (fun r : SnapState × StanzaStanza × Bool => .tup [SnapState.v r.1,StanzaStanza.v r.2.1,V.b r.2.2])) H (.inr rfl) (.cons (.cell rfl rfl (Nat.le_of_ble_eq_true rfl)) (.cons (.cell rfl rfl (Nat.le_of_ble_eq_true rfl)) (.cons (.cell rfl rfl (Nat.le_of_ble_eq_true rfl)) (.nil)))) rfl rfl
theorem p_snap_Next_v {u1 u2 u3 : Bool} (a0 : SnapState) (a1 : SnapEyes) (a2 : BookState) : CallsO Tryz.prog 80 [.agg [.b a0.On,.b a0.Begun,.s a0.After,.i a0.Told],.agg [.sl (List.map V.s a1.Users) u1,.sl (List.map V.s a1.Keys) u2],.agg [.i a2.Seq,.sl (List.map BookRow.v a2.Rows) u3]] (fun r : SnapState × StanzaStanza × Bool => .tup [SnapState.v r.1,StanzaStanza.v r.2.1,V.b r.2.2]) (p_snap_Next a0 a1 a2) := fun r hr =>
  callsV_fz (.cons (.c (.id rfl)) (.cons (fzagg (.cons .slw (.cons .slw .nil)) rfl) (.cons (fzagg (.cons (.id rfl) (.cons .slw .nil)) rfl) .nil))) (p_snap_Next_f a0 a1 a2 r hr)
end Go.Proofs.YthlhbgedidipkaaGreat
/- Plain functions (written by a program of mine). -/
namespace Go.Proofs.YthlhbgedidipkaaGreat
open Go.RowKit
def p_ref26_Light_l1 (z7 : SnapEyes) : Nat → Int → Option (Bool ⊕ Int)
  | 0, _ => none
  | n + 1, y6 =>
    bif (decide (y6 < (z7.Users.length : Int))) then
      (at? z7.Users y6).bind fun x9 =>
      bif (decide ((100 : Int) < (x9.size : Int))) then
        some (.inl false)
      else
      p_ref26_Light_l1 z7 n (w64 (y6 + (1 : Int)))
    else
    some (.inr y6)
def p_ref26_Light_l2 (z18 : SnapEyes) : Nat → Int → Option (Bool ⊕ Int)
  | 0, _ => none
  | n + 1, y17 =>
    bif (decide (y17 < (z18.Keys.length : Int))) then
      (at? z18.Keys y17).bind fun x20 =>
      bif (decide ((100 : Int) < (x20.size : Int))) then
        some (.inl false)
      else
      p_ref26_Light_l2 z18 n (w64 (y17 + (1 : Int)))
    else
    some (.inr y17)
def p_ref26_Light (a0 : SnapEyes) : Option (Bool) :=
  bif (decide ((20 : Int) < (a0.Users.length : Int))) then
    some false
  else
  bif (decide ((20 : Int) < (a0.Keys.length : Int))) then
    some false
  else
  (p_ref26_Light_l1 a0 fuel (0 : Int)).bind fun o11 => match o11 with
  | .inl q12 =>
    some q12
  | .inr q13 =>
    (p_ref26_Light_l2 a0 fuel (0 : Int)).bind fun o22 => match o22 with
    | .inl q23 =>
      some q23
    | .inr q24 =>
      some true
def p_ref24_Light_l1 (z6 : BookState) : Nat → Int → Option (Bool ⊕ Int)
  | 0, _ => none
  | n + 1, y5 =>
    bif (decide (y5 < (z6.Rows.length : Int))) then
      (at? z6.Rows y5).bind fun x8 =>
      bif (decide ((100 : Int) < (x8.User.size : Int))) then
        some (.inl false)
      else
      (at? z6.Rows y5).bind fun x10 =>
      bif (decide ((100 : Int) < (x10.Res.size : Int))) then
        some (.inl false)
      else
      p_ref24_Light_l1 z6 n (w64 (y5 + (1 : Int)))
    else
    some (.inr y5)
def p_ref24_Light (a0 : BookState) : Option (Bool) :=
  bif (decide ((20 : Int) < (a0.Rows.length : Int))) then
    some false
  else
  (p_ref24_Light_l1 a0 fuel (0 : Int)).bind fun o12 => match o12 with
  | .inl q13 =>
    some q13
  | .inr q14 =>
    some true
def p_law26_Book_l1 (z6 : BookState) : Nat → Int → BookState → Option ((Int × BookState))
  | 0, _, _ => none
  | n + 1, y5, y8 =>
    bif (decide (y5 < (z6.Rows.length : Int))) then
      (at? z6.Rows y5).bind fun x10 =>
      (at? z6.Rows y5).bind fun x11 =>
      (at? z6.Rows y5).bind fun x12 =>
      (app? y8.Rows [(BookRow.mk x10.User x11.Res x12.P)]).bind fun l13 =>
      p_law26_Book_l1 z6 n (w64 (y5 + (1 : Int))) (BookState.mk y8.Seq l13)
    else
    some (y5, y8)
def p_law26_Book (a0 : BookState) : Option (BookState) :=
  (p_law26_Book_l1 a0 fuel (0 : Int) (BookState.mk a0.Seq [])).bind fun q15 =>
  some q15.2
def p_ref26_has_l1 (z5 : List ByteArray) (z6 : ByteArray) : Nat → Int → Option (Bool ⊕ Int)
  | 0, _ => none
  | n + 1, y7 =>
    bif (decide (y7 < (z5.length : Int))) then
      (at? z5 y7).bind fun x9 =>
      bif (x9.toList == z6.toList) then
        some (.inl true)
      else
      p_ref26_has_l1 z5 z6 n (w64 (y7 + (1 : Int)))
    else
    some (.inr y7)
def p_ref26_has (a0 : List ByteArray) (a1 : ByteArray) : Option (Bool) :=
  (p_ref26_has_l1 a0 a1 fuel (0 : Int)).bind fun o11 => match o11 with
  | .inl q12 =>
    some q12
  | .inr q13 =>
    some false
def p_ref23_named (a0 : ByteArray) (a1 : ByteArray) : Option (Bool) :=
  (p_ref09_IsBare a0).bind fun v1 =>
  bif v1 then
    (p_ref09_Resource a1).bind fun v3 =>
    some (v3 == (0 : Int))
  else
  some false
def p_ref23_Key (a0 : ByteArray) (a1 : ByteArray) : Option (ByteArray) :=
  (p_ref23_named a0 a1).bind fun v1 =>
  bif v1 then
    (cat? a0 (⟨#[32]⟩ : ByteArray)).bind fun s3 =>
    (cat? s3 a1).bind fun s4 =>
    some s4
  else
  some (⟨#[]⟩ : ByteArray)
def p_ref26_Sees (a0 : SnapEyes) (a1 : BookRow) : Option (Bool) :=
  (p_ref26_has a0.Users a1.User).bind fun v1 =>
  bif v1 then
    some true
  else
  (p_ref23_Key a1.User a1.Res).bind fun v3 =>
  (p_ref26_has a0.Keys v3).bind fun v4 =>
  some v4
def p_law24_Rows_l1 (z5 : List BookRow) : Nat → (List BookRow) → Int → Option (((List BookRow) × Int))
  | 0, _, _ => none
  | n + 1, y6, y7 =>
    bif (decide (y7 < (z5.length : Int))) then
      (at? z5 y7).bind fun x9 =>
      (at? z5 y7).bind fun x10 =>
      (at? z5 y7).bind fun x11 =>
      (app? y6 [(BookRow.mk x9.User x10.Res x11.P)]).bind fun l12 =>
      p_law24_Rows_l1 z5 n l12 (w64 (y7 + (1 : Int)))
    else
    some (y6, y7)
def p_law24_Rows (a0 : List BookRow) : Option ((List BookRow)) :=
  (p_law24_Rows_l1 a0 fuel [] (0 : Int)).bind fun q14 =>
  some q14.1
def p_ref24_key (a0 : BookRow) : Option (ByteArray) :=
  (p_ref23_Key a0.User a0.Res).bind fun v1 =>
  some v1
def p_ref23_Check (a0 : PresPres) : Option (Int) :=
  bif (decide (a0.Show < (0 : Int))) then
    some (8 : Int)
  else
  bif (decide ((4 : Int) < a0.Show)) then
    some (8 : Int)
  else
  bif (decide (a0.Prio < (-128 : Int))) then
    some (8 : Int)
  else
  bif (decide ((127 : Int) < a0.Prio)) then
    some (8 : Int)
  else
  bif (decide (a0.Seq < (0 : Int))) then
    some (8 : Int)
  else
  bif (decide ((1099511627776 : Int) < a0.Seq)) then
    some (8 : Int)
  else
  bif a0.On then
    some (0 : Int)
  else
  bif (a0.Show != (0 : Int)) then
    some (4 : Int)
  else
  bif (a0.Prio != (0 : Int)) then
    some (4 : Int)
  else
  some (0 : Int)
def p_ref24_ordered_l2 (z30 : Int) (z32 : BookState) (z33 : BookRow) : Nat → Int → Option (Bool ⊕ Int)
  | 0, _ => none
  | n + 1, y31 =>
    bif (decide (y31 < z30)) then
      (at? z32.Rows y31).bind fun x35 =>
      bif (x35.P.Seq == z33.P.Seq) then
        some (.inl false)
      else
      p_ref24_ordered_l2 z30 z32 z33 n (w64 (y31 + (1 : Int)))
    else
    some (.inr y31)
def p_ref24_ordered_l1 (z5 : BookState) : Nat → Int → Option (Bool ⊕ Int)
  | 0, _ => none
  | n + 1, y4 =>
    bif (decide (y4 < (z5.Rows.length : Int))) then
      (at? z5.Rows y4).bind fun x7 =>
      bif (decide (x7.P.Seq < (1 : Int))) then
        some (.inl false)
      else
      bif (decide (z5.Seq < x7.P.Seq)) then
        some (.inl false)
      else
      bif (decide ((0 : Int) < y4)) then
        (at? z5.Rows (w64 (y4 - (1 : Int)))).bind fun x11 =>
        (p_ref24_key x11).bind fun v12 =>
        (p_ref24_key x7).bind fun v13 =>
        bif (Op.bytesLess v12.toList v13.toList) then
          (p_ref24_ordered_l2 y4 z5 x7 fuel (0 : Int)).bind fun o27 => match o27 with
          | .inl q28 =>
            some (.inl q28)
          | .inr q29 =>
            p_ref24_ordered_l1 z5 n (w64 (y4 + (1 : Int)))
        else
        some (.inl false)
      else
      (p_ref24_ordered_l2 y4 z5 x7 fuel (0 : Int)).bind fun o37 => match o37 with
      | .inl q38 =>
        some (.inl q38)
      | .inr q39 =>
        p_ref24_ordered_l1 z5 n (w64 (y4 + (1 : Int)))
    else
    some (.inr y4)
def p_ref24_ordered (a0 : BookState) : Option (Bool) :=
  (p_ref24_ordered_l1 a0 fuel (0 : Int)).bind fun o40 => match o40 with
  | .inl q41 =>
    some q41
  | .inr q42 =>
    some true
def p_ref24_many_l1 (z6 : ByteArray) (z9 : BookState) : Nat → Int → Int → Option ((Int × Int))
  | 0, _, _ => none
  | n + 1, y7, y8 =>
    bif (decide (y8 < (z9.Rows.length : Int))) then
      (at? z9.Rows y8).bind fun x11 =>
      bif (x11.User.toList == z6.toList) then
        p_ref24_many_l1 z6 z9 n (w64 (y7 + (1 : Int))) (w64 (y8 + (1 : Int)))
      else
      p_ref24_many_l1 z6 z9 n y7 (w64 (y8 + (1 : Int)))
    else
    some (y7, y8)
def p_ref24_many (a0 : BookState) (a1 : ByteArray) : Option (Int) :=
  (p_ref24_many_l1 a1 a0 fuel (0 : Int) (0 : Int)).bind fun q14 =>
  some q14.1
def p_ref24_Check_l1 (z8 : BookState) : Nat → Int → Option (Int ⊕ Int)
  | 0, _ => none
  | n + 1, y7 =>
    bif (decide (y7 < (z8.Rows.length : Int))) then
      (at? z8.Rows y7).bind fun x10 =>
      (p_ref24_key x10).bind fun v11 =>
      bif (v11.toList == (⟨#[]⟩ : ByteArray).toList) then
        some (.inl (11 : Int))
      else
      p_ref24_Check_l1 z8 n (w64 (y7 + (1 : Int)))
    else
    some (.inr y7)
def p_ref24_Check_l2 (z20 : BookState) : Nat → Int → Option (Int ⊕ Int)
  | 0, _ => none
  | n + 1, y19 =>
    bif (decide (y19 < (z20.Rows.length : Int))) then
      (at? z20.Rows y19).bind fun x22 =>
      (p_ref23_Check x22.P).bind fun v23 =>
      bif (v23 != (0 : Int)) then
        some (.inl v23)
      else
      (at? z20.Rows y19).bind fun x25 =>
      bif x25.P.On then
        p_ref24_Check_l2 z20 n (w64 (y19 + (1 : Int)))
      else
      some (.inl (4 : Int))
    else
    some (.inr y19)
def p_ref24_Check_l3 (z36 : BookState) : Nat → Int → Option (Int ⊕ Int)
  | 0, _ => none
  | n + 1, y35 =>
    bif (decide (y35 < (z36.Rows.length : Int))) then
      (at? z36.Rows y35).bind fun x38 =>
      (p_ref24_many z36 x38.User).bind fun v39 =>
      bif (decide ((3 : Int) < v39)) then
        some (.inl (7 : Int))
      else
      p_ref24_Check_l3 z36 n (w64 (y35 + (1 : Int)))
    else
    some (.inr y35)
def p_ref24_Check (a0 : BookState) : Option (Int) :=
  bif (decide ((16 : Int) < (a0.Rows.length : Int))) then
    some (5 : Int)
  else
  bif (decide (a0.Seq < (0 : Int))) then
    some (8 : Int)
  else
  bif (decide ((1099511627776 : Int) < a0.Seq)) then
    some (8 : Int)
  else
  (p_ref24_Check_l1 a0 fuel (0 : Int)).bind fun o13 => match o13 with
  | .inl q14 =>
    some q14
  | .inr q15 =>
    (p_ref24_Check_l2 a0 fuel (0 : Int)).bind fun o27 => match o27 with
    | .inl q28 =>
      some q28
    | .inr q29 =>
      (p_ref24_ordered a0).bind fun v30 =>
      bif v30 then
        (p_ref24_Check_l3 a0 fuel (0 : Int)).bind fun o41 => match o41 with
        | .inl q42 =>
          some q42
        | .inr q43 =>
          some (0 : Int)
      else
      some (10 : Int)
def p_ref26_View_l1 (z8 : SnapEyes) (z9 : BookState) : Nat → (List BookRow) → Int → Option (((List BookRow) × Int))
  | 0, _, _ => none
  | n + 1, y6, y7 =>
    bif (decide (y7 < (z9.Rows.length : Int))) then
      (p_ref24_Check z9).bind fun v11 =>
      bif (v11 == (0 : Int)) then
        (at? z9.Rows y7).bind fun x13 =>
        (p_ref26_Sees z8 x13).bind fun v14 =>
        bif v14 then
          (at? z9.Rows y7).bind fun x16 =>
          (app? y6 [x16]).bind fun l17 =>
          p_ref26_View_l1 z8 z9 n l17 (w64 (y7 + (1 : Int)))
        else
        p_ref26_View_l1 z8 z9 n y6 (w64 (y7 + (1 : Int)))
      else
      some (y6, y7)
    else
    some (y6, y7)
def p_ref26_View (a0 : SnapEyes) (a1 : BookState) : Option ((List BookRow)) :=
  (p_ref26_View_l1 a0 a1 fuel [] (0 : Int)).bind fun q19 =>
  some q19.1
def p_ref24_SameRows_l1 (z6 : List BookRow) (z7 : List BookRow) : Nat → Int → Option (Bool ⊕ Int)
  | 0, _ => none
  | n + 1, y8 =>
    bif (decide (y8 < (z6.length : Int))) then
      (at? z6 y8).bind fun x10 =>
      (at? z7 y8).bind fun x11 =>
      bif ((x10.User.toList == x11.User.toList) && ((x10.Res.toList == x11.Res.toList) && ((x10.P.On == x11.P.On) && ((x10.P.Show == x11.P.Show) && ((x10.P.Prio == x11.P.Prio) && ((x10.P.Seq == x11.P.Seq) && true)))))) then
        p_ref24_SameRows_l1 z6 z7 n (w64 (y8 + (1 : Int)))
      else
      some (.inl false)
    else
    some (.inr y8)
def p_ref24_SameRows (a0 : List BookRow) (a1 : List BookRow) : Option (Bool) :=
  bif ((a0.length : Int) != (a1.length : Int)) then
    some false
  else
  (p_ref24_SameRows_l1 a0 a1 fuel (0 : Int)).bind fun o13 => match o13 with
  | .inl q14 =>
    some q14
  | .inr q15 =>
    some true
def p_ref26_Count (a0 : SnapEyes) (a1 : BookState) : Option (Int) :=
  (p_ref26_View a0 a1).bind fun v1 =>
  some (v1.length : Int)
def p_snap_All_l1 (z8 : SnapEyes) (z9 : BookState) : Nat → (List StanzaStanza) → SnapState → Option ((List StanzaStanza))
  | 0, _, _ => none
  | n + 1, y7, y10 =>
    (p_snap_Next y10 z8 z9).bind fun v11 =>
    bif v11.2.2 then
      (app? y7 [v11.2.1]).bind fun l13 =>
      p_snap_All_l1 z8 z9 n l13 v11.1
    else
    some y7
def p_snap_All (a0 : SnapEyes) (a1 : BookState) : Option ((List StanzaStanza)) :=
  (p_snap_Begin).bind fun v1 =>
  (p_snap_All_l1 a0 a1 fuel [] v1).bind fun q15 =>
  some q15
def p_law10_Back_l1 (z5 : List StanzaStanza) : Nat → (List StanzaStanza) → Int → Option (((List StanzaStanza) × Int))
  | 0, _, _ => none
  | n + 1, y6, y7 =>
    bif (decide (y7 < (z5.length : Int))) then
      (at? z5 y7).bind fun x9 =>
      (app? y6 [x9]).bind fun l10 =>
      p_law10_Back_l1 z5 n l10 (w64 (y7 + (1 : Int)))
    else
    some (y6, y7)
def p_law10_Back (a0 : List StanzaStanza) : Option ((List StanzaStanza)) :=
  (p_law10_Back_l1 a0 fuel [] (0 : Int)).bind fun q12 =>
  some q12.1
def p_ref26_Check (a0 : SnapState) : Option (Int) :=
  bif a0.On then
    bif a0.Begun then
      bif (decide (a0.Told < (0 : Int))) then
        some (8 : Int)
      else
      bif (decide ((1099511627776 : Int) < a0.Told)) then
        some (8 : Int)
      else
      some (0 : Int)
    else
    bif (a0.After.toList == (⟨#[]⟩ : ByteArray).toList) then
      bif (a0.Told != (0 : Int)) then
        some (4 : Int)
      else
      bif (decide (a0.Told < (0 : Int))) then
        some (8 : Int)
      else
      bif (decide ((1099511627776 : Int) < a0.Told)) then
        some (8 : Int)
      else
      some (0 : Int)
    else
    some (4 : Int)
  else
  bif ((a0.On == false) && ((a0.Begun == false) && ((a0.After.toList == (⟨#[]⟩ : ByteArray).toList) && ((a0.Told == (0 : Int)) && true)))) then
    bif a0.Begun then
      bif (decide (a0.Told < (0 : Int))) then
        some (8 : Int)
      else
      bif (decide ((1099511627776 : Int) < a0.Told)) then
        some (8 : Int)
      else
      some (0 : Int)
    else
    bif (a0.After.toList == (⟨#[]⟩ : ByteArray).toList) then
      bif (a0.Told != (0 : Int)) then
        some (4 : Int)
      else
      bif (decide (a0.Told < (0 : Int))) then
        some (8 : Int)
      else
      bif (decide ((1099511627776 : Int) < a0.Told)) then
        some (8 : Int)
      else
      some (0 : Int)
    else
    some (4 : Int)
  else
  some (4 : Int)
def p_ref23_Say (a0 : ByteArray) (a1 : ByteArray) (a2 : PresPres) : Option (StanzaStanza) :=
  (p_ref23_Check a2).bind fun v1 =>
  bif (v1 != (0 : Int)) then
    some (StanzaStanza.mk (0 : Int) (⟨#[]⟩ : ByteArray) (⟨#[]⟩ : ByteArray) (⟨#[]⟩ : ByteArray) (0 : Int) (0 : Int) (0 : Int) (0 : Int))
  else
  (p_ref23_named a0 a1).bind fun v3 =>
  bif v3 then
    bif a2.On then
      some (StanzaStanza.mk (34 : Int) a0 a1 (⟨#[]⟩ : ByteArray) a2.Show a2.Prio (0 : Int) a2.Seq)
    else
    some (StanzaStanza.mk (35 : Int) a0 a1 (⟨#[]⟩ : ByteArray) (0 : Int) (0 : Int) (0 : Int) a2.Seq)
  else
  some (StanzaStanza.mk (0 : Int) (⟨#[]⟩ : ByteArray) (⟨#[]⟩ : ByteArray) (⟨#[]⟩ : ByteArray) (0 : Int) (0 : Int) (0 : Int) (0 : Int))
def p_ref26_Next_l1 (z14 : List BookRow) (z16 : SnapState) : Nat → Int → Option ((SnapState × StanzaStanza × Bool) ⊕ Int)
  | 0, _ => none
  | n + 1, y15 =>
    bif (decide (y15 < (z14.length : Int))) then
      (at? z14 y15).bind fun x20 =>
      (at? z14 y15).bind fun x21 =>
      (p_ref23_Key x20.User x21.Res).bind fun v22 =>
      bif (Op.bytesLess v22.toList z16.After.toList || v22.toList == z16.After.toList) then
        p_ref26_Next_l1 z14 z16 n (w64 (y15 + (1 : Int)))
      else
      (at? z14 y15).bind fun x24 =>
      (at? z14 y15).bind fun x25 =>
      (at? z14 y15).bind fun x26 =>
      (p_ref23_Say x24.User x25.Res x26.P).bind fun v27 =>
      some (.inl ((SnapState.mk true true v22 (if w64 (z16.Told + (1 : Int)) < (1099511627776 : Int) then w64 (z16.Told + (1 : Int)) else (1099511627776 : Int))), v27, true))
    else
    some (.inr y15)
def p_ref26_Next (a0 : SnapState) (a1 : SnapEyes) (a2 : BookState) : Option (SnapState × StanzaStanza × Bool) :=
  bif a0.On then
    (p_ref26_Check a0).bind fun v2 =>
    bif (v2 != (0 : Int)) then
      some (a0, (StanzaStanza.mk (0 : Int) (⟨#[]⟩ : ByteArray) (⟨#[]⟩ : ByteArray) (⟨#[]⟩ : ByteArray) (0 : Int) (0 : Int) (0 : Int) (0 : Int)), false)
    else
    (p_ref24_Check a2).bind fun v4 =>
    bif (v4 != (0 : Int)) then
      some (a0, (StanzaStanza.mk (0 : Int) (⟨#[]⟩ : ByteArray) (⟨#[]⟩ : ByteArray) (⟨#[]⟩ : ByteArray) (0 : Int) (0 : Int) (0 : Int) (0 : Int)), false)
    else
    bif a0.Begun then
      (p_ref26_View a1 a2).bind fun v7 =>
      (p_ref26_Next_l1 v7 a0 fuel (0 : Int)).bind fun o28 => match o28 with
      | .inl q29 =>
        some q29
      | .inr q30 =>
        some ((SnapState.mk false false (⟨#[]⟩ : ByteArray) (0 : Int)), (StanzaStanza.mk (37 : Int) (⟨#[]⟩ : ByteArray) (⟨#[]⟩ : ByteArray) (⟨#[]⟩ : ByteArray) (0 : Int) (0 : Int) (0 : Int) (0 : Int)), true)
    else
    (p_ref26_Count a1 a2).bind fun v31 =>
    some ((SnapState.mk true true (⟨#[]⟩ : ByteArray) (0 : Int)), (StanzaStanza.mk (36 : Int) (⟨#[]⟩ : ByteArray) (⟨#[]⟩ : ByteArray) (⟨#[]⟩ : ByteArray) (0 : Int) (0 : Int) (0 : Int) v31), true)
  else
  some (a0, (StanzaStanza.mk (0 : Int) (⟨#[]⟩ : ByteArray) (⟨#[]⟩ : ByteArray) (⟨#[]⟩ : ByteArray) (0 : Int) (0 : Int) (0 : Int) (0 : Int)), false)
def p_ref26_All_l1 (z11 : SnapEyes) (z12 : BookState) : Nat → (List StanzaStanza) → Int → SnapState → Option (((List StanzaStanza) × Int × SnapState))
  | 0, _, _, _ => none
  | n + 1, y9, y10, y13 =>
    bif (decide (y10 < (20 : Int))) then
      bif y13.On then
        (p_ref26_Next y13 z11 z12).bind fun v16 =>
        (app? y9 [v16.2.1]).bind fun l17 =>
        p_ref26_All_l1 z11 z12 n l17 (w64 (y10 + (1 : Int))) v16.1
      else
      some (y9, y10, y13)
    else
    some (y9, y10, y13)
def p_ref26_All (a0 : SnapEyes) (a1 : BookState) : Option ((List StanzaStanza)) :=
  (p_ref24_Check a1).bind fun v1 =>
  bif (v1 != (0 : Int)) then
    some []
  else
  (p_ref26_All_l1 a0 a1 fuel [] (0 : Int) (SnapState.mk true false (⟨#[]⟩ : ByteArray) (0 : Int))).bind fun q19 =>
  some q19.1
def p_ref10_SameAll_l1 (z6 : List StanzaStanza) (z7 : List StanzaStanza) : Nat → Int → Option (Bool ⊕ Int)
  | 0, _ => none
  | n + 1, y8 =>
    bif (decide (y8 < (z6.length : Int))) then
      (at? z6 y8).bind fun x10 =>
      (at? z7 y8).bind fun x11 =>
      bif ((x10.Kind == x11.Kind) && ((x10.User.toList == x11.User.toList) && ((x10.Res.toList == x11.Res.toList) && ((x10.Name.toList == x11.Name.toList) && ((x10.Show == x11.Show) && ((x10.Prio == x11.Prio) && ((x10.Code == x11.Code) && ((x10.N == x11.N) && true)))))))) then
        p_ref10_SameAll_l1 z6 z7 n (w64 (y8 + (1 : Int)))
      else
      some (.inl false)
    else
    some (.inr y8)
def p_ref10_SameAll (a0 : List StanzaStanza) (a1 : List StanzaStanza) : Option (Bool) :=
  bif ((a0.length : Int) != (a1.length : Int)) then
    some false
  else
  (p_ref10_SameAll_l1 a0 a1 fuel (0 : Int)).bind fun o13 => match o13 with
  | .inl q14 =>
    some q14
  | .inr q15 =>
    some true
def p_book_Set (a0 : BookState) (a1 : ByteArray) (a2 : ByteArray) (a3 : Int) (a4 : Int) : Option (BookState × PresPres × Int) :=
  (p_book_Check a0).bind fun v1 =>
  bif (v1 != (0 : Int)) then
    some (a0, (PresPres.mk false (0 : Int) (0 : Int) (0 : Int)), v1)
  else
  (p_book_Row_key (BookRow.mk a1 a2 (PresPres.mk true a3 a4 (0 : Int)))).bind fun v3 =>
  bif (v3.toList == (⟨#[]⟩ : ByteArray).toList) then
    some (a0, (PresPres.mk false (0 : Int) (0 : Int) (0 : Int)), (11 : Int))
  else
  (p_pres_Check (PresPres.mk true a3 a4 (0 : Int))).bind fun v5 =>
  bif (v5 != (0 : Int)) then
    some (a0, (PresPres.mk false (0 : Int) (0 : Int) (0 : Int)), v5)
  else
  (p_book_Row_key (BookRow.mk a1 a2 (PresPres.mk true a3 a4 (0 : Int)))).bind fun v7 =>
  (p_book_State_find a0 v7).bind fun v8 =>
  bif v8.2 then
    bif (decide ((1099511627776 : Int) ≤ a0.Seq)) then
      some (a0, (PresPres.mk false (0 : Int) (0 : Int) (0 : Int)), (9 : Int))
    else
    (cut? a0.Rows (some v8.1) none).bind fun x11 =>
    (cut? a0.Rows (some (w64 (v8.1 + (1 : Int)))) none).bind fun x12 =>
    (cut? a0.Rows none (some v8.1)).bind fun x13 =>
    (app? x13 [(BookRow.mk a1 a2 (PresPres.mk true a3 a4 (w64 (a0.Seq + (1 : Int)))))]).bind fun l14 =>
    (app? l14 x12).bind fun l15 =>
    some ((BookState.mk (w64 (a0.Seq + (1 : Int))) l15), (PresPres.mk true a3 a4 (w64 (a0.Seq + (1 : Int)))), (0 : Int))
  else
  bif (decide ((16 : Int) ≤ (a0.Rows.length : Int))) then
    some (a0, (PresPres.mk false (0 : Int) (0 : Int) (0 : Int)), (7 : Int))
  else
  (p_book_State_many a0 a1).bind fun v17 =>
  bif (decide ((3 : Int) ≤ v17)) then
    some (a0, (PresPres.mk false (0 : Int) (0 : Int) (0 : Int)), (7 : Int))
  else
  bif (decide ((1099511627776 : Int) ≤ a0.Seq)) then
    some (a0, (PresPres.mk false (0 : Int) (0 : Int) (0 : Int)), (9 : Int))
  else
  (cut? a0.Rows (some v8.1) none).bind fun x20 =>
  (cut? a0.Rows none (some v8.1)).bind fun x21 =>
  (app? x21 [(BookRow.mk a1 a2 (PresPres.mk true a3 a4 (w64 (a0.Seq + (1 : Int)))))]).bind fun l22 =>
  (app? l22 x20).bind fun l23 =>
  some ((BookState.mk (w64 (a0.Seq + (1 : Int))) l23), (PresPres.mk true a3 a4 (w64 (a0.Seq + (1 : Int)))), (0 : Int))
def p_law26_awake : Option (Bool) :=
  (p_book_Set (BookState.mk (0 : Int) []) (⟨#[97, 64, 120]⟩ : ByteArray) (⟨#[49]⟩ : ByteArray) (1 : Int) (0 : Int)).bind fun v1 =>
  (p_book_Set v1.1 (⟨#[98, 64, 120]⟩ : ByteArray) (⟨#[]⟩ : ByteArray) (0 : Int) (0 : Int)).bind fun v2 =>
  (p_book_Set v2.1 (⟨#[99, 64, 120]⟩ : ByteArray) (⟨#[50]⟩ : ByteArray) (0 : Int) (0 : Int)).bind fun v3 =>
  (p_snap_All (SnapEyes.mk [(⟨#[97, 64, 120]⟩ : ByteArray)] [(⟨#[99, 64, 120, 32, 50]⟩ : ByteArray)]) v3.1).bind fun v4 =>
  (p_snap_Begin).bind fun v5 =>
  (p_snap_Next v5 (SnapEyes.mk [(⟨#[97, 64, 120]⟩ : ByteArray)] [(⟨#[99, 64, 120, 32, 50]⟩ : ByteArray)]) v3.1).bind fun v6 =>
  (p_snap_Next v6.1 (SnapEyes.mk [(⟨#[97, 64, 120]⟩ : ByteArray)] [(⟨#[99, 64, 120, 32, 50]⟩ : ByteArray)]) v3.1).bind fun v7 =>
  (p_snap_View (SnapEyes.mk [(⟨#[97, 64, 120]⟩ : ByteArray)] [(⟨#[99, 64, 120, 32, 50]⟩ : ByteArray)]) v3.1).bind fun v8 =>
  bif ((v4.length : Int) == (4 : Int)) then
    (at? v4 (0 : Int)).bind fun x10 =>
    bif ((x10.Kind == (36 : Int)) && ((x10.User.toList == (⟨#[]⟩ : ByteArray).toList) && ((x10.Res.toList == (⟨#[]⟩ : ByteArray).toList) && ((x10.Name.toList == (⟨#[]⟩ : ByteArray).toList) && ((x10.Show == (0 : Int)) && ((x10.Prio == (0 : Int)) && ((x10.Code == (0 : Int)) && ((x10.N == (2 : Int)) && true)))))))) then
      (at? v4 (1 : Int)).bind fun x12 =>
      bif (x12.User.toList == (⟨#[97, 64, 120]⟩ : ByteArray).toList) then
        (at? v4 (2 : Int)).bind fun x14 =>
        bif (x14.User.toList == (⟨#[99, 64, 120]⟩ : ByteArray).toList) then
          (at? v4 (3 : Int)).bind fun x16 =>
          bif ((x16.Kind == (37 : Int)) && ((x16.User.toList == (⟨#[]⟩ : ByteArray).toList) && ((x16.Res.toList == (⟨#[]⟩ : ByteArray).toList) && ((x16.Name.toList == (⟨#[]⟩ : ByteArray).toList) && ((x16.Show == (0 : Int)) && ((x16.Prio == (0 : Int)) && ((x16.Code == (0 : Int)) && ((x16.N == (0 : Int)) && true)))))))) then
            (at? v4 (0 : Int)).bind fun x18 =>
            bif ((v6.2.1.Kind == x18.Kind) && ((v6.2.1.User.toList == x18.User.toList) && ((v6.2.1.Res.toList == x18.Res.toList) && ((v6.2.1.Name.toList == x18.Name.toList) && ((v6.2.1.Show == x18.Show) && ((v6.2.1.Prio == x18.Prio) && ((v6.2.1.Code == x18.Code) && ((v6.2.1.N == x18.N) && true)))))))) then
              bif v6.2.2 then
                bif v7.2.2 then
                  bif ((v7.1.On == true) && ((v7.1.Begun == true) && ((v7.1.After.toList == (⟨#[97, 64, 120, 32, 49]⟩ : ByteArray).toList) && ((v7.1.Told == (1 : Int)) && true)))) then
                    (p_snap_Covers v7.1 (⟨#[98, 64, 120, 32]⟩ : ByteArray)).bind fun v23 =>
                    bif v23 then
                      (p_snap_Covers v7.1 (⟨#[97, 64, 120, 32, 49]⟩ : ByteArray)).bind fun v25 =>
                      bif v25 then
                        some false
                      else
                      (p_snap_Covers (SnapState.mk false false (⟨#[]⟩ : ByteArray) (0 : Int)) (⟨#[122]⟩ : ByteArray)).bind fun v27 =>
                      bif v27 then
                        some false
                      else
                      bif ((v8.length : Int) == (2 : Int)) then
                        (p_snap_Count (SnapEyes.mk [(⟨#[97, 64, 120]⟩ : ByteArray)] [(⟨#[99, 64, 120, 32, 50]⟩ : ByteArray)]) v3.1).bind fun v30 =>
                        bif (v30 == (2 : Int)) then
                          (at? v8 (0 : Int)).bind fun x32 =>
                          (p_snap_Sees (SnapEyes.mk [(⟨#[97, 64, 120]⟩ : ByteArray)] [(⟨#[99, 64, 120, 32, 50]⟩ : ByteArray)]) x32).bind fun v33 =>
                          bif v33 then
                            (p_snap_Check v7.1).bind fun v35 =>
                            bif (v35 == (0 : Int)) then
                              (p_snap_Check (SnapState.mk false true (⟨#[]⟩ : ByteArray) (0 : Int))).bind fun v37 =>
                              bif (v37 == (4 : Int)) then
                                some true
                              else
                              some false
                            else
                            some false
                          else
                          some false
                        else
                        some false
                      else
                      some false
                    else
                    some false
                  else
                  some false
                else
                some false
              else
              some false
            else
            some false
          else
          some false
        else
        some false
      else
      some false
    else
    some false
  else
  some false
def p_law26_SnapTells_l1 (z13 : SnapEyes) (z14 : BookState) (z15 : SnapEyes) (z16 : BookState) : Nat → Int → Option (Bool ⊕ Int)
  | 0, _ => none
  | n + 1, y12 =>
    bif (decide (y12 < (z14.Rows.length : Int))) then
      (at? z16.Rows y12).bind fun x18 =>
      (p_snap_Sees z15 x18).bind fun v19 =>
      (at? z14.Rows y12).bind fun x20 =>
      (p_ref26_Sees z13 x20).bind fun v21 =>
      bif (v19 != v21) then
        some (.inl false)
      else
      p_law26_SnapTells_l1 z13 z14 z15 z16 n (w64 (y12 + (1 : Int)))
    else
    some (.inr y12)
def p_law26_SnapTells (a0 : SnapEyes) (a1 : BookState) : Option (Bool) :=
  (p_ref26_Light a0).bind fun v1 =>
  bif v1 then
    (p_ref24_Light a1).bind fun v3 =>
    bif v3 then
      (p_law26_Book a1).bind fun v5 =>
      (p_law26_SnapTells_l1 a0 a1 a0 v5 fuel (0 : Int)).bind fun o23 => match o23 with
      | .inl q24 =>
        some q24
      | .inr q25 =>
        (p_snap_View a0 v5).bind fun v26 =>
        (p_law24_Rows v26).bind fun v27 =>
        (p_ref26_View a0 a1).bind fun v28 =>
        (p_ref24_SameRows v27 v28).bind fun v29 =>
        bif v29 then
          (p_snap_Count a0 v5).bind fun v31 =>
          (p_ref26_Count a0 a1).bind fun v32 =>
          bif (v31 == v32) then
            (p_snap_All a0 v5).bind fun v34 =>
            (p_law10_Back v34).bind fun v35 =>
            (p_ref26_All a0 a1).bind fun v36 =>
            (p_ref10_SameAll v35 v36).bind fun v37 =>
            bif v37 then
              (p_law26_awake).bind fun v39 =>
              some v39
            else
            some false
          else
          some false
        else
        some false
    else
    (p_law26_awake).bind fun v40 =>
    some v40
  else
  (p_law26_awake).bind fun v41 =>
  some v41
end Go.Proofs.YthlhbgedidipkaaGreat
/- Readers of SnapTells's parameters. -/
namespace Go.Proofs.YthlhbgedidipkaaGreat
open Go.ChangeShapes Go.WideShapes Go.ChangeAt Go.RowKit Go.Joins Go.Deep
theorem rd_T22 {H : Type} {enc : TypeId × Value → H} {W : World} {spare : Nat → Bool} {held : Bool} {fuel : Nat} {cs : List Value} {y : DataW H × List MemPlace} (h : DataW.trod enc Tryz.prog W 0 spare held fuel 22 cs = some y) : ∃ x : List ByteArray, RepL (MW W) noBk cs [(fun l : List ByteArray => V.sl (l.map V.s) false) x] :=
  by obtain ⟨l, _, hr⟩ := rd_slice (f := V.s) (es := 1) (wf := (fun _ : ByteArray => True)) Tryz.underlying22 (fun _ => rfl) (by intro a v hv; simp [V.cells] at hv; first | (subst hv; rfl) | (rcases hv with rfl <;> rfl)) (by omega) (by kernel_rfl) (fun n cs y h => by obtain ⟨x, hr⟩ := rd_string Tryz.underlying9 h; exact ⟨x, trivial, hr⟩) h; exact ⟨l, hr⟩
set_option maxRecDepth 100000 in
theorem rd_T24 {H : Type} {enc : TypeId × Value → H} {W : World} {spare : Nat → Bool} {held : Bool} {fuel : Nat} {cs : List Value} {y : DataW H × List MemPlace} (h : DataW.trod enc Tryz.prog W 0 spare held fuel 24 cs = some y) : ∃ x : SnapEyes, RepL (MW W) noBk cs [.sl (List.map V.s x.Users) false, .sl (List.map V.s x.Keys) false] := by
  obtain ⟨xs, n, _, _, hl, hx, hall⟩ := DataW.trod_struct Tryz.underlying24 h
  have hce : Tryz.prog.cellsOf 24 = 2 := by kernel_rfl
  rw [hce] at hl
  match cs, hl, hall with
  | [c0, c1], _, hall =>
    obtain ⟨y0, hy0⟩ := get_some hx (show 0 < 2 by omega)
    have g0 : DataW.trod enc Tryz.prog W 0 spare held n 22 [c0] = some y0 := by
      have hz : Tryz.prog.cellsOf 22 = 1 := by kernel_rfl
      have g : DataW.trod enc Tryz.prog W 0 spare held n 22 (([c0, c1].drop 0).take (Tryz.prog.cellsOf 22)) = some y0 := (hall 0 _ rfl).trans hy0
      rw [hz] at g; exact g
    obtain ⟨x0, r0⟩ := rd_T22 g0
    obtain ⟨y1, hy1⟩ := get_some hx (show 1 < 2 by omega)
    have g1 : DataW.trod enc Tryz.prog W 0 spare held n 22 [c1] = some y1 := by
      have hz : Tryz.prog.cellsOf 22 = 1 := by kernel_rfl
      have g : DataW.trod enc Tryz.prog W 0 spare held n 22 (([c0, c1].drop 1).take (Tryz.prog.cellsOf 22)) = some y1 := (hall 1 _ rfl).trans hy1
      rw [hz] at g; exact g
    obtain ⟨x1, r1⟩ := rd_T22 g1
    exact ⟨⟨x0, x1⟩, repL_app r0 (repL_app r1 (repL_nil))⟩
structure PresPres.Wf (x : PresPres) : Prop where
  Show : (Lit.int .i64 x.Show).wf = true
  Prio : (Lit.int .i64 x.Prio).wf = true
  Seq : (Lit.int .i64 x.Seq).wf = true
set_option maxRecDepth 100000 in
theorem rd_T42 {H : Type} {enc : TypeId × Value → H} {W : World} {spare : Nat → Bool} {held : Bool} {fuel : Nat} {cs : List Value} {y : DataW H × List MemPlace} (h : DataW.trod enc Tryz.prog W 0 spare held fuel 42 cs = some y) : ∃ x : PresPres, PresPres.Wf x ∧ RepL (MW W) noBk cs [.b x.On, .i x.Show, .i x.Prio, .i x.Seq] := by
  obtain ⟨xs, n, _, _, hl, hx, hall⟩ := DataW.trod_struct Tryz.underlying42 h
  have hce : Tryz.prog.cellsOf 42 = 4 := by kernel_rfl
  rw [hce] at hl
  match cs, hl, hall with
  | [c0, c1, c2, c3], _, hall =>
    obtain ⟨y0, hy0⟩ := get_some hx (show 0 < 4 by omega)
    have g0 : DataW.trod enc Tryz.prog W 0 spare held n 4 [c0] = some y0 := by
      have hz : Tryz.prog.cellsOf 4 = 1 := by kernel_rfl
      have g : DataW.trod enc Tryz.prog W 0 spare held n 4 (([c0, c1, c2, c3].drop 0).take (Tryz.prog.cellsOf 4)) = some y0 := (hall 0 _ rfl).trans hy0
      rw [hz] at g; exact g
    obtain ⟨x0, r0⟩ := rd_bool Tryz.underlying4 g0
    obtain ⟨y1, hy1⟩ := get_some hx (show 1 < 4 by omega)
    have g1 : DataW.trod enc Tryz.prog W 0 spare held n 3 [c1] = some y1 := by
      have hz : Tryz.prog.cellsOf 3 = 1 := by kernel_rfl
      have g : DataW.trod enc Tryz.prog W 0 spare held n 3 (([c0, c1, c2, c3].drop 1).take (Tryz.prog.cellsOf 3)) = some y1 := (hall 1 _ rfl).trans hy1
      rw [hz] at g; exact g
    obtain ⟨x1, w1, r1⟩ := rd_int Tryz.underlying3 g1
    obtain ⟨y2, hy2⟩ := get_some hx (show 2 < 4 by omega)
    have g2 : DataW.trod enc Tryz.prog W 0 spare held n 3 [c2] = some y2 := by
      have hz : Tryz.prog.cellsOf 3 = 1 := by kernel_rfl
      have g : DataW.trod enc Tryz.prog W 0 spare held n 3 (([c0, c1, c2, c3].drop 2).take (Tryz.prog.cellsOf 3)) = some y2 := (hall 2 _ rfl).trans hy2
      rw [hz] at g; exact g
    obtain ⟨x2, w2, r2⟩ := rd_int Tryz.underlying3 g2
    obtain ⟨y3, hy3⟩ := get_some hx (show 3 < 4 by omega)
    have g3 : DataW.trod enc Tryz.prog W 0 spare held n 3 [c3] = some y3 := by
      have hz : Tryz.prog.cellsOf 3 = 1 := by kernel_rfl
      have g : DataW.trod enc Tryz.prog W 0 spare held n 3 (([c0, c1, c2, c3].drop 3).take (Tryz.prog.cellsOf 3)) = some y3 := (hall 3 _ rfl).trans hy3
      rw [hz] at g; exact g
    obtain ⟨x3, w3, r3⟩ := rd_int Tryz.underlying3 g3
    exact ⟨⟨x0, x1, x2, x3⟩, ⟨w1, w2, w3⟩, repL_app r0 (repL_app r1 (repL_app r2 (repL_app r3 (repL_nil))))⟩
structure BookRow.Wf (x : BookRow) : Prop where
  P : PresPres.Wf x.P
set_option maxRecDepth 100000 in
theorem rd_T44 {H : Type} {enc : TypeId × Value → H} {W : World} {spare : Nat → Bool} {held : Bool} {fuel : Nat} {cs : List Value} {y : DataW H × List MemPlace} (h : DataW.trod enc Tryz.prog W 0 spare held fuel 44 cs = some y) : ∃ x : BookRow, BookRow.Wf x ∧ RepL (MW W) noBk cs [.s x.User, .s x.Res, .b x.P.On, .i x.P.Show, .i x.P.Prio, .i x.P.Seq] := by
  obtain ⟨xs, n, _, _, hl, hx, hall⟩ := DataW.trod_struct Tryz.underlying44 h
  have hce : Tryz.prog.cellsOf 44 = 6 := by kernel_rfl
  rw [hce] at hl
  match cs, hl, hall with
  | [c0, c1, c2, c3, c4, c5], _, hall =>
    obtain ⟨y0, hy0⟩ := get_some hx (show 0 < 3 by omega)
    have g0 : DataW.trod enc Tryz.prog W 0 spare held n 9 [c0] = some y0 := by
      have hz : Tryz.prog.cellsOf 9 = 1 := by kernel_rfl
      have g : DataW.trod enc Tryz.prog W 0 spare held n 9 (([c0, c1, c2, c3, c4, c5].drop 0).take (Tryz.prog.cellsOf 9)) = some y0 := (hall 0 _ rfl).trans hy0
      rw [hz] at g; exact g
    obtain ⟨x0, r0⟩ := rd_string Tryz.underlying9 g0
    obtain ⟨y1, hy1⟩ := get_some hx (show 1 < 3 by omega)
    have g1 : DataW.trod enc Tryz.prog W 0 spare held n 9 [c1] = some y1 := by
      have hz : Tryz.prog.cellsOf 9 = 1 := by kernel_rfl
      have g : DataW.trod enc Tryz.prog W 0 spare held n 9 (([c0, c1, c2, c3, c4, c5].drop 1).take (Tryz.prog.cellsOf 9)) = some y1 := (hall 1 _ rfl).trans hy1
      rw [hz] at g; exact g
    obtain ⟨x1, r1⟩ := rd_string Tryz.underlying9 g1
    obtain ⟨y2, hy2⟩ := get_some hx (show 2 < 3 by omega)
    have g2 : DataW.trod enc Tryz.prog W 0 spare held n 42 [c2, c3, c4, c5] = some y2 := by
      have hz : Tryz.prog.cellsOf 42 = 4 := by kernel_rfl
      have g : DataW.trod enc Tryz.prog W 0 spare held n 42 (([c0, c1, c2, c3, c4, c5].drop 2).take (Tryz.prog.cellsOf 42)) = some y2 := (hall 2 _ rfl).trans hy2
      rw [hz] at g; exact g
    obtain ⟨x2, w2, r2⟩ := rd_T42 g2
    exact ⟨⟨x0, x1, x2⟩, ⟨w2⟩, repL_app r0 (repL_app r1 (repL_app r2 (repL_nil)))⟩
theorem rd_T25 {H : Type} {enc : TypeId × Value → H} {W : World} {spare : Nat → Bool} {held : Bool} {fuel : Nat} {cs : List Value} {y : DataW H × List MemPlace} (h : DataW.trod enc Tryz.prog W 0 spare held fuel 25 cs = some y) : ∃ x : List BookRow, (∀ z ∈ x, BookRow.Wf z) ∧ RepL (MW W) noBk cs [(fun l : List BookRow => V.sl (l.map BookRow.v) false) x] :=
  rd_slice (f := BookRow.v) (es := 6) (wf := BookRow.Wf) Tryz.underlying25 (fun _ => rfl) (by intro a v hv; simp [V.cells] at hv; first | (subst hv; rfl) | (rcases hv with rfl | rfl | rfl | rfl | rfl | rfl <;> rfl)) (by omega) (by kernel_rfl) (fun n cs y h => rd_T44 h) h
structure BookState.Wf (x : BookState) : Prop where
  Seq : (Lit.int .i64 x.Seq).wf = true
  Rows : ∀ z ∈ x.Rows, BookRow.Wf z
set_option maxRecDepth 100000 in
theorem rd_T27 {H : Type} {enc : TypeId × Value → H} {W : World} {spare : Nat → Bool} {held : Bool} {fuel : Nat} {cs : List Value} {y : DataW H × List MemPlace} (h : DataW.trod enc Tryz.prog W 0 spare held fuel 27 cs = some y) : ∃ x : BookState, BookState.Wf x ∧ RepL (MW W) noBk cs [.i x.Seq, .sl (List.map BookRow.v x.Rows) false] := by
  obtain ⟨xs, n, _, _, hl, hx, hall⟩ := DataW.trod_struct Tryz.underlying27 h
  have hce : Tryz.prog.cellsOf 27 = 2 := by kernel_rfl
  rw [hce] at hl
  match cs, hl, hall with
  | [c0, c1], _, hall =>
    obtain ⟨y0, hy0⟩ := get_some hx (show 0 < 2 by omega)
    have g0 : DataW.trod enc Tryz.prog W 0 spare held n 3 [c0] = some y0 := by
      have hz : Tryz.prog.cellsOf 3 = 1 := by kernel_rfl
      have g : DataW.trod enc Tryz.prog W 0 spare held n 3 (([c0, c1].drop 0).take (Tryz.prog.cellsOf 3)) = some y0 := (hall 0 _ rfl).trans hy0
      rw [hz] at g; exact g
    obtain ⟨x0, w0, r0⟩ := rd_int Tryz.underlying3 g0
    obtain ⟨y1, hy1⟩ := get_some hx (show 1 < 2 by omega)
    have g1 : DataW.trod enc Tryz.prog W 0 spare held n 25 [c1] = some y1 := by
      have hz : Tryz.prog.cellsOf 25 = 1 := by kernel_rfl
      have g : DataW.trod enc Tryz.prog W 0 spare held n 25 (([c0, c1].drop 1).take (Tryz.prog.cellsOf 25)) = some y1 := (hall 1 _ rfl).trans hy1
      rw [hz] at g; exact g
    obtain ⟨x1, w1, r1⟩ := rd_T25 g1
    exact ⟨⟨x0, x1⟩, ⟨w0, w1⟩, repL_app r0 (repL_app r1 (repL_nil))⟩
end Go.Proofs.YthlhbgedidipkaaGreat
/- Presences, keys and books in plain words. -/
namespace Go.Proofs.YthlhbgedidipkaaGreat
open Go.RowKit
def presCheckL (p : PresPres) : Int :=
  if p.Show < 0 ∨ 4 < p.Show ∨ p.Prio < -128 ∨ 127 < p.Prio ∨ p.Seq < 0 ∨ 1099511627776 < p.Seq then 8
  else if p.On = false ∧ (p.Show ≠ 0 ∨ p.Prio ≠ 0) then 4 else 0
def newerL (a b : PresPres) : Bool := decide (b.Seq < a.Seq)
def betterL (a b : PresPres) : Bool :=
  if a.On = false then false else if b.On = false then true else if a.Prio = b.Prio then decide (b.Seq < a.Seq) else decide (b.Prio < a.Prio)
def bestTo (l : List PresPres) : Nat → Int
  | 0 => -1
  | k + 1 => let b := bestTo l k; let p := l.getD k ⟨false, 0, 0, 0⟩
    if p.On = true ∧ (b < 0 ∨ betterL p (l.getD b.toNat ⟨false, 0, 0, 0⟩) = true) then k else b
theorem bestTo_bd (l : List PresPres) (k : Nat) : -1 ≤ bestTo l k ∧ bestTo l k < k ∨ k = 0 ∧ bestTo l k = -1 := by
  induction k with
  | zero => exact .inr ⟨rfl, rfl⟩
  | succ k ih => left; simp only [bestTo]; split <;> omega
def lastTo (l : List PresPres) : Nat → PresPres
  | 0 => ⟨false, 0, 0, 0⟩
  | k + 1 => let p := l.getD k ⟨false, 0, 0, 0⟩; if k = 0 ∨ newerL p (lastTo l k) = true then p else lastTo l k
def namedL (u r : ByteArray) : Bool := decide (resL r.data.toList = 0) && isBareL u.data.toList
def keyL (u r : ByteArray) : ByteArray := if namedL u r = true then u ++ ⟨#[32]⟩ ++ r else ⟨#[]⟩
theorem keyL_ok {u r : ByteArray} (h : namedL u r = true) : keyL u r = u ++ ⟨#[32]⟩ ++ r := if_pos h
theorem keyL_no {u r : ByteArray} (h : namedL u r = false) : keyL u r = ⟨#[]⟩ := if_neg (by simp [h])
theorem namedL_1 {u r : ByteArray} (h : resL r.data.toList = 0) : namedL u r = isBareL u.data.toList := by simp [namedL, h]
theorem namedL_2 {u r : ByteArray} (h : ¬ resL r.data.toList = 0) : namedL u r = false := by simp [namedL, h]
theorem cat_sz (u r : ByteArray) (hu : u.size ≤ 100000) (hr : r.size ≤ 100000) : u.size + (⟨#[32]⟩ : ByteArray).size ≤ 4611686018427387904 ∧ (u ++ (⟨#[32]⟩ : ByteArray)).size + r.size ≤ 4611686018427387904 := by
  rw [ByteArray.size_append]
  have : (⟨#[32]⟩ : ByteArray).size = 1 := rfl
  omega
instance : Inhabited BookRow := ⟨⟨⟨#[]⟩, ⟨#[]⟩, ⟨false, 0, 0, 0⟩⟩⟩
instance : Inhabited PresPres := ⟨⟨false, 0, 0, 0⟩⟩
def keyR (r : BookRow) : ByteArray := keyL r.User r.Res
def smallR (r : BookRow) : Prop := r.User.size ≤ 100000 ∧ r.Res.size ≤ 100000
def manyL (rows : List BookRow) (u : ByteArray) : Nat := rows.countP fun r => r.User.toList == u.toList
theorem many_step (rows : List BookRow) (u : ByteArray) (k : Nat) (h : k < rows.length) : manyL (rows.take (k + 1)) u = manyL (rows.take k) u + (if (rows[k].User.toList == u.toList) = true then 1 else 0) := by
  unfold manyL; rw [List.take_succ_eq_append_getElem h, List.countP_append, List.countP_singleton]
def errL : List BookRow → Int
  | [] => 0
  | r :: l => if presCheckL r.P ≠ 0 then presCheckL r.P else if r.P.On = false then 4 else errL l
theorem err_at (rows : List BookRow) (k : Nat) (h : k < rows.length) : errL (rows.drop k) = if presCheckL rows[k].P ≠ 0 then presCheckL rows[k].P else if rows[k].P.On = false then 4 else errL (rows.drop (k + 1)) := by
  rw [List.drop_eq_getElem_cons h]; rfl
def idxL (p : BookRow → Bool) (rows : List BookRow) : Int := if rows.any p = true then (rows.findIdx p : Nat) else -1
theorem idx_hit (p : BookRow → Bool) (rows : List BookRow) (k : Nat) (h : k < rows.length) (hn : (rows.take k).any p = false) (hp : p rows[k] = true) : idxL p rows = (k : Nat) := by
  have ha : rows.any p = true := List.any_eq_true.2 ⟨_, List.getElem_mem h, hp⟩
  unfold idxL
  rw [if_pos ha]
  congr 1
  have h1 : ¬ rows.findIdx p < k := fun hlt => by
    have hx := List.findIdx_getElem (p := p) (xs := rows) (w := by omega)
    rw [List.any_eq_false] at hn
    exact hn _ (by rw [List.mem_take_iff_getElem]; exact ⟨rows.findIdx p, by omega, rfl⟩) hx
  have h2 : rows.findIdx p ≤ k := by
    rcases Nat.lt_or_ge k (rows.findIdx p) with hlt | hge
    · have := List.not_of_lt_findIdx hlt
      rw [hp] at this; simp at this
    · exact hge
  omega
theorem idx_step (p : BookRow → Bool) (rows : List BookRow) (k : Nat) (h : k < rows.length) (hn : (rows.take k).any p = false) (hp : p rows[k] = false) : (rows.take (k + 1)).any p = false := by
  rw [List.take_succ_eq_append_getElem h, List.any_append, hn]; simp [hp]
def lessR (a b : BookRow) : Bool := Op.bytesLess (keyR a).toList (keyR b).toList
def okAt (seq : Int) (rows : List BookRow) (i : Nat) : Bool :=
  match rows[i]? with
  | none => true
  | some x => decide (1 ≤ x.P.Seq) && decide (x.P.Seq ≤ seq) && (match i with | 0 => true | j + 1 => match rows[j]? with | some y => lessR y x | none => true) && !(rows.take i).any (fun o => o.P.Seq == x.P.Seq)
def ordL (seq : Int) (rows : List BookRow) : Bool := (List.range rows.length).all (okAt seq rows)
theorem okAt_0 {seq : Int} {rows : List BookRow} (h : 0 < rows.length) : okAt seq rows 0 = (decide ((1 : Int) ≤ rows[0].P.Seq) && decide (rows[0].P.Seq ≤ seq) && true && !(rows.take 0).any (fun o => o.P.Seq == rows[0].P.Seq)) := by
  simp only [okAt, List.getElem?_eq_getElem h]
theorem okAt_s {seq : Int} {rows : List BookRow} (j : Nat) (h : j + 1 < rows.length) : okAt seq rows (j + 1) = (decide (1 ≤ rows[j + 1].P.Seq) && decide (rows[j + 1].P.Seq ≤ seq) && lessR rows[j] rows[j + 1] && !(rows.take (j + 1)).any (fun o => o.P.Seq == rows[j + 1].P.Seq)) := by
  simp only [okAt, List.getElem?_eq_getElem h, List.getElem?_eq_getElem (show j < rows.length by omega)]
theorem ord_no {seq : Int} {rows : List BookRow} {k : Nat} (hk : k < rows.length) (h : okAt seq rows k = false) : ordL seq rows = false := by
  unfold ordL
  rw [List.all_eq_false]
  exact ⟨k, List.mem_range.2 hk, by rw [h]; simp⟩
theorem ord_yes {seq : Int} {rows : List BookRow} (h : ∀ i, i < rows.length → okAt seq rows i = true) : ordL seq rows = true := by
  unfold ordL
  rw [List.all_eq_true]
  exact fun i hi => h i (List.mem_range.1 hi)
def fullL (rows : List BookRow) : Bool := rows.any fun r => decide (3 < manyL rows r.User)
def emptyL (rows : List BookRow) : Bool := rows.any fun r => (keyR r).toList == (⟨#[]⟩ : ByteArray).toList
def bookCheck (seq : Int) (rows : List BookRow) : Int :=
  if 16 < rows.length then 5 else if seq < 0 ∨ 1099511627776 < seq then 8 else if emptyL rows = true then 11 else if errL rows ≠ 0 then errL rows else if ordL seq rows = false then 10 else if fullL rows = true then 7 else 0
def smallB (rows : List BookRow) : Prop := ∀ r ∈ rows, smallR r
def cmpR (r : BookRow) (k : ByteArray) : Int := Lib.compareBytes (keyR r).data.toList k.data.toList
/-- where a key stands: all rows ahead of it are less, none behind is. -/
structure StandsAt (rows : List BookRow) (k : ByteArray) (pos : Nat) : Prop where
  le : pos ≤ rows.length
  lt : ∀ i (h : i < rows.length), i < pos → cmpR rows[i] k < 0
  ge : ∀ i (h : i < rows.length), pos ≤ i → 0 ≤ cmpR rows[i] k
def foundB (rows : List BookRow) (k : ByteArray) (pos : Nat) : Bool := match rows[pos]? with
  | some r => cmpR r k == 0
  | none => false
end Go.Proofs.YthlhbgedidipkaaGreat
/- Plain laws of no program: what loops and questions come to. -/
namespace Go.Proofs.YthlhbgedidipkaaGreat
open Go.RowKit
theorem at_nat {α : Type} (l : List α) (k : Nat) : at? l (k : Int) = l[k]? := by
  unfold at?; rw [if_pos (Int.natCast_nonneg k)]; rfl
theorem at_lt {α : Type} {l : List α} {k : Nat} (h : k < l.length) : at? l (k : Int) = some l[k] := by rw [at_nat, List.getElem?_eq_getElem h]
theorem w64_id {r : Int} (h : -9223372036854775808 ≤ r ∧ r ≤ 9223372036854775807) : w64 r = r := wrap_ok h
theorem w64_succ {k : Nat} (h : k ≤ 1000000) : w64 ((k : Int) + 1) = ((k + 1 : Nat) : Int) := by rw [w64_id (by omega)]; rfl
theorem lt_tt {a b : Nat} (h : a < b) : decide ((a : Int) < (b : Int)) = true := by simpa using h
theorem lt_ff {a b : Nat} (h : b ≤ a) : decide ((a : Int) < (b : Int)) = false := by simpa using h
theorem drop_at {α : Type} {l : List α} {k : Nat} (h : k < l.length) : l.drop k = l[k] :: l.drop (k + 1) := List.drop_eq_getElem_cons h
theorem fuel_pos : (1000000 : Nat) < fuel := by decide
theorem cutTo {α : Type} {l : List α} {k : Nat} (h : k ≤ l.length) : cut? l none (some (k : Int)) = some (l.take k) := by
  unfold cut?
  simp only [Option.getD_none, Option.getD_some]
  rw [if_pos (by omega)]
  simp
theorem cutFrom {α : Type} {l : List α} {k : Nat} (h : k ≤ l.length) : cut? l (some (k : Int)) none = some (l.drop k) := by
  unfold cut?
  simp only [Option.getD_none, Option.getD_some]
  rw [if_pos (by omega)]
  rw [List.take_of_length_le (by simp)]; rfl
theorem u64_id {r : Int} (hr : 0 ≤ r ∧ r ≤ 9223372036854775807) : IntKind.u64.wrap r = r := by
  simp only [IntKind.wrap, IntKind.signed, IntKind.bits]
  first | omega | (simp; omega)
theorem fdivN (m p : Nat) : (m : Int).fdiv (2 ^ p) = ((m / 2 ^ p : Nat) : Int) := by
  rw [show ((2 : Int) ^ p) = ((2 ^ p : Nat) : Int) by simp, Int.fdiv_eq_ediv_of_nonneg _ (Int.natCast_nonneg _)]; rfl
theorem half_p {i j : Nat} (h : i + j ≤ 100000) : w64 (shrI .u64 (IntKind.wrap .u64 (w64 ((i : Int) + (j : Int)))) (1 : Int)) = (((i + j) / 2 : Nat) : Int) := by
  have e1 : w64 ((i : Int) + (j : Int)) = ((i + j : Nat) : Int) := by rw [w64_id (by omega)]; omega
  have e2 : IntKind.wrap .u64 ((i + j : Nat) : Int) = ((i + j : Nat) : Int) := u64_id (by omega)
  have e : (min (1 : Int).toNat IntKind.u64.bits) = 1 := rfl
  have e3 : shrI .u64 ((i + j : Nat) : Int) 1 = (((i + j) / 2 : Nat) : Int) := by
    unfold shrI
    rw [e, fdivN]
  rw [e1, e2, e3]
  exact w64_id (by omega)
theorem app_ok {α : Type} {a b : List α} (h : a.length + b.length ≤ 1000000) : app? a b = some (a ++ b) := if_pos h
theorem at_cons {α : Type} {l : List α} {k : Nat} (h : k < l.length) : at? l (k : Int) = some l[k] := at_lt h
theorem byte_at {s : ByteArray} {k : Nat} (h : k < s.size) : byte? s (k : Int) = some (s[k].toNat : Int) := by
  unfold byte?
  rw [dif_pos ⟨Int.natCast_nonneg k, h⟩]; rfl
theorem len0 {α : Type} {l : List α} {n : Nat} (h : n = l.length) : l.drop n = [] := List.drop_of_length_le (by omega)
theorem byte_ne (a b : UInt8) : ((a.toNat : Int) != (b.toNat : Int)) = !(a == b) := by
  by_cases h : a = b
  · subst h; simp
  · have h1 : (a == b) = false := by simpa using h
    have h2 : ¬ ((a.toNat : Int) = (b.toNat : Int)) := fun e => h (UInt8.toNat_inj.1 (Int.natCast_inj.1 e))
    rw [h1]; simpa using h2
theorem tl_data (s : ByteArray) : s.toList = s.data.toList := by rw [ByteArray.toList_eq]
/-- texts, compared as the code does. -/
def eqT (a b : ByteArray) : Bool := a.toList == b.toList
theorem eqT_refl (a : ByteArray) : (a.toList == a.toList) = true := by simp
theorem eqT_iff {a b : ByteArray} : (a.toList == b.toList) = true ↔ a = b := by
  rw [beq_iff_eq, tl_data, tl_data]
  exact ⟨fun h => by cases a; cases b; congr 1; exact Array.ext' h, fun h => by rw [h]⟩
theorem cmp_less : ∀ (a b : List UInt8), Op.bytesLess a b = decide (Lib.compareBytes a b < 0)
  | [], [] => by simp [Op.bytesLess, Lib.compareBytes]
  | [], _ :: _ => by simp [Op.bytesLess, Lib.compareBytes]
  | _ :: _, [] => by simp [Op.bytesLess, Lib.compareBytes]
  | a :: xs, b :: ys => by
    unfold Op.bytesLess Lib.compareBytes
    rw [cmp_less xs ys]
    by_cases h : a < b
    · simp [h]
    · by_cases h2 : b < a
      · have hne : a ≠ b := fun e => by subst e; exact UInt8.lt_irrefl _ h2
        simp [h, h2, hne]
      · have e : a = b := by
          apply UInt8.toNat_inj.1
          rw [UInt8.lt_iff_toNat_lt] at h h2; omega
        subst e; simp [h]
theorem cmp_refl : ∀ a : List UInt8, Lib.compareBytes a a = 0
  | [] => by simp [Lib.compareBytes]
  | a :: xs => by unfold Lib.compareBytes; rw [if_neg (UInt8.lt_irrefl _), if_neg (UInt8.lt_irrefl _)]; exact cmp_refl xs
theorem cmp_eq0 : ∀ {a b : List UInt8}, Lib.compareBytes a b = 0 → a = b
  | [], [], _ => rfl
  | [], _ :: _, h => by simp [Lib.compareBytes] at h
  | _ :: _, [], h => by simp [Lib.compareBytes] at h
  | a :: xs, b :: ys, h => by
    unfold Lib.compareBytes at h
    split at h
    · omega
    · split at h
      · omega
      · rename_i h1 h2
        have e : a = b := by
          apply UInt8.toNat_inj.1
          rw [UInt8.lt_iff_toNat_lt] at h1 h2; omega
        rw [e, cmp_eq0 h]
theorem cmp_anti : ∀ (a b : List UInt8), Lib.compareBytes b a = - Lib.compareBytes a b
  | [], [] => by simp [Lib.compareBytes]
  | [], _ :: _ => by simp [Lib.compareBytes]
  | _ :: _, [] => by simp [Lib.compareBytes]
  | a :: xs, b :: ys => by
    unfold Lib.compareBytes
    rw [cmp_anti xs ys]
    by_cases h : a < b
    · have h2 : ¬ b < a := by rw [UInt8.lt_iff_toNat_lt] at h ⊢; omega
      simp [h, h2]
    · by_cases h2 : b < a
      · simp [h, h2]
      · simp [h, h2]
theorem cmp_trans : ∀ {a b c : List UInt8}, Lib.compareBytes a b < 0 → Lib.compareBytes b c < 0 → Lib.compareBytes a c < 0
  | [], [], _, h, _ => by simp [Lib.compareBytes] at h
  | _ :: _, [], _, h, _ => by simp [Lib.compareBytes] at h
  | _, _ :: _, [], _, h => by simp [Lib.compareBytes] at h
  | [], _ :: _, _ :: _, _, _ => by simp [Lib.compareBytes]
  | a :: xs, b :: ys, c :: cs, h1, h2 => by
    unfold Lib.compareBytes at h1 h2 ⊢
    by_cases x : a < b
    · by_cases y : b < c
      · rw [if_pos (UInt8.lt_trans x y)]; omega
      · rw [if_neg y] at h2
        by_cases z : c < b
        · rw [if_pos z] at h2; omega
        · have e : b = c := by
            apply UInt8.toNat_inj.1
            rw [UInt8.lt_iff_toNat_lt] at y z; omega
          subst e
          rw [if_pos x]; omega
    · rw [if_neg x] at h1
      by_cases x2 : b < a
      · rw [if_pos x2] at h1; omega
      · rw [if_neg x2] at h1
        have e : a = b := by
          apply UInt8.toNat_inj.1
          rw [UInt8.lt_iff_toNat_lt] at x x2; omega
        subst e
        by_cases y : a < c
        · rw [if_pos y]; omega
        · rw [if_neg y] at h2 ⊢
          by_cases z : c < a
          · rw [if_pos z] at h2; omega
          · rw [if_neg z] at h2 ⊢
            exact cmp_trans h1 h2
end Go.Proofs.YthlhbgedidipkaaGreat
/- Keys' order; what stands where; what Set, Off, Get and Next leave, in plain words. -/
namespace Go.Proofs.YthlhbgedidipkaaGreat
open Go.RowKit
def sortedR (rows : List BookRow) : Prop := ∀ i j (hj : j < rows.length) (hi : i < j), cmpR rows[i] (keyR rows[j]) < 0
theorem sorted_next {rows : List BookRow} (h : ∀ i (hj : i + 1 < rows.length), lessR rows[i] rows[i + 1] = true) : sortedR rows := by
  intro i j hj hi
  induction j with
  | zero => omega
  | succ j ih =>
    have h1 := h j hj
    unfold lessR at h1
    rw [cmp_less, decide_eq_true_eq, ByteArray.toList_eq, ByteArray.toList_eq] at h1
    rcases Nat.lt_or_ge i j with h2 | h2
    · exact cmp_trans (ih (by omega) h2) h1
    · have : i = j := by omega
      subst this; exact h1
theorem okAt_all {seq : Int} {rows : List BookRow} (h : ordL seq rows = true) (i : Nat) (hi : i < rows.length) : okAt seq rows i = true := by
  unfold ordL at h
  rw [List.all_eq_true] at h
  exact h i (List.mem_range.2 hi)
theorem ord_sorted {seq : Int} {rows : List BookRow} (h : ordL seq rows = true) : sortedR rows := by
  refine sorted_next fun i hj => ?_
  have := okAt_all h (i + 1) hj
  rw [okAt_s i hj] at this
  simp only [Bool.and_eq_true] at this
  exact this.1.2
theorem check_ord {seq : Int} {rows : List BookRow} (h : bookCheck seq rows = 0) : ordL seq rows = true := by
  unfold bookCheck at h
  by_cases h0 : ordL seq rows = true
  · exact h0
  · exfalso
    have h1 : ordL seq rows = false := by simpa using h0
    repeat' split at h
    all_goals first | omega | contradiction
theorem check_len {seq : Int} {rows : List BookRow} (h : bookCheck seq rows = 0) : rows.length ≤ 16 := by
  unfold bookCheck at h
  by_cases h0 : 16 < rows.length
  · rw [if_pos h0] at h; omega
  · omega
theorem check_seq {seq : Int} {rows : List BookRow} (h : bookCheck seq rows = 0) : 0 ≤ seq ∧ seq ≤ 1099511627776 := by
  unfold bookCheck at h
  by_cases h0 : seq < 0 ∨ 1099511627776 < seq
  · rw [if_pos h0] at h; split at h <;> omega
  · omega
def posL (rows : List BookRow) (k : ByteArray) : Nat := rows.findIdx fun r => decide (0 ≤ cmpR r k)
theorem stands {rows : List BookRow} (hs : sortedR rows) (k : ByteArray) : StandsAt rows k (posL rows k) := by
  refine ⟨List.findIdx_le_length, fun i h hi => ?_, fun i h hi => ?_⟩
  · have := List.not_of_lt_findIdx hi
    simpa using this
  · have hx := List.findIdx_getElem (p := fun r => decide (0 ≤ cmpR r k)) (xs := rows) (w := Nat.lt_of_le_of_lt hi h)
    rw [decide_eq_true_eq] at hx
    rcases Nat.lt_or_ge (posL rows k) i with h2 | h2
    · have h3 := hs (posL rows k) i h h2
      have h4 := cmp_anti k.data.toList (keyR rows[posL rows k]).data.toList
      have hx' : 0 ≤ Lib.compareBytes (keyR rows[posL rows k]).data.toList k.data.toList := hx
      rcases Int.lt_or_le (Lib.compareBytes (keyR rows[i]).data.toList k.data.toList) 0 with h5 | h5
      · have := cmp_trans h3 h5; omega
      · exact h5
    · have e : i = posL rows k := by unfold posL at *; omega
      subst e; exact hx
def setL (seq : Int) (rows : List BookRow) (u r : ByteArray) (sh prio : Int) : Int × List BookRow × PresPres × Int :=
  let x : BookRow := ⟨u, r, ⟨true, sh, prio, 0⟩⟩
  let k := keyR x
  if bookCheck seq rows ≠ 0 then (seq, rows, ⟨false, 0, 0, 0⟩, bookCheck seq rows)
  else if (k.toList == (⟨#[]⟩ : ByteArray).toList) = true then (seq, rows, ⟨false, 0, 0, 0⟩, 11)
  else if presCheckL x.P ≠ 0 then (seq, rows, ⟨false, 0, 0, 0⟩, presCheckL x.P)
  else if foundB rows k (posL rows k) = false ∧ (16 ≤ rows.length ∨ 3 ≤ manyL rows u) then (seq, rows, ⟨false, 0, 0, 0⟩, 7)
  else if 1099511627776 ≤ seq then (seq, rows, ⟨false, 0, 0, 0⟩, 9)
  else (seq + 1, rows.take (posL rows k) ++ ⟨u, r, ⟨true, sh, prio, seq + 1⟩⟩ :: rows.drop (if foundB rows k (posL rows k) = true then posL rows k + 1 else posL rows k), ⟨true, sh, prio, seq + 1⟩, 0)
def offL (seq : Int) (rows : List BookRow) (u r : ByteArray) : Int × List BookRow × PresPres × Int :=
  let k := keyL u r
  if bookCheck seq rows ≠ 0 then (seq, rows, ⟨false, 0, 0, 0⟩, bookCheck seq rows)
  else if foundB rows k (posL rows k) = false ∨ (k.toList == (⟨#[]⟩ : ByteArray).toList) = true then (seq, rows, ⟨false, 0, 0, 0⟩, 6)
  else if 1099511627776 ≤ seq then (seq, rows, ⟨false, 0, 0, 0⟩, 9)
  else (seq + 1, rows.take (posL rows k) ++ rows.drop (posL rows k + 1), ⟨false, 0, 0, seq + 1⟩, 0)
def getL (seq : Int) (rows : List BookRow) (u r : ByteArray) : PresPres × Bool :=
  let k := keyL u r
  if (k.toList == (⟨#[]⟩ : ByteArray).toList) = true then (⟨false, 0, 0, 0⟩, false)
  else if bookCheck seq rows ≠ 0 then (⟨false, 0, 0, 0⟩, false)
  else if foundB rows k (posL rows k) = false then (⟨false, 0, 0, 0⟩, false)
  else ((rows.getD (posL rows k) default).P, true)
def rowAt (rows : List BookRow) (i : Nat) : BookRow × Bool := match rows[i]? with
  | some x => (x, true)
  | none => (⟨⟨#[]⟩, ⟨#[]⟩, ⟨false, 0, 0, 0⟩⟩, false)
theorem rowAt_lt {rows : List BookRow} {i : Nat} (h : i < rows.length) : rowAt rows i = (rows[i], true) := by unfold rowAt; rw [List.getElem?_eq_getElem h]
theorem rowAt_ge {rows : List BookRow} {i : Nat} (h : rows.length ≤ i) : rowAt rows i = (⟨⟨#[]⟩, ⟨#[]⟩, ⟨false, 0, 0, 0⟩⟩, false) := by unfold rowAt; rw [List.getElem?_eq_none h]
def nxtL (seq : Int) (rows : List BookRow) (k : ByteArray) : BookRow × Bool :=
  if bookCheck seq rows ≠ 0 then (⟨⟨#[]⟩, ⟨#[]⟩, ⟨false, 0, 0, 0⟩⟩, false)
  else rowAt rows (if foundB rows k (posL rows k) = true then posL rows k + 1 else posL rows k)
theorem found_lt {rows : List BookRow} {k : ByteArray} {pos : Nat} (h : foundB rows k pos = true) : pos < rows.length := by
  unfold foundB at h
  rcases Nat.lt_or_ge pos rows.length with h2 | h2
  · exact h2
  · rw [List.getElem?_eq_none h2] at h; simp at h
end Go.Proofs.YthlhbgedidipkaaGreat
/- The book in plain words: when a state may be; where a key stands in rows that are cut there. -/
namespace Go.Proofs.YthlhbgedidipkaaGreat
open Go.RowKit
structure Good (seq : Int) (rows : List BookRow) : Prop where
  len : rows.length ≤ 16
  seq0 : 0 ≤ seq
  seqM : seq ≤ 1099511627776
  key : ∀ r ∈ rows, ((keyR r).toList == (⟨#[]⟩ : ByteArray).toList) = false
  pres : ∀ r ∈ rows, presCheckL r.P = 0 ∧ r.P.On = true
  rng : ∀ r ∈ rows, 1 ≤ r.P.Seq ∧ r.P.Seq ≤ seq
  ord : rows.Pairwise fun a b => cmpR a (keyR b) < 0
  diff : rows.Pairwise fun a b => a.P.Seq ≠ b.P.Seq
  many : ∀ r ∈ rows, manyL rows r.User ≤ 3
theorem err_0 : ∀ {rows : List BookRow}, (∀ r ∈ rows, presCheckL r.P = 0 ∧ r.P.On = true) → errL rows = 0
  | [], _ => rfl
  | r :: l, h => by
    have h1 := h r (by simp)
    unfold errL
    rw [if_neg (by simpa using h1.1), if_neg (by rw [h1.2]; simp)]
    exact err_0 fun x hx => h x (by simp [hx])
theorem good_check {seq : Int} {rows : List BookRow} (h : Good seq rows) : bookCheck seq rows = 0 := by
  have e1 : emptyL rows = false := by
    unfold emptyL; rw [List.any_eq_false]
    intro r hr; rw [h.key r hr]; simp
  have e2 := err_0 h.pres
  have e3 : ordL seq rows = true := ord_yes fun i hi => by
    have hm := h.rng _ (List.getElem_mem hi)
    have hd : ((rows.take i).any fun o => o.P.Seq == rows[i].P.Seq) = false := by
      rw [List.any_eq_false]
      intro o ho
      obtain ⟨j, hj, rfl⟩ := List.mem_take_iff_getElem.1 ho
      have := List.pairwise_iff_getElem.1 h.diff j i (by omega) hi (by omega)
      simpa using this
    cases i with
    | zero => rw [okAt_0 hi, hd]; simp; omega
    | succ j =>
      have hl := List.pairwise_iff_getElem.1 h.ord j (j + 1) (by omega) hi (by omega)
      have : lessR rows[j] rows[j + 1] = true := by
        unfold lessR
        rw [ByteArray.toList_eq, ByteArray.toList_eq, cmp_less, decide_eq_true_eq]; exact hl
      rw [okAt_s j hi, hd, this]; simp; omega
  have e4 : fullL rows = false := by
    unfold fullL; rw [List.any_eq_false]
    intro r hr; have := h.many r hr; simp; omega
  have h1 := h.len
  have h2 := h.seq0
  have h3 := h.seqM
  unfold bookCheck
  rw [if_neg (by omega), if_neg (by omega), e1, if_neg (by simp), e2, if_neg (by simp), e3, if_neg (by simp), e4, if_neg (by simp)]
theorem pos_of {rows : List BookRow} {k : ByteArray} {p : Nat} (h : StandsAt rows k p) : posL rows k = p := by
  rcases Nat.lt_trichotomy (posL rows k) p with h1 | h1 | h1
  · have hl : posL rows k < rows.length := Nat.lt_of_lt_of_le h1 h.le
    have hx := List.findIdx_getElem (p := fun r => decide (0 ≤ cmpR r k)) (xs := rows) (w := hl)
    rw [decide_eq_true_eq] at hx
    have h2 := h.lt (posL rows k) hl h1
    have hx' : 0 ≤ cmpR rows[posL rows k] k := hx
    omega
  · exact h1
  · have hl : p < rows.length := Nat.lt_of_lt_of_le h1 List.findIdx_le_length
    have h2 := List.not_of_lt_findIdx h1
    have h3 := h.ge p hl (Nat.le_refl _)
    simp at h2; omega
/-- rows that are cut where a key stands. -/
structure Cut3 (K : ByteArray) (A M B : List BookRow) : Prop where
  a : ∀ x ∈ A, cmpR x K < 0
  m : ∀ x ∈ M, cmpR x K = 0
  b : ∀ x ∈ B, 0 < cmpR x K
theorem cut_stands {K : ByteArray} {A M B : List BookRow} (h : Cut3 K A M B) : StandsAt (A ++ (M ++ B)) K A.length := by
  refine ⟨by simp, fun i hi h1 => ?_, fun i hi h1 => ?_⟩
  · rw [List.getElem_append_left h1]; exact h.a _ (List.getElem_mem h1)
  · rw [List.getElem_append_right h1]
    have := List.getElem_mem (l := M ++ B) (n := i - A.length) (by simp at hi ⊢; omega)
    rcases List.mem_append.1 this with g | g
    · rw [h.m _ g]; exact Int.le_refl _
    · exact Int.le_of_lt (h.b _ g)
theorem cut_pos {K : ByteArray} {A M B : List BookRow} (h : Cut3 K A M B) : posL (A ++ (M ++ B)) K = A.length := pos_of (cut_stands h)
theorem cut_yes {K : ByteArray} {A B : List BookRow} {x : BookRow} (h : Cut3 K A [x] B) : foundB (A ++ ([x] ++ B)) K A.length = true := by
  unfold foundB
  have : (A ++ ([x] ++ B))[A.length]? = some x := by rw [List.getElem?_append_right (Nat.le_refl _), Nat.sub_self]; rfl
  rw [this]
  simp [h.m x (by simp)]
theorem cut_no {K : ByteArray} {A B : List BookRow} (h : Cut3 K A [] B) : foundB (A ++ ([] ++ B)) K A.length = false := by
  unfold foundB
  have : (A ++ ([] ++ B))[A.length]? = B[0]? := by rw [List.getElem?_append_right (Nat.le_refl _), Nat.sub_self, List.nil_append]
  rw [this]
  cases B with
  | nil => rfl
  | cons b B =>
    have := h.b b (by simp)
    simp; omega
theorem set_cut {seq : Int} {A B : List BookRow} {M : List BookRow} {u r : ByteArray} {sh prio : Int} (hg : bookCheck seq (A ++ (M ++ B)) = 0) (hM : M.length ≤ 1) (hc : Cut3 (keyL u r) A M B) (hk : ((keyL u r).toList == (⟨#[]⟩ : ByteArray).toList) = false) (hp : presCheckL ⟨true, sh, prio, 0⟩ = 0) (hs : seq < 1099511627776) :
    setL seq (A ++ (M ++ B)) u r sh prio = if M = [] ∧ (16 ≤ (A ++ (M ++ B)).length ∨ 3 ≤ manyL (A ++ (M ++ B)) u) then (seq, A ++ (M ++ B), ⟨false, 0, 0, 0⟩, 7) else (seq + 1, A ++ ([⟨u, r, ⟨true, sh, prio, seq + 1⟩⟩] ++ B), ⟨true, sh, prio, seq + 1⟩, 0) := by
  unfold setL
  have hkr : keyR ⟨u, r, ⟨true, sh, prio, 0⟩⟩ = keyL u r := rfl
  simp only [hkr]
  rw [if_neg (by simpa using hg), if_neg (by rw [hk]; simp), if_neg (by simpa using hp), cut_pos hc]
  rcases M with _ | ⟨x, M⟩
  · rw [cut_no hc]
    by_cases h : 16 ≤ (A ++ ([] ++ B)).length ∨ 3 ≤ manyL (A ++ ([] ++ B)) u
    · rw [if_pos ⟨rfl, h⟩, if_pos ⟨rfl, h⟩]
    · have h1 : ¬ (false = false ∧ (16 ≤ (A ++ ([] ++ B)).length ∨ 3 ≤ manyL (A ++ ([] ++ B)) u)) := fun g => h g.2
      have h2 : ¬ (([] : List BookRow) = [] ∧ (16 ≤ (A ++ ([] ++ B)).length ∨ 3 ≤ manyL (A ++ ([] ++ B)) u)) := fun g => h g.2
      rw [if_neg h1, if_neg h2, if_neg (show ¬ 1099511627776 ≤ seq by omega), if_neg (show ¬ false = true by simp)]
      rw [List.take_left, List.drop_left]; rfl
  · have : M = [] := by cases M with | nil => rfl | cons _ _ => simp at hM
    subst this
    have h1 : ¬ (true = false ∧ (16 ≤ (A ++ ([x] ++ B)).length ∨ 3 ≤ manyL (A ++ ([x] ++ B)) u)) := by rintro ⟨g, _⟩; cases g
    have h2 : ¬ ([x] = [] ∧ (16 ≤ (A ++ ([x] ++ B)).length ∨ 3 ≤ manyL (A ++ ([x] ++ B)) u)) := by rintro ⟨g, _⟩; cases g
    rw [cut_yes hc, if_neg h1, if_neg h2, if_neg (show ¬ 1099511627776 ≤ seq by omega), if_pos (show true = true from rfl)]
    rw [List.take_left, ← List.drop_drop, List.drop_left]; rfl
theorem off_cut {seq : Int} {A B : List BookRow} {M : List BookRow} {u r : ByteArray} (hg : bookCheck seq (A ++ (M ++ B)) = 0) (hM : M.length ≤ 1) (hc : Cut3 (keyL u r) A M B) (hk : ((keyL u r).toList == (⟨#[]⟩ : ByteArray).toList) = false) (hs : seq < 1099511627776) :
    offL seq (A ++ (M ++ B)) u r = if M = [] then (seq, A ++ (M ++ B), ⟨false, 0, 0, 0⟩, 6) else (seq + 1, A ++ ([] ++ B), ⟨false, 0, 0, seq + 1⟩, 0) := by
  unfold offL
  simp only
  rw [if_neg (by simpa using hg), cut_pos hc]
  rcases M with _ | ⟨x, M⟩
  · rw [cut_no hc, if_pos (.inl rfl), if_pos rfl]
  · have : M = [] := by cases M with | nil => rfl | cons _ _ => simp at hM
    subst this
    have h1 : ¬ (true = false ∨ ((keyL u r).toList == (⟨#[]⟩ : ByteArray).toList) = true) := by
      rw [hk]; rintro (g | g) <;> cases g
    rw [cut_yes hc, if_neg h1, if_neg (show ¬ 1099511627776 ≤ seq by omega), if_neg (show ¬ [x] = [] by simp)]
    rw [List.take_left, ← List.drop_drop, List.drop_left]; rfl
def headP : List BookRow → PresPres × Bool
  | [] => (⟨false, 0, 0, 0⟩, false)
  | x :: _ => (x.P, true)
theorem get_cut {seq : Int} {A B : List BookRow} {M : List BookRow} {u r : ByteArray} (hg : bookCheck seq (A ++ (M ++ B)) = 0) (hc : Cut3 (keyL u r) A M B) (hk : ((keyL u r).toList == (⟨#[]⟩ : ByteArray).toList) = false) :
    getL seq (A ++ (M ++ B)) u r = headP M := by
  unfold getL
  simp only
  rw [if_neg (by rw [hk]; simp), if_neg (by simpa using hg), cut_pos hc]
  rcases M with _ | ⟨x, M⟩
  · rw [cut_no hc, if_pos rfl]; rfl
  · have hf : foundB (A ++ (x :: M ++ B)) (keyL u r) A.length = true := by
      unfold foundB
      have : (A ++ (x :: M ++ B))[A.length]? = some x := by rw [List.getElem?_append_right (Nat.le_refl _), Nat.sub_self]; rfl
      rw [this]; simp [hc.m x (by simp)]
    have hx : (A ++ (x :: M ++ B)).getD A.length default = x := by
      rw [List.getD_eq_getElem?_getD, List.getElem?_append_right (Nat.le_refl _), Nat.sub_self]; rfl
    rw [hf, if_neg (by simp), hx]; rfl
end Go.Proofs.YthlhbgedidipkaaGreat
/- The book in plain words: a table of presences under keys that are in order. -/
namespace Go.Proofs.YthlhbgedidipkaaGreat
open Go.RowKit
structure Fam where
  n : Nat
  u : Nat → ByteArray
  r : Nat → ByteArray
  ok : ∀ m, m < n → ((keyL (u m) (r m)).toList == (⟨#[]⟩ : ByteArray).toList) = false ∧ (u m).size ≤ 100 ∧ (r m).size ≤ 100
  mono : ∀ i j, i < j → j < n → Lib.compareBytes (keyL (u i) (r i)).data.toList (keyL (u j) (r j)).data.toList < 0
def Fam.key (F : Fam) (m : Nat) : ByteArray := keyL (F.u m) (F.r m)
def preT (has : List PresPres) (m : Nat) : PresPres := has.getD m ⟨false, 0, 0, 0⟩
def onF (has : List PresPres) (m : Nat) : Bool := (preT has m).On
def rowT (F : Fam) (has : List PresPres) (m : Nat) : BookRow := ⟨F.u m, F.r m, preT has m⟩
def tabA (F : Fam) (has : List PresPres) (l : List Nat) : List BookRow := (l.filter (onF has)).map (rowT F has)
def tabR (F : Fam) (has : List PresPres) : List BookRow := tabA F has (List.range F.n)
theorem tabA_app (F : Fam) (has : List PresPres) (a b : List Nat) : tabA F has (a ++ b) = tabA F has a ++ tabA F has b := by
  unfold tabA; rw [List.filter_append, List.map_append]
theorem range_cut {n k : Nat} (h : k < n) : List.range n = List.range k ++ ([k] ++ (List.range (n - k - 1)).map (k + 1 + ·)) := by
  have : n = k + (1 + (n - k - 1)) := by omega
  rw [this, List.range_add, List.range_add]
  congr 1
  rw [List.map_append]
  simp
  intro a _; omega
theorem tab_split (F : Fam) (has : List PresPres) {k : Nat} (h : k < F.n) : tabR F has = tabA F has (List.range k) ++ (tabA F has [k] ++ tabA F has ((List.range (F.n - k - 1)).map (k + 1 + ·))) := by
  unfold tabR; rw [range_cut h, tabA_app, tabA_app]
theorem preT_set {has : List PresPres} {k : Nat} (p : PresPres) (hk : k < has.length) : preT (has.set k p) k = p := by
  unfold preT; rw [List.getD_eq_getElem?_getD, List.getElem?_set_self hk]; rfl
theorem preT_ne {has : List PresPres} {k m : Nat} (p : PresPres) (h : m ≠ k) : preT (has.set k p) m = preT has m := by
  unfold preT; rw [List.getD_eq_getElem?_getD, List.getD_eq_getElem?_getD, List.getElem?_set_ne (by omega)]
theorem tabA_ne (F : Fam) (has : List PresPres) {k : Nat} (p : PresPres) (l : List Nat) (h : ∀ m ∈ l, m ≠ k) : tabA F (has.set k p) l = tabA F has l := by
  unfold tabA
  have e : l.filter (onF (has.set k p)) = l.filter (onF has) := List.filter_congr fun m hm => by unfold onF; rw [preT_ne p (h m hm)]
  rw [e]
  refine List.map_congr_left fun m hm => ?_
  unfold rowT
  rw [preT_ne p (h m (List.mem_filter.1 hm).1)]
theorem tabA_one (F : Fam) (has : List PresPres) (k : Nat) : tabA F has [k] = if onF has k = true then [rowT F has k] else [] := by
  unfold tabA
  by_cases h : onF has k = true
  · rw [if_pos h, List.filter_cons_of_pos h]; rfl
  · rw [if_neg h, List.filter_cons_of_neg h]; rfl
theorem mem_tabA {F : Fam} {has : List PresPres} {l : List Nat} {x : BookRow} (h : x ∈ tabA F has l) : ∃ m ∈ l, onF has m = true ∧ x = rowT F has m := by
  unfold tabA at h
  obtain ⟨m, hm, rfl⟩ := List.mem_map.1 h
  exact ⟨m, (List.mem_filter.1 hm).1, (List.mem_filter.1 hm).2, rfl⟩
theorem mem_tabR {F : Fam} {has : List PresPres} {x : BookRow} (h : x ∈ tabR F has) : ∃ m, m < F.n ∧ onF has m = true ∧ x = rowT F has m := by
  obtain ⟨m, hm, h1, h2⟩ := mem_tabA h
  exact ⟨m, List.mem_range.1 hm, h1, h2⟩
theorem tab_cut3 (F : Fam) (has : List PresPres) {k : Nat} (h : k < F.n) : Cut3 (F.key k) (tabA F has (List.range k)) (tabA F has [k]) (tabA F has ((List.range (F.n - k - 1)).map (k + 1 + ·))) := by
  refine ⟨fun x hx => ?_, fun x hx => ?_, fun x hx => ?_⟩
  · obtain ⟨m, hm, _, rfl⟩ := mem_tabA hx
    exact F.mono m k (List.mem_range.1 hm) h
  · obtain ⟨m, hm, _, rfl⟩ := mem_tabA hx
    rw [List.mem_singleton] at hm
    subst hm
    exact cmp_refl _
  · obtain ⟨m, hm, _, rfl⟩ := mem_tabA hx
    obtain ⟨j, hj, rfl⟩ := List.mem_map.1 hm
    have hj := List.mem_range.1 hj
    have := F.mono k (k + 1 + j) (by omega) (by omega)
    have h2 := cmp_anti (F.key k).data.toList (F.key (k + 1 + j)).data.toList
    show 0 < Lib.compareBytes (F.key (k + 1 + j)).data.toList (F.key k).data.toList
    have h3 : Lib.compareBytes (F.key k).data.toList (F.key (k + 1 + j)).data.toList < 0 := this
    omega
theorem tab_put_eq (F : Fam) (has : List PresPres) {k : Nat} (p : PresPres) (h : k < F.n) (hl : has.length = F.n) : tabR F (has.set k p) = tabA F has (List.range k) ++ ((if p.On = true then [⟨F.u k, F.r k, p⟩] else []) ++ tabA F has ((List.range (F.n - k - 1)).map (k + 1 + ·))) := by
  have e : preT (has.set k p) k = p := preT_set p (by omega)
  rw [tab_split F _ h, tabA_ne F has p (List.range k) (fun m hm => by have := List.mem_range.1 hm; omega), tabA_ne F has p ((List.range (F.n - k - 1)).map (k + 1 + ·)) (fun m hm => by obtain ⟨j, _, rfl⟩ := List.mem_map.1 hm; omega), tabA_one]
  unfold onF rowT
  rw [e]
structure TabOK (F : Fam) (seq : Int) (has : List PresPres) : Prop where
  len : has.length = F.n
  seq0 : 0 ≤ seq
  pres : ∀ m, m < F.n → onF has m = true → presCheckL (preT has m) = 0
  rng : ∀ m, m < F.n → onF has m = true → 1 ≤ (preT has m).Seq ∧ (preT has m).Seq ≤ seq
  diff : ∀ i j, i < j → j < F.n → onF has i = true → onF has j = true → (preT has i).Seq ≠ (preT has j).Seq
  cnt : (tabR F has).length ≤ 16
  many : ∀ m, m < F.n → onF has m = true → manyL (tabR F has) (F.u m) ≤ 3
theorem range_pw (n : Nat) : (List.range n).Pairwise (fun a b => a < b ∧ b < n) := by
  rw [List.pairwise_iff_getElem]
  intro i j hi hj h
  simp at hi hj ⊢
  omega
theorem tab_good {F : Fam} {seq : Int} {has : List PresPres} (h : TabOK F seq has) (hs : seq ≤ 1099511627776) : Good seq (tabR F has) where
  len := h.cnt
  seq0 := h.seq0
  seqM := hs
  key r hr := by
    obtain ⟨m, hm, _, rfl⟩ := mem_tabR hr
    exact (F.ok m hm).1
  pres r hr := by
    obtain ⟨m, hm, ho, rfl⟩ := mem_tabR hr
    exact ⟨h.pres m hm ho, ho⟩
  rng r hr := by
    obtain ⟨m, hm, ho, rfl⟩ := mem_tabR hr
    exact h.rng m hm ho
  ord := by
    unfold tabR tabA
    rw [List.pairwise_map]
    exact ((range_pw F.n).filter _).imp fun {a b} hab => F.mono a b hab.1 hab.2
  diff := by
    unfold tabR tabA
    rw [List.pairwise_map]
    refine ((range_pw F.n).filter _).imp_of_mem fun {a b} ha hb hab => h.diff a b hab.1 hab.2 (List.mem_filter.1 ha).2 (List.mem_filter.1 hb).2
  many r hr := by
    obtain ⟨m, hm, ho, rfl⟩ := mem_tabR hr
    exact h.many m hm ho
theorem many_app (a b : List BookRow) (v : ByteArray) : manyL (a ++ b) v = manyL a v + manyL b v := by unfold manyL; rw [List.countP_append]
theorem many_one (x : BookRow) (v : ByteArray) : manyL [x] v = if (x.User.toList == v.toList) = true then 1 else 0 := by
  unfold manyL; rw [List.countP_cons, List.countP_nil]; simp
theorem tab_ok_put {F : Fam} {seq : Int} {has : List PresPres} {k : Nat} {p : PresPres} (h : TabOK F seq has) (hk : k < F.n) (hp : p.On = true → presCheckL p = 0 ∧ p.Seq = seq + 1)
    (hroom : p.On = true → onF has k = false → (tabR F has).length < 16 ∧ manyL (tabR F has) (F.u k) < 3) : TabOK F (seq + 1) (has.set k p) := by
  have hlk : k < has.length := by rw [h.len]; exact hk
  have hk' := preT_set p hlk
  have hon : ∀ m, m ≠ k → onF (has.set k p) m = onF has m := fun m hm => by unfold onF; rw [preT_ne p hm]
  have honk : onF (has.set k p) k = p.On := by unfold onF; rw [hk']
  have hput := tab_put_eq F has p hk h.len
  have hold := tab_split F has hk
  rw [tabA_one] at hold
  have hcnt := h.cnt
  have h0 := h.seq0
  refine ⟨by rw [List.length_set]; exact h.len, by omega, fun m hm ho => ?_, fun m hm ho => ?_, fun i j hij hj hi ho => ?_, ?_, fun m hm ho => ?_⟩
  · by_cases e : m = k
    · subst e; rw [honk] at ho; rw [hk']; exact (hp ho).1
    · rw [hon m e] at ho; rw [preT_ne p e]; exact h.pres m hm ho
  · by_cases e : m = k
    · subst e; rw [honk] at ho; rw [hk']; have := (hp ho).2; omega
    · rw [hon m e] at ho; rw [preT_ne p e]; have := h.rng m hm ho; omega
  · by_cases e : i = k
    · subst e
      rw [honk] at hi; rw [hk', preT_ne p (by omega)]
      rw [hon j (by omega)] at ho
      have := h.rng j hj ho
      have := (hp hi).2; omega
    · rw [hon i e] at hi; rw [preT_ne p e]
      by_cases e2 : j = k
      · subst e2
        rw [honk] at ho; rw [hk']
        have := h.rng i (by omega) hi
        have := (hp ho).2; omega
      · rw [hon j e2] at ho; rw [preT_ne p e2]
        exact h.diff i j hij hj hi ho
  · rw [hput]
    rw [hold] at hcnt hroom
    cases ho : p.On with
    | false => rw [if_neg (by simp)]; simp at hcnt ⊢; omega
    | true =>
      rw [if_pos rfl]
      cases ho2 : onF has k with
      | true => rw [ho2, if_pos rfl] at hcnt; simp at hcnt ⊢; omega
      | false => have := (hroom ho ho2).1; rw [ho2, if_neg (by simp)] at this; simp at this ⊢; omega
  · have hm0 : m ≠ k → onF has m = true := fun e => by rw [hon m e] at ho; exact ho
    rw [hput, many_app, many_app]
    have hmany := h.many m hm
    rw [hold, many_app, many_app] at hmany hroom
    cases hp2 : p.On with
    | false =>
      rw [if_neg (by simp)]
      have e : m ≠ k := fun e => by subst e; rw [honk, hp2] at ho; cases ho
      have := hmany (hm0 e)
      have : manyL [] (F.u m) = 0 := rfl
      omega
    | true =>
      rw [if_pos rfl, many_one]
      cases ho2 : onF has k with
      | true =>
        rw [ho2, if_pos rfl, many_one] at hmany
        have hmo : onF has m = true := by
          by_cases e : m = k
          · rw [e]; exact ho2
          · exact hm0 e
        exact hmany hmo
      | false =>
        have hr := (hroom hp2 ho2).2
        rw [ho2, if_neg (by simp)] at hmany hr
        by_cases e : m = k
        · subst e
          have : manyL [] (F.u m) = 0 := rfl
          split <;> omega
        · have h1 := hmany (hm0 e)
          have : ∀ v, manyL [] v = 0 := fun v => rfl
          by_cases e2 : ((F.u k).toList == (F.u m).toList) = true
          · have e3 : F.u k = F.u m := by
              have := eq_of_beq e2
              rw [ByteArray.toList_eq, ByteArray.toList_eq] at this
              exact bl_inj this
            rw [if_pos e2]
            rw [← e3]
            have := this (F.u k)
            omega
          · rw [if_neg e2]
            have := this (F.u m)
            omega
end Go.Proofs.YthlhbgedidipkaaGreat
