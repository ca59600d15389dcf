/- A part of the proof: 4 texts joined. -/
import Derived.Test.YtmmmcpeickfolaaYaA13
import Derived.Test.YtmmmcpeickfolaaYaA15
import Derived.Test.YtmmmcpeickfolaaYaA14
import Derived.KernelRfl
import Derived.Test.YtmmmcpeickfolaaYaA12
set_option linter.all false
namespace Go.Proofs.Ytmmmcpeickfolaa
open Go.RowKit
def p_roster_State_errors_l1 (z5:List ItemItem) (z6:Int):Nat→Int→Option (Int ⊕ Int)
 | 0,_=>none
 | n + 1,y7 =>
  bif (decide (y7 < z6)) then
   (at? z5 y7).bind fun x9 =>
   (p_item_Check x9).bind fun v10 =>
   bif (v10 != (0:Int)) then
    some (.inl v10)
   else
   (p_item_Idle x9).bind fun v12 =>
   bif v12 then
    some (.inl (4:Int))
   else
   p_roster_State_errors_l1 z5 z6 n (w64 (y7 + (1:Int)))
  else
  some (.inr y7)
def p_roster_State_errors (a0:RosterState):Option (Int) :=
 (p_roster_State_errors_l1 a0.Items (a0.Items.length:Int) fuel (0:Int)).bind fun o14=>match o14 with
 | .inl q15 =>
  some q15
 | .inr q16 =>
  some (0:Int)
def p_roster_Check_1 (a0:RosterGone):Option (Bool) :=
 (p_addr_IsBare a0.Contact).bind fun v1 =>
 some (!v1)
def p_slices_ContainsFunc_roster_Gone (a0:List RosterGone) (a1:RosterGone→Option Bool):Option (Bool) :=
 (p_slices_IndexFunc_roster_Gone a0 a1).bind fun v1 =>
 some (decide ((0:Int)≤v1))
def p_roster_State_of_1 (a0:ItemItem) (c0:Int):Option (Bool) :=
 some (a0.Ver == c0)
def p_slices_IndexFunc_item_Item_l1 (a1:ItemItem→Option Bool) (z5:List ItemItem) (z6:Int):Nat→Int→Option (Int ⊕ Int)
 | 0,_=>none
 | n + 1,y7 =>
  bif (decide (y7 < z6)) then
   (at? z5 y7).bind fun x9 =>
   (a1 x9).bind fun v10 =>
   bif v10 then
    some (.inl y7)
   else
   p_slices_IndexFunc_item_Item_l1 a1 z5 z6 n (w64 (y7 + (1:Int)))
  else
  some (.inr y7)
def p_slices_IndexFunc_item_Item (a0:List ItemItem) (a1:ItemItem→Option Bool):Option (Int) :=
 (p_slices_IndexFunc_item_Item_l1 a1 a0 (a0.length:Int) fuel (0:Int)).bind fun o12=>match o12 with
 | .inl q13 =>
  some q13
 | .inr q14 =>
  some (-1:Int)
def p_roster_State_of (a0:RosterState) (a1:Int):Option (Int) :=
 (p_slices_IndexFunc_item_Item a0.Items (fun x0=>p_roster_State_of_1 x0 a1)).bind fun v1 =>
 some v1
def p_roster_State_rise_l1 (z6:List ItemItem) (z7:Int) (z9:RosterState):Nat→Int→Option (Bool ⊕ Int)
 | 0,_=>none
 | n + 1,y8 =>
  bif (decide (y8 < z7)) then
   (at? z6 y8).bind fun x11 =>
   bif (decide (x11.Ver < (1:Int))) then
    some (.inl false)
   else
   bif (decide (z9.Ver < x11.Ver)) then
    some (.inl false)
   else
   (p_roster_State_of z9 x11.Ver).bind fun v14 =>
   bif (v14 != y8) then
    some (.inl false)
   else
   bif (decide ((0:Int) < y8)) then
    (at? z9.Items (w64 (y8 - (1:Int)))).bind fun x17 =>
    bif (Op.bytesLess x17.Contact.toList x11.Contact.toList) then
     p_roster_State_rise_l1 z6 z7 z9 n (w64 (y8 + (1:Int)))
    else
    some (.inl false)
   else
   p_roster_State_rise_l1 z6 z7 z9 n (w64 (y8 + (1:Int)))
  else
  some (.inr y8)
def p_roster_State_rise (a0:RosterState):Option (Bool) :=
 (p_roster_State_rise_l1 a0.Items (a0.Items.length:Int) a0 fuel (0:Int)).bind fun o19=>match o19 with
 | .inl q20 =>
  some q20
 | .inr q21 =>
  some true
def p_roster_State_left_1 (a0:RosterGone) (c0:RosterGone):Option (Bool) :=
 some (a0.Contact.toList == c0.Contact.toList)
def p_roster_State_left_l1 (z8:List RosterGone) (z9:Int) (z11:RosterState):Nat→Int→Int→Option (Bool ⊕ (Int × Int))
 | 0,_,_=>none
 | n + 1,y7,y10 =>
  bif (decide (y10 < z9)) then
   (at? z8 y10).bind fun x13 =>
   bif (decide (x13.Ver≤y7)) then
    some (.inl false)
   else
   bif (decide (z11.Ver < x13.Ver)) then
    some (.inl false)
   else
   (cut? z11.Gone none (some y10)).bind fun x16 =>
   (p_slices_ContainsFunc_roster_Gone x16 (fun x0=>p_roster_State_left_1 x0 x13)).bind fun v17 =>
   bif v17 then
    some (.inl false)
   else
   (p_roster_State_of z11 x13.Ver).bind fun v19 =>
   bif (decide ((0:Int)≤v19)) then
    (at? z11.Items v19).bind fun x21 =>
    bif (x21.Contact.toList == x13.Contact.toList) then
     (p_roster_State_find z11 x13.Contact).bind fun v23 =>
     bif v23.2 then
      (at? z11.Items v23.1).bind fun x25 =>
      (p_item_Listed x25).bind fun v26 =>
      bif v26 then
       some (.inl false)
      else
      p_roster_State_left_l1 z8 z9 z11 n x13.Ver (w64 (y10 + (1:Int)))
     else
     p_roster_State_left_l1 z8 z9 z11 n x13.Ver (w64 (y10 + (1:Int)))
    else
    some (.inl false)
   else
   (p_roster_State_find z11 x13.Contact).bind fun v28 =>
   bif v28.2 then
    (at? z11.Items v28.1).bind fun x30 =>
    (p_item_Listed x30).bind fun v31 =>
    bif v31 then
     some (.inl false)
    else
    p_roster_State_left_l1 z8 z9 z11 n x13.Ver (w64 (y10 + (1:Int)))
   else
   p_roster_State_left_l1 z8 z9 z11 n x13.Ver (w64 (y10 + (1:Int)))
  else
  some (.inr (y7,y10))
def p_roster_State_left (a0:RosterState):Option (Bool) :=
 (p_roster_State_left_l1 a0.Gone (a0.Gone.length:Int) a0 fuel a0.Floor (0:Int)).bind fun o33=>match o33 with
 | .inl q34 =>
  some q34
 | .inr q35 =>
  some true
def p_roster_Check (a0:RosterState):Option (Int) :=
 bif (decide ((12:Int) < (a0.Items.length:Int))) then
  some (5:Int)
 else
 bif (decide ((8:Int) < (a0.Gone.length:Int))) then
  some (5:Int)
 else
 bif (decide (a0.Ver < (0:Int))) then
  some (8:Int)
 else
 bif (decide ((1099511627776:Int) < a0.Ver)) then
  some (8:Int)
 else
 bif (decide (a0.Floor < (0:Int))) then
  some (8:Int)
 else
 bif (decide (a0.Ver < a0.Floor)) then
  some (8:Int)
 else
 (p_roster_State_errors a0).bind fun v7 =>
 bif (v7 != (0:Int)) then
  some v7
 else
 (p_slices_ContainsFunc_roster_Gone a0.Gone (fun x0=>p_roster_Check_1 x0)).bind fun v9 =>
 bif v9 then
  some (11:Int)
 else
 (p_roster_State_rise a0).bind fun v11 =>
 bif v11 then
  (p_roster_State_left a0).bind fun v13 =>
  bif v13 then
   some (0:Int)
  else
  some (10:Int)
 else
 some (10:Int)
def p_roster_Find (a0:RosterState) (a1:ByteArray):Option (ItemItem × Bool) :=
 (p_roster_Check a0).bind fun v1 =>
 bif (v1 != (0:Int)) then
  some ((ItemItem.mk (⟨#[]⟩ : ByteArray) (⟨#[]⟩ : ByteArray) (0:Int) (0:Int) false),false)
 else
 (p_roster_State_find a0 a1).bind fun v3 =>
 bif v3.2 then
  (at? a0.Items v3.1).bind fun x5 =>
  some (x5,true)
 else
 some ((ItemItem.mk (⟨#[]⟩ : ByteArray) (⟨#[]⟩ : ByteArray) (0:Int) (0:Int) false),false)
def p_roster_State_may (a0:RosterState) (a1:Bool) (a2:Bool):Option (Int) :=
 bif a2 then
  bif a1 then
   bif (decide ((1099511627776:Int)≤a0.Ver)) then
    some (9:Int)
   else
   some (0:Int)
  else
  bif (decide ((12:Int)≤(a0.Items.length:Int))) then
   some (7:Int)
  else
  bif (decide ((1099511627776:Int)≤a0.Ver)) then
   some (9:Int)
  else
  some (0:Int)
 else
 bif (decide ((1099511627776:Int)≤a0.Ver)) then
  some (9:Int)
 else
 some (0:Int)
def p_roster_Sub (a0:RosterState) (a1:ByteArray) (a2:Int):Option (RosterState × Int) :=
 (p_roster_State_own a0).bind fun v1 =>
 (p_roster_Check a0).bind fun v2 =>
 bif (v2 != (0:Int)) then
  some (v1,v2)
 else
 (p_addr_IsBare a1).bind fun v4 =>
 bif v4 then
  (p_subs_Check a2).bind fun v6 =>
  bif (v6 != (0:Int)) then
   some (v1,v6)
  else
  (p_roster_Find a0 a1).bind fun v8 =>
  (p_roster_State_may a0 v8.2 (a2 != (0:Int))).bind fun v9 =>
  bif (v9 != (0:Int)) then
   some (v1,v9)
  else
  bif (v8.1.Sub == a2) then
   some (v1,(0:Int))
  else
  ((
   some ()):Option (Unit)).bind fun q13 =>
  (p_roster_State_change v1 (ItemItem.mk a1 v8.1.Name a2 v8.1.Ver v8.1.Own)).bind fun v14 =>
  some (v14,(0:Int))
 else
 some (v1,(11:Int))
def p_roster_Drop (a0:RosterState) (a1:ByteArray):Option (RosterState × Int) :=
 (p_roster_State_own a0).bind fun v1 =>
 (p_roster_Check a0).bind fun v2 =>
 bif (v2 != (0:Int)) then
  some (v1,v2)
 else
 (p_roster_State_find a0 a1).bind fun v4 =>
 bif v4.2 then
  ((
   (p_roster_State_may a0 true false).bind fun v6 =>
   bif (v6 != (0:Int)) then
    some (.inl (v1,v6))
   else
   some (.inr ())):Option ((RosterState × Int) ⊕ Unit)).bind fun o8=>match o8 with
  | .inl q9 =>
   some q9
  | .inr q10 =>
   (p_roster_State_change v1 (ItemItem.mk a1 (⟨#[]⟩ : ByteArray) (0:Int) (0:Int) false)).bind fun v11 =>
   some (v11,(0:Int))
 else
 some (v1,(6:Int))
end Go.Proofs.Ytmmmcpeickfolaa

namespace Go.Proofs.Ytmmmcpeickfolaa
open Go.RowKit
structure Ar2_Bool where
 a0:Bool
 a1:Bool
abbrev Ar2_Bool.v (x:Ar2_Bool):V:=.agg [.b x.a0,.b x.a1]
structure Ar2_Int where
 a0:Int
 a1:Int
abbrev Ar2_Int.v (x:Ar2_Int):V:=.agg [.y8 x.a0,.y8 x.a1]
def p_pair_Check (a0:Ref22Names) (a1:Ref22State):Option (Int) :=
 (p_addr_IsBare a0.A).bind fun v1 =>
 bif v1 then
  (p_addr_IsBare a0.B).bind fun v3 =>
  bif v3 then
   bif (a0.A.toList == a0.B.toList) then
    some (2:Int)
   else
   (p_roster_Check a1.A).bind fun v6 =>
   bif (v6 != (0:Int)) then
    some v6
   else
   (p_roster_Check a1.B).bind fun v8 =>
   some v8
  else
  some (11:Int)
 else
 some (11:Int)
def p_pair_said (a0:Int):Option (Bool) :=
 bif (decide ((7:Int)≤a0)) then
  some (decide (a0≤(10:Int)))
 else
 some false
def p_pair_State_has (a0:Ref22State) (a1:Ref22Names):Option (Int) :=
 (p_roster_Find a0.A a1.B).bind fun v1 =>
 some v1.1.Sub
def p_pair_State_turn (a0:Ref22State):Option (Ref22State) :=
 some (Ref22State.mk a0.B a0.A)
def p_pair_Names_turn (a0:Ref22Names):Option (Ref22Names) :=
 some (Ref22Names.mk a0.B a0.A)
def p_pair_State_set (a0:Ref22State) (a1:Ref22Names) (a2:Int) (a3:Int):Option (Ref22State × Int) :=
 (p_roster_Sub a0.A a1.B a2).bind fun v1 =>
 bif (v1.2 != (0:Int)) then
  some (a0,v1.2)
 else
 (p_roster_Sub a0.B a1.A a3).bind fun v3 =>
 bif (v3.2 != (0:Int)) then
  some (a0,v3.2)
 else
 some ((Ref22State.mk v1.1 v3.1),(0:Int))
def p_pair_Say (a0:Ref22Names) (a1:Ref22State) (a2:Int):Option (Ref22State × PairDone × Int) :=
 (p_pair_Check a0 a1).bind fun v1 =>
 bif (v1 != (0:Int)) then
  some (a1,(PairDone.mk false false false false),v1)
 else
 (p_pair_said a2).bind fun v3 =>
 bif v3 then
  (p_pair_State_has a1 a0).bind fun v5 =>
  (p_subs_Out v5 a2).bind fun v6 =>
  (p_pair_State_turn a1).bind fun v7 =>
  (p_pair_Names_turn a0).bind fun v8 =>
  (p_pair_State_has v7 v8).bind fun v9 =>
  bif v6.2 then
   (p_subs_In v9 a2).bind fun v11 =>
   (p_pair_State_set a1 a0 v6.1 v11.1).bind fun v12 =>
   bif (v12.2 != (0:Int)) then
    some (a1,(PairDone.mk false false false false),v12.2)
   else
   some (v12.1,(PairDone.mk v6.2 v11.2 (v12.1.A.Ver != a1.A.Ver) (v12.1.B.Ver != a1.B.Ver)),(0:Int))
  else
  (p_pair_State_set a1 a0 v6.1 v9).bind fun v14 =>
  bif (v14.2 != (0:Int)) then
   some (a1,(PairDone.mk false false false false),v14.2)
  else
  some (v14.1,(PairDone.mk v6.2 false (v14.1.A.Ver != a1.A.Ver) (v14.1.B.Ver != a1.B.Ver)),(0:Int))
 else
 some (a1,(PairDone.mk false false false false),(12:Int))
def p_pair_Remove_l1 (z14:Ar2_Int) (z17:Ref22Names) (z18:Ref22State):Nat→Int→Ref22State→Ar2_Bool→Option ((Ref22State × Ar2_Bool × Int) ⊕ (Int × Ref22State × Ar2_Bool))
 | 0,_,_,_=>none
 | n + 1,y15,y16,y21 =>
  bif (decide (y15 < (2:Int))) then
   (at? [z14.a0,z14.a1] y15).bind fun x23 =>
   (p_pair_Say z17 y16 x23).bind fun v24 =>
   bif (v24.2.2 != (0:Int)) then
    some (.inl (z18,(Ar2_Bool.mk false false),v24.2.2))
   else
   bif (y15 == (0:Int)) then
    p_pair_Remove_l1 z14 z17 z18 n (w64 (y15 + (1:Int))) v24.1 (Ar2_Bool.mk v24.2.1.Told y21.a1)
   else
   bif (y15 == (1:Int)) then
    p_pair_Remove_l1 z14 z17 z18 n (w64 (y15 + (1:Int))) v24.1 (Ar2_Bool.mk y21.a0 v24.2.1.Told)
   else
   none
  else
  some (.inr (y15,y16,y21))
def p_pair_Remove (a0:Ref22Names) (a1:Ref22State):Option (Ref22State × Ar2_Bool × Int) :=
 (p_pair_Check a0 a1).bind fun v1 =>
 bif (v1 != (0:Int)) then
  some (a1,(Ar2_Bool.mk false false),v1)
 else
 (p_roster_Find a1.A a0.B).bind fun v3 =>
 bif v3.2 then
  (p_pair_Remove_l1 (Ar2_Int.mk (10:Int) (9:Int)) a0 a1 fuel (0:Int) a1 (Ar2_Bool.mk false false)).bind fun o26=>match o26 with
  | .inl q27 =>
   some q27
  | .inr q28 =>
   (p_roster_Find q28.2.1.A a0.B).bind fun v29 =>
   bif v29.2 then
    (p_roster_Drop q28.2.1.A a0.B).bind fun v31 =>
    bif (v31.2 != (0:Int)) then
     some (a1,(Ar2_Bool.mk false false),v31.2)
    else
    some ((Ref22State.mk v31.1 q28.2.1.B),q28.2.2,(0:Int))
   else
   some (q28.2.1,q28.2.2,(0:Int))
 else
 some (a1,(Ar2_Bool.mk false false),(6:Int))
def p_pair_Agree (a0:Ref22Names) (a1:Ref22State):Option (Bool) :=
 (p_pair_Check a0 a1).bind fun v1 =>
 bif (v1 == (0:Int)) then
  (p_pair_State_has a1 a0).bind fun v3 =>
  (p_pair_State_turn a1).bind fun v4 =>
  (p_pair_Names_turn a0).bind fun v5 =>
  (p_pair_State_has v4 v5).bind fun v6 =>
  (p_subs_Agree v3 v6).bind fun v7 =>
  some v7
 else
 some false
def p_pair_Sees (a0:Ref22Names) (a1:Ref22State):Option (Bool) :=
 (p_pair_Check a0 a1).bind fun v1 =>
 bif (v1 == (0:Int)) then
  (p_pair_State_has a1 a0).bind fun v3 =>
  some ((andI .i64 v3 (1:Int)) != (0:Int))
 else
 some false
def p_pair_Turn (a0:Ref22Names) (a1:Ref22State):Option (Ref22Names × Ref22State) :=
 (p_pair_Names_turn a0).bind fun v1 =>
 (p_pair_State_turn a1).bind fun v2 =>
 some (v1,v2)
def p_pair_Run_l1 (z11:ByteArray) (z12:ByteArray) (z14:List PairAct) (z15:Int) (z17:Ref22Names):Nat→(List PairDone)→Int→Ref22State→Option (((List PairDone) × Int × Ref22State))
 | 0,_,_,_=>none
 | n + 1,y13,y16,y18 =>
  bif (decide (y16 < z15)) then
   (at? z14 y16).bind fun x21 =>
   bif x21.Back then
    (p_pair_Names_turn (Ref22Names.mk z11 z12)).bind fun v23 =>
    (p_pair_State_turn y18).bind fun v24 =>
    (p_pair_Say v23 v24 x21.Kind).bind fun v25 =>
    (p_pair_State_turn v25.1).bind fun v26 =>
    (app? y13 [v25.2.1]).bind fun l27 =>
    p_pair_Run_l1 z11 z12 z14 z15 z17 n l27 (w64 (y16 + (1:Int))) v26
   else
   (p_pair_Say z17 y18 x21.Kind).bind fun v28 =>
   (app? y13 [v28.2.1]).bind fun l29 =>
   p_pair_Run_l1 z11 z12 z14 z15 z17 n l29 (w64 (y16 + (1:Int))) v28.1
  else
  some (y13,y16,y18)
def p_pair_Run (a0:Ref22Names) (a1:Ref22State) (a2:List PairAct):Option (Ref22State × (List PairDone)) :=
 (p_pair_Run_l1 a0.A a0.B a2 (a2.length:Int) a0 fuel [] (0:Int) a1).bind fun q31 =>
 some (q31.2.2,q31.1)
def p_ref22_SameDone_l1 (z6:List PairDone) (z7:List PairDone):Nat→Int→Option (Bool ⊕ Int)
 | 0,_=>none
 | n + 1,y8 =>
  bif (decide (y8 < (z6.length:Int))) then
   (at? z6 y8).bind fun x10 =>
   (at? z7 y8).bind fun x11 =>
   bif ((x10.Passed == x11.Passed) && ((x10.Told == x11.Told) && ((x10.Listed == x11.Listed) && ((x10.Knows == x11.Knows) && true)))) then
    p_ref22_SameDone_l1 z6 z7 n (w64 (y8 + (1:Int)))
   else
   some (.inl false)
  else
  some (.inr y8)
def p_ref22_SameDone (a0:List PairDone) (a1:List PairDone):Option (Bool) :=
 bif ((a0.length:Int) != (a1.length:Int)) then
  some false
 else
 (p_ref22_SameDone_l1 a0 a1 fuel (0:Int)).bind fun o13=>match o13 with
 | .inl q14 =>
  some q14
 | .inr q15 =>
  some true
def p_law22_done_l1 (z5:List PairDone):Nat→(List PairDone)→Int→Option (((List PairDone) × Int))
 | 0,_,_=>none
 | n + 1,y6,y7 =>
  bif (decide (y7 < (z5.length:Int))) then
   (at? z5 y7).bind fun x9 =>
   (app? y6 [x9]).bind fun l10 =>
   p_law22_done_l1 z5 n l10 (w64 (y7 + (1:Int)))
  else
  some (y6,y7)
def p_law22_done (a0:List PairDone):Option ((List PairDone)) :=
 (p_law22_done_l1 a0 fuel [] (0:Int)).bind fun q12 =>
 some q12.1
end Go.Proofs.Ytmmmcpeickfolaa

namespace Go.Proofs.Ytmmmcpeickfolaa
open Go.RowKit
def p_law22_awake:Option (Bool) :=
 (p_pair_Run (Ref22Names.mk (⟨#[97,64,120]⟩ : ByteArray) (⟨#[98,64,120]⟩ : ByteArray)) (Ref22State.mk (RosterState.mk (0:Int) (0:Int) [] []) (RosterState.mk (0:Int) (0:Int) [] [])) [(PairAct.mk (7:Int) false),(PairAct.mk (8:Int) true),(PairAct.mk (8:Int) false)]).bind fun v1 =>
 (p_pair_Remove (Ref22Names.mk (⟨#[97,64,120]⟩ : ByteArray) (⟨#[98,64,120]⟩ : ByteArray)) v1.1).bind fun v2 =>
 (p_pair_Turn (Ref22Names.mk (⟨#[97,64,120]⟩ : ByteArray) (⟨#[98,64,120]⟩ : ByteArray)) v1.1).bind fun v3 =>
 (p_pair_Remove (Ref22Names.mk (⟨#[97,64,120]⟩ : ByteArray) (⟨#[98,64,120]⟩ : ByteArray)) v2.1).bind fun v4 =>
 (p_pair_Say (Ref22Names.mk (⟨#[97,64,120]⟩ : ByteArray) (⟨#[98,64,120]⟩ : ByteArray)) v1.1 (15:Int)).bind fun v5 =>
 (p_law22_done v1.2).bind fun v6 =>
 (p_ref22_SameDone v6 [(PairDone.mk true true true true),(PairDone.mk true true true true),(PairDone.mk false false false false)]).bind fun v7 =>
 bif v7 then
  (p_pair_Sees (Ref22Names.mk (⟨#[97,64,120]⟩ : ByteArray) (⟨#[98,64,120]⟩ : ByteArray)) v1.1).bind fun v9 =>
  bif v9 then
   (p_pair_Sees v3.1 v3.2).bind fun v11 =>
   bif v11 then
    some false
   else
   (p_pair_Agree (Ref22Names.mk (⟨#[97,64,120]⟩ : ByteArray) (⟨#[98,64,120]⟩ : ByteArray)) v1.1).bind fun v13 =>
   bif v13 then
    bif (v2.2.2 == (0:Int)) then
     bif ((v2.2.1.a0 == true) && ((v2.2.1.a1 == false) && true)) then
      (p_pair_Sees (Ref22Names.mk (⟨#[97,64,120]⟩ : ByteArray) (⟨#[98,64,120]⟩ : ByteArray)) v2.1).bind fun v17 =>
      bif v17 then
       some false
      else
      bif (v4.2.2 == (6:Int)) then
       bif (v5.2.2 == (12:Int)) then
        (p_pair_Check (Ref22Names.mk (⟨#[97,64,120]⟩ : ByteArray) (⟨#[98,64,120]⟩ : ByteArray)) v2.1).bind fun v21 =>
        bif (v21 == (0:Int)) then
         (p_pair_Check (Ref22Names.mk (⟨#[97,64,120]⟩ : ByteArray) (⟨#[97,64,120]⟩ : ByteArray)) v2.1).bind fun v23 =>
         bif (v23 == (2:Int)) then
          some true
         else
         some false
        else
        some false
       else
       some false
      else
      some false
     else
     some false
    else
    some false
   else
   some false
  else
  some false
 else
 some false
def p_law22_PairAgree_l1 (z8:List PairAct) (z10:Ref22Names):Nat→Int→Ref22State→Option (Bool ⊕ (Int × Ref22State))
 | 0,_,_=>none
 | n + 1,y9,y11 =>
  bif (decide (y9 < (z8.length:Int))) then
   ((
    (at? z8 y9).bind fun x13 =>
    bif x13.Back then
     (p_pair_Turn z10 y11).bind fun v15 =>
     some (v15.1,v15.2)
    else
    some (z10,y11)):Option ((Ref22Names × Ref22State))).bind fun q17 =>
   ((
    (at? z8 y9).bind fun x18 =>
    bif ((Int.tmod x18.Kind (5:Int)) == (4:Int)) then
     (p_pair_Remove q17.1 q17.2).bind fun v20 =>
     (p_pair_Turn q17.1 v20.1).bind fun v21 =>
     bif (v20.2.2 == (0:Int)) then
      (p_pair_Sees q17.1 v20.1).bind fun v23 =>
      bif v23 then
       some (.inl false)
      else
      (p_pair_Sees v21.1 v21.2).bind fun v25 =>
      bif v25 then
       some (.inl false)
      else
      bif (v20.2.2 != (0:Int)) then
       bif (v20.2.2 != (6:Int)) then
        some (.inl false)
       else
       some (.inr v20.1)
      else
      some (.inr v20.1)
     else
     bif (v20.2.2 != (0:Int)) then
      bif (v20.2.2 != (6:Int)) then
       some (.inl false)
      else
      some (.inr v20.1)
     else
     some (.inr v20.1)
    else
    (at? z8 y9).bind fun x31 =>
    (p_pair_Say q17.1 q17.2 (IntKind.wrap .u8 ((7:Int) + (Int.tmod x31.Kind (5:Int))))).bind fun v32 =>
    bif (v32.2.2 != (0:Int)) then
     some (.inl false)
    else
    bif v32.2.1.Told then
     bif v32.2.1.Passed then
      some (.inr v32.1)
     else
     some (.inl false)
    else
    bif v32.2.1.Passed then
     some (.inr v32.1)
    else
    bif v32.2.1.Knows then
     some (.inl false)
    else
    bif v32.2.1.Listed then
     some (.inl false)
    else
    some (.inr v32.1)):Option (Bool ⊕ Ref22State)).bind fun o39=>match o39 with
   | .inl q40 =>
    some (.inl q40)
   | .inr q41 =>
    ((
     (at? z8 y9).bind fun x42 =>
     bif x42.Back then
      (p_pair_Turn q17.1 q41).bind fun v44 =>
      some (v44.1,v44.2)
     else
     some (q17.1,q41)):Option ((Ref22Names × Ref22State))).bind fun q46 =>
    bif ((q46.1.A.toList == z10.A.toList) && ((q46.1.B.toList == z10.B.toList) && true)) then
     (p_pair_Agree z10 q46.2).bind fun v48 =>
     bif v48 then
      (p_pair_Check z10 q46.2).bind fun v50 =>
      bif (v50 != (0:Int)) then
       some (.inl false)
      else
      p_law22_PairAgree_l1 z8 z10 n (w64 (y9 + (1:Int))) q46.2
     else
     some (.inl false)
    else
    some (.inl false)
  else
  some (.inr (y9,y11))
def p_law22_PairAgree (a0:List PairAct):Option (Bool) :=
 bif (decide ((60:Int) < (a0.length:Int))) then
  (p_law22_awake).bind fun v2 =>
  some v2
 else
 (p_law22_PairAgree_l1 a0 (Ref22Names.mk (⟨#[97,110,110,64,120]⟩ : ByteArray) (⟨#[98,111,98,64,121]⟩ : ByteArray)) fuel (0:Int) (Ref22State.mk (RosterState.mk (0:Int) (0:Int) [] []) (RosterState.mk (0:Int) (0:Int) [] []))).bind fun o52=>match o52 with
 | .inl q53 =>
  some q53
 | .inr q54 =>
  (p_law22_awake).bind fun v55 =>
  some v55
end Go.Proofs.Ytmmmcpeickfolaa

namespace Go.Proofs.Ytmmmcpeickfolaa
open Go.ChangeShapes Go.WideShapes Go.ChangeAt Go.RowKit Go.Joins Go.Deep
structure PairAct.Wf (x:PairAct):Prop where
 Kind:(Lit.int .u8 x.Kind).wf=true
set_option maxRecDepth 100000 in
theorem rd_T74 {H:Type} {enc:TypeId × Value→H} {W:World} {spare:Nat→Bool} {held:Bool} {fuel:Nat} {cs:List Value} {y:DataW H × List MemPlace} (h:DataW.trod enc Try.prog W 0 spare held fuel 74 cs=some y):∃ x:PairAct,PairAct.Wf x∧RepL (MW W) noBk cs [.y8 x.Kind,.b x.Back]:=by
 obtain ⟨xs,n,_,_,hl,hx,hall⟩:=DataW.trod_struct Try.underlying74 h
 have hce:Try.prog.cellsOf 74=2:=by kernel_rfl
 rw [hce] at hl
 match cs,hl,hall with
 | [c0,c1],_,hall =>
  obtain ⟨y0,hy0⟩:=get_some hx (show 0 < 2 by omega)
  have g0:DataW.trod enc Try.prog W 0 spare held n 5 [c0]=some y0:=by
   have hz:Try.prog.cellsOf 5=1:=by kernel_rfl
   have g:DataW.trod enc Try.prog W 0 spare held n 5 (([c0,c1].drop 0).take (Try.prog.cellsOf 5))=some y0:=(hall 0 _ rfl).trans hy0
   rw [hz] at g;exact g
  obtain ⟨x0,w0,r0⟩:=rd_int Try.underlying5 g0
  obtain ⟨y1,hy1⟩:=get_some hx (show 1 < 2 by omega)
  have g1:DataW.trod enc Try.prog W 0 spare held n 4 [c1]=some y1:=by
   have hz:Try.prog.cellsOf 4=1:=by kernel_rfl
   have g:DataW.trod enc Try.prog W 0 spare held n 4 (([c0,c1].drop 1).take (Try.prog.cellsOf 4))=some y1:=(hall 1 _ rfl).trans hy1
   rw [hz] at g;exact g
  obtain ⟨x1,r1⟩:=rd_bool Try.underlying4 g1
  exact ⟨⟨x0,x1⟩,⟨w0⟩,repL_app r0 (repL_app r1 (repL_nil))⟩
theorem rd_T68 {H:Type} {enc:TypeId × Value→H} {W:World} {spare:Nat→Bool} {held:Bool} {fuel:Nat} {cs:List Value} {y:DataW H × List MemPlace} (h:DataW.trod enc Try.prog W 0 spare held fuel 68 cs=some y):∃ x:List PairAct,(∀ z ∈ x,PairAct.Wf z)∧RepL (MW W) noBk cs [(fun l:List PairAct=>V.sl (l.map PairAct.v) false) x] :=
 rd_slice (f:=PairAct.v) (es:=2) (wf:=PairAct.Wf) Try.underlying68 (fun _=>rfl) (by intro a v hv;simp [V.cells] at hv;first | (subst hv;rfl) | (rcases hv with rfl | rfl <;> rfl)) (by omega) (by kernel_rfl) (fun n cs y h=>rd_T74 h) h
end Go.Proofs.Ytmmmcpeickfolaa

