/- A part of the proof: 5 texts joined. -/
import Derived.Test.YtpmoioopjbfhkaaGreatWgA3
import Derived.Test.YtpmoioopjbfhkaaGreatWgA4
import Derived.KernelRfl
import Derived.Test.YtpmoioopjbfhkaaGreatWgA1
set_option linter.all false
namespace Go.Proofs.YtpmoioopjbfhkaaGreat
open Go.RowKit
def p_roster_State_errors_l1 (z5:List ItemItem) (z6:Int):Nat→Int→Option (Int ⊕ Int)
 | 0,_=>none
 | n + 1,y7 =>
  bif (decide (y7 < z6)) then
   (at? z5 y7).bind fun x9 =>
   (p_item_Check x9).bind fun v10 =>
   bif (v10 != (0:Int)) then
    some (.inl v10)
   else
   (p_item_Idle x9).bind fun v12 =>
   bif v12 then
    some (.inl (4:Int))
   else
   p_roster_State_errors_l1 z5 z6 n (w64 (y7 + (1:Int)))
  else
  some (.inr y7)
def p_roster_State_errors (a0:RosterState):Option (Int) :=
 (p_roster_State_errors_l1 a0.Items (a0.Items.length:Int) fuel (0:Int)).bind fun o14=>match o14 with
 | .inl q15 =>
  some q15
 | .inr q16 =>
  some (0:Int)
def p_roster_Check_1 (a0:RosterGone):Option (Bool) :=
 (p_addr_IsBare a0.Contact).bind fun v1 =>
 some (!v1)
def p_slices_ContainsFunc_roster_Gone (a0:List RosterGone) (a1:RosterGone→Option Bool):Option (Bool) :=
 (p_slices_IndexFunc_roster_Gone a0 a1).bind fun v1 =>
 some (decide ((0:Int)≤v1))
def p_roster_State_of_1 (a0:ItemItem) (c0:Int):Option (Bool) :=
 some (a0.Ver == c0)
def p_slices_IndexFunc_item_Item_l1 (a1:ItemItem→Option Bool) (z5:List ItemItem) (z6:Int):Nat→Int→Option (Int ⊕ Int)
 | 0,_=>none
 | n + 1,y7 =>
  bif (decide (y7 < z6)) then
   (at? z5 y7).bind fun x9 =>
   (a1 x9).bind fun v10 =>
   bif v10 then
    some (.inl y7)
   else
   p_slices_IndexFunc_item_Item_l1 a1 z5 z6 n (w64 (y7 + (1:Int)))
  else
  some (.inr y7)
def p_slices_IndexFunc_item_Item (a0:List ItemItem) (a1:ItemItem→Option Bool):Option (Int) :=
 (p_slices_IndexFunc_item_Item_l1 a1 a0 (a0.length:Int) fuel (0:Int)).bind fun o12=>match o12 with
 | .inl q13 =>
  some q13
 | .inr q14 =>
  some (-1:Int)
def p_roster_State_of (a0:RosterState) (a1:Int):Option (Int) :=
 (p_slices_IndexFunc_item_Item a0.Items (fun x0=>p_roster_State_of_1 x0 a1)).bind fun v1 =>
 some v1
def p_roster_State_rise_l1 (z6:List ItemItem) (z7:Int) (z9:RosterState):Nat→Int→Option (Bool ⊕ Int)
 | 0,_=>none
 | n + 1,y8 =>
  bif (decide (y8 < z7)) then
   (at? z6 y8).bind fun x11 =>
   bif (decide (x11.Ver < (1:Int))) then
    some (.inl false)
   else
   bif (decide (z9.Ver < x11.Ver)) then
    some (.inl false)
   else
   (p_roster_State_of z9 x11.Ver).bind fun v14 =>
   bif (v14 != y8) then
    some (.inl false)
   else
   bif (decide ((0:Int) < y8)) then
    (at? z9.Items (w64 (y8 - (1:Int)))).bind fun x17 =>
    bif (Op.bytesLess x17.Contact.toList x11.Contact.toList) then
     p_roster_State_rise_l1 z6 z7 z9 n (w64 (y8 + (1:Int)))
    else
    some (.inl false)
   else
   p_roster_State_rise_l1 z6 z7 z9 n (w64 (y8 + (1:Int)))
  else
  some (.inr y8)
def p_roster_State_rise (a0:RosterState):Option (Bool) :=
 (p_roster_State_rise_l1 a0.Items (a0.Items.length:Int) a0 fuel (0:Int)).bind fun o19=>match o19 with
 | .inl q20 =>
  some q20
 | .inr q21 =>
  some true
def p_roster_State_left_1 (a0:RosterGone) (c0:RosterGone):Option (Bool) :=
 some (a0.Contact.toList == c0.Contact.toList)
def p_roster_State_left_l1 (z8:List RosterGone) (z9:Int) (z11:RosterState):Nat→Int→Int→Option (Bool ⊕ (Int × Int))
 | 0,_,_=>none
 | n + 1,y7,y10 =>
  bif (decide (y10 < z9)) then
   (at? z8 y10).bind fun x13 =>
   bif (decide (x13.Ver≤y7)) then
    some (.inl false)
   else
   bif (decide (z11.Ver < x13.Ver)) then
    some (.inl false)
   else
   (cut? z11.Gone none (some y10)).bind fun x16 =>
   (p_slices_ContainsFunc_roster_Gone x16 (fun x0=>p_roster_State_left_1 x0 x13)).bind fun v17 =>
   bif v17 then
    some (.inl false)
   else
   (p_roster_State_of z11 x13.Ver).bind fun v19 =>
   bif (decide ((0:Int)≤v19)) then
    (at? z11.Items v19).bind fun x21 =>
    bif (x21.Contact.toList == x13.Contact.toList) then
     (p_roster_State_find z11 x13.Contact).bind fun v23 =>
     bif v23.2 then
      (at? z11.Items v23.1).bind fun x25 =>
      (p_item_Listed x25).bind fun v26 =>
      bif v26 then
       some (.inl false)
      else
      p_roster_State_left_l1 z8 z9 z11 n x13.Ver (w64 (y10 + (1:Int)))
     else
     p_roster_State_left_l1 z8 z9 z11 n x13.Ver (w64 (y10 + (1:Int)))
    else
    some (.inl false)
   else
   (p_roster_State_find z11 x13.Contact).bind fun v28 =>
   bif v28.2 then
    (at? z11.Items v28.1).bind fun x30 =>
    (p_item_Listed x30).bind fun v31 =>
    bif v31 then
     some (.inl false)
    else
    p_roster_State_left_l1 z8 z9 z11 n x13.Ver (w64 (y10 + (1:Int)))
   else
   p_roster_State_left_l1 z8 z9 z11 n x13.Ver (w64 (y10 + (1:Int)))
  else
  some (.inr (y7,y10))
def p_roster_State_left (a0:RosterState):Option (Bool) :=
 (p_roster_State_left_l1 a0.Gone (a0.Gone.length:Int) a0 fuel a0.Floor (0:Int)).bind fun o33=>match o33 with
 | .inl q34 =>
  some q34
 | .inr q35 =>
  some true
def p_roster_Check (a0:RosterState):Option (Int) :=
 bif (decide ((12:Int) < (a0.Items.length:Int))) then
  some (5:Int)
 else
 bif (decide ((8:Int) < (a0.Gone.length:Int))) then
  some (5:Int)
 else
 bif (decide (a0.Ver < (0:Int))) then
  some (8:Int)
 else
 bif (decide ((1099511627776:Int) < a0.Ver)) then
  some (8:Int)
 else
 bif (decide (a0.Floor < (0:Int))) then
  some (8:Int)
 else
 bif (decide (a0.Ver < a0.Floor)) then
  some (8:Int)
 else
 (p_roster_State_errors a0).bind fun v7 =>
 bif (v7 != (0:Int)) then
  some v7
 else
 (p_slices_ContainsFunc_roster_Gone a0.Gone (fun x0=>p_roster_Check_1 x0)).bind fun v9 =>
 bif v9 then
  some (11:Int)
 else
 (p_roster_State_rise a0).bind fun v11 =>
 bif v11 then
  (p_roster_State_left a0).bind fun v13 =>
  bif v13 then
   some (0:Int)
  else
  some (10:Int)
 else
 some (10:Int)
def p_roster_Find (a0:RosterState) (a1:ByteArray):Option (ItemItem × Bool) :=
 (p_roster_Check a0).bind fun v1 =>
 bif (v1 != (0:Int)) then
  some ((ItemItem.mk (⟨#[]⟩ : ByteArray) (⟨#[]⟩ : ByteArray) (0:Int) (0:Int) false),false)
 else
 (p_roster_State_find a0 a1).bind fun v3 =>
 bif v3.2 then
  (at? a0.Items v3.1).bind fun x5 =>
  some (x5,true)
 else
 some ((ItemItem.mk (⟨#[]⟩ : ByteArray) (⟨#[]⟩ : ByteArray) (0:Int) (0:Int) false),false)
def p_roster_State_may (a0:RosterState) (a1:Bool) (a2:Bool):Option (Int) :=
 bif a2 then
  bif a1 then
   bif (decide ((1099511627776:Int)≤a0.Ver)) then
    some (9:Int)
   else
   some (0:Int)
  else
  bif (decide ((12:Int)≤(a0.Items.length:Int))) then
   some (7:Int)
  else
  bif (decide ((1099511627776:Int)≤a0.Ver)) then
   some (9:Int)
  else
  some (0:Int)
 else
 bif (decide ((1099511627776:Int)≤a0.Ver)) then
  some (9:Int)
 else
 some (0:Int)
def p_roster_Set (a0:RosterState) (a1:ByteArray) (a2:ByteArray):Option (RosterState × Int) :=
 (p_roster_State_own a0).bind fun v1 =>
 (p_roster_Check a0).bind fun v2 =>
 bif (v2 != (0:Int)) then
  some (v1,v2)
 else
 (p_roster_Find a0 a1).bind fun v4 =>
 (p_item_Check (ItemItem.mk a1 a2 v4.1.Sub (0:Int) true)).bind fun v5 =>
 bif (v5 != (0:Int)) then
  some (v1,v5)
 else
 (p_roster_State_may a0 v4.2 true).bind fun v7 =>
 bif (v7 != (0:Int)) then
  some (v1,v7)
 else
 ((
  bif v4.1.Own then
   bif (v4.1.Name.toList == a2.toList) then
    some (.inl (v1,(0:Int)))
   else
   some (.inr ())
  else
  some (.inr ())):Option ((RosterState × Int) ⊕ Unit)).bind fun o11=>match o11 with
 | .inl q12 =>
  some q12
 | .inr q13 =>
  (p_roster_State_change v1 (ItemItem.mk a1 a2 v4.1.Sub (0:Int) true)).bind fun v14 =>
  some (v14,(0:Int))
def p_ref21_items_l1 (z5:RosterState):Nat→Int→Option (Int ⊕ Int)
 | 0,_=>none
 | n + 1,y4 =>
  bif (decide (y4 < (z5.Items.length:Int))) then
   (at? z5.Items y4).bind fun x7 =>
   (p_ref20_Check x7).bind fun v8 =>
   bif (v8 != (0:Int)) then
    some (.inl v8)
   else
   (at? z5.Items y4).bind fun x10 =>
   (p_ref20_Idle x10).bind fun v11 =>
   bif v11 then
    some (.inl (4:Int))
   else
   p_ref21_items_l1 z5 n (w64 (y4 + (1:Int)))
  else
  some (.inr y4)
def p_ref21_items (a0:RosterState):Option (Int) :=
 (p_ref21_items_l1 a0 fuel (0:Int)).bind fun o13=>match o13 with
 | .inl q14 =>
  some q14
 | .inr q15 =>
  some (0:Int)
def p_ref21_rises_l2 (z28:Int) (z30:RosterState) (z31:ItemItem):Nat→Int→Option (Bool ⊕ Int)
 | 0,_=>none
 | n + 1,y29 =>
  bif (decide (y29 < z28)) then
   (at? z30.Items y29).bind fun x33 =>
   bif (x33.Ver == z31.Ver) then
    some (.inl false)
   else
   p_ref21_rises_l2 z28 z30 z31 n (w64 (y29 + (1:Int)))
  else
  some (.inr y29)
def p_ref21_rises_l1 (z5:RosterState):Nat→Int→Option (Bool ⊕ Int)
 | 0,_=>none
 | n + 1,y4 =>
  bif (decide (y4 < (z5.Items.length:Int))) then
   (at? z5.Items y4).bind fun x7 =>
   bif (decide (x7.Ver < (1:Int))) then
    some (.inl false)
   else
   bif (decide (z5.Ver < x7.Ver)) then
    some (.inl false)
   else
   bif (decide ((0:Int) < y4)) then
    (at? z5.Items (w64 (y4 - (1:Int)))).bind fun x11 =>
    bif (Op.bytesLess x11.Contact.toList x7.Contact.toList) then
     (p_ref21_rises_l2 y4 z5 x7 fuel (0:Int)).bind fun o25=>match o25 with
     | .inl q26 =>
      some (.inl q26)
     | .inr q27 =>
      p_ref21_rises_l1 z5 n (w64 (y4 + (1:Int)))
    else
    some (.inl false)
   else
   (p_ref21_rises_l2 y4 z5 x7 fuel (0:Int)).bind fun o35=>match o35 with
   | .inl q36 =>
    some (.inl q36)
   | .inr q37 =>
    p_ref21_rises_l1 z5 n (w64 (y4 + (1:Int)))
  else
  some (.inr y4)
def p_ref21_rises_l4 (z59:Int) (z61:RosterState) (z62:RosterGone):Nat→Int→Option (Bool ⊕ Int)
 | 0,_=>none
 | n + 1,y60 =>
  bif (decide (y60 < z59)) then
   (at? z61.Gone y60).bind fun x64 =>
   bif (x64.Contact.toList == z62.Contact.toList) then
    some (.inl false)
   else
   p_ref21_rises_l4 z59 z61 z62 n (w64 (y60 + (1:Int)))
  else
  some (.inr y60)
def p_ref21_rises_l5 (z78:RosterState) (z79:RosterGone):Nat→Int→Option (Bool ⊕ Int)
 | 0,_=>none
 | n + 1,y77 =>
  bif (decide (y77 < (z78.Items.length:Int))) then
   (at? z78.Items y77).bind fun x81 =>
   bif (x81.Ver == z79.Ver) then
    bif (x81.Contact.toList == z79.Contact.toList) then
     (p_ref20_Listed x81).bind fun v84 =>
     bif v84 then
      some (.inl false)
     else
     (p_ref20_Listed x81).bind fun v86 =>
     bif v86 then
      some (.inl false)
     else
     p_ref21_rises_l5 z78 z79 n (w64 (y77 + (1:Int)))
    else
    some (.inl false)
   else
   bif (x81.Contact.toList == z79.Contact.toList) then
    (p_ref20_Listed x81).bind fun v89 =>
    bif v89 then
     some (.inl false)
    else
    p_ref21_rises_l5 z78 z79 n (w64 (y77 + (1:Int)))
   else
   p_ref21_rises_l5 z78 z79 n (w64 (y77 + (1:Int)))
  else
  some (.inr y77)
def p_ref21_rises_l3 (z47:RosterState):Nat→Int→Int→Option (Bool ⊕ (Int × Int))
 | 0,_,_=>none
 | n + 1,y45,y46 =>
  bif (decide (y46 < (z47.Gone.length:Int))) then
   (at? z47.Gone y46).bind fun x49 =>
   bif (decide (x49.Ver≤y45)) then
    some (.inl false)
   else
   bif (decide (z47.Ver < x49.Ver)) then
    some (.inl false)
   else
   (p_ref21_rises_l4 y46 z47 x49 fuel (0:Int)).bind fun o66=>match o66 with
   | .inl q67 =>
    some (.inl q67)
   | .inr q68 =>
    (p_ref21_rises_l5 z47 x49 fuel (0:Int)).bind fun o91=>match o91 with
    | .inl q92 =>
     some (.inl q92)
    | .inr q93 =>
     p_ref21_rises_l3 z47 n x49.Ver (w64 (y46 + (1:Int)))
  else
  some (.inr (y45,y46))
def p_ref21_rises (a0:RosterState):Option (Bool) :=
 (p_ref21_rises_l1 a0 fuel (0:Int)).bind fun o38=>match o38 with
 | .inl q39 =>
  some q39
 | .inr q40 =>
  (p_ref21_rises_l3 a0 fuel a0.Floor (0:Int)).bind fun o94=>match o94 with
  | .inl q95 =>
   some q95
  | .inr q96 =>
   some true
def p_ref21_Check_l1 (z14:RosterState):Nat→Int→Option (Int ⊕ Int)
 | 0,_=>none
 | n + 1,y13 =>
  bif (decide (y13 < (z14.Gone.length:Int))) then
   (at? z14.Gone y13).bind fun x16 =>
   (p_ref09_IsBare x16.Contact).bind fun v17 =>
   bif v17 then
    p_ref21_Check_l1 z14 n (w64 (y13 + (1:Int)))
   else
   some (.inl (11:Int))
  else
  some (.inr y13)
def p_ref21_Check (a0:RosterState):Option (Int) :=
 bif (decide ((12:Int) < (a0.Items.length:Int))) then
  some (5:Int)
 else
 bif (decide ((8:Int) < (a0.Gone.length:Int))) then
  some (5:Int)
 else
 bif (decide (a0.Ver < (0:Int))) then
  some (8:Int)
 else
 bif (decide ((1099511627776:Int) < a0.Ver)) then
  some (8:Int)
 else
 bif (decide (a0.Floor < (0:Int))) then
  some (8:Int)
 else
 bif (decide (a0.Ver < a0.Floor)) then
  some (8:Int)
 else
 (p_ref21_items a0).bind fun v7 =>
 bif (v7 != (0:Int)) then
  (p_ref21_items a0).bind fun v9 =>
  some v9
 else
 (p_ref21_Check_l1 a0 fuel (0:Int)).bind fun o19=>match o19 with
 | .inl q20 =>
  some q20
 | .inr q21 =>
  (p_ref21_rises a0).bind fun v22 =>
  bif v22 then
   some (0:Int)
  else
  some (10:Int)
def p_roster_Sub (a0:RosterState) (a1:ByteArray) (a2:Int):Option (RosterState × Int) :=
 (p_roster_State_own a0).bind fun v1 =>
 (p_roster_Check a0).bind fun v2 =>
 bif (v2 != (0:Int)) then
  some (v1,v2)
 else
 (p_addr_IsBare a1).bind fun v4 =>
 bif v4 then
  (p_subs_Check a2).bind fun v6 =>
  bif (v6 != (0:Int)) then
   some (v1,v6)
  else
  (p_roster_Find a0 a1).bind fun v8 =>
  (p_roster_State_may a0 v8.2 (a2 != (0:Int))).bind fun v9 =>
  bif (v9 != (0:Int)) then
   some (v1,v9)
  else
  bif (v8.1.Sub == a2) then
   some (v1,(0:Int))
  else
  ((
   some ()):Option (Unit)).bind fun q13 =>
  (p_roster_State_change v1 (ItemItem.mk a1 v8.1.Name a2 v8.1.Ver v8.1.Own)).bind fun v14 =>
  some (v14,(0:Int))
 else
 some (v1,(11:Int))
def p_roster_Drop (a0:RosterState) (a1:ByteArray):Option (RosterState × Int) :=
 (p_roster_State_own a0).bind fun v1 =>
 (p_roster_Check a0).bind fun v2 =>
 bif (v2 != (0:Int)) then
  some (v1,v2)
 else
 (p_roster_State_find a0 a1).bind fun v4 =>
 bif v4.2 then
  ((
   (p_roster_State_may a0 true false).bind fun v6 =>
   bif (v6 != (0:Int)) then
    some (.inl (v1,v6))
   else
   some (.inr ())):Option ((RosterState × Int) ⊕ Unit)).bind fun o8=>match o8 with
  | .inl q9 =>
   some q9
  | .inr q10 =>
   (p_roster_State_change v1 (ItemItem.mk a1 (⟨#[]⟩ : ByteArray) (0:Int) (0:Int) false)).bind fun v11 =>
   some (v11,(0:Int))
 else
 some (v1,(6:Int))
def p_slices_Equal_item_Item_l1 (z7:List ItemItem) (z8:List ItemItem) (z9:Int):Nat→Int→Option (Bool ⊕ Int)
 | 0,_=>none
 | n + 1,y10 =>
  bif (decide (y10 < z9)) then
   (at? z7 y10).bind fun x12 =>
   (at? z8 y10).bind fun x13 =>
   bif ((x12.Contact.toList == x13.Contact.toList) && ((x12.Name.toList == x13.Name.toList) && ((x12.Sub == x13.Sub) && ((x12.Ver == x13.Ver) && ((x12.Own == x13.Own) && true))))) then
    p_slices_Equal_item_Item_l1 z7 z8 z9 n (w64 (y10 + (1:Int)))
   else
   some (.inl false)
  else
  some (.inr y10)
def p_slices_Equal_item_Item (a0:List ItemItem) (a1:List ItemItem):Option (Bool) :=
 bif ((a0.length:Int) != (a1.length:Int)) then
  some false
 else
 (p_slices_Equal_item_Item_l1 a0 a1 (a0.length:Int) fuel (0:Int)).bind fun o15=>match o15 with
 | .inl q16 =>
  some q16
 | .inr q17 =>
  some true
def p_slices_Equal_roster_Gone_l1 (z7:List RosterGone) (z8:List RosterGone) (z9:Int):Nat→Int→Option (Bool ⊕ Int)
 | 0,_=>none
 | n + 1,y10 =>
  bif (decide (y10 < z9)) then
   (at? z7 y10).bind fun x12 =>
   (at? z8 y10).bind fun x13 =>
   bif ((x12.Contact.toList == x13.Contact.toList) && ((x12.Ver == x13.Ver) && true)) then
    p_slices_Equal_roster_Gone_l1 z7 z8 z9 n (w64 (y10 + (1:Int)))
   else
   some (.inl false)
  else
  some (.inr y10)
def p_slices_Equal_roster_Gone (a0:List RosterGone) (a1:List RosterGone):Option (Bool) :=
 bif ((a0.length:Int) != (a1.length:Int)) then
  some false
 else
 (p_slices_Equal_roster_Gone_l1 a0 a1 (a0.length:Int) fuel (0:Int)).bind fun o15=>match o15 with
 | .inl q16 =>
  some q16
 | .inr q17 =>
  some true
def p_roster_Same (a0:RosterState) (a1:RosterState):Option (Bool) :=
 bif (a0.Ver == a1.Ver) then
  bif (a0.Floor == a1.Floor) then
   (p_slices_Equal_item_Item a0.Items a1.Items).bind fun v3 =>
   bif v3 then
    (p_slices_Equal_roster_Gone a0.Gone a1.Gone).bind fun v5 =>
    some v5
   else
   some false
  else
  some false
 else
 some false
end Go.Proofs.YtpmoioopjbfhkaaGreat

namespace Go.Proofs.YtpmoioopjbfhkaaGreat
open Go.RowKit
structure Ar2_Bool where
 a0:Bool
 a1:Bool
abbrev Ar2_Bool.v (x:Ar2_Bool):V:=.agg [.b x.a0,.b x.a1]
structure Ar2_Int where
 a0:Int
 a1:Int
abbrev Ar2_Int.v (x:Ar2_Int):V:=.agg [.y8 x.a0,.y8 x.a1]
def p_pair_Check (a0:Ref22Names) (a1:Ref22State):Option (Int) :=
 (p_addr_IsBare a0.A).bind fun v1 =>
 bif v1 then
  (p_addr_IsBare a0.B).bind fun v3 =>
  bif v3 then
   bif (a0.A.toList == a0.B.toList) then
    some (2:Int)
   else
   (p_roster_Check a1.A).bind fun v6 =>
   bif (v6 != (0:Int)) then
    some v6
   else
   (p_roster_Check a1.B).bind fun v8 =>
   some v8
  else
  some (11:Int)
 else
 some (11:Int)
def p_pair_said (a0:Int):Option (Bool) :=
 bif (decide ((7:Int)≤a0)) then
  some (decide (a0≤(10:Int)))
 else
 some false
def p_pair_State_has (a0:Ref22State) (a1:Ref22Names):Option (Int) :=
 (p_roster_Find a0.A a1.B).bind fun v1 =>
 some v1.1.Sub
def p_subs_lose (a0:Int) (a1:Int):Option (Int × Bool) :=
 some ((andNotI .i64 a0 a1),((andI .i64 a0 a1) != (0:Int)))
def p_subs_turn (a0:Int) (a1:Int) (a2:Int):Option (Int × Bool) :=
 bif ((andI .i64 a0 a1) == (0:Int)) then
  some (a0,false)
 else
 some ((orI .i64 (andNotI .i64 a0 a1) a2),true)
def p_subs_Out (a0:Int) (a1:Int):Option (Int × Bool) :=
 (p_subs_Check a0).bind fun v1 =>
 bif (v1 != (0:Int)) then
  some (a0,false)
 else
 bif (a1 == (7:Int)) then
  bif ((andI .i64 a0 (1:Int)) != (0:Int)) then
   some (a0,false)
  else
  some ((orI .i64 a0 (4:Int)),true)
 else
 bif (a1 == (10:Int)) then
  (p_subs_lose a0 (5:Int)).bind fun v6 =>
  some (v6.1,v6.2)
 else
 bif (a1 == (8:Int)) then
  (p_subs_turn a0 (8:Int) (2:Int)).bind fun v8 =>
  some (v8.1,v8.2)
 else
 bif (a1 == (9:Int)) then
  (p_subs_lose a0 (10:Int)).bind fun v10 =>
  some (v10.1,v10.2)
 else
 some (a0,false)
def p_pair_State_turn (a0:Ref22State):Option (Ref22State) :=
 some (Ref22State.mk a0.B a0.A)
def p_pair_Names_turn (a0:Ref22Names):Option (Ref22Names) :=
 some (Ref22Names.mk a0.B a0.A)
def p_subs_In (a0:Int) (a1:Int):Option (Int × Bool) :=
 (p_subs_Check a0).bind fun v1 =>
 bif (v1 != (0:Int)) then
  some (a0,false)
 else
 bif (a1 == (7:Int)) then
  bif ((andI .i64 a0 (10:Int)) != (0:Int)) then
   some (a0,false)
  else
  some ((orI .i64 a0 (8:Int)),true)
 else
 bif (a1 == (10:Int)) then
  (p_subs_lose a0 (10:Int)).bind fun v6 =>
  some (v6.1,v6.2)
 else
 bif (a1 == (8:Int)) then
  (p_subs_turn a0 (4:Int) (1:Int)).bind fun v8 =>
  some (v8.1,v8.2)
 else
 bif (a1 == (9:Int)) then
  (p_subs_lose a0 (5:Int)).bind fun v10 =>
  some (v10.1,v10.2)
 else
 some (a0,false)
def p_pair_State_set (a0:Ref22State) (a1:Ref22Names) (a2:Int) (a3:Int):Option (Ref22State × Int) :=
 (p_roster_Sub a0.A a1.B a2).bind fun v1 =>
 bif (v1.2 != (0:Int)) then
  some (a0,v1.2)
 else
 (p_roster_Sub a0.B a1.A a3).bind fun v3 =>
 bif (v3.2 != (0:Int)) then
  some (a0,v3.2)
 else
 some ((Ref22State.mk v1.1 v3.1),(0:Int))
def p_pair_Say (a0:Ref22Names) (a1:Ref22State) (a2:Int):Option (Ref22State × PairDone × Int) :=
 (p_pair_Check a0 a1).bind fun v1 =>
 bif (v1 != (0:Int)) then
  some (a1,(PairDone.mk false false false false),v1)
 else
 (p_pair_said a2).bind fun v3 =>
 bif v3 then
  (p_pair_State_has a1 a0).bind fun v5 =>
  (p_subs_Out v5 a2).bind fun v6 =>
  (p_pair_State_turn a1).bind fun v7 =>
  (p_pair_Names_turn a0).bind fun v8 =>
  (p_pair_State_has v7 v8).bind fun v9 =>
  bif v6.2 then
   (p_subs_In v9 a2).bind fun v11 =>
   (p_pair_State_set a1 a0 v6.1 v11.1).bind fun v12 =>
   bif (v12.2 != (0:Int)) then
    some (a1,(PairDone.mk false false false false),v12.2)
   else
   some (v12.1,(PairDone.mk v6.2 v11.2 (v12.1.A.Ver != a1.A.Ver) (v12.1.B.Ver != a1.B.Ver)),(0:Int))
  else
  (p_pair_State_set a1 a0 v6.1 v9).bind fun v14 =>
  bif (v14.2 != (0:Int)) then
   some (a1,(PairDone.mk false false false false),v14.2)
  else
  some (v14.1,(PairDone.mk v6.2 false (v14.1.A.Ver != a1.A.Ver) (v14.1.B.Ver != a1.B.Ver)),(0:Int))
 else
 some (a1,(PairDone.mk false false false false),(12:Int))
def p_ref19_sum (a0:Ref19Four):Option (Int) :=
 bif a0.to then
  bif a0.from_ then
   bif a0.ask then
    bif a0.wait then
     some (w64 (w64 (w64 (w64 ((0:Int) + (1:Int)) + (2:Int)) + (4:Int)) + (8:Int)))
    else
    some (w64 (w64 (w64 ((0:Int) + (1:Int)) + (2:Int)) + (4:Int)))
   else
   bif a0.wait then
    some (w64 (w64 (w64 ((0:Int) + (1:Int)) + (2:Int)) + (8:Int)))
   else
   some (w64 (w64 ((0:Int) + (1:Int)) + (2:Int)))
  else
  bif a0.ask then
   bif a0.wait then
    some (w64 (w64 (w64 ((0:Int) + (1:Int)) + (4:Int)) + (8:Int)))
   else
   some (w64 (w64 ((0:Int) + (1:Int)) + (4:Int)))
  else
  bif a0.wait then
   some (w64 (w64 ((0:Int) + (1:Int)) + (8:Int)))
  else
  some (w64 ((0:Int) + (1:Int)))
 else
 bif a0.from_ then
  bif a0.ask then
   bif a0.wait then
    some (w64 (w64 (w64 ((0:Int) + (2:Int)) + (4:Int)) + (8:Int)))
   else
   some (w64 (w64 ((0:Int) + (2:Int)) + (4:Int)))
  else
  bif a0.wait then
   some (w64 (w64 ((0:Int) + (2:Int)) + (8:Int)))
  else
  some (w64 ((0:Int) + (2:Int)))
 else
 bif a0.ask then
  bif a0.wait then
   some (w64 (w64 ((0:Int) + (4:Int)) + (8:Int)))
  else
  some (w64 ((0:Int) + (4:Int)))
 else
 bif a0.wait then
  some (w64 ((0:Int) + (8:Int)))
 else
 some (0:Int)
def p_ref19_Out (a0:Int) (a1:Int):Option (Int × Bool) :=
 (p_ref19_Check a0).bind fun v1 =>
 bif (v1 != (0:Int)) then
  some (a0,false)
 else
 (p_ref19_of a0).bind fun v3 =>
 bif (a1 == (7:Int)) then
  bif v3.ask then
   (p_ref19_sum (Ref19Four.mk v3.to v3.from_ true v3.wait)).bind fun v6 =>
   some (v6,(!v3.to))
  else
  (p_ref19_sum (Ref19Four.mk v3.to v3.from_ (!v3.to) v3.wait)).bind fun v7 =>
  some (v7,(!v3.to))
 else
 bif (a1 == (10:Int)) then
  bif v3.to then
   (p_ref19_sum (Ref19Four.mk false v3.from_ false v3.wait)).bind fun v10 =>
   some (v10,true)
  else
  (p_ref19_sum (Ref19Four.mk false v3.from_ false v3.wait)).bind fun v11 =>
  some (v11,v3.ask)
 else
 bif (a1 == (8:Int)) then
  bif v3.from_ then
   (p_ref19_sum (Ref19Four.mk v3.to true v3.ask false)).bind fun v14 =>
   some (v14,v3.wait)
  else
  (p_ref19_sum (Ref19Four.mk v3.to v3.wait v3.ask false)).bind fun v15 =>
  some (v15,v3.wait)
 else
 bif (a1 == (9:Int)) then
  bif v3.from_ then
   (p_ref19_sum (Ref19Four.mk v3.to false v3.ask false)).bind fun v18 =>
   some (v18,true)
  else
  (p_ref19_sum (Ref19Four.mk v3.to false v3.ask false)).bind fun v19 =>
  some (v19,v3.wait)
 else
 (p_ref19_sum v3).bind fun v20 =>
 some (v20,false)
def p_ref19_In (a0:Int) (a1:Int):Option (Int × Bool) :=
 (p_ref19_Check a0).bind fun v1 =>
 bif (v1 != (0:Int)) then
  some (a0,false)
 else
 (p_ref19_of a0).bind fun v3 =>
 bif (a1 == (7:Int)) then
  bif v3.from_ then
   bif v3.wait then
    (p_ref19_sum (Ref19Four.mk v3.to v3.from_ v3.ask true)).bind fun v7 =>
    some (v7,false)
   else
   (p_ref19_sum (Ref19Four.mk v3.to v3.from_ v3.ask (!v3.from_))).bind fun v8 =>
   some (v8,false)
  else
  bif v3.wait then
   (p_ref19_sum (Ref19Four.mk v3.to v3.from_ v3.ask true)).bind fun v10 =>
   some (v10,(!v3.wait))
  else
  (p_ref19_sum (Ref19Four.mk v3.to v3.from_ v3.ask (!v3.from_))).bind fun v11 =>
  some (v11,(!v3.wait))
 else
 bif (a1 == (10:Int)) then
  bif v3.from_ then
   (p_ref19_sum (Ref19Four.mk v3.to false v3.ask false)).bind fun v14 =>
   some (v14,true)
  else
  (p_ref19_sum (Ref19Four.mk v3.to false v3.ask false)).bind fun v15 =>
  some (v15,v3.wait)
 else
 bif (a1 == (8:Int)) then
  bif v3.to then
   (p_ref19_sum (Ref19Four.mk true v3.from_ false v3.wait)).bind fun v18 =>
   some (v18,v3.ask)
  else
  (p_ref19_sum (Ref19Four.mk v3.ask v3.from_ false v3.wait)).bind fun v19 =>
  some (v19,v3.ask)
 else
 bif (a1 == (9:Int)) then
  bif v3.to then
   (p_ref19_sum (Ref19Four.mk false v3.from_ false v3.wait)).bind fun v22 =>
   some (v22,true)
  else
  (p_ref19_sum (Ref19Four.mk false v3.from_ false v3.wait)).bind fun v23 =>
  some (v23,v3.ask)
 else
 (p_ref19_sum v3).bind fun v24 =>
 some (v24,false)
def p_pair_Remove_l1 (z14:Ar2_Int) (z17:Ref22Names) (z18:Ref22State):Nat→Int→Ref22State→Ar2_Bool→Option ((Ref22State × Ar2_Bool × Int) ⊕ (Int × Ref22State × Ar2_Bool))
 | 0,_,_,_=>none
 | n + 1,y15,y16,y21 =>
  bif (decide (y15 < (2:Int))) then
   (at? [z14.a0,z14.a1] y15).bind fun x23 =>
   (p_pair_Say z17 y16 x23).bind fun v24 =>
   bif (v24.2.2 != (0:Int)) then
    some (.inl (z18,(Ar2_Bool.mk false false),v24.2.2))
   else
   bif (y15 == (0:Int)) then
    p_pair_Remove_l1 z14 z17 z18 n (w64 (y15 + (1:Int))) v24.1 (Ar2_Bool.mk v24.2.1.Told y21.a1)
   else
   bif (y15 == (1:Int)) then
    p_pair_Remove_l1 z14 z17 z18 n (w64 (y15 + (1:Int))) v24.1 (Ar2_Bool.mk y21.a0 v24.2.1.Told)
   else
   none
  else
  some (.inr (y15,y16,y21))
def p_pair_Remove (a0:Ref22Names) (a1:Ref22State):Option (Ref22State × Ar2_Bool × Int) :=
 (p_pair_Check a0 a1).bind fun v1 =>
 bif (v1 != (0:Int)) then
  some (a1,(Ar2_Bool.mk false false),v1)
 else
 (p_roster_Find a1.A a0.B).bind fun v3 =>
 bif v3.2 then
  (p_pair_Remove_l1 (Ar2_Int.mk (10:Int) (9:Int)) a0 a1 fuel (0:Int) a1 (Ar2_Bool.mk false false)).bind fun o26=>match o26 with
  | .inl q27 =>
   some q27
  | .inr q28 =>
   (p_roster_Find q28.2.1.A a0.B).bind fun v29 =>
   bif v29.2 then
    (p_roster_Drop q28.2.1.A a0.B).bind fun v31 =>
    bif (v31.2 != (0:Int)) then
     some (a1,(Ar2_Bool.mk false false),v31.2)
    else
    some ((Ref22State.mk v31.1 q28.2.1.B),q28.2.2,(0:Int))
   else
   some (q28.2.1,q28.2.2,(0:Int))
 else
 some (a1,(Ar2_Bool.mk false false),(6:Int))
def p_pair_Turn (a0:Ref22Names) (a1:Ref22State):Option (Ref22Names × Ref22State) :=
 (p_pair_Names_turn a0).bind fun v1 =>
 (p_pair_State_turn a1).bind fun v2 =>
 some (v1,v2)
def p_ref22_Turn (a0:Ref22Names) (a1:Ref22State):Option (Ref22Names × Ref22State) :=
 some ((Ref22Names.mk a0.B a0.A),(Ref22State.mk a1.B a1.A))
def p_subs_Mirror (a0:Int):Option (Int) :=
 (p_subs_Check a0).bind fun v1 =>
 bif (v1 != (0:Int)) then
  some (0:Int)
 else
 some (orI .i64 (shlI .i64 (andI .i64 a0 (5:Int)) (1:Int)) (shrI .i64 (andI .i64 a0 (10:Int)) (1:Int)))
def p_subs_Agree (a0:Int) (a1:Int):Option (Bool) :=
 (p_subs_Check a0).bind fun v1 =>
 bif (v1 == (0:Int)) then
  (p_subs_Check a1).bind fun v3 =>
  bif (v3 == (0:Int)) then
   (p_subs_Mirror a0).bind fun v5 =>
   some (v5 == a1)
  else
  some false
 else
 some false
def p_pair_Agree (a0:Ref22Names) (a1:Ref22State):Option (Bool) :=
 (p_pair_Check a0 a1).bind fun v1 =>
 bif (v1 == (0:Int)) then
  (p_pair_State_has a1 a0).bind fun v3 =>
  (p_pair_State_turn a1).bind fun v4 =>
  (p_pair_Names_turn a0).bind fun v5 =>
  (p_pair_State_has v4 v5).bind fun v6 =>
  (p_subs_Agree v3 v6).bind fun v7 =>
  some v7
 else
 some false
def p_ref19_Mirror (a0:Int):Option (Int) :=
 (p_ref19_Check a0).bind fun v1 =>
 bif (v1 != (0:Int)) then
  some (0:Int)
 else
 (p_ref19_of a0).bind fun v3 =>
 (p_ref19_sum (Ref19Four.mk v3.from_ v3.to v3.wait v3.ask)).bind fun v4 =>
 some v4
def p_pair_Sees (a0:Ref22Names) (a1:Ref22State):Option (Bool) :=
 (p_pair_Check a0 a1).bind fun v1 =>
 bif (v1 == (0:Int)) then
  (p_pair_State_has a1 a0).bind fun v3 =>
  some ((andI .i64 v3 (1:Int)) != (0:Int))
 else
 some false
def p_pair_Run_l1 (z11:ByteArray) (z12:ByteArray) (z14:List PairAct) (z15:Int) (z17:Ref22Names):Nat→(List PairDone)→Int→Ref22State→Option (((List PairDone) × Int × Ref22State))
 | 0,_,_,_=>none
 | n + 1,y13,y16,y18 =>
  bif (decide (y16 < z15)) then
   (at? z14 y16).bind fun x21 =>
   bif x21.Back then
    (p_pair_Names_turn (Ref22Names.mk z11 z12)).bind fun v23 =>
    (p_pair_State_turn y18).bind fun v24 =>
    (p_pair_Say v23 v24 x21.Kind).bind fun v25 =>
    (p_pair_State_turn v25.1).bind fun v26 =>
    (app? y13 [v25.2.1]).bind fun l27 =>
    p_pair_Run_l1 z11 z12 z14 z15 z17 n l27 (w64 (y16 + (1:Int))) v26
   else
   (p_pair_Say z17 y18 x21.Kind).bind fun v28 =>
   (app? y13 [v28.2.1]).bind fun l29 =>
   p_pair_Run_l1 z11 z12 z14 z15 z17 n l29 (w64 (y16 + (1:Int))) v28.1
  else
  some (y13,y16,y18)
def p_pair_Run (a0:Ref22Names) (a1:Ref22State) (a2:List PairAct):Option (Ref22State × (List PairDone)) :=
 (p_pair_Run_l1 a0.A a0.B a2 (a2.length:Int) a0 fuel [] (0:Int) a1).bind fun q31 =>
 some (q31.2.2,q31.1)
def p_law22_done_l1 (z5:List PairDone):Nat→(List PairDone)→Int→Option (((List PairDone) × Int))
 | 0,_,_=>none
 | n + 1,y6,y7 =>
  bif (decide (y7 < (z5.length:Int))) then
   (at? z5 y7).bind fun x9 =>
   (app? y6 [x9]).bind fun l10 =>
   p_law22_done_l1 z5 n l10 (w64 (y7 + (1:Int)))
  else
  some (y6,y7)
def p_law22_done (a0:List PairDone):Option ((List PairDone)) :=
 (p_law22_done_l1 a0 fuel [] (0:Int)).bind fun q12 =>
 some q12.1
def p_ref22_SameDone_l1 (z6:List PairDone) (z7:List PairDone):Nat→Int→Option (Bool ⊕ Int)
 | 0,_=>none
 | n + 1,y8 =>
  bif (decide (y8 < (z6.length:Int))) then
   (at? z6 y8).bind fun x10 =>
   (at? z7 y8).bind fun x11 =>
   bif ((x10.Passed == x11.Passed) && ((x10.Told == x11.Told) && ((x10.Listed == x11.Listed) && ((x10.Knows == x11.Knows) && true)))) then
    p_ref22_SameDone_l1 z6 z7 n (w64 (y8 + (1:Int)))
   else
   some (.inl false)
  else
  some (.inr y8)
def p_ref22_SameDone (a0:List PairDone) (a1:List PairDone):Option (Bool) :=
 bif ((a0.length:Int) != (a1.length:Int)) then
  some false
 else
 (p_ref22_SameDone_l1 a0 a1 fuel (0:Int)).bind fun o13=>match o13 with
 | .inl q14 =>
  some q14
 | .inr q15 =>
  some true
def p_law22_awake:Option (Bool) :=
 (p_pair_Run (Ref22Names.mk (⟨#[97,64,120]⟩ : ByteArray) (⟨#[98,64,120]⟩ : ByteArray)) (Ref22State.mk (RosterState.mk (0:Int) (0:Int) [] []) (RosterState.mk (0:Int) (0:Int) [] [])) [(PairAct.mk (7:Int) false),(PairAct.mk (8:Int) true),(PairAct.mk (8:Int) false)]).bind fun v1 =>
 (p_pair_Remove (Ref22Names.mk (⟨#[97,64,120]⟩ : ByteArray) (⟨#[98,64,120]⟩ : ByteArray)) v1.1).bind fun v2 =>
 (p_pair_Turn (Ref22Names.mk (⟨#[97,64,120]⟩ : ByteArray) (⟨#[98,64,120]⟩ : ByteArray)) v1.1).bind fun v3 =>
 (p_pair_Remove (Ref22Names.mk (⟨#[97,64,120]⟩ : ByteArray) (⟨#[98,64,120]⟩ : ByteArray)) v2.1).bind fun v4 =>
 (p_pair_Say (Ref22Names.mk (⟨#[97,64,120]⟩ : ByteArray) (⟨#[98,64,120]⟩ : ByteArray)) v1.1 (15:Int)).bind fun v5 =>
 (p_law22_done v1.2).bind fun v6 =>
 (p_ref22_SameDone v6 [(PairDone.mk true true true true),(PairDone.mk true true true true),(PairDone.mk false false false false)]).bind fun v7 =>
 bif v7 then
  (p_pair_Sees (Ref22Names.mk (⟨#[97,64,120]⟩ : ByteArray) (⟨#[98,64,120]⟩ : ByteArray)) v1.1).bind fun v9 =>
  bif v9 then
   (p_pair_Sees v3.1 v3.2).bind fun v11 =>
   bif v11 then
    some false
   else
   (p_pair_Agree (Ref22Names.mk (⟨#[97,64,120]⟩ : ByteArray) (⟨#[98,64,120]⟩ : ByteArray)) v1.1).bind fun v13 =>
   bif v13 then
    bif (v2.2.2 == (0:Int)) then
     bif ((v2.2.1.a0 == true) && ((v2.2.1.a1 == false) && true)) then
      (p_pair_Sees (Ref22Names.mk (⟨#[97,64,120]⟩ : ByteArray) (⟨#[98,64,120]⟩ : ByteArray)) v2.1).bind fun v17 =>
      bif v17 then
       some false
      else
      bif (v4.2.2 == (6:Int)) then
       bif (v5.2.2 == (12:Int)) then
        (p_pair_Check (Ref22Names.mk (⟨#[97,64,120]⟩ : ByteArray) (⟨#[98,64,120]⟩ : ByteArray)) v2.1).bind fun v21 =>
        bif (v21 == (0:Int)) then
         (p_pair_Check (Ref22Names.mk (⟨#[97,64,120]⟩ : ByteArray) (⟨#[97,64,120]⟩ : ByteArray)) v2.1).bind fun v23 =>
         bif (v23 == (2:Int)) then
          some true
         else
         some false
        else
        some false
       else
       some false
      else
      some false
     else
     some false
    else
    some false
   else
   some false
  else
  some false
 else
 some false
end Go.Proofs.YtpmoioopjbfhkaaGreat

namespace Go.Proofs.YtpmoioopjbfhkaaGreat
open Go.ChangeShapes Go.WideShapes Go.ChangeAt Go.RowKit Go.Joins Go.Deep
set_option maxRecDepth 100000 in
theorem rd_T106 {H:Type} {enc:TypeId × Value→H} {W:World} {spare:Nat→Bool} {held:Bool} {fuel:Nat} {cs:List Value} {y:DataW H × List MemPlace} (h:DataW.trod enc Tryz.prog W 0 spare held fuel 106 cs=some y):∃ x:Ar2_Bool,RepL (MW W) noBk cs [.b x.a0,.b x.a1]:=by
 obtain ⟨xs,n,_,_,hl,hx,hall⟩:=DataW.trod_array Tryz.underlying106 h
 have hce:Tryz.prog.cellsOf 106=2:=by kernel_rfl
 rw [hce] at hl
 match cs,hl,hall with
 | [c0,c1],_,hall =>
  obtain ⟨y0,hy0⟩:=get_some hx (show 0 < 2 by omega)
  have g0:DataW.trod enc Tryz.prog W 0 spare held n 4 [c0]=some y0:=by
   have hz:Tryz.prog.cellsOf 4=1:=by kernel_rfl
   have g:DataW.trod enc Tryz.prog W 0 spare held n 4 (([c0,c1].drop (0 * Tryz.prog.cellsOf 4)).take (Tryz.prog.cellsOf 4))=some y0:=(hall 0 (by omega)).trans hy0
   rw [hz] at g;exact g
  obtain ⟨x0,r0⟩:=rd_bool Tryz.underlying4 g0
  obtain ⟨y1,hy1⟩:=get_some hx (show 1 < 2 by omega)
  have g1:DataW.trod enc Tryz.prog W 0 spare held n 4 [c1]=some y1:=by
   have hz:Tryz.prog.cellsOf 4=1:=by kernel_rfl
   have g:DataW.trod enc Tryz.prog W 0 spare held n 4 (([c0,c1].drop (1 * Tryz.prog.cellsOf 4)).take (Tryz.prog.cellsOf 4))=some y1:=(hall 1 (by omega)).trans hy1
   rw [hz] at g;exact g
  obtain ⟨x1,r1⟩:=rd_bool Tryz.underlying4 g1
  exact ⟨⟨x0,x1⟩,repL_app r0 (repL_app r1 (repL_nil))⟩
structure PairAct.Wf (x:PairAct):Prop where
 Kind:(Lit.int .u8 x.Kind).wf=true
set_option maxRecDepth 100000 in
theorem rd_T125 {H:Type} {enc:TypeId × Value→H} {W:World} {spare:Nat→Bool} {held:Bool} {fuel:Nat} {cs:List Value} {y:DataW H × List MemPlace} (h:DataW.trod enc Tryz.prog W 0 spare held fuel 125 cs=some y):∃ x:PairAct,PairAct.Wf x∧RepL (MW W) noBk cs [.y8 x.Kind,.b x.Back]:=by
 obtain ⟨xs,n,_,_,hl,hx,hall⟩:=DataW.trod_struct Tryz.underlying125 h
 have hce:Tryz.prog.cellsOf 125=2:=by kernel_rfl
 rw [hce] at hl
 match cs,hl,hall with
 | [c0,c1],_,hall =>
  obtain ⟨y0,hy0⟩:=get_some hx (show 0 < 2 by omega)
  have g0:DataW.trod enc Tryz.prog W 0 spare held n 5 [c0]=some y0:=by
   have hz:Tryz.prog.cellsOf 5=1:=by kernel_rfl
   have g:DataW.trod enc Tryz.prog W 0 spare held n 5 (([c0,c1].drop 0).take (Tryz.prog.cellsOf 5))=some y0:=(hall 0 _ rfl).trans hy0
   rw [hz] at g;exact g
  obtain ⟨x0,w0,r0⟩:=rd_int Tryz.underlying5 g0
  obtain ⟨y1,hy1⟩:=get_some hx (show 1 < 2 by omega)
  have g1:DataW.trod enc Tryz.prog W 0 spare held n 4 [c1]=some y1:=by
   have hz:Tryz.prog.cellsOf 4=1:=by kernel_rfl
   have g:DataW.trod enc Tryz.prog W 0 spare held n 4 (([c0,c1].drop 1).take (Tryz.prog.cellsOf 4))=some y1:=(hall 1 _ rfl).trans hy1
   rw [hz] at g;exact g
  obtain ⟨x1,r1⟩:=rd_bool Tryz.underlying4 g1
  exact ⟨⟨x0,x1⟩,⟨w0⟩,repL_app r0 (repL_app r1 (repL_nil))⟩
theorem rd_T121 {H:Type} {enc:TypeId × Value→H} {W:World} {spare:Nat→Bool} {held:Bool} {fuel:Nat} {cs:List Value} {y:DataW H × List MemPlace} (h:DataW.trod enc Tryz.prog W 0 spare held fuel 121 cs=some y):∃ x:List PairAct,(∀ z ∈ x,PairAct.Wf z)∧RepL (MW W) noBk cs [(fun l:List PairAct=>V.sl (l.map PairAct.v) false) x] :=
 rd_slice (f:=PairAct.v) (es:=2) (wf:=PairAct.Wf) Tryz.underlying121 (fun _=>rfl) (by intro a v hv;simp [V.cells] at hv;first | (subst hv;rfl) | (rcases hv with rfl | rfl <;> rfl)) (by omega) (by kernel_rfl) (fun n cs y h=>rd_T125 h) h
end Go.Proofs.YtpmoioopjbfhkaaGreat

namespace Go.Proofs.YtpmoioopjbfhkaaGreat
open Go.RowKit
theorem some_bif {α:Type} (b:Bool) (x y:α):(bif b then some x else some y)=some (bif b then x else y):=by cases b <;> rfl
def subC (s:Int):Int:=if s < 0∨15 < s then 8 else if s=5∨s=7∨s=13∨s=15∨s=10∨s=11∨s=14 then 4 else 0
theorem sub16 {s:Int} (h:¬ (s < 0∨15 < s)):s=0∨s=1∨s=2∨s=3∨s=4∨s=5∨s=6∨s=7∨s=8∨s=9∨s=10∨s=11∨s=12∨s=13∨s=14∨s=15:=by omega
theorem subs_p (s:Int):p_subs_Check s=some (subC s):=by
 by_cases h:s < 0∨15 < s
 ·unfold p_subs_Check subC
  rw [if_pos h]
  by_cases h1:s < 0
  ·rw [show decide (s < 0)=true by simpa using h1];rfl
  ·rw [show decide (s < 0)=false by simpa using h1,show decide (15 < s)=true by simp;omega];rfl
 ·rcases sub16 h with rfl | rfl | rfl | rfl | rfl | rfl | rfl | rfl | rfl | rfl | rfl | rfl | rfl | rfl | rfl | rfl <;> kernel_rfl
theorem rsub_p (s:Int):p_ref19_Check s=some (subC s):=by
 by_cases h:s < 0∨15 < s
 ·unfold p_ref19_Check subC
  rw [if_pos h]
  by_cases h1:s < 0
  ·rw [show decide (s < 0)=true by simpa using h1];rfl
  ·rw [show decide (s < 0)=false by simpa using h1,show decide (15 < s)=true by simp;omega];rfl
 ·rcases sub16 h with rfl | rfl | rfl | rfl | rfl | rfl | rfl | rfl | rfl | rfl | rfl | rfl | rfl | rfl | rfl | rfl <;> kernel_rfl
theorem subC_in {s:Int} (h:subC s=0):¬ (s < 0∨15 < s):=fun g=>by unfold subC at h;rw [if_pos g] at h;omega
def hasB (s p:Int):Bool:=bif subC s == 0 then andI .i64 s p != 0 else false
theorem has_p (x:ItemItem) (p:Int):p_item_Item_has x p=some (hasB x.Sub p):=by
 unfold p_item_Item_has hasB
 rw [subs_p]
 simp only [Option.bind_some,some_bif]
theorem rhas_p (x:ItemItem) (p:Int) (hp:p=1∨p=2∨p=4):p_ref20_has x p=some (hasB x.Sub p):=by
 unfold p_ref20_has hasB
 rw [rsub_p]
 have e:ne0? p=some ():=by rcases hp with rfl | rfl | rfl <;> rfl
 simp only [Option.bind_some,e,some_bif]
 refine congrArg some ?_
 by_cases h:subC x.Sub=0
 ·rcases sub16 (subC_in h) with g | g | g | g | g | g | g | g | g | g | g | g | g | g | g | g <;> rw [g] <;> rcases hp with rfl | rfl | rfl <;> kernel_rfl
 ·rw [show (subC x.Sub == 0)=false by simpa using h];rfl
def listedI (x:ItemItem):Bool:=x.Own || hasB x.Sub 7
theorem has7 (s:Int):hasB s 7=(hasB s 1 || (hasB s 2 || hasB s 4)):=by
 by_cases h:subC s=0
 ·rcases sub16 (subC_in h) with rfl | rfl | rfl | rfl | rfl | rfl | rfl | rfl | rfl | rfl | rfl | rfl | rfl | rfl | rfl | rfl <;> kernel_rfl
 ·unfold hasB;rw [show (subC s == 0)=false by simpa using h];rfl
theorem listed_p (x:ItemItem):p_item_Listed x=some (listedI x):=by
 unfold p_item_Listed listedI
 rw [has_p]
 cases x.Own <;> rfl
theorem rlisted_p (x:ItemItem):p_ref20_Listed x=some (listedI x):=by
 unfold p_ref20_Listed listedI
 rw [rhas_p x 1 (.inl rfl),rhas_p x 2 (.inr (.inl rfl)),rhas_p x 4 (.inr (.inr rfl)),has7]
 cases x.Own <;> cases hasB x.Sub 1 <;> cases hasB x.Sub 2 <;> rfl
def idleI (x:ItemItem):Bool:=x.Sub == 0 && !x.Own
theorem idle_p (x:ItemItem):p_item_Idle x=some (idleI x):=by
 unfold p_item_Idle idleI
 cases x.Sub == 0 <;> rfl
theorem ridle_p (x:ItemItem):p_ref20_Idle x=some (idleI x):=by
 unfold p_ref20_Idle idleI
 cases x.Sub == 0 <;> cases x.Own <;> rfl
def chkI (x:ItemItem):Int :=
 bif isBareL x.Contact.data.toList then bif decide ((24:Int) < (x.Name.size:Int)) then 5 else bif plainL x.Name.data.toList then bif subC x.Sub != 0 then subC x.Sub else bif decide (x.Ver < 0) then 8 else bif decide ((1099511627776:Int) < x.Ver) then 8 else bif x.Name.toList == (⟨#[]⟩ : ByteArray).toList then 0 else bif x.Own then 0 else 4 else 11 else 11
theorem check_p {x:ItemItem} (h:x.Contact.size≤100000) (hn:x.Name.size≤100000):p_item_Check x=some (chkI x):=by
 unfold p_item_Check p_addr_IsBare p_utf_Plain chkI
 rw [if_pos h,if_pos hn,subs_p]
 simp only [Option.bind_some,some_bif]
theorem rcheck_p {x:ItemItem} (h:x.Contact.size≤100000) (hn:x.Name.size≤100000):p_ref20_Check x=some (chkI x):=by
 unfold p_ref20_Check p_ref09_IsBare p_ref02_Plain chkI
 rw [if_pos h,if_pos hn,rsub_p]
 simp only [Option.bind_some,some_bif]
structure FineI (x:ItemItem):Prop where
 bare:isBareL x.Contact.data.toList=true
 name:x.Name.size≤24
 plain:plainL x.Name.data.toList=true
 sub:subC x.Sub=0
 ver:0≤x.Ver∧x.Ver≤1099511627776
 own:x.Own=true∨x.Name=⟨#[]⟩
theorem fine_of {x:ItemItem} (h:chkI x=0):FineI x:=by
 unfold chkI at h
 by_cases h1:isBareL x.Contact.data.toList=true
 case neg=>rw [Bool.not_eq_true] at h1;rw [h1,cond_false] at h;omega
 rw [h1,cond_true] at h
 by_cases h2:decide ((24:Int) < (x.Name.size:Int))=true
 ·rw [h2,cond_true] at h;omega
 rw [Bool.not_eq_true] at h2
 rw [h2,cond_false] at h
 by_cases h3:plainL x.Name.data.toList=true
 case neg=>rw [Bool.not_eq_true] at h3;rw [h3,cond_false] at h;omega
 rw [h3,cond_true] at h
 by_cases h4:(subC x.Sub != 0)=true
 ·rw [h4,cond_true] at h;rw [h] at h4;cases h4
 rw [Bool.not_eq_true] at h4
 rw [h4,cond_false] at h
 by_cases h5:decide (x.Ver < 0)=true
 ·rw [h5,cond_true] at h;omega
 rw [Bool.not_eq_true] at h5
 rw [h5,cond_false] at h
 by_cases h6:decide ((1099511627776:Int) < x.Ver)=true
 ·rw [h6,cond_true] at h;omega
 rw [Bool.not_eq_true] at h6
 rw [h6,cond_false] at h
 simp at h2 h4 h5 h6
 refine ⟨h1,by omega,h3,h4,⟨h5,h6⟩,?_⟩
 by_cases h7:(x.Name.toList == (⟨#[]⟩ : ByteArray).toList)=true
 ·exact .inr (eqT_iff.1 h7)
 ·rw [Bool.not_eq_true] at h7
  rw [h7,cond_false] at h
  cases h8:x.Own with
  | true=>exact .inl rfl
  | false=>rw [h8,cond_false] at h;omega
theorem fine_to {x:ItemItem} (h:FineI x):chkI x=0:=by
 have h2:decide ((24:Int) < (x.Name.size:Int))=false:=by have:=h.name;simp;omega
 have h5:decide (x.Ver < 0)=false:=by have:=h.ver;simp;omega
 have h6:decide ((1099511627776:Int) < x.Ver)=false:=by have:=h.ver;simp;omega
 unfold chkI
 rw [h.bare,h2,h.plain,h.sub,h5,h6]
 rcases h.own with e | e
 ·rw [e];cases (x.Name.toList == (⟨#[]⟩ : ByteArray).toList) <;> rfl
 ·rw [e,eqT_refl];rfl
theorem eq_cmp0 (a b:ByteArray):(a.toList == b.toList)=(Lib.compareBytes a.data.toList b.data.toList == 0):=by
 rw [tl_data,tl_data]
 by_cases h:a.data.toList=b.data.toList
 ·rw [h,cmp_refl];simp
 ·have h2:¬ Lib.compareBytes a.data.toList b.data.toList=0:=fun g=>h (cmp_eq0 g)
  rw [show (a.data.toList == b.data.toList)=false by simpa using h,show (Lib.compareBytes a.data.toList b.data.toList == 0)=false by simpa using h2]
end Go.Proofs.YtpmoioopjbfhkaaGreat

namespace Go.Proofs.YtpmoioopjbfhkaaGreat
open Go.RowKit
theorem loop_first {β γ:Type} {N:Nat} (hN:N≤1000) (L:Nat→Int→Option (β ⊕ γ)) (e:γ) (step:Nat→Option β) (h1:∀ n k,k < N→(∀ r,step k=some r→L (n + 1) (k:Int)=some (.inl r))∧(step k=none→L (n + 1) (k:Int)=L n ((k + 1:Nat):Int))) (h2:∀ n,L (n + 1) (N:Int)=some (.inr e)) :
  (∃ k,k < N∧∃ r,step k=some r∧(∀ j,j < k→step j=none)∧L fuel 0=some (.inl r))∨((∀ k,k < N→step k=none)∧L fuel 0=some (.inr e)):=by
 have key:∀ m k F,k + m=N→m < F→(∀ j,j < k→step j=none)→(∃ q,q < N∧∃ r,step q=some r∧(∀ j,j < q→step j=none)∧L F (k:Int)=some (.inl r))∨((∀ q,q < N→step q=none)∧L F (k:Int)=some (.inr e)):=by
  intro m
  induction m with
  | zero =>
   intro k F hk hF hj
   obtain ⟨F,rfl⟩ : ∃ G,F=G + 1:=⟨F - 1,by omega⟩
   have:k=N:=by omega
   subst this
   exact .inr ⟨hj,h2 F⟩
  | succ m ih =>
   intro k F hk hF hj
   obtain ⟨F,rfl⟩ : ∃ G,F=G + 1:=⟨F - 1,by omega⟩
   have hkn:k < N:=by omega
   cases hs:step k with
   | some r=>exact .inl ⟨k,hkn,r,hs,hj,(h1 F k hkn).1 r hs⟩
   | none =>
    rw [(h1 F k hkn).2 hs]
    refine ih (k + 1) F (by omega) (by omega) fun j hjk=>?_
    rcases Nat.lt_or_ge j k with h | h
    ·exact hj j h
    ·have:j=k:=by omega
     subst this;exact hs
 exact key N 0 fuel (by omega) (by have:=fuel_pos;omega) (fun j h=>absurd h (Nat.not_lt_zero j))
theorem loop_all {γ:Type} {N:Nat} (hN:N≤1000) (L:Nat→Int→Option (Bool ⊕ γ)) (e:γ) (ok:Nat→Prop) (h1:∀ n k,k < N→(ok k→L (n + 1) (k:Int)=L n ((k + 1:Nat):Int))∧(¬ ok k→L (n + 1) (k:Int)=some (.inl false))) (h2:∀ n,L (n + 1) (N:Int)=some (.inr e)) :
  ((∀ k,k < N→ok k)∧L fuel 0=some (.inr e))∨(¬ (∀ k,k < N→ok k)∧L fuel 0=some (.inl false)):=by
 classical
 have:=loop_first hN L e (fun k=>if ok k then none else some false) (fun n k hk=>⟨fun r hr=>?_,fun hr=>?_⟩) h2
 ·rcases this with ⟨k,hk,r,hr,_,h⟩ | ⟨ha,h⟩
  ·refine .inr ⟨fun g=>?_,?_⟩
   ·rw [if_pos (g k hk)] at hr;cases hr
   ·by_cases g:ok k
    ·rw [if_pos g] at hr;cases hr
    ·rw [if_neg g] at hr;cases hr;exact h
  ·refine .inl ⟨fun k hk=>?_,h⟩
   have:=ha k hk
   by_cases g:ok k
   ·exact g
   ·rw [if_neg g] at this;cases this
 ·by_cases g:ok k
  ·rw [if_pos g] at hr;cases hr
  ·rw [if_neg g] at hr;cases hr;exact (h1 n k hk).2 g
 ·by_cases g:ok k
  ·exact (h1 n k hk).1 g
  ·rw [if_neg g] at hr;cases hr
theorem at_mem {α:Type} {l:List α} {y:Int} {x:α} (h:at? l y=some x):x ∈ l:=by
 unfold at? at h
 split at h
 ·exact List.mem_of_getElem? h
 ·cases h
structure LightS (s:RosterState):Prop where
 items:s.Items.length≤20
 gone:s.Gone.length≤20
 item:∀ x ∈ s.Items,x.Contact.size≤100∧x.Name.size≤100
 went:∀ g ∈ s.Gone,g.Contact.size≤100
theorem errs_l {s:RosterState} (h:LightS s):∀ n y,p_roster_State_errors_l1 s.Items (s.Items.length:Int) n y=p_ref21_items_l1 s n y
 | 0,y=>rfl
 | n + 1,y=>by
  rw [p_roster_State_errors_l1,p_ref21_items_l1]
  cases hx:at? s.Items y with
  | none=>rfl
  | some x =>
   obtain ⟨a,b⟩:=h.item x (at_mem hx)
   simp only [Option.bind_some,check_p (x:=x) (by omega) (by omega),rcheck_p (x:=x) (by omega) (by omega),idle_p,ridle_p,errs_l h n]
theorem errs_p {s:RosterState} (h:LightS s):∃ e,p_roster_State_errors s=some e∧p_ref21_items s=some e∧(e=0→∀ x ∈ s.Items,chkI x=0):=by
 have hi:=h.items
 unfold p_roster_State_errors p_ref21_items
 have l1:=loop_first (N:=s.Items.length) (by omega) (p_ref21_items_l1 s) (s.Items.length:Int) (fun k=>match s.Items[k]? with | some x=>if chkI x≠0 then some (chkI x) else if idleI x then some 4 else none | none=>none) (fun n k hk=>by
  obtain ⟨a,b⟩:=h.item _ (List.getElem_mem hk)
  rw [p_ref21_items_l1,lt_tt hk,cond_true,at_lt hk,Option.bind_some,rcheck_p (by omega) (by omega),Option.bind_some,Option.bind_some,ridle_p,Option.bind_some,w64_succ (by omega),List.getElem?_eq_getElem hk]
  by_cases g:chkI s.Items[k]=0
  ·simp only [g,ne_eq,not_true_eq_false,if_false,bne_self_eq_false,cond_false]
   cases idleI s.Items[k] <;> simp
  ·simp only [g,ne_eq,not_false_eq_true,if_true,show (chkI s.Items[k] != 0)=true by simpa using g,cond_true]
   simp) (fun n=>by rw [p_ref21_items_l1,lt_ff (Nat.le_refl _)];rfl)
 rw [errs_l h]
 rcases l1 with ⟨k,hk,r,hr,_,e⟩ | ⟨ha,e⟩
 ·rw [e]
  refine ⟨r,rfl,rfl,fun h0=>?_⟩
  rw [List.getElem?_eq_getElem hk] at hr
  dsimp only at hr
  by_cases g:chkI s.Items[k]=0
  ·rw [if_neg (by simpa using g)] at hr
   split at hr
   ·cases hr;cases h0
   ·cases hr
  ·rw [if_pos g] at hr;cases hr;exact absurd h0 g
 ·rw [e]
  refine ⟨0,rfl,rfl,fun _ x hx=>?_⟩
  obtain ⟨k,hk,rfl⟩:=List.getElem_of_mem hx
  have:=ha k hk
  rw [List.getElem?_eq_getElem hk] at this
  dsimp only at this
  by_cases g:chkI s.Items[k]=0
  ·exact g
  ·rw [if_pos g] at this;cases this
def Idx {α:Type} (p:α→Bool) (l:List α) (v:Int):Prop :=
 (∃ k:Nat,v=k∧∃ x,l[k]?=some x∧p x=true∧∀ j,j < k→∀ y,l[j]?=some y→p y=false)∨(v=-1∧∀ x ∈ l,p x=false)
theorem idxG_p (p:RosterGone→Bool) (l:List RosterGone) (hl:l.length≤1000):∃ v,p_slices_IndexFunc_roster_Gone l (fun x=>some (p x))=some v∧Idx p l v:=by
 have l1:=loop_first (N:=l.length) hl (p_slices_IndexFunc_roster_Gone_l1 (fun x=>some (p x)) l (l.length:Int)) (l.length:Int) (fun k=>match l[k]? with | some x=>if p x then some (k:Int) else none | none=>none) (fun n k hk=>by
  rw [p_slices_IndexFunc_roster_Gone_l1,lt_tt hk,cond_true,at_lt hk,Option.bind_some,Option.bind_some,w64_succ (by omega),List.getElem?_eq_getElem hk]
  dsimp only
  cases p l[k] <;> simp) (fun n=>by rw [p_slices_IndexFunc_roster_Gone_l1,lt_ff (Nat.le_refl _)];rfl)
 unfold p_slices_IndexFunc_roster_Gone
 rcases l1 with ⟨k,hk,r,hr,hj,e⟩ | ⟨ha,e⟩
 ·rw [e]
  rw [List.getElem?_eq_getElem hk] at hr
  dsimp only at hr
  split at hr
  case isFalse=>cases hr
  rename_i hp
  cases hr
  refine ⟨_,rfl,.inl ⟨k,rfl,_,List.getElem?_eq_getElem hk,hp,fun j hjk y hy=>?_⟩⟩
  have:=hj j hjk
  rw [hy] at this
  dsimp only at this
  split at this
  ·cases this
  ·rename_i g;simpa using g
 ·rw [e]
  refine ⟨_,rfl,.inr ⟨rfl,fun x hx=>?_⟩⟩
  obtain ⟨k,hk,rfl⟩:=List.getElem_of_mem hx
  have:=ha k hk
  rw [List.getElem?_eq_getElem hk] at this
  dsimp only at this
  split at this
  ·cases this
  ·rename_i g;simpa using g
theorem idxI_p (p:ItemItem→Bool) (l:List ItemItem) (hl:l.length≤1000):∃ v,p_slices_IndexFunc_item_Item l (fun x=>some (p x))=some v∧Idx p l v:=by
 have l1:=loop_first (N:=l.length) hl (p_slices_IndexFunc_item_Item_l1 (fun x=>some (p x)) l (l.length:Int)) (l.length:Int) (fun k=>match l[k]? with | some x=>if p x then some (k:Int) else none | none=>none) (fun n k hk=>by
  rw [p_slices_IndexFunc_item_Item_l1,lt_tt hk,cond_true,at_lt hk,Option.bind_some,Option.bind_some,w64_succ (by omega),List.getElem?_eq_getElem hk]
  dsimp only
  cases p l[k] <;> simp) (fun n=>by rw [p_slices_IndexFunc_item_Item_l1,lt_ff (Nat.le_refl _)];rfl)
 unfold p_slices_IndexFunc_item_Item
 rcases l1 with ⟨k,hk,r,hr,hj,e⟩ | ⟨ha,e⟩
 ·rw [e]
  rw [List.getElem?_eq_getElem hk] at hr
  dsimp only at hr
  split at hr
  case isFalse=>cases hr
  rename_i hp
  cases hr
  refine ⟨_,rfl,.inl ⟨k,rfl,_,List.getElem?_eq_getElem hk,hp,fun j hjk y hy=>?_⟩⟩
  have:=hj j hjk
  rw [hy] at this
  dsimp only at this
  split at this
  ·cases this
  ·rename_i g;simpa using g
 ·rw [e]
  refine ⟨_,rfl,.inr ⟨rfl,fun x hx=>?_⟩⟩
  obtain ⟨k,hk,rfl⟩:=List.getElem_of_mem hx
  have:=ha k hk
  rw [List.getElem?_eq_getElem hk] at this
  dsimp only at this
  split at this
  ·cases this
  ·rename_i g;simpa using g
theorem Idx.has {α:Type} {p:α→Bool} {l:List α} {v:Int} (h:Idx p l v):decide ((0:Int)≤v)=l.any p:=by
 rcases h with ⟨k,rfl,x,hx,hp,_⟩ | ⟨rfl,h⟩
 ·rw [show decide ((0:Int)≤(k:Int))=true by simp]
  symm;rw [List.any_eq_true];exact ⟨x,List.mem_of_getElem? hx,hp⟩
 ·symm
  show l.any p=false
  rw [List.any_eq_false];intro x hx;rw [h x hx];simp
theorem gone_p {s:RosterState} (h:LightS s):p_slices_ContainsFunc_roster_Gone s.Gone (fun x=>p_roster_Check_1 x)=some (s.Gone.any fun g=>!isBareL g.Contact.data.toList) ∧
  ((s.Gone.any fun g=>!isBareL g.Contact.data.toList)=true∧p_ref21_Check_l1 s fuel 0=some (.inl 11)∨(s.Gone.any fun g=>!isBareL g.Contact.data.toList)=false∧p_ref21_Check_l1 s fuel 0=some (.inr (s.Gone.length:Int))):=by
 have hg:=h.gone
 constructor
 ·unfold p_slices_ContainsFunc_roster_Gone
  have e:p_slices_IndexFunc_roster_Gone s.Gone (fun x=>p_roster_Check_1 x)=p_slices_IndexFunc_roster_Gone s.Gone (fun x=>some (!isBareL x.Contact.data.toList)):=by
   unfold p_slices_IndexFunc_roster_Gone
   have:∀ n y,p_slices_IndexFunc_roster_Gone_l1 (fun x=>p_roster_Check_1 x) s.Gone (s.Gone.length:Int) n y=p_slices_IndexFunc_roster_Gone_l1 (fun x=>some (!isBareL x.Contact.data.toList)) s.Gone (s.Gone.length:Int) n y:=by
    intro n
    induction n with
    | zero=>intro y;rfl
    | succ n ih =>
     intro y
     rw [p_slices_IndexFunc_roster_Gone_l1,p_slices_IndexFunc_roster_Gone_l1]
     cases hx:at? s.Gone y with
     | none=>rfl
     | some g =>
      have:=h.went g (at_mem hx)
      have e:p_roster_Check_1 g=some (!isBareL g.Contact.data.toList):=by unfold p_roster_Check_1 p_addr_IsBare;rw [if_pos (by omega)];rfl
      simp only [Option.bind_some,e,ih]
   rw [this]
  obtain ⟨v,hv,hi⟩:=idxG_p (fun x=>!isBareL x.Contact.data.toList) s.Gone (by omega)
  rw [e,hv,Option.bind_some,hi.has]
 ·have l1:=loop_first (N:=s.Gone.length) (by omega) (p_ref21_Check_l1 s) (s.Gone.length:Int) (fun k=>match s.Gone[k]? with | some g=>if isBareL g.Contact.data.toList then none else some 11 | none=>none) (fun n k hk=>by
   have:=h.went _ (List.getElem_mem hk)
   rw [p_ref21_Check_l1,lt_tt hk,cond_true,at_lt hk,Option.bind_some,p_ref09_IsBare,if_pos (by omega),Option.bind_some,w64_succ (by omega),List.getElem?_eq_getElem hk]
   dsimp only
   cases isBareL s.Gone[k].Contact.data.toList <;> simp) (fun n=>by rw [p_ref21_Check_l1,lt_ff (Nat.le_refl _)];rfl)
  rcases l1 with ⟨k,hk,r,hr,_,e⟩ | ⟨ha,e⟩
  ·rw [List.getElem?_eq_getElem hk] at hr
   dsimp only at hr
   split at hr
   ·cases hr
   ·rename_i g
    cases hr
    refine .inl ⟨?_,e⟩
    rw [List.any_eq_true]
    exact ⟨_,List.getElem_mem hk,by simpa using g⟩
  ·refine .inr ⟨?_,e⟩
   rw [List.any_eq_false]
   intro x hx
   obtain ⟨k,hk,rfl⟩:=List.getElem_of_mem hx
   have:=ha k hk
   rw [List.getElem?_eq_getElem hk] at this
   dsimp only at this
   split at this
   ·rename_i g;simpa using g
   ·cases this
end Go.Proofs.YtpmoioopjbfhkaaGreat

