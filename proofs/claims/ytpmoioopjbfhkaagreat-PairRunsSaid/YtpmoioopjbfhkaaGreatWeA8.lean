/- A part of the proof: 6 texts joined. -/
import Derived.Test.YtpmoioopjbfhkaaGreatWeA7
import Derived.KernelRfl
set_option linter.all false
namespace Go.Proofs.YtpmoioopjbfhkaaGreat
open Go.RowKit
def p_ref21_Light_l1 (z7:RosterState):Nat→Int→Option (Bool ⊕ Int)
 | 0,_=>none
 | n + 1,y6 =>
  bif (decide (y6 < (z7.Items.length:Int))) then
   (at? z7.Items y6).bind fun x9 =>
   (p_ref20_Light x9).bind fun v10 =>
   bif v10 then
    p_ref21_Light_l1 z7 n (w64 (y6 + (1:Int)))
   else
   some (.inl false)
  else
  some (.inr y6)
def p_ref21_Light_l2 (z19:RosterState):Nat→Int→Option (Bool ⊕ Int)
 | 0,_=>none
 | n + 1,y18 =>
  bif (decide (y18 < (z19.Gone.length:Int))) then
   (at? z19.Gone y18).bind fun x21 =>
   bif (decide ((100:Int) < (x21.Contact.size:Int))) then
    some (.inl false)
   else
   p_ref21_Light_l2 z19 n (w64 (y18 + (1:Int)))
  else
  some (.inr y18)
def p_ref21_Light (a0:RosterState):Option (Bool) :=
 bif (decide ((20:Int) < (a0.Items.length:Int))) then
  some false
 else
 bif (decide ((20:Int) < (a0.Gone.length:Int))) then
  some false
 else
 (p_ref21_Light_l1 a0 fuel (0:Int)).bind fun o12=>match o12 with
 | .inl q13 =>
  some q13
 | .inr q14 =>
  (p_ref21_Light_l2 a0 fuel (0:Int)).bind fun o23=>match o23 with
  | .inl q24 =>
   some q24
  | .inr q25 =>
   some true
def p_law21_Own_l1 (z7:RosterState):Nat→Int→RosterState→Option ((Int × RosterState))
 | 0,_,_=>none
 | n + 1,y6,y9 =>
  bif (decide (y6 < (z7.Gone.length:Int))) then
   (at? z7.Gone y6).bind fun x11 =>
   (app? y9.Gone [x11]).bind fun l12 =>
   p_law21_Own_l1 z7 n (w64 (y6 + (1:Int))) (RosterState.mk y9.Ver y9.Floor y9.Items l12)
  else
  some (y6,y9)
def p_law21_Own (a0:RosterState):Option (RosterState) :=
 (p_law20_Own a0.Items).bind fun v1 =>
 (p_law21_Own_l1 a0 fuel (0:Int) (RosterState.mk a0.Ver a0.Floor v1 [])).bind fun q14 =>
 some q14.2
def p_roster_State_errors_l1 (z5:List ItemItem) (z6:Int):Nat→Int→Option (Int ⊕ Int)
 | 0,_=>none
 | n + 1,y7 =>
  bif (decide (y7 < z6)) then
   (at? z5 y7).bind fun x9 =>
   (p_item_Check x9).bind fun v10 =>
   bif (v10 != (0:Int)) then
    some (.inl v10)
   else
   (p_item_Idle x9).bind fun v12 =>
   bif v12 then
    some (.inl (4:Int))
   else
   p_roster_State_errors_l1 z5 z6 n (w64 (y7 + (1:Int)))
  else
  some (.inr y7)
def p_roster_State_errors (a0:RosterState):Option (Int) :=
 (p_roster_State_errors_l1 a0.Items (a0.Items.length:Int) fuel (0:Int)).bind fun o14=>match o14 with
 | .inl q15 =>
  some q15
 | .inr q16 =>
  some (0:Int)
def p_roster_Check_1 (a0:RosterGone):Option (Bool) :=
 (p_addr_IsBare a0.Contact).bind fun v1 =>
 some (!v1)
def p_slices_ContainsFunc_roster_Gone (a0:List RosterGone) (a1:RosterGone→Option Bool):Option (Bool) :=
 (p_slices_IndexFunc_roster_Gone a0 a1).bind fun v1 =>
 some (decide ((0:Int)≤v1))
def p_roster_State_of_1 (a0:ItemItem) (c0:Int):Option (Bool) :=
 some (a0.Ver == c0)
def p_slices_IndexFunc_item_Item_l1 (a1:ItemItem→Option Bool) (z5:List ItemItem) (z6:Int):Nat→Int→Option (Int ⊕ Int)
 | 0,_=>none
 | n + 1,y7 =>
  bif (decide (y7 < z6)) then
   (at? z5 y7).bind fun x9 =>
   (a1 x9).bind fun v10 =>
   bif v10 then
    some (.inl y7)
   else
   p_slices_IndexFunc_item_Item_l1 a1 z5 z6 n (w64 (y7 + (1:Int)))
  else
  some (.inr y7)
def p_slices_IndexFunc_item_Item (a0:List ItemItem) (a1:ItemItem→Option Bool):Option (Int) :=
 (p_slices_IndexFunc_item_Item_l1 a1 a0 (a0.length:Int) fuel (0:Int)).bind fun o12=>match o12 with
 | .inl q13 =>
  some q13
 | .inr q14 =>
  some (-1:Int)
def p_roster_State_of (a0:RosterState) (a1:Int):Option (Int) :=
 (p_slices_IndexFunc_item_Item a0.Items (fun x0=>p_roster_State_of_1 x0 a1)).bind fun v1 =>
 some v1
def p_roster_State_rise_l1 (z6:List ItemItem) (z7:Int) (z9:RosterState):Nat→Int→Option (Bool ⊕ Int)
 | 0,_=>none
 | n + 1,y8 =>
  bif (decide (y8 < z7)) then
   (at? z6 y8).bind fun x11 =>
   bif (decide (x11.Ver < (1:Int))) then
    some (.inl false)
   else
   bif (decide (z9.Ver < x11.Ver)) then
    some (.inl false)
   else
   (p_roster_State_of z9 x11.Ver).bind fun v14 =>
   bif (v14 != y8) then
    some (.inl false)
   else
   bif (decide ((0:Int) < y8)) then
    (at? z9.Items (w64 (y8 - (1:Int)))).bind fun x17 =>
    bif (Op.bytesLess x17.Contact.toList x11.Contact.toList) then
     p_roster_State_rise_l1 z6 z7 z9 n (w64 (y8 + (1:Int)))
    else
    some (.inl false)
   else
   p_roster_State_rise_l1 z6 z7 z9 n (w64 (y8 + (1:Int)))
  else
  some (.inr y8)
def p_roster_State_rise (a0:RosterState):Option (Bool) :=
 (p_roster_State_rise_l1 a0.Items (a0.Items.length:Int) a0 fuel (0:Int)).bind fun o19=>match o19 with
 | .inl q20 =>
  some q20
 | .inr q21 =>
  some true
def p_roster_State_left_1 (a0:RosterGone) (c0:RosterGone):Option (Bool) :=
 some (a0.Contact.toList == c0.Contact.toList)
def p_roster_State_left_l1 (z8:List RosterGone) (z9:Int) (z11:RosterState):Nat→Int→Int→Option (Bool ⊕ (Int × Int))
 | 0,_,_=>none
 | n + 1,y7,y10 =>
  bif (decide (y10 < z9)) then
   (at? z8 y10).bind fun x13 =>
   bif (decide (x13.Ver≤y7)) then
    some (.inl false)
   else
   bif (decide (z11.Ver < x13.Ver)) then
    some (.inl false)
   else
   (cut? z11.Gone none (some y10)).bind fun x16 =>
   (p_slices_ContainsFunc_roster_Gone x16 (fun x0=>p_roster_State_left_1 x0 x13)).bind fun v17 =>
   bif v17 then
    some (.inl false)
   else
   (p_roster_State_of z11 x13.Ver).bind fun v19 =>
   bif (decide ((0:Int)≤v19)) then
    (at? z11.Items v19).bind fun x21 =>
    bif (x21.Contact.toList == x13.Contact.toList) then
     (p_roster_State_find z11 x13.Contact).bind fun v23 =>
     bif v23.2 then
      (at? z11.Items v23.1).bind fun x25 =>
      (p_item_Listed x25).bind fun v26 =>
      bif v26 then
       some (.inl false)
      else
      p_roster_State_left_l1 z8 z9 z11 n x13.Ver (w64 (y10 + (1:Int)))
     else
     p_roster_State_left_l1 z8 z9 z11 n x13.Ver (w64 (y10 + (1:Int)))
    else
    some (.inl false)
   else
   (p_roster_State_find z11 x13.Contact).bind fun v28 =>
   bif v28.2 then
    (at? z11.Items v28.1).bind fun x30 =>
    (p_item_Listed x30).bind fun v31 =>
    bif v31 then
     some (.inl false)
    else
    p_roster_State_left_l1 z8 z9 z11 n x13.Ver (w64 (y10 + (1:Int)))
   else
   p_roster_State_left_l1 z8 z9 z11 n x13.Ver (w64 (y10 + (1:Int)))
  else
  some (.inr (y7,y10))
def p_roster_State_left (a0:RosterState):Option (Bool) :=
 (p_roster_State_left_l1 a0.Gone (a0.Gone.length:Int) a0 fuel a0.Floor (0:Int)).bind fun o33=>match o33 with
 | .inl q34 =>
  some q34
 | .inr q35 =>
  some true
def p_roster_Check (a0:RosterState):Option (Int) :=
 bif (decide ((12:Int) < (a0.Items.length:Int))) then
  some (5:Int)
 else
 bif (decide ((8:Int) < (a0.Gone.length:Int))) then
  some (5:Int)
 else
 bif (decide (a0.Ver < (0:Int))) then
  some (8:Int)
 else
 bif (decide ((1099511627776:Int) < a0.Ver)) then
  some (8:Int)
 else
 bif (decide (a0.Floor < (0:Int))) then
  some (8:Int)
 else
 bif (decide (a0.Ver < a0.Floor)) then
  some (8:Int)
 else
 (p_roster_State_errors a0).bind fun v7 =>
 bif (v7 != (0:Int)) then
  some v7
 else
 (p_slices_ContainsFunc_roster_Gone a0.Gone (fun x0=>p_roster_Check_1 x0)).bind fun v9 =>
 bif v9 then
  some (11:Int)
 else
 (p_roster_State_rise a0).bind fun v11 =>
 bif v11 then
  (p_roster_State_left a0).bind fun v13 =>
  bif v13 then
   some (0:Int)
  else
  some (10:Int)
 else
 some (10:Int)
def p_roster_Find (a0:RosterState) (a1:ByteArray):Option (ItemItem × Bool) :=
 (p_roster_Check a0).bind fun v1 =>
 bif (v1 != (0:Int)) then
  some ((ItemItem.mk (⟨#[]⟩ : ByteArray) (⟨#[]⟩ : ByteArray) (0:Int) (0:Int) false),false)
 else
 (p_roster_State_find a0 a1).bind fun v3 =>
 bif v3.2 then
  (at? a0.Items v3.1).bind fun x5 =>
  some (x5,true)
 else
 some ((ItemItem.mk (⟨#[]⟩ : ByteArray) (⟨#[]⟩ : ByteArray) (0:Int) (0:Int) false),false)
def p_roster_State_may (a0:RosterState) (a1:Bool) (a2:Bool):Option (Int) :=
 bif a2 then
  bif a1 then
   bif (decide ((1099511627776:Int)≤a0.Ver)) then
    some (9:Int)
   else
   some (0:Int)
  else
  bif (decide ((12:Int)≤(a0.Items.length:Int))) then
   some (7:Int)
  else
  bif (decide ((1099511627776:Int)≤a0.Ver)) then
   some (9:Int)
  else
  some (0:Int)
 else
 bif (decide ((1099511627776:Int)≤a0.Ver)) then
  some (9:Int)
 else
 some (0:Int)
def p_ref21_place_l1 (z6:ByteArray) (z8:RosterState):Nat→Int→Option (Int)
 | 0,_=>none
 | n + 1,y7 =>
  bif (decide (y7 < (z8.Items.length:Int))) then
   (at? z8.Items y7).bind fun x10 =>
   bif (Op.bytesLess x10.Contact.toList z6.toList) then
    p_ref21_place_l1 z6 z8 n (w64 (y7 + (1:Int)))
   else
   some y7
  else
  some y7
def p_ref21_place (a0:RosterState) (a1:ByteArray):Option (Int × Bool) :=
 (p_ref21_place_l1 a1 a0 fuel (0:Int)).bind fun q13 =>
 bif (decide (q13 < (a0.Items.length:Int))) then
  (at? a0.Items q13).bind fun x15 =>
  some (q13,(x15.Contact.toList == a1.toList))
 else
 some (q13,false)
def p_ref21_items_l1 (z5:RosterState):Nat→Int→Option (Int ⊕ Int)
 | 0,_=>none
 | n + 1,y4 =>
  bif (decide (y4 < (z5.Items.length:Int))) then
   (at? z5.Items y4).bind fun x7 =>
   (p_ref20_Check x7).bind fun v8 =>
   bif (v8 != (0:Int)) then
    some (.inl v8)
   else
   (at? z5.Items y4).bind fun x10 =>
   (p_ref20_Idle x10).bind fun v11 =>
   bif v11 then
    some (.inl (4:Int))
   else
   p_ref21_items_l1 z5 n (w64 (y4 + (1:Int)))
  else
  some (.inr y4)
def p_ref21_items (a0:RosterState):Option (Int) :=
 (p_ref21_items_l1 a0 fuel (0:Int)).bind fun o13=>match o13 with
 | .inl q14 =>
  some q14
 | .inr q15 =>
  some (0:Int)
def p_ref21_rises_l2 (z28:Int) (z30:RosterState) (z31:ItemItem):Nat→Int→Option (Bool ⊕ Int)
 | 0,_=>none
 | n + 1,y29 =>
  bif (decide (y29 < z28)) then
   (at? z30.Items y29).bind fun x33 =>
   bif (x33.Ver == z31.Ver) then
    some (.inl false)
   else
   p_ref21_rises_l2 z28 z30 z31 n (w64 (y29 + (1:Int)))
  else
  some (.inr y29)
def p_ref21_rises_l1 (z5:RosterState):Nat→Int→Option (Bool ⊕ Int)
 | 0,_=>none
 | n + 1,y4 =>
  bif (decide (y4 < (z5.Items.length:Int))) then
   (at? z5.Items y4).bind fun x7 =>
   bif (decide (x7.Ver < (1:Int))) then
    some (.inl false)
   else
   bif (decide (z5.Ver < x7.Ver)) then
    some (.inl false)
   else
   bif (decide ((0:Int) < y4)) then
    (at? z5.Items (w64 (y4 - (1:Int)))).bind fun x11 =>
    bif (Op.bytesLess x11.Contact.toList x7.Contact.toList) then
     (p_ref21_rises_l2 y4 z5 x7 fuel (0:Int)).bind fun o25=>match o25 with
     | .inl q26 =>
      some (.inl q26)
     | .inr q27 =>
      p_ref21_rises_l1 z5 n (w64 (y4 + (1:Int)))
    else
    some (.inl false)
   else
   (p_ref21_rises_l2 y4 z5 x7 fuel (0:Int)).bind fun o35=>match o35 with
   | .inl q36 =>
    some (.inl q36)
   | .inr q37 =>
    p_ref21_rises_l1 z5 n (w64 (y4 + (1:Int)))
  else
  some (.inr y4)
def p_ref21_rises_l4 (z59:Int) (z61:RosterState) (z62:RosterGone):Nat→Int→Option (Bool ⊕ Int)
 | 0,_=>none
 | n + 1,y60 =>
  bif (decide (y60 < z59)) then
   (at? z61.Gone y60).bind fun x64 =>
   bif (x64.Contact.toList == z62.Contact.toList) then
    some (.inl false)
   else
   p_ref21_rises_l4 z59 z61 z62 n (w64 (y60 + (1:Int)))
  else
  some (.inr y60)
def p_ref21_rises_l5 (z78:RosterState) (z79:RosterGone):Nat→Int→Option (Bool ⊕ Int)
 | 0,_=>none
 | n + 1,y77 =>
  bif (decide (y77 < (z78.Items.length:Int))) then
   (at? z78.Items y77).bind fun x81 =>
   bif (x81.Ver == z79.Ver) then
    bif (x81.Contact.toList == z79.Contact.toList) then
     (p_ref20_Listed x81).bind fun v84 =>
     bif v84 then
      some (.inl false)
     else
     (p_ref20_Listed x81).bind fun v86 =>
     bif v86 then
      some (.inl false)
     else
     p_ref21_rises_l5 z78 z79 n (w64 (y77 + (1:Int)))
    else
    some (.inl false)
   else
   bif (x81.Contact.toList == z79.Contact.toList) then
    (p_ref20_Listed x81).bind fun v89 =>
    bif v89 then
     some (.inl false)
    else
    p_ref21_rises_l5 z78 z79 n (w64 (y77 + (1:Int)))
   else
   p_ref21_rises_l5 z78 z79 n (w64 (y77 + (1:Int)))
  else
  some (.inr y77)
def p_ref21_rises_l3 (z47:RosterState):Nat→Int→Int→Option (Bool ⊕ (Int × Int))
 | 0,_,_=>none
 | n + 1,y45,y46 =>
  bif (decide (y46 < (z47.Gone.length:Int))) then
   (at? z47.Gone y46).bind fun x49 =>
   bif (decide (x49.Ver≤y45)) then
    some (.inl false)
   else
   bif (decide (z47.Ver < x49.Ver)) then
    some (.inl false)
   else
   (p_ref21_rises_l4 y46 z47 x49 fuel (0:Int)).bind fun o66=>match o66 with
   | .inl q67 =>
    some (.inl q67)
   | .inr q68 =>
    (p_ref21_rises_l5 z47 x49 fuel (0:Int)).bind fun o91=>match o91 with
    | .inl q92 =>
     some (.inl q92)
    | .inr q93 =>
     p_ref21_rises_l3 z47 n x49.Ver (w64 (y46 + (1:Int)))
  else
  some (.inr (y45,y46))
def p_ref21_rises (a0:RosterState):Option (Bool) :=
 (p_ref21_rises_l1 a0 fuel (0:Int)).bind fun o38=>match o38 with
 | .inl q39 =>
  some q39
 | .inr q40 =>
  (p_ref21_rises_l3 a0 fuel a0.Floor (0:Int)).bind fun o94=>match o94 with
  | .inl q95 =>
   some q95
  | .inr q96 =>
   some true
def p_ref21_Check_l1 (z14:RosterState):Nat→Int→Option (Int ⊕ Int)
 | 0,_=>none
 | n + 1,y13 =>
  bif (decide (y13 < (z14.Gone.length:Int))) then
   (at? z14.Gone y13).bind fun x16 =>
   (p_ref09_IsBare x16.Contact).bind fun v17 =>
   bif v17 then
    p_ref21_Check_l1 z14 n (w64 (y13 + (1:Int)))
   else
   some (.inl (11:Int))
  else
  some (.inr y13)
def p_ref21_Check (a0:RosterState):Option (Int) :=
 bif (decide ((12:Int) < (a0.Items.length:Int))) then
  some (5:Int)
 else
 bif (decide ((8:Int) < (a0.Gone.length:Int))) then
  some (5:Int)
 else
 bif (decide (a0.Ver < (0:Int))) then
  some (8:Int)
 else
 bif (decide ((1099511627776:Int) < a0.Ver)) then
  some (8:Int)
 else
 bif (decide (a0.Floor < (0:Int))) then
  some (8:Int)
 else
 bif (decide (a0.Ver < a0.Floor)) then
  some (8:Int)
 else
 (p_ref21_items a0).bind fun v7 =>
 bif (v7 != (0:Int)) then
  (p_ref21_items a0).bind fun v9 =>
  some v9
 else
 (p_ref21_Check_l1 a0 fuel (0:Int)).bind fun o19=>match o19 with
 | .inl q20 =>
  some q20
 | .inr q21 =>
  (p_ref21_rises a0).bind fun v22 =>
  bif v22 then
   some (0:Int)
  else
  some (10:Int)
def p_ref21_change_l1 (z27:Bool) (z29:Bool) (z31:RosterState) (z32:ItemItem):Nat→(List RosterGone)→Int→Option (((List RosterGone) × Int))
 | 0,_,_=>none
 | n + 1,y28,y30 =>
  bif (decide (y30 < (z31.Gone.length:Int))) then
   (at? z31.Gone y30).bind fun x35 =>
   bif (x35.Contact.toList == z32.Contact.toList) then
    bif z29 then
     p_ref21_change_l1 z27 z29 z31 z32 n y28 (w64 (y30 + (1:Int)))
    else
    bif z27 then
     p_ref21_change_l1 z27 z29 z31 z32 n y28 (w64 (y30 + (1:Int)))
    else
    (at? z31.Gone y30).bind fun x39 =>
    (app? y28 [x39]).bind fun l40 =>
    p_ref21_change_l1 z27 z29 z31 z32 n l40 (w64 (y30 + (1:Int)))
   else
   (at? z31.Gone y30).bind fun x41 =>
   (app? y28 [x41]).bind fun l42 =>
   p_ref21_change_l1 z27 z29 z31 z32 n l42 (w64 (y30 + (1:Int)))
  else
  some (y28,y30)
def p_ref21_change (a0:RosterState) (a1:ItemItem):Option (RosterState) :=
 (p_ref21_place a0 a1.Contact).bind fun v1 =>
 ((
  bif v1.2 then
   (at? a0.Items v1.1).bind fun x3 =>
   (p_ref20_Listed x3).bind fun v4 =>
   some v4
  else
  some false):Option (Bool)).bind fun q6 =>
 (cut? a0.Items none (some v1.1)).bind fun x7 =>
 (app? ([]:List ItemItem) x7).bind fun l8 =>
 ((
  (p_ref20_Idle (ItemItem.mk a1.Contact a1.Name a1.Sub (w64 (a0.Ver + (1:Int))) a1.Own)).bind fun v9 =>
  bif v9 then
   some l8
  else
  (app? l8 [(ItemItem.mk a1.Contact a1.Name a1.Sub (w64 (a0.Ver + (1:Int))) a1.Own)]).bind fun l11 =>
  some l11):Option ((List ItemItem))).bind fun q13 =>
 ((
  bif v1.2 then
   some (w64 (v1.1 + (1:Int)))
  else
  some v1.1):Option (Int)).bind fun q16 =>
 (cut? a0.Items (some q16) none).bind fun x17 =>
 (app? q13 x17).bind fun l18 =>
 (p_ref20_Listed (ItemItem.mk a1.Contact a1.Name a1.Sub (w64 (a0.Ver + (1:Int))) a1.Own)).bind fun v19 =>
 (p_ref21_change_l1 q6 v19 (RosterState.mk (w64 (a0.Ver + (1:Int))) a0.Floor l18 a0.Gone) (ItemItem.mk a1.Contact a1.Name a1.Sub (w64 (a0.Ver + (1:Int))) a1.Own) fuel [] (0:Int)).bind fun q44 =>
 ((
  bif q6 then
   bif v19 then
    some q44.1
   else
   (app? q44.1 [(RosterGone.mk ((ItemItem.mk a1.Contact a1.Name a1.Sub (w64 (a0.Ver + (1:Int))) a1.Own).Contact) ((RosterState.mk (w64 (a0.Ver + (1:Int))) a0.Floor l18 a0.Gone).Ver))]).bind fun l47 =>
   some l47
  else
  some q44.1):Option ((List RosterGone))).bind fun q49 =>
 bif (decide ((8:Int) < (q49.length:Int))) then
  (at? q49 (0:Int)).bind fun x51 =>
  (cut? q49 (some (1:Int)) none).bind fun x52 =>
  some (RosterState.mk ((RosterState.mk (w64 (a0.Ver + (1:Int))) a0.Floor l18 a0.Gone).Ver) x51.Ver ((RosterState.mk (w64 (a0.Ver + (1:Int))) a0.Floor l18 a0.Gone).Items) x52)
 else
 some (RosterState.mk ((RosterState.mk (w64 (a0.Ver + (1:Int))) a0.Floor l18 a0.Gone).Ver) ((RosterState.mk (w64 (a0.Ver + (1:Int))) a0.Floor l18 a0.Gone).Floor) ((RosterState.mk (w64 (a0.Ver + (1:Int))) a0.Floor l18 a0.Gone).Items) q49)
def p_roster_Sub (a0:RosterState) (a1:ByteArray) (a2:Int):Option (RosterState × Int) :=
 (p_roster_State_own a0).bind fun v1 =>
 (p_roster_Check a0).bind fun v2 =>
 bif (v2 != (0:Int)) then
  some (v1,v2)
 else
 (p_addr_IsBare a1).bind fun v4 =>
 bif v4 then
  (p_subs_Check a2).bind fun v6 =>
  bif (v6 != (0:Int)) then
   some (v1,v6)
  else
  (p_roster_Find a0 a1).bind fun v8 =>
  (p_roster_State_may a0 v8.2 (a2 != (0:Int))).bind fun v9 =>
  bif (v9 != (0:Int)) then
   some (v1,v9)
  else
  bif (v8.1.Sub == a2) then
   some (v1,(0:Int))
  else
  ((
   some ()):Option (Unit)).bind fun q13 =>
  (p_roster_State_change v1 (ItemItem.mk a1 v8.1.Name a2 v8.1.Ver v8.1.Own)).bind fun v14 =>
  some (v14,(0:Int))
 else
 some (v1,(11:Int))
def p_ref21_Sub (a0:RosterState) (a1:ByteArray) (a2:Int):Option (RosterState × Int) :=
 (p_ref21_place a0 a1).bind fun v1 =>
 (p_ref21_Check a0).bind fun v2 =>
 bif (v2 == (0:Int)) then
  bif v1.2 then
   (at? a0.Items v1.1).bind fun x5 =>
   (p_ref21_Check a0).bind fun v6 =>
   bif (v6 != (0:Int)) then
    (p_ref21_Check a0).bind fun v8 =>
    some (a0,v8)
   else
   (p_ref09_IsBare a1).bind fun v9 =>
   bif v9 then
    (p_ref19_Check a2).bind fun v11 =>
    bif (v11 != (0:Int)) then
     (p_ref19_Check a2).bind fun v13 =>
     some (a0,v13)
    else
    bif (decide ((1099511627776:Int)≤a0.Ver)) then
     some (a0,(9:Int))
    else
    bif (x5.Sub == a2) then
     some (a0,(0:Int))
    else
    (p_ref21_change a0 (ItemItem.mk x5.Contact x5.Name a2 x5.Ver x5.Own)).bind fun v16 =>
    some (v16,(0:Int))
   else
   some (a0,(11:Int))
  else
  (p_ref21_Check a0).bind fun v17 =>
  bif (v17 != (0:Int)) then
   (p_ref21_Check a0).bind fun v19 =>
   some (a0,v19)
  else
  (p_ref09_IsBare a1).bind fun v20 =>
  bif v20 then
   (p_ref19_Check a2).bind fun v22 =>
   bif (v22 != (0:Int)) then
    (p_ref19_Check a2).bind fun v24 =>
    some (a0,v24)
   else
   bif (decide ((12:Int)≤(a0.Items.length:Int))) then
    bif (a2 != (0:Int)) then
     some (a0,(7:Int))
    else
    bif (decide ((1099511627776:Int)≤a0.Ver)) then
     some (a0,(9:Int))
    else
    bif ((0:Int) == a2) then
     some (a0,(0:Int))
    else
    (p_ref21_change a0 (ItemItem.mk a1 (⟨#[]⟩ : ByteArray) a2 (0:Int) false)).bind fun v29 =>
    some (v29,(0:Int))
   else
   bif (decide ((1099511627776:Int)≤a0.Ver)) then
    some (a0,(9:Int))
   else
   bif ((0:Int) == a2) then
    some (a0,(0:Int))
   else
   (p_ref21_change a0 (ItemItem.mk a1 (⟨#[]⟩ : ByteArray) a2 (0:Int) false)).bind fun v32 =>
   some (v32,(0:Int))
  else
  some (a0,(11:Int))
 else
 (p_ref21_Check a0).bind fun v33 =>
 bif (v33 != (0:Int)) then
  (p_ref21_Check a0).bind fun v35 =>
  some (a0,v35)
 else
 (p_ref09_IsBare a1).bind fun v36 =>
 bif v36 then
  (p_ref19_Check a2).bind fun v38 =>
  bif (v38 != (0:Int)) then
   (p_ref19_Check a2).bind fun v40 =>
   some (a0,v40)
  else
  bif v1.2 then
   bif (decide ((1099511627776:Int)≤a0.Ver)) then
    some (a0,(9:Int))
   else
   bif ((0:Int) == a2) then
    some (a0,(0:Int))
   else
   (p_ref21_change a0 (ItemItem.mk a1 (⟨#[]⟩ : ByteArray) a2 (0:Int) false)).bind fun v44 =>
   some (v44,(0:Int))
  else
  bif (decide ((12:Int)≤(a0.Items.length:Int))) then
   bif (a2 != (0:Int)) then
    some (a0,(7:Int))
   else
   bif (decide ((1099511627776:Int)≤a0.Ver)) then
    some (a0,(9:Int))
   else
   bif ((0:Int) == a2) then
    some (a0,(0:Int))
   else
   (p_ref21_change a0 (ItemItem.mk a1 (⟨#[]⟩ : ByteArray) a2 (0:Int) false)).bind fun v49 =>
   some (v49,(0:Int))
  else
  bif (decide ((1099511627776:Int)≤a0.Ver)) then
   some (a0,(9:Int))
  else
  bif ((0:Int) == a2) then
   some (a0,(0:Int))
  else
  (p_ref21_change a0 (ItemItem.mk a1 (⟨#[]⟩ : ByteArray) a2 (0:Int) false)).bind fun v52 =>
  some (v52,(0:Int))
 else
 some (a0,(11:Int))
def p_roster_Drop (a0:RosterState) (a1:ByteArray):Option (RosterState × Int) :=
 (p_roster_State_own a0).bind fun v1 =>
 (p_roster_Check a0).bind fun v2 =>
 bif (v2 != (0:Int)) then
  some (v1,v2)
 else
 (p_roster_State_find a0 a1).bind fun v4 =>
 bif v4.2 then
  ((
   (p_roster_State_may a0 true false).bind fun v6 =>
   bif (v6 != (0:Int)) then
    some (.inl (v1,v6))
   else
   some (.inr ())):Option ((RosterState × Int) ⊕ Unit)).bind fun o8=>match o8 with
  | .inl q9 =>
   some q9
  | .inr q10 =>
   (p_roster_State_change v1 (ItemItem.mk a1 (⟨#[]⟩ : ByteArray) (0:Int) (0:Int) false)).bind fun v11 =>
   some (v11,(0:Int))
 else
 some (v1,(6:Int))
def p_ref21_Drop (a0:RosterState) (a1:ByteArray):Option (RosterState × Int) :=
 (p_ref21_place a0 a1).bind fun v1 =>
 (p_ref21_Check a0).bind fun v2 =>
 bif (v2 != (0:Int)) then
  (p_ref21_Check a0).bind fun v4 =>
  some (a0,v4)
 else
 bif v1.2 then
  bif (decide ((1099511627776:Int)≤a0.Ver)) then
   some (a0,(9:Int))
  else
  (p_ref21_change a0 (ItemItem.mk a1 (⟨#[]⟩ : ByteArray) (0:Int) (0:Int) false)).bind fun v7 =>
  some (v7,(0:Int))
 else
 some (a0,(6:Int))
def p_law21_gone_l1 (z5:List RosterGone):Nat→(List RosterGone)→Int→Option (((List RosterGone) × Int))
 | 0,_,_=>none
 | n + 1,y6,y7 =>
  bif (decide (y7 < (z5.length:Int))) then
   (at? z5 y7).bind fun x9 =>
   (app? y6 [x9]).bind fun l10 =>
   p_law21_gone_l1 z5 n l10 (w64 (y7 + (1:Int)))
  else
  some (y6,y7)
def p_law21_gone (a0:List RosterGone):Option ((List RosterGone)) :=
 (p_law21_gone_l1 a0 fuel [] (0:Int)).bind fun q12 =>
 some q12.1
def p_law21_Back (a0:RosterState):Option (RosterState) :=
 (p_law20_Back a0.Items).bind fun v1 =>
 (p_law21_gone a0.Gone).bind fun v2 =>
 some (RosterState.mk a0.Ver a0.Floor v1 v2)
def p_ref21_SameGone_l1 (z6:List RosterGone) (z7:List RosterGone):Nat→Int→Option (Bool ⊕ Int)
 | 0,_=>none
 | n + 1,y8 =>
  bif (decide (y8 < (z6.length:Int))) then
   (at? z6 y8).bind fun x10 =>
   (at? z7 y8).bind fun x11 =>
   bif ((x10.Contact.toList == x11.Contact.toList) && ((x10.Ver == x11.Ver) && true)) then
    p_ref21_SameGone_l1 z6 z7 n (w64 (y8 + (1:Int)))
   else
   some (.inl false)
  else
  some (.inr y8)
def p_ref21_SameGone (a0:List RosterGone) (a1:List RosterGone):Option (Bool) :=
 bif ((a0.length:Int) != (a1.length:Int)) then
  some false
 else
 (p_ref21_SameGone_l1 a0 a1 fuel (0:Int)).bind fun o13=>match o13 with
 | .inl q14 =>
  some q14
 | .inr q15 =>
  some true
def p_ref21_Same (a0:RosterState) (a1:RosterState):Option (Bool) :=
 bif (a0.Ver == a1.Ver) then
  bif (a0.Floor == a1.Floor) then
   (p_ref20_SameItems a0.Items a1.Items).bind fun v3 =>
   bif v3 then
    (p_ref21_SameGone a0.Gone a1.Gone).bind fun v5 =>
    some v5
   else
   some false
  else
  some false
 else
 some false
end Go.Proofs.YtpmoioopjbfhkaaGreat

namespace Go.Proofs.YtpmoioopjbfhkaaGreat
open Go.RowKit
theorem loop_first {β γ:Type} {N:Nat} (hN:N≤1000) (L:Nat→Int→Option (β ⊕ γ)) (e:γ) (step:Nat→Option β) (h1:∀ n k,k < N→(∀ r,step k=some r→L (n + 1) (k:Int)=some (.inl r))∧(step k=none→L (n + 1) (k:Int)=L n ((k + 1:Nat):Int))) (h2:∀ n,L (n + 1) (N:Int)=some (.inr e)) :
  (∃ k,k < N∧∃ r,step k=some r∧(∀ j,j < k→step j=none)∧L fuel 0=some (.inl r))∨((∀ k,k < N→step k=none)∧L fuel 0=some (.inr e)):=by
 have key:∀ m k F,k + m=N→m < F→(∀ j,j < k→step j=none)→(∃ q,q < N∧∃ r,step q=some r∧(∀ j,j < q→step j=none)∧L F (k:Int)=some (.inl r))∨((∀ q,q < N→step q=none)∧L F (k:Int)=some (.inr e)):=by
  intro m
  induction m with
  | zero =>
   intro k F hk hF hj
   obtain ⟨F,rfl⟩ : ∃ G,F=G + 1:=⟨F - 1,by omega⟩
   have:k=N:=by omega
   subst this
   exact .inr ⟨hj,h2 F⟩
  | succ m ih =>
   intro k F hk hF hj
   obtain ⟨F,rfl⟩ : ∃ G,F=G + 1:=⟨F - 1,by omega⟩
   have hkn:k < N:=by omega
   cases hs:step k with
   | some r=>exact .inl ⟨k,hkn,r,hs,hj,(h1 F k hkn).1 r hs⟩
   | none =>
    rw [(h1 F k hkn).2 hs]
    refine ih (k + 1) F (by omega) (by omega) fun j hjk=>?_
    rcases Nat.lt_or_ge j k with h | h
    ·exact hj j h
    ·have:j=k:=by omega
     subst this;exact hs
 exact key N 0 fuel (by omega) (by have:=fuel_pos;omega) (fun j h=>absurd h (Nat.not_lt_zero j))
theorem loop_all {γ:Type} {N:Nat} (hN:N≤1000) (L:Nat→Int→Option (Bool ⊕ γ)) (e:γ) (ok:Nat→Prop) (h1:∀ n k,k < N→(ok k→L (n + 1) (k:Int)=L n ((k + 1:Nat):Int))∧(¬ ok k→L (n + 1) (k:Int)=some (.inl false))) (h2:∀ n,L (n + 1) (N:Int)=some (.inr e)) :
  ((∀ k,k < N→ok k)∧L fuel 0=some (.inr e))∨(¬ (∀ k,k < N→ok k)∧L fuel 0=some (.inl false)):=by
 classical
 have:=loop_first hN L e (fun k=>if ok k then none else some false) (fun n k hk=>⟨fun r hr=>?_,fun hr=>?_⟩) h2
 ·rcases this with ⟨k,hk,r,hr,_,h⟩ | ⟨ha,h⟩
  ·refine .inr ⟨fun g=>?_,?_⟩
   ·rw [if_pos (g k hk)] at hr;cases hr
   ·by_cases g:ok k
    ·rw [if_pos g] at hr;cases hr
    ·rw [if_neg g] at hr;cases hr;exact h
  ·refine .inl ⟨fun k hk=>?_,h⟩
   have:=ha k hk
   by_cases g:ok k
   ·exact g
   ·rw [if_neg g] at this;cases this
 ·by_cases g:ok k
  ·rw [if_pos g] at hr;cases hr
  ·rw [if_neg g] at hr;cases hr;exact (h1 n k hk).2 g
 ·by_cases g:ok k
  ·exact (h1 n k hk).1 g
  ·rw [if_neg g] at hr;cases hr
theorem at_mem {α:Type} {l:List α} {y:Int} {x:α} (h:at? l y=some x):x ∈ l:=by
 unfold at? at h
 split at h
 ·exact List.mem_of_getElem? h
 ·cases h
structure LightS (s:RosterState):Prop where
 items:s.Items.length≤20
 gone:s.Gone.length≤20
 item:∀ x ∈ s.Items,x.Contact.size≤100∧x.Name.size≤100
 went:∀ g ∈ s.Gone,g.Contact.size≤100
theorem rlight_p (s:RosterState):∃ b,p_ref21_Light s=some b∧(b=true→LightS s):=by
 unfold p_ref21_Light
 by_cases h1:20 < s.Items.length
 ·rw [show decide ((20:Int) < (s.Items.length:Int))=true by simp;omega];exact ⟨false,rfl,fun h=>by cases h⟩
 rw [show decide ((20:Int) < (s.Items.length:Int))=false by simp;omega,cond_false]
 by_cases h2:20 < s.Gone.length
 ·rw [show decide ((20:Int) < (s.Gone.length:Int))=true by simp;omega];exact ⟨false,rfl,fun h=>by cases h⟩
 rw [show decide ((20:Int) < (s.Gone.length:Int))=false by simp;omega,cond_false]
 have l1:=loop_all (N:=s.Items.length) (by omega) (p_ref21_Light_l1 s) (s.Items.length:Int) (fun k=>∀ x,s.Items[k]?=some x→x.Contact.size≤100∧x.Name.size≤100) (fun n k hk=>by
  rw [p_ref21_Light_l1,lt_tt hk,cond_true,at_lt hk,Option.bind_some,light_p,Option.bind_some,w64_succ (by omega),List.getElem?_eq_getElem hk]
  refine ⟨fun h=>?_,fun h=>?_⟩
  ·obtain ⟨a,b⟩:=h _ rfl
   rw [decide_eq_true a,decide_eq_true b];rfl
  ·have:(decide (s.Items[k].Contact.size≤100) && decide (s.Items[k].Name.size≤100))=false:=by
    rw [Bool.eq_false_iff];intro g;simp at g;exact h fun x hx=>by cases hx;exact g
   rw [this];rfl) (fun n=>by rw [p_ref21_Light_l1,lt_ff (Nat.le_refl _)];rfl)
 have l2:=loop_all (N:=s.Gone.length) (by omega) (p_ref21_Light_l2 s) (s.Gone.length:Int) (fun k=>∀ x,s.Gone[k]?=some x→x.Contact.size≤100) (fun n k hk=>by
  rw [p_ref21_Light_l2,lt_tt hk,cond_true,at_lt hk,Option.bind_some,w64_succ (by omega),List.getElem?_eq_getElem hk]
  refine ⟨fun h=>?_,fun h=>?_⟩
  ·have:=h _ rfl
   rw [show decide ((100:Int) < (s.Gone[k].Contact.size:Int))=false by simp;omega];rfl
  ·have:¬ s.Gone[k].Contact.size≤100:=fun g=>h fun x hx=>by cases hx;exact g
   rw [show decide ((100:Int) < (s.Gone[k].Contact.size:Int))=true by simp;omega];rfl) (fun n=>by rw [p_ref21_Light_l2,lt_ff (Nat.le_refl _)];rfl)
 rcases l1 with ⟨a1,l1⟩ | ⟨_,l1⟩
 ·rw [l1]
  show ∃ b,(p_ref21_Light_l2 s fuel 0).bind _=some b∧_
  rcases l2 with ⟨a2,l2⟩ | ⟨_,l2⟩
  ·rw [l2]
   refine ⟨true,rfl,fun _=>⟨by omega,by omega,fun x hx=>?_,fun g hg=>?_⟩⟩
   ·obtain ⟨k,hk,e⟩:=List.getElem_of_mem hx
    exact a1 k hk x (by rw [List.getElem?_eq_getElem hk,e])
   ·obtain ⟨k,hk,e⟩:=List.getElem_of_mem hg
    exact a2 k hk g (by rw [List.getElem?_eq_getElem hk,e])
  ·rw [l2];exact ⟨false,rfl,fun h=>by cases h⟩
 ·rw [l1];exact ⟨false,rfl,fun h=>by cases h⟩
theorem errs_l {s:RosterState} (h:LightS s):∀ n y,p_roster_State_errors_l1 s.Items (s.Items.length:Int) n y=p_ref21_items_l1 s n y
 | 0,y=>rfl
 | n + 1,y=>by
  rw [p_roster_State_errors_l1,p_ref21_items_l1]
  cases hx:at? s.Items y with
  | none=>rfl
  | some x =>
   obtain ⟨a,b⟩:=h.item x (at_mem hx)
   simp only [Option.bind_some,check_p (x:=x) (by omega) (by omega),rcheck_p (x:=x) (by omega) (by omega),idle_p,ridle_p,errs_l h n]
theorem errs_p {s:RosterState} (h:LightS s):∃ e,p_roster_State_errors s=some e∧p_ref21_items s=some e∧(e=0→∀ x ∈ s.Items,chkI x=0):=by
 have hi:=h.items
 unfold p_roster_State_errors p_ref21_items
 have l1:=loop_first (N:=s.Items.length) (by omega) (p_ref21_items_l1 s) (s.Items.length:Int) (fun k=>match s.Items[k]? with | some x=>if chkI x≠0 then some (chkI x) else if idleI x then some 4 else none | none=>none) (fun n k hk=>by
  obtain ⟨a,b⟩:=h.item _ (List.getElem_mem hk)
  rw [p_ref21_items_l1,lt_tt hk,cond_true,at_lt hk,Option.bind_some,rcheck_p (by omega) (by omega),Option.bind_some,Option.bind_some,ridle_p,Option.bind_some,w64_succ (by omega),List.getElem?_eq_getElem hk]
  by_cases g:chkI s.Items[k]=0
  ·simp only [g,ne_eq,not_true_eq_false,if_false,bne_self_eq_false,cond_false]
   cases idleI s.Items[k] <;> simp
  ·simp only [g,ne_eq,not_false_eq_true,if_true,show (chkI s.Items[k] != 0)=true by simpa using g,cond_true]
   simp) (fun n=>by rw [p_ref21_items_l1,lt_ff (Nat.le_refl _)];rfl)
 rw [errs_l h]
 rcases l1 with ⟨k,hk,r,hr,_,e⟩ | ⟨ha,e⟩
 ·rw [e]
  refine ⟨r,rfl,rfl,fun h0=>?_⟩
  rw [List.getElem?_eq_getElem hk] at hr
  dsimp only at hr
  by_cases g:chkI s.Items[k]=0
  ·rw [if_neg (by simpa using g)] at hr
   split at hr
   ·cases hr;cases h0
   ·cases hr
  ·rw [if_pos g] at hr;cases hr;exact absurd h0 g
 ·rw [e]
  refine ⟨0,rfl,rfl,fun _ x hx=>?_⟩
  obtain ⟨k,hk,rfl⟩:=List.getElem_of_mem hx
  have:=ha k hk
  rw [List.getElem?_eq_getElem hk] at this
  dsimp only at this
  by_cases g:chkI s.Items[k]=0
  ·exact g
  ·rw [if_pos g] at this;cases this
def Idx {α:Type} (p:α→Bool) (l:List α) (v:Int):Prop :=
 (∃ k:Nat,v=k∧∃ x,l[k]?=some x∧p x=true∧∀ j,j < k→∀ y,l[j]?=some y→p y=false)∨(v=-1∧∀ x ∈ l,p x=false)
theorem idxG_p (p:RosterGone→Bool) (l:List RosterGone) (hl:l.length≤1000):∃ v,p_slices_IndexFunc_roster_Gone l (fun x=>some (p x))=some v∧Idx p l v:=by
 have l1:=loop_first (N:=l.length) hl (p_slices_IndexFunc_roster_Gone_l1 (fun x=>some (p x)) l (l.length:Int)) (l.length:Int) (fun k=>match l[k]? with | some x=>if p x then some (k:Int) else none | none=>none) (fun n k hk=>by
  rw [p_slices_IndexFunc_roster_Gone_l1,lt_tt hk,cond_true,at_lt hk,Option.bind_some,Option.bind_some,w64_succ (by omega),List.getElem?_eq_getElem hk]
  dsimp only
  cases p l[k] <;> simp) (fun n=>by rw [p_slices_IndexFunc_roster_Gone_l1,lt_ff (Nat.le_refl _)];rfl)
 unfold p_slices_IndexFunc_roster_Gone
 rcases l1 with ⟨k,hk,r,hr,hj,e⟩ | ⟨ha,e⟩
 ·rw [e]
  rw [List.getElem?_eq_getElem hk] at hr
  dsimp only at hr
  split at hr
  case isFalse=>cases hr
  rename_i hp
  cases hr
  refine ⟨_,rfl,.inl ⟨k,rfl,_,List.getElem?_eq_getElem hk,hp,fun j hjk y hy=>?_⟩⟩
  have:=hj j hjk
  rw [hy] at this
  dsimp only at this
  split at this
  ·cases this
  ·rename_i g;simpa using g
 ·rw [e]
  refine ⟨_,rfl,.inr ⟨rfl,fun x hx=>?_⟩⟩
  obtain ⟨k,hk,rfl⟩:=List.getElem_of_mem hx
  have:=ha k hk
  rw [List.getElem?_eq_getElem hk] at this
  dsimp only at this
  split at this
  ·cases this
  ·rename_i g;simpa using g
theorem idxI_p (p:ItemItem→Bool) (l:List ItemItem) (hl:l.length≤1000):∃ v,p_slices_IndexFunc_item_Item l (fun x=>some (p x))=some v∧Idx p l v:=by
 have l1:=loop_first (N:=l.length) hl (p_slices_IndexFunc_item_Item_l1 (fun x=>some (p x)) l (l.length:Int)) (l.length:Int) (fun k=>match l[k]? with | some x=>if p x then some (k:Int) else none | none=>none) (fun n k hk=>by
  rw [p_slices_IndexFunc_item_Item_l1,lt_tt hk,cond_true,at_lt hk,Option.bind_some,Option.bind_some,w64_succ (by omega),List.getElem?_eq_getElem hk]
  dsimp only
  cases p l[k] <;> simp) (fun n=>by rw [p_slices_IndexFunc_item_Item_l1,lt_ff (Nat.le_refl _)];rfl)
 unfold p_slices_IndexFunc_item_Item
 rcases l1 with ⟨k,hk,r,hr,hj,e⟩ | ⟨ha,e⟩
 ·rw [e]
  rw [List.getElem?_eq_getElem hk] at hr
  dsimp only at hr
  split at hr
  case isFalse=>cases hr
  rename_i hp
  cases hr
  refine ⟨_,rfl,.inl ⟨k,rfl,_,List.getElem?_eq_getElem hk,hp,fun j hjk y hy=>?_⟩⟩
  have:=hj j hjk
  rw [hy] at this
  dsimp only at this
  split at this
  ·cases this
  ·rename_i g;simpa using g
 ·rw [e]
  refine ⟨_,rfl,.inr ⟨rfl,fun x hx=>?_⟩⟩
  obtain ⟨k,hk,rfl⟩:=List.getElem_of_mem hx
  have:=ha k hk
  rw [List.getElem?_eq_getElem hk] at this
  dsimp only at this
  split at this
  ·cases this
  ·rename_i g;simpa using g
theorem Idx.has {α:Type} {p:α→Bool} {l:List α} {v:Int} (h:Idx p l v):decide ((0:Int)≤v)=l.any p:=by
 rcases h with ⟨k,rfl,x,hx,hp,_⟩ | ⟨rfl,h⟩
 ·rw [show decide ((0:Int)≤(k:Int))=true by simp]
  symm;rw [List.any_eq_true];exact ⟨x,List.mem_of_getElem? hx,hp⟩
 ·symm
  show l.any p=false
  rw [List.any_eq_false];intro x hx;rw [h x hx];simp
theorem gone_p {s:RosterState} (h:LightS s):p_slices_ContainsFunc_roster_Gone s.Gone (fun x=>p_roster_Check_1 x)=some (s.Gone.any fun g=>!isBareL g.Contact.data.toList) ∧
  ((s.Gone.any fun g=>!isBareL g.Contact.data.toList)=true∧p_ref21_Check_l1 s fuel 0=some (.inl 11)∨(s.Gone.any fun g=>!isBareL g.Contact.data.toList)=false∧p_ref21_Check_l1 s fuel 0=some (.inr (s.Gone.length:Int))):=by
 have hg:=h.gone
 constructor
 ·unfold p_slices_ContainsFunc_roster_Gone
  have e:p_slices_IndexFunc_roster_Gone s.Gone (fun x=>p_roster_Check_1 x)=p_slices_IndexFunc_roster_Gone s.Gone (fun x=>some (!isBareL x.Contact.data.toList)):=by
   unfold p_slices_IndexFunc_roster_Gone
   have:∀ n y,p_slices_IndexFunc_roster_Gone_l1 (fun x=>p_roster_Check_1 x) s.Gone (s.Gone.length:Int) n y=p_slices_IndexFunc_roster_Gone_l1 (fun x=>some (!isBareL x.Contact.data.toList)) s.Gone (s.Gone.length:Int) n y:=by
    intro n
    induction n with
    | zero=>intro y;rfl
    | succ n ih =>
     intro y
     rw [p_slices_IndexFunc_roster_Gone_l1,p_slices_IndexFunc_roster_Gone_l1]
     cases hx:at? s.Gone y with
     | none=>rfl
     | some g =>
      have:=h.went g (at_mem hx)
      have e:p_roster_Check_1 g=some (!isBareL g.Contact.data.toList):=by unfold p_roster_Check_1 p_addr_IsBare;rw [if_pos (by omega)];rfl
      simp only [Option.bind_some,e,ih]
   rw [this]
  obtain ⟨v,hv,hi⟩:=idxG_p (fun x=>!isBareL x.Contact.data.toList) s.Gone (by omega)
  rw [e,hv,Option.bind_some,hi.has]
 ·have l1:=loop_first (N:=s.Gone.length) (by omega) (p_ref21_Check_l1 s) (s.Gone.length:Int) (fun k=>match s.Gone[k]? with | some g=>if isBareL g.Contact.data.toList then none else some 11 | none=>none) (fun n k hk=>by
   have:=h.went _ (List.getElem_mem hk)
   rw [p_ref21_Check_l1,lt_tt hk,cond_true,at_lt hk,Option.bind_some,p_ref09_IsBare,if_pos (by omega),Option.bind_some,w64_succ (by omega),List.getElem?_eq_getElem hk]
   dsimp only
   cases isBareL s.Gone[k].Contact.data.toList <;> simp) (fun n=>by rw [p_ref21_Check_l1,lt_ff (Nat.le_refl _)];rfl)
  rcases l1 with ⟨k,hk,r,hr,_,e⟩ | ⟨ha,e⟩
  ·rw [List.getElem?_eq_getElem hk] at hr
   dsimp only at hr
   split at hr
   ·cases hr
   ·rename_i g
    cases hr
    refine .inl ⟨?_,e⟩
    rw [List.any_eq_true]
    exact ⟨_,List.getElem_mem hk,by simpa using g⟩
  ·refine .inr ⟨?_,e⟩
   rw [List.any_eq_false]
   intro x hx
   obtain ⟨k,hk,rfl⟩:=List.getElem_of_mem hx
   have:=ha k hk
   rw [List.getElem?_eq_getElem hk] at this
   dsimp only at this
   split at this
   ·rename_i g;simpa using g
   ·cases this
end Go.Proofs.YtpmoioopjbfhkaaGreat

namespace Go.Proofs.YtpmoioopjbfhkaaGreat
open Go.RowKit
def RiseAt (s:RosterState) (k:Nat):Prop:=∀ x,s.Items[k]?=some x→1≤x.Ver∧x.Ver≤s.Ver∧(∀ j,j < k→∀ y,s.Items[j]?=some y→y.Ver≠x.Ver)∧(0 < k→∀ y,s.Items[k - 1]?=some y→Op.bytesLess y.Contact.toList x.Contact.toList=true)
def Rise (s:RosterState):Prop:=∀ k,k < s.Items.length→RiseAt s k
theorem of_p {s:RosterState} (h:LightS s) (v:Int):∃ i,p_roster_State_of s v=some i∧Idx (fun x=>x.Ver == v) s.Items i:=by
 have hi:=h.items
 obtain ⟨i,h1,h2⟩:=idxI_p (fun x=>x.Ver == v) s.Items (by omega)
 exact ⟨i,by unfold p_roster_State_of p_roster_State_of_1;rw [h1];rfl,h2⟩
theorem rise_p {s:RosterState} (h:LightS s):∃ b,p_roster_State_rise s=some b∧(b=true ↔ Rise s):=by
 have hi:=h.items
 unfold p_roster_State_rise
 have l1:=loop_all (N:=s.Items.length) (by omega) (p_roster_State_rise_l1 s.Items (s.Items.length:Int) s) (s.Items.length:Int) (RiseAt s) (fun n k hk=>by
  obtain ⟨i,h1,h2⟩:=of_p h s.Items[k].Ver
  rw [p_roster_State_rise_l1,lt_tt hk,cond_true,at_lt hk,Option.bind_some,h1,w64_succ (by omega)]
  by_cases g1:s.Items[k].Ver < 1
  ·rw [decide_eq_true g1]
   exact ⟨fun g=>by have:=(g _ (List.getElem?_eq_getElem hk)).1;omega,fun _=>rfl⟩
  rw [decide_eq_false g1,cond_false]
  by_cases g2:s.Ver < s.Items[k].Ver
  ·rw [decide_eq_true g2]
   exact ⟨fun g=>by have:=(g _ (List.getElem?_eq_getElem hk)).2.1;omega,fun _=>rfl⟩
  rw [decide_eq_false g2,cond_false,Option.bind_some]
  by_cases g3:i=(k:Int)
  case neg =>
   rw [show (i != (k:Int))=true by simpa using g3]
   refine ⟨fun g=>absurd ?_ g3,fun _=>rfl⟩
   rcases h2 with ⟨q,rfl,x,hx,hp,hj⟩ | ⟨_,hn⟩
   ·rcases Nat.lt_trichotomy q k with c | c | c
    ·exact absurd (by simpa using hp) ((g _ (List.getElem?_eq_getElem hk)).2.2.1 q c x hx)
    ·rw [c]
    ·have:=hj k c _ (List.getElem?_eq_getElem hk);simp at this
   ·have:=hn _ (List.getElem_mem hk);simp at this
  have g3' : ∀ j,j < k→∀ y,s.Items[j]?=some y→y.Ver≠s.Items[k].Ver:=by
   rcases h2 with ⟨q,rfl,x,hx,hp,hj⟩ | ⟨e,_⟩
   ·have:q=k:=by omega
    subst this
    intro j hjk y hy;have:=hj j hjk y hy;simpa using this
   ·omega
  rw [show (i != (k:Int))=false by simpa using g3,cond_false]
  by_cases g4:0 < k
  ·have e1:w64 ((k:Int) - 1)=((k - 1:Nat):Int):=by rw [w64_id (by omega)];omega
   have hk1:k - 1 < s.Items.length:=by omega
   rw [show decide ((0:Int) < (k:Int))=true by simp;omega,cond_true,e1,at_lt hk1,Option.bind_some]
   cases g5:Op.bytesLess s.Items[k - 1].Contact.toList s.Items[k].Contact.toList with
   | true =>
    rw [cond_true]
    exact ⟨fun _=>rfl,fun g=>absurd (fun x hx=>by rw [List.getElem?_eq_getElem hk] at hx;cases hx;exact ⟨by omega,by omega,g3',fun _ y hy=>by rw [List.getElem?_eq_getElem hk1] at hy;cases hy;exact g5⟩) g⟩
   | false =>
    rw [cond_false]
    exact ⟨fun g=>(by have:=(g _ (List.getElem?_eq_getElem hk)).2.2.2 g4 _ (List.getElem?_eq_getElem hk1);rw [g5] at this;cases this),fun _=>rfl⟩
  ·rw [show decide ((0:Int) < (k:Int))=false by simp;omega,cond_false]
   exact ⟨fun _=>rfl,fun g=>absurd (fun x hx=>by rw [List.getElem?_eq_getElem hk] at hx;cases hx;exact ⟨by omega,by omega,g3',fun h=>absurd h g4⟩) g⟩) (fun n=>by rw [p_roster_State_rise_l1,lt_ff (Nat.le_refl _)];rfl)
 rcases l1 with ⟨a,e⟩ | ⟨a,e⟩
 ·rw [e];exact ⟨true,rfl,fun _=>a,fun _=>rfl⟩
 ·rw [e];exact ⟨false,rfl,fun h=>(by cases h),fun h=>absurd h a⟩
theorem rrise2_p {s:RosterState} (hi:s.Items.length≤20) {k:Nat} (hk:k≤s.Items.length) (x:ItemItem):((∀ j,j < k→∀ y,s.Items[j]?=some y→y.Ver≠x.Ver)∧p_ref21_rises_l2 (k:Int) s x fuel 0=some (.inr (k:Int)))∨(¬ (∀ j,j < k→∀ y,s.Items[j]?=some y→y.Ver≠x.Ver)∧p_ref21_rises_l2 (k:Int) s x fuel 0=some (.inl false)) :=
 loop_all (N:=k) (by omega) (p_ref21_rises_l2 (k:Int) s x) (k:Int) (fun j=>∀ y,s.Items[j]?=some y→y.Ver≠x.Ver) (fun n j hj=>by
  have hl:j < s.Items.length:=by omega
  rw [p_ref21_rises_l2,lt_tt hj,cond_true,at_lt hl,Option.bind_some,w64_succ (by omega),List.getElem?_eq_getElem hl]
  by_cases g:s.Items[j].Ver=x.Ver
  ·rw [show (s.Items[j].Ver == x.Ver)=true by simpa using g]
   exact ⟨fun h=>absurd g (h _ rfl),fun _=>rfl⟩
  ·rw [show (s.Items[j].Ver == x.Ver)=false by simpa using g]
   exact ⟨fun _=>rfl,fun h=>absurd (fun y hy=>by cases hy;exact g) h⟩) (fun n=>by rw [p_ref21_rises_l2,lt_ff (Nat.le_refl _)];rfl)
theorem rrise1_p {s:RosterState} (hi:s.Items.length≤20):(Rise s∧p_ref21_rises_l1 s fuel 0=some (.inr (s.Items.length:Int)))∨(¬ Rise s∧p_ref21_rises_l1 s fuel 0=some (.inl false)) :=
 loop_all (N:=s.Items.length) (by omega) (p_ref21_rises_l1 s) (s.Items.length:Int) (RiseAt s) (fun n k hk=>by
  have l2:=rrise2_p hi (Nat.le_of_lt hk) s.Items[k]
  rw [p_ref21_rises_l1,lt_tt hk,cond_true,at_lt hk,Option.bind_some,w64_succ (by omega)]
  by_cases g1:s.Items[k].Ver < 1
  ·rw [decide_eq_true g1]
   exact ⟨fun g=>by have:=(g _ (List.getElem?_eq_getElem hk)).1;omega,fun _=>rfl⟩
  rw [decide_eq_false g1,cond_false]
  by_cases g2:s.Ver < s.Items[k].Ver
  ·rw [decide_eq_true g2]
   exact ⟨fun g=>by have:=(g _ (List.getElem?_eq_getElem hk)).2.1;omega,fun _=>rfl⟩
  rw [decide_eq_false g2,cond_false]
  by_cases g4:0 < k
  ·have e1:w64 ((k:Int) - 1)=((k - 1:Nat):Int):=by rw [w64_id (by omega)];omega
   have hk1:k - 1 < s.Items.length:=by omega
   rw [show decide ((0:Int) < (k:Int))=true by simp;omega,cond_true,e1,at_lt hk1,Option.bind_some]
   cases g5:Op.bytesLess s.Items[k - 1].Contact.toList s.Items[k].Contact.toList with
   | true =>
    rw [cond_true]
    rcases l2 with ⟨a,e⟩ | ⟨a,e⟩
    ·rw [e]
     exact ⟨fun _=>rfl,fun g=>absurd (fun x hx=>by rw [List.getElem?_eq_getElem hk] at hx;cases hx;exact ⟨by omega,by omega,a,fun _ y hy=>by rw [List.getElem?_eq_getElem hk1] at hy;cases hy;exact g5⟩) g⟩
    ·rw [e]
     exact ⟨fun g=>absurd ((g _ (List.getElem?_eq_getElem hk)).2.2.1) a,fun _=>rfl⟩
   | false =>
    rw [cond_false]
    exact ⟨fun g=>(by have:=(g _ (List.getElem?_eq_getElem hk)).2.2.2 g4 _ (List.getElem?_eq_getElem hk1);rw [g5] at this;cases this),fun _=>rfl⟩
  ·rw [show decide ((0:Int) < (k:Int))=false by simp;omega,cond_false]
   rcases l2 with ⟨a,e⟩ | ⟨a,e⟩
   ·rw [e]
    exact ⟨fun _=>rfl,fun g=>absurd (fun x hx=>by rw [List.getElem?_eq_getElem hk] at hx;cases hx;exact ⟨by omega,by omega,a,fun h=>absurd h g4⟩) g⟩
   ·rw [e]
    exact ⟨fun g=>absurd ((g _ (List.getElem?_eq_getElem hk)).2.2.1) a,fun _=>rfl⟩) (fun n=>by rw [p_ref21_rises_l1,lt_ff (Nat.le_refl _)];rfl)
def SortedC (l:List ItemItem):Prop:=∀ i j:Nat,i < j→∀ x y:ItemItem,l[i]?=some x→l[j]?=some y→Lib.compareBytes x.Contact.data.toList y.Contact.data.toList < 0
theorem Rise.sorted {s:RosterState} (h:Rise s):SortedC s.Items:=by
 have key:∀ d i,∀ x y,s.Items[i]?=some x→s.Items[i + (d + 1)]?=some y→Lib.compareBytes x.Contact.data.toList y.Contact.data.toList < 0:=by
  intro d
  induction d with
  | zero =>
   intro i x y hx hy
   have hl:=(List.getElem?_eq_some_iff.1 hy).1
   have:=(h (i + 1) hl y hy).2.2.2 (by omega) x hx
   rw [tl_data,tl_data,cmp_less] at this
   simpa using this
  | succ d ih =>
   intro i x y hx hy
   have hl:=(List.getElem?_eq_some_iff.1 hy).1
   have h2:=ih i x s.Items[i + (d + 1)] hx (List.getElem?_eq_getElem (by omega))
   have:=(h (i + (d + 1 + 1)) hl y hy).2.2.2 (by omega) s.Items[i + (d + 1)] (by rw [show i + (d + 1 + 1) - 1=i + (d + 1) by omega];exact List.getElem?_eq_getElem (by omega))
   rw [tl_data,tl_data,cmp_less] at this
   exact cmp_trans h2 (by simpa using this)
 intro i j hij x y hx hy
 exact key (j - i - 1) i x y hx (by rw [show i + (j - i - 1 + 1)=j by omega];exact hy)
def posC (l:List ItemItem) (c:ByteArray):Nat:=l.findIdx fun x=>!Op.bytesLess x.Contact.toList c.toList
def fndC (l:List ItemItem) (c:ByteArray):Bool:=match l[posC l c]? with | some x=>x.Contact.toList == c.toList | none=>false
theorem posC_le (l:List ItemItem) (c:ByteArray):posC l c≤l.length:=List.findIdx_le_length
theorem posC_lt {l:List ItemItem} {c:ByteArray} {k:Nat} (h:k < posC l c) {x:ItemItem} (hx:l[k]?=some x):Lib.compareBytes x.Contact.data.toList c.data.toList < 0:=by
 have hl:=(List.getElem?_eq_some_iff.1 hx).1
 have:(!Op.bytesLess (l[k]'hl).Contact.toList c.toList)=false:=by simpa using List.not_of_lt_findIdx (p:=fun x:ItemItem=>!Op.bytesLess x.Contact.toList c.toList) (xs:=l) h
 rw [List.getElem?_eq_getElem hl] at hx
 cases hx
 rw [tl_data,tl_data,cmp_less] at this
 simpa using this
theorem posC_at {l:List ItemItem} {c:ByteArray} {x:ItemItem} (hx:l[posC l c]?=some x):0≤Lib.compareBytes x.Contact.data.toList c.data.toList:=by
 have hl:=(List.getElem?_eq_some_iff.1 hx).1
 have this:(!Op.bytesLess (l[posC l c]'hl).Contact.toList c.toList)=true:=List.findIdx_getElem (p:=fun x:ItemItem=>!Op.bytesLess x.Contact.toList c.toList) (xs:=l) (w:=hl)
 rw [List.getElem?_eq_getElem hl] at hx
 have e:l[posC l c]=x:=Option.some.inj hx
 rw [e,tl_data,tl_data,cmp_less] at this
 simpa using this
theorem posC_ge {l:List ItemItem} {c:ByteArray} (hs:SortedC l) {k:Nat} (h:posC l c≤k) {x:ItemItem} (hx:l[k]?=some x):0≤Lib.compareBytes x.Contact.data.toList c.data.toList:=by
 have hl:=(List.getElem?_eq_some_iff.1 hx).1
 rcases Nat.lt_or_ge (posC l c) k with g | g
 ·have h1:=hs _ _ g l[posC l c] x (List.getElem?_eq_getElem (by omega)) hx
  have h2:=posC_at (List.getElem?_eq_getElem (show posC l c < l.length by omega))
  rcases Int.lt_or_le (Lib.compareBytes x.Contact.data.toList c.data.toList) 0 with q | q
  ·have:=cmp_trans h1 q;omega
  ·exact q
 ·have:k=posC l c:=by omega
  subst this;exact posC_at hx
theorem searchI_l {l:List ItemItem} {c:ByteArray} (hn:l.length≤1000) (hs:SortedC l):∀ (d i j F:Nat),i + d=j→j≤l.length→i≤posC l c→posC l c≤j→d < F →
  p_slices_BinarySearchFunc_item_Item_l1 (fun x0 x1=>p_roster_State_find_1 x0 x1) l c F i j=some ((posC l c:Int),(posC l c:Int)):=by
 intro d
 induction d using Nat.strongRecOn with
 | ind d ih =>
  intro i j F hd hj h1 h2 hF
  obtain ⟨F,rfl⟩ : ∃ G,F=G + 1:=⟨F - 1,by omega⟩
  rw [p_slices_BinarySearchFunc_item_Item_l1]
  rcases Nat.lt_or_ge i j with hij | hij
  ·rw [lt_tt hij,half_p (by omega),w64_succ (show (i + j) / 2≤1000000 by omega)]
   have hm:(i + j) / 2 < l.length:=by omega
   simp only [cond_true,at_lt hm,Option.bind_some,p_roster_State_find_1,p_strings_Compare]
   rcases Nat.lt_or_ge ((i + j) / 2) (posC l c) with hlt | hge
   ·rw [decide_eq_true (posC_lt hlt (List.getElem?_eq_getElem hm)),cond_true]
    exact ih (j - ((i + j) / 2 + 1)) (by omega) _ _ F (by omega) hj (by omega) h2 (by omega)
   ·have:=posC_ge hs hge (List.getElem?_eq_getElem hm)
    rw [decide_eq_false (by omega),cond_false]
    exact ih ((i + j) / 2 - i) (by omega) _ _ F (by omega) (by omega) h1 hge (by omega)
  ·rw [lt_ff hij]
   have e1:i=posC l c:=by omega
   have e2:j=posC l c:=by omega
   rw [cond_false,e1,e2]
theorem findC_p {s:RosterState} (hn:s.Items.length≤1000) (hs:SortedC s.Items) (c:ByteArray):p_roster_State_find s c=some (((posC s.Items c:Nat):Int),fndC s.Items c):=by
 have hl:=searchI_l (c:=c) hn hs s.Items.length 0 s.Items.length fuel (by omega) (Nat.le_refl _) (Nat.zero_le _) (posC_le _ _) (by have:=fuel_pos;omega)
 unfold p_roster_State_find p_slices_BinarySearchFunc_item_Item
 rw [show ((0:Int))=((0:Nat):Int) from rfl,hl]
 simp only [Option.bind_some]
 unfold fndC
 rcases Nat.lt_or_ge (posC s.Items c) s.Items.length with h | h
 ·rw [lt_tt h,at_lt h,List.getElem?_eq_getElem h]
  simp only [cond_true,Option.bind_some,p_roster_State_find_1,p_strings_Compare,eq_cmp0];rfl
 ·rw [lt_ff h,List.getElem?_eq_none h];rfl
theorem place_l {s:RosterState} {c:ByteArray} (hn:s.Items.length≤1000):∀ (m k F:Nat),k + m=posC s.Items c→m < F→p_ref21_place_l1 c s F (k:Int)=some ((posC s.Items c:Nat):Int)
 | 0,k,F + 1,hk,hF=>by
  have e:k=posC s.Items c:=by omega
  have hle:=posC_le s.Items c
  rw [p_ref21_place_l1]
  rcases Nat.lt_or_ge k s.Items.length with h | h
  ·have:=posC_at (c:=c) (x:=s.Items[k]) (by rw [← e];exact List.getElem?_eq_getElem h)
   rw [lt_tt h,cond_true,at_lt h,Option.bind_some,tl_data,tl_data,cmp_less,decide_eq_false (by omega),cond_false,e]
  ·rw [lt_ff h,cond_false,e]
 | m + 1,k,F + 1,hk,hF=>by
  have hle:=posC_le s.Items c
  have h:k < s.Items.length:=by omega
  have:=posC_lt (l:=s.Items) (c:=c) (k:=k) (by omega) (List.getElem?_eq_getElem h)
  rw [p_ref21_place_l1,lt_tt h,cond_true,at_lt h,Option.bind_some,tl_data,tl_data,cmp_less,decide_eq_true this,cond_true,w64_succ (by omega)]
  exact place_l hn m (k + 1) F (by omega) (by omega)
theorem place_p {s:RosterState} (hn:s.Items.length≤1000) (c:ByteArray):p_ref21_place s c=some (((posC s.Items c:Nat):Int),fndC s.Items c):=by
 have hle:=posC_le s.Items c
 have hl:=place_l (s:=s) (c:=c) hn (posC s.Items c) 0 fuel (by omega) (by have:=fuel_pos;omega)
 unfold p_ref21_place
 rw [show ((0:Int))=((0:Nat):Int) from rfl,hl,Option.bind_some]
 unfold fndC
 rcases Nat.lt_or_ge (posC s.Items c) s.Items.length with h | h
 ·rw [lt_tt h,at_lt h,List.getElem?_eq_getElem h];rfl
 ·rw [lt_ff h,List.getElem?_eq_none h];rfl
theorem fndC_some {l:List ItemItem} {c:ByteArray} (h:fndC l c=true):∃ hl:posC l c < l.length,l[posC l c].Contact=c:=by
 unfold fndC at h
 rcases Nat.lt_or_ge (posC l c) l.length with g | g
 ·rw [List.getElem?_eq_getElem g] at h
  exact ⟨g,eqT_iff.1 h⟩
 ·rw [List.getElem?_eq_none g] at h;cases h
theorem fndC_of {l:List ItemItem} {c:ByteArray} (hs:SortedC l) {k:Nat} {x:ItemItem} (hx:l[k]?=some x) (hc:x.Contact=c):fndC l c=true∧posC l c=k:=by
 have e:Lib.compareBytes x.Contact.data.toList c.data.toList=0:=by rw [hc];exact cmp_refl _
 have hp:posC l c=k:=by
  rcases Nat.lt_trichotomy k (posC l c) with g | g | g
  ·have:=posC_lt g hx;omega
  ·exact g.symm
  ·have hl:=(List.getElem?_eq_some_iff.1 hx).1
   have h1:=hs _ _ g l[posC l c] x (List.getElem?_eq_getElem (by omega)) hx
   have h2:=posC_at (List.getElem?_eq_getElem (show posC l c < l.length by omega))
   rw [hc] at h1;omega
 refine ⟨?_,hp⟩
 unfold fndC
 rw [hp,hx]
 exact eqT_iff.2 hc
end Go.Proofs.YtpmoioopjbfhkaaGreat

namespace Go.Proofs.YtpmoioopjbfhkaaGreat
open Go.RowKit
def accG (s:RosterState):Nat→Int
 | 0=>s.Floor
 | k + 1=>match s.Gone[k]? with | some g=>g.Ver | none=>0
theorem accG_succ {s:RosterState} {k:Nat} (hk:k < s.Gone.length):accG s (k + 1)=s.Gone[k].Ver:=by
 show (match s.Gone[k]? with | some g=>g.Ver | none=>0)=_
 rw [List.getElem?_eq_getElem hk]
def WentOk (s:RosterState) (g:RosterGone):Prop:=∀ x ∈ s.Items,(x.Ver=g.Ver→x.Contact=g.Contact)∧(x.Contact=g.Contact→listedI x=false)
def LeftAt (s:RosterState) (k:Nat):Prop:=∀ g,s.Gone[k]?=some g→accG s k < g.Ver∧g.Ver≤s.Ver∧(∀ j,j < k→∀ h,s.Gone[j]?=some h→h.Contact≠g.Contact)∧WentOk s g
def Left (s:RosterState):Prop:=∀ k,k < s.Gone.length→LeftAt s k
theorem containsG_p (p:RosterGone→Bool) (l:List RosterGone) (hl:l.length≤1000):p_slices_ContainsFunc_roster_Gone l (fun x=>some (p x))=some (l.any p):=by
 obtain ⟨v,hv,hi⟩:=idxG_p p l hl
 unfold p_slices_ContainsFunc_roster_Gone
 rw [hv,Option.bind_some,hi.has]
theorem findpart {α:Type} {s:RosterState} (hn:s.Items.length≤20) (hs:SortedC s.Items) (c:ByteArray) (A K:Option α) :
  ∃ b:Bool,((p_roster_State_find s c).bind fun v=>bif v.2 then (at? s.Items v.1).bind fun x=>(p_item_Listed x).bind fun w=>bif w then A else K else K)=(bif b then A else K)∧(b=true ↔ ∃ x ∈ s.Items,x.Contact=c∧listedI x=true):=by
 rw [findC_p (by omega) hs,Option.bind_some]
 dsimp only
 cases hf:fndC s.Items c with
 | false =>
  refine ⟨false,rfl,fun h=>(by cases h),fun ⟨x,hx,hc,_⟩=>?_⟩
  obtain ⟨k,hk,rfl⟩:=List.getElem_of_mem hx
  have:=(fndC_of hs (List.getElem?_eq_getElem hk) hc).1
  rw [hf] at this;exact this
 | true =>
  obtain ⟨hl,hc⟩:=fndC_some hf
  refine ⟨listedI s.Items[posC s.Items c],?_,fun h=>⟨_,List.getElem_mem hl,hc,h⟩,fun ⟨x,hx,hc2,h2⟩=>?_⟩
  ·rw [cond_true,at_lt hl,Option.bind_some,listed_p,Option.bind_some]
  ·obtain ⟨k,hk,rfl⟩:=List.getElem_of_mem hx
   have:=(fndC_of hs (List.getElem?_eq_getElem hk) hc2).2
   subst this
   exact h2
theorem ofpart {α:Type} {s:RosterState} (h:LightS s) (hr:Rise s) (v:Int) (c:ByteArray) (A K:Option α) :
  ∃ b:Bool,((p_roster_State_of s v).bind fun i=>bif decide ((0:Int)≤i) then (at? s.Items i).bind fun x=>bif (x.Contact.toList == c.toList) then K else A else K)=(bif b then A else K)∧(b=true ↔ ∃ x ∈ s.Items,x.Ver=v∧x.Contact≠c):=by
 obtain ⟨i,h1,h2⟩:=of_p h v
 rw [h1,Option.bind_some]
 rcases h2 with ⟨q,rfl,x,hx,hp,hj⟩ | ⟨rfl,hn⟩
 ·have hq:=(List.getElem?_eq_some_iff.1 hx).1
  have ex:s.Items[q]=x:=(List.getElem?_eq_some_iff.1 hx).2
  rw [show decide ((0:Int)≤(q:Int))=true by simp,cond_true,at_lt hq,Option.bind_some,ex]
  refine ⟨!(x.Contact.toList == c.toList),by cases (x.Contact.toList == c.toList) <;> rfl,fun hb=>⟨x,List.mem_of_getElem? hx,by simpa using hp,fun e=>?_⟩,fun ⟨y,hy,hyv,hyc⟩=>?_⟩
  ·rw [eqT_iff.2 e] at hb;cases hb
  ·obtain ⟨m,hm,rfl⟩:=List.getElem_of_mem hy
   have:m=q:=by
    rcases Nat.lt_trichotomy m q with g | g | g
    ·have:=hj m g _ (List.getElem?_eq_getElem hm);simp [hyv] at this
    ·exact g
    ·have:=(hr m hm _ (List.getElem?_eq_getElem hm)).2.2.1 q g x hx
     exact absurd (by rw [hyv];simpa using hp) this
   subst this
   rw [ex] at hyc
   rw [Bool.not_eq_true',Bool.eq_false_iff]
   exact fun g=>hyc (eqT_iff.1 g)
 ·rw [show decide ((0:Int)≤-1)=false from rfl,cond_false]
  refine ⟨false,rfl,fun h=>(by cases h),fun ⟨y,hy,hyv,_⟩=>?_⟩
  have:=hn y hy
  simp [hyv] at this
theorem wentOk_iff {s:RosterState} {g:RosterGone}:WentOk s g ↔ (¬ ∃ x ∈ s.Items,x.Ver=g.Ver∧x.Contact≠g.Contact)∧¬ ∃ x ∈ s.Items,x.Contact=g.Contact∧listedI x=true:=by
 constructor
 ·exact fun h=>⟨fun ⟨x,hx,a,b⟩=>b ((h x hx).1 a),fun ⟨x,hx,a,b⟩=>by rw [(h x hx).2 a] at b;cases b⟩
 ·refine fun ⟨h1,h2⟩ x hx=>⟨fun a=>?_,fun a=>?_⟩
  ·exact Classical.byContradiction fun g=>h1 ⟨x,hx,a,g⟩
  ·cases hb:listedI x with
   | false=>rfl
   | true=>exact absurd ⟨x,hx,a,hb⟩ h2
theorem left_p {s:RosterState} (h:LightS s) (hr:Rise s):∃ b,p_roster_State_left s=some b∧(b=true ↔ Left s):=by
 have hi:=h.items
 have hg:=h.gone
 unfold p_roster_State_left
 have l1:=loop_all (N:=s.Gone.length) (by omega) (fun n y=>p_roster_State_left_l1 s.Gone (s.Gone.length:Int) s n (accG s y.toNat) y) (accG s s.Gone.length,(s.Gone.length:Int)) (LeftAt s) (fun n k hk=>by
  show (LeftAt s k→p_roster_State_left_l1 s.Gone (s.Gone.length:Int) s (n + 1) (accG s k) (k:Int)=p_roster_State_left_l1 s.Gone (s.Gone.length:Int) s n (accG s (k + 1)) ((k + 1:Nat):Int))∧(¬ LeftAt s k→p_roster_State_left_l1 s.Gone (s.Gone.length:Int) s (n + 1) (accG s k) (k:Int)=some (.inl false))
  obtain ⟨b1,e1,i1⟩:=findpart (α:=Bool ⊕ (Int × Int)) hi hr.sorted s.Gone[k].Contact (some (.inl false)) (p_roster_State_left_l1 s.Gone (s.Gone.length:Int) s n s.Gone[k].Ver ((k + 1:Nat):Int))
  obtain ⟨b2,e2,i2⟩:=ofpart (α:=Bool ⊕ (Int × Int)) h hr s.Gone[k].Ver s.Gone[k].Contact (some (.inl false)) (bif b1 then some (.inl false) else p_roster_State_left_l1 s.Gone (s.Gone.length:Int) s n s.Gone[k].Ver ((k + 1:Nat):Int))
  rw [p_roster_State_left_l1,lt_tt hk,cond_true,at_lt hk,Option.bind_some,accG_succ hk,w64_succ (by omega),cutTo (by omega),Option.bind_some,e1,e2]
  by_cases g1:s.Gone[k].Ver≤accG s k
  ·rw [decide_eq_true g1]
   exact ⟨fun g=>by have:=(g _ (List.getElem?_eq_getElem hk)).1;omega,fun _=>rfl⟩
  rw [decide_eq_false g1,cond_false]
  by_cases g2:s.Ver < s.Gone[k].Ver
  ·rw [decide_eq_true g2]
   exact ⟨fun g=>by have:=(g _ (List.getElem?_eq_getElem hk)).2.1;omega,fun _=>rfl⟩
  rw [decide_eq_false g2,cond_false]
  have ec:=containsG_p (fun x=>x.Contact.toList == s.Gone[k].Contact.toList) (s.Gone.take k) (by simp;omega)
  unfold p_roster_State_left_1
  rw [ec,Option.bind_some]
  cases g3:(s.Gone.take k).any fun x=>x.Contact.toList == s.Gone[k].Contact.toList with
  | true =>
   refine ⟨fun g=>?_,fun _=>rfl⟩
   obtain ⟨x,hx,hc⟩:=List.any_eq_true.1 g3
   obtain ⟨j,hj,rfl⟩:=List.getElem_of_mem hx
   rw [List.length_take] at hj
   have:=(g _ (List.getElem?_eq_getElem hk)).2.2.1 j (by omega) s.Gone[j] (List.getElem?_eq_getElem (by omega))
   rw [List.getElem_take] at hc
   exact absurd (eqT_iff.1 hc) this
  | false =>
   have g3' : ∀ j,j < k→∀ h,s.Gone[j]?=some h→h.Contact≠s.Gone[k].Contact:=fun j hj h hh e=>by
    have:=List.any_eq_false.1 g3 h (by
     have:(s.Gone.take k)[j]?=some h:=by rw [List.getElem?_take_of_lt hj];exact hh
     exact List.mem_of_getElem? this)
    exact this (eqT_iff.2 e)
   rw [cond_false]
   cases b2 with
   | true =>
    refine ⟨fun g=>?_,fun _=>rfl⟩
    exact absurd (i2.1 rfl) (wentOk_iff.1 (g _ (List.getElem?_eq_getElem hk)).2.2.2).1
   | false =>
    cases b1 with
    | true =>
     refine ⟨fun g=>?_,fun _=>rfl⟩
     exact absurd (i1.1 rfl) (wentOk_iff.1 (g _ (List.getElem?_eq_getElem hk)).2.2.2).2
    | false =>
     refine ⟨fun _=>rfl,fun g=>absurd (fun x hx=>?_) g⟩
     rw [List.getElem?_eq_getElem hk] at hx
     cases hx
     exact ⟨by omega,by omega,g3',wentOk_iff.2 ⟨fun q=>(by have:=i2.2 q;cases this),fun q=>(by have:=i1.2 q;cases this)⟩⟩) (fun n=>by
  show p_roster_State_left_l1 s.Gone (s.Gone.length:Int) s (n + 1) (accG s s.Gone.length) (s.Gone.length:Int)=_
  rw [p_roster_State_left_l1,lt_ff (Nat.le_refl _)];rfl)
 have l1' : p_roster_State_left_l1 s.Gone (s.Gone.length:Int) s fuel s.Floor 0=p_roster_State_left_l1 s.Gone (s.Gone.length:Int) s fuel (accG s (0:Int).toNat) 0:=rfl
 rw [l1']
 rcases l1 with ⟨a,e⟩ | ⟨a,e⟩
 ·rw [e];exact ⟨true,rfl,fun _=>a,fun _=>rfl⟩
 ·rw [e];exact ⟨false,rfl,fun h=>(by cases h),fun h=>absurd h a⟩
theorem rleft4_p {s:RosterState} (hg:s.Gone.length≤20) {k:Nat} (hk:k≤s.Gone.length) (g:RosterGone):((∀ j,j < k→∀ h,s.Gone[j]?=some h→h.Contact≠g.Contact)∧p_ref21_rises_l4 (k:Int) s g fuel 0=some (.inr (k:Int)))∨(¬ (∀ j,j < k→∀ h,s.Gone[j]?=some h→h.Contact≠g.Contact)∧p_ref21_rises_l4 (k:Int) s g fuel 0=some (.inl false)) :=
 loop_all (N:=k) (by omega) (p_ref21_rises_l4 (k:Int) s g) (k:Int) (fun j=>∀ h,s.Gone[j]?=some h→h.Contact≠g.Contact) (fun n j hj=>by
  have hl:j < s.Gone.length:=by omega
  rw [p_ref21_rises_l4,lt_tt hj,cond_true,at_lt hl,Option.bind_some,w64_succ (by omega),List.getElem?_eq_getElem hl]
  by_cases q:s.Gone[j].Contact=g.Contact
  ·rw [eqT_iff.2 q]
   exact ⟨fun h=>absurd q (h _ rfl),fun _=>rfl⟩
  ·rw [show (s.Gone[j].Contact.toList == g.Contact.toList)=false by rw [Bool.eq_false_iff];exact fun e=>q (eqT_iff.1 e)]
   exact ⟨fun _=>rfl,fun h=>absurd (fun y hy=>by cases hy;exact q) h⟩) (fun n=>by rw [p_ref21_rises_l4,lt_ff (Nat.le_refl _)];rfl)
theorem rleft5_p {s:RosterState} (hi:s.Items.length≤20) (g:RosterGone):(WentOk s g∧p_ref21_rises_l5 s g fuel 0=some (.inr (s.Items.length:Int)))∨(¬ WentOk s g∧p_ref21_rises_l5 s g fuel 0=some (.inl false)):=by
 have l:=loop_all (N:=s.Items.length) (by omega) (p_ref21_rises_l5 s g) (s.Items.length:Int) (fun j=>∀ x,s.Items[j]?=some x→(x.Ver=g.Ver→x.Contact=g.Contact)∧(x.Contact=g.Contact→listedI x=false)) (fun n j hj=>by
  rw [p_ref21_rises_l5,lt_tt hj,cond_true,at_lt hj,Option.bind_some,w64_succ (by omega),List.getElem?_eq_getElem hj,rlisted_p]
  generalize s.Items[j]=x
  by_cases q:x.Contact=g.Contact
  ·rw [eqT_iff.2 q]
   cases hb:listedI x with
   | true =>
    refine ⟨fun h=>?_,fun _=>by cases (x.Ver == g.Ver) <;> rfl⟩
    have:=(h _ rfl).2 q
    rw [hb] at this;cases this
   | false=>exact ⟨fun _=>by cases (x.Ver == g.Ver) <;> rfl,fun h=>absurd (fun y hy=>by cases hy;exact ⟨fun _=>q,fun _=>hb⟩) h⟩
  ·rw [show (x.Contact.toList == g.Contact.toList)=false by rw [Bool.eq_false_iff];exact fun e=>q (eqT_iff.1 e)]
   by_cases w:x.Ver=g.Ver
   ·rw [show (x.Ver == g.Ver)=true by simpa using w]
    exact ⟨fun h=>absurd ((h _ rfl).1 w) q,fun _=>rfl⟩
   ·rw [show (x.Ver == g.Ver)=false by simpa using w]
    exact ⟨fun _=>rfl,fun h=>absurd (fun y hy=>by cases hy;exact ⟨fun e=>absurd e w,fun e=>absurd e q⟩) h⟩) (fun n=>by rw [p_ref21_rises_l5,lt_ff (Nat.le_refl _)];rfl)
 have e:(∀ k,k < s.Items.length→∀ x,s.Items[k]?=some x→(x.Ver=g.Ver→x.Contact=g.Contact)∧(x.Contact=g.Contact→listedI x=false)) ↔ WentOk s g:=by
  refine ⟨fun h x hx=>?_,fun h k hk x hx=>h x (List.mem_of_getElem? hx)⟩
  obtain ⟨k,hk,rfl⟩:=List.getElem_of_mem hx
  exact h k hk _ (List.getElem?_eq_getElem hk)
 rw [e] at l
 exact l
theorem rleft3_p {s:RosterState} (h:LightS s):(Left s∧p_ref21_rises_l3 s fuel s.Floor 0=some (.inr (accG s s.Gone.length,(s.Gone.length:Int))))∨(¬ Left s∧p_ref21_rises_l3 s fuel s.Floor 0=some (.inl false)):=by
 have hi:=h.items
 have hg:=h.gone
 exact loop_all (N:=s.Gone.length) (by omega) (fun n y=>p_ref21_rises_l3 s n (accG s y.toNat) y) (accG s s.Gone.length,(s.Gone.length:Int)) (LeftAt s) (fun n k hk=>by
  show (LeftAt s k→p_ref21_rises_l3 s (n + 1) (accG s k) (k:Int)=p_ref21_rises_l3 s n (accG s (k + 1)) ((k + 1:Nat):Int))∧(¬ LeftAt s k→p_ref21_rises_l3 s (n + 1) (accG s k) (k:Int)=some (.inl false))
  have l4:=rleft4_p hg (Nat.le_of_lt hk) s.Gone[k]
  have l5:=rleft5_p hi s.Gone[k]
  rw [p_ref21_rises_l3,lt_tt hk,cond_true,at_lt hk,Option.bind_some,accG_succ hk,w64_succ (by omega)]
  by_cases g1:s.Gone[k].Ver≤accG s k
  ·rw [decide_eq_true g1]
   exact ⟨fun g=>by have:=(g _ (List.getElem?_eq_getElem hk)).1;omega,fun _=>rfl⟩
  rw [decide_eq_false g1,cond_false]
  by_cases g2:s.Ver < s.Gone[k].Ver
  ·rw [decide_eq_true g2]
   exact ⟨fun g=>by have:=(g _ (List.getElem?_eq_getElem hk)).2.1;omega,fun _=>rfl⟩
  rw [decide_eq_false g2,cond_false]
  rcases l4 with ⟨a4,e4⟩ | ⟨a4,e4⟩
  ·rcases l5 with ⟨a5,e5⟩ | ⟨a5,e5⟩
   ·rw [e4,e5]
    exact ⟨fun _=>rfl,fun g=>absurd (fun x hx=>by rw [List.getElem?_eq_getElem hk] at hx;cases hx;exact ⟨by omega,by omega,a4,a5⟩) g⟩
   ·rw [e4,e5]
    exact ⟨fun g=>absurd (g _ (List.getElem?_eq_getElem hk)).2.2.2 a5,fun _=>rfl⟩
  ·rw [e4]
   exact ⟨fun g=>absurd (g _ (List.getElem?_eq_getElem hk)).2.2.1 a4,fun _=>rfl⟩) (fun n=>by
  show p_ref21_rises_l3 s (n + 1) (accG s s.Gone.length) (s.Gone.length:Int)=_
  rw [p_ref21_rises_l3,lt_ff (Nat.le_refl _)];rfl)
structure FineS (s:RosterState):Prop where
 items:s.Items.length≤12
 gone:s.Gone.length≤8
 ver:0≤s.Ver∧s.Ver≤1099511627776
 rise:Rise s
 left:Left s
 fine:∀ x ∈ s.Items,chkI x=0
theorem checkS_p {s:RosterState} (h:LightS s):∃ c,p_roster_Check s=some c∧p_ref21_Check s=some c∧(c=0→FineS s):=by
 unfold p_roster_Check p_ref21_Check
 by_cases g1:(12:Int) < (s.Items.length:Int)
 ·rw [decide_eq_true g1];exact ⟨5,rfl,rfl,fun h=>by cases h⟩
 rw [decide_eq_false g1,cond_false,cond_false]
 by_cases g2:(8:Int) < (s.Gone.length:Int)
 ·rw [decide_eq_true g2];exact ⟨5,rfl,rfl,fun h=>by cases h⟩
 rw [decide_eq_false g2,cond_false,cond_false]
 by_cases g3:s.Ver < 0
 ·rw [decide_eq_true g3];exact ⟨8,rfl,rfl,fun h=>by cases h⟩
 rw [decide_eq_false g3,cond_false,cond_false]
 by_cases g4:(1099511627776:Int) < s.Ver
 ·rw [decide_eq_true g4];exact ⟨8,rfl,rfl,fun h=>by cases h⟩
 rw [decide_eq_false g4,cond_false,cond_false]
 by_cases g5:s.Floor < 0
 ·rw [decide_eq_true g5];exact ⟨8,rfl,rfl,fun h=>by cases h⟩
 rw [decide_eq_false g5,cond_false,cond_false]
 by_cases g6:s.Ver < s.Floor
 ·rw [decide_eq_true g6];exact ⟨8,rfl,rfl,fun h=>by cases h⟩
 rw [decide_eq_false g6,cond_false,cond_false]
 obtain ⟨e,h1,h2,h3⟩:=errs_p h
 rw [h1,h2,Option.bind_some,Option.bind_some]
 by_cases g7:e=0
 case neg =>
  rw [show (e != 0)=true by simpa using g7]
  exact ⟨e,rfl,rfl,fun h=>absurd h g7⟩
 rw [show (e != 0)=false by simpa using g7,cond_false,cond_false]
 obtain ⟨c1,c2⟩:=gone_p h
 rw [c1,Option.bind_some]
 rcases c2 with ⟨ce,cl⟩ | ⟨ce,cl⟩
 ·rw [ce,cl];exact ⟨11,rfl,rfl,fun h=>by cases h⟩
 rw [ce,cl,cond_false]
 obtain ⟨b,hb,hb2⟩:=rise_p h
 rw [hb,Option.bind_some]
 unfold p_ref21_rises
 rcases rrise1_p (s:=s) h.items with ⟨a,er⟩ | ⟨a,er⟩
 ·rw [er,hb2.2 a,cond_true]
  obtain ⟨b2,hl,hl2⟩:=left_p h a
  rw [hl,Option.bind_some]
  rcases rleft3_p h with ⟨q,el⟩ | ⟨q,el⟩
  ·rw [hl2.2 q]
   refine ⟨0,rfl,?_,fun _=>⟨by omega,by omega,⟨by omega,by omega⟩,a,q,h3 g7⟩⟩
   simp only [Option.bind_some,el,cond_true]
  ·have:b2=false:=by cases b2 with | false=>rfl | true=>exact absurd (hl2.1 rfl) q
   rw [this]
   refine ⟨10,rfl,?_,fun h=>by cases h⟩
   simp only [Option.bind_some,el,cond_false]
 ·have:b=false:=by cases b with | false=>rfl | true=>exact absurd (hb2.1 rfl) a
  rw [this,er]
  refine ⟨10,rfl,?_,fun h=>by cases h⟩
  simp only [Option.bind_some,cond_false]
end Go.Proofs.YtpmoioopjbfhkaaGreat

namespace Go.Proofs.YtpmoioopjbfhkaaGreat
open Go.RowKit
def trimR (v fl:Int) (l:List ItemItem) (g:List RosterGone):RosterState :=
 match g with
 | a :: r=>if 8≤r.length then RosterState.mk v a.Ver l r else RosterState.mk v fl l (a :: r)
 | []=>RosterState.mk v fl l []
theorem trim_p (v fl:Int) (l:List ItemItem) {g:List RosterGone} (hg:g.length≤1000):(bif decide ((8:Int) < (g.length:Int)) then (at? g (0:Int)).bind fun x=>(del? g (0:Int) (1:Int)).bind fun w=>some (RosterState.mk v x.Ver l w) else some (RosterState.mk v fl l g))=some (trimR v fl l g):=by
 unfold trimR
 cases g with
 | nil=>rfl
 | cons a r =>
  dsimp only
  by_cases h:8≤r.length
  ·rw [show decide ((8:Int) < ((a :: r).length:Int))=true by simp;omega,cond_true,if_pos h]
   have e:del? (a :: r) 0 1=some r:=by
    unfold del?
    rw [if_pos (by simp at hg ⊢;omega)];rfl
   rw [e];rfl
  ·rw [show decide ((8:Int) < ((a :: r).length:Int))=false by simp;omega,cond_false,if_neg h]
theorem rtrim_p (v fl:Int) (l:List ItemItem) (g:List RosterGone):(bif decide ((8:Int) < (g.length:Int)) then (at? g (0:Int)).bind fun x=>(cut? g (some (1:Int)) none).bind fun w=>some (RosterState.mk v x.Ver l w) else some (RosterState.mk v fl l g))=some (trimR v fl l g):=by
 unfold trimR
 cases g with
 | nil=>rfl
 | cons a r =>
  dsimp only
  by_cases h:8≤r.length
  ·rw [show decide ((8:Int) < ((a :: r).length:Int))=true by simp;omega,cond_true,if_pos h]
   have e:cut? (a :: r) (some ((1:Nat):Int)) none=some r:=cutFrom (by simp)
   rw [show (1:Int)=((1:Nat):Int) from rfl,e];rfl
  ·rw [show decide ((8:Int) < ((a :: r).length:Int))=false by simp;omega,cond_false,if_neg h]
def verI (x:ItemItem) (v:Int):ItemItem:=ItemItem.mk x.Contact x.Name x.Sub v x.Own
def itemsR (s:RosterState) (x:ItemItem) (v:Int):List ItemItem :=
 s.Items.take (posC s.Items x.Contact)++((if idleI (verI x v) then [] else [verI x v])++s.Items.drop (if fndC s.Items x.Contact then posC s.Items x.Contact + 1 else posC s.Items x.Contact))
def wasR (s:RosterState) (x:ItemItem):Bool:=match s.Items[posC s.Items x.Contact]? with | some y=>fndC s.Items x.Contact && listedI y | none=>false
def goneR (s:RosterState) (x:ItemItem) (v:Int):List RosterGone :=
 s.Gone.filter (fun g=>!(g.Contact.toList == x.Contact.toList) || !(listedI x || wasR s x))++(if wasR s x && !listedI x then [RosterGone.mk x.Contact v] else [])
def changeR (s:RosterState) (x:ItemItem):RosterState:=trimR (w64 (s.Ver + 1)) s.Floor (itemsR s x (w64 (s.Ver + 1))) (goneR s x (w64 (s.Ver + 1)))
theorem delF_y {s:RosterState} (hg:s.Gone.length≤1000) (y:ItemItem):delF? (fun x0=>p_roster_State_change_1 x0 y) s.Gone=some (s.Gone.filter fun g=>!(g.Contact.toList == y.Contact.toList)):=by
 unfold delF? p_roster_State_change_1
 rw [if_pos ⟨by omega,by simp⟩]
 simp
theorem filt_t {l:List RosterGone}:(l.filter fun _=>true)=l:=by simp
theorem keep_all {l:List RosterGone} {c:ByteArray}:(l.filter fun g=>!(g.Contact.toList == c.toList) || !false)=l:=by simp
theorem keep_some {l:List RosterGone} {c:ByteArray}:(l.filter fun g=>!(g.Contact.toList == c.toList) || !true)=l.filter fun g=>!(g.Contact.toList == c.toList):=by simp
theorem change_p {s:RosterState} (hi:s.Items.length≤20) (hg:s.Gone.length≤20) (hs:SortedC s.Items) (x:ItemItem):p_roster_State_change s x=some (changeR s x):=by
 have hle:=posC_le s.Items x.Contact
 unfold p_roster_State_change
 rw [findC_p (by omega) hs,Option.bind_some]
 simp only [listed_p,idle_p,Option.bind_some,delF_y (s:=s) (by omega)]
 unfold changeR itemsR goneR verI
 cases hf:fndC s.Items x.Contact with
 | true =>
  obtain ⟨hl,hc⟩:=fndC_some hf
  have hw:wasR s x=listedI s.Items[posC s.Items x.Contact]:=by unfold wasR;rw [List.getElem?_eq_getElem hl,hf];rfl
  have hd:del? s.Items (posC s.Items x.Contact:Int) ((posC s.Items x.Contact + 1:Nat):Int)=some (s.Items.take (posC s.Items x.Contact)++s.Items.drop (posC s.Items x.Contact + 1)):=by
   unfold del?
   rw [if_pos (by omega)];rfl
  have hset:∀ y,List.set s.Items (Int.toNat ((posC s.Items x.Contact:Nat):Int)) y=s.Items.take (posC s.Items x.Contact)++([y]++s.Items.drop (posC s.Items x.Contact + 1)):=fun y=>by
   rw [Int.toNat_natCast,List.set_eq_take_append_cons_drop,if_pos hl];rfl
  rw [hw]
  simp only [cond_true,at_lt hl,Option.bind_some,w64_succ (show posC s.Items x.Contact≤1000000 by omega),hd,hset,if_true]
  have hfl:∀ c:ByteArray,(s.Gone.filter fun g=>!(g.Contact.toList == c.toList)).length≤20:=fun c=>Nat.le_trans (List.length_filter_le _ _) hg
  have happ:∀ (c:ByteArray) (z:RosterGone),app? (s.Gone.filter fun g=>!(g.Contact.toList == c.toList)) [z]=some ((s.Gone.filter fun g=>!(g.Contact.toList == c.toList))++[z]):=fun c z=>app_ok (by have:=hfl c;simp;omega)
  have t1:∀ (c:ByteArray) (l:List ItemItem),_:=fun c l=>trim_p (w64 (s.Ver + 1)) s.Floor l (g:=s.Gone.filter fun g=>!(g.Contact.toList == c.toList)) (by have:=hfl c;omega)
  have t2:∀ (c:ByteArray) (z:RosterGone) (l:List ItemItem),_:=fun c z l=>trim_p (w64 (s.Ver + 1)) s.Floor l (g:=(s.Gone.filter fun g=>!(g.Contact.toList == c.toList))++[z]) (by have:=hfl c;simp;omega)
  have t3:∀ l:List ItemItem,_:=fun l=>trim_p (w64 (s.Ver + 1)) s.Floor l (g:=s.Gone) (by omega)
  cases hid:idleI (ItemItem.mk x.Contact x.Name x.Sub (w64 (s.Ver + 1)) x.Own) <;> cases hl1:listedI s.Items[posC s.Items x.Contact] <;> cases hl2:listedI x <;>
   simp only [cond_true,cond_false,if_true,if_false,Bool.false_eq_true,happ,t1,t2,t3,Option.bind_some,List.nil_append,Bool.or_true,Bool.or_false,Bool.true_or,Bool.false_or,Bool.and_true,Bool.and_false,Bool.true_and,Bool.false_and,Bool.not_true,Bool.not_false,keep_all,keep_some,List.append_nil,filt_t]
 | false =>
  have hw:wasR s x=false:=by unfold wasR;rw [hf];split <;> rfl
  have hins:∀ y,insAt? s.Items (posC s.Items x.Contact:Int) y=some (s.Items.take (posC s.Items x.Contact)++([y]++s.Items.drop (posC s.Items x.Contact))):=fun y=>by
   unfold insAt?
   rw [if_pos (by omega)];rfl
  rw [hw]
  have hfl:∀ c:ByteArray,(s.Gone.filter fun g=>!(g.Contact.toList == c.toList)).length≤20:=fun c=>Nat.le_trans (List.length_filter_le _ _) hg
  have t1:∀ (c:ByteArray) (l:List ItemItem),_:=fun c l=>trim_p (w64 (s.Ver + 1)) s.Floor l (g:=s.Gone.filter fun g=>!(g.Contact.toList == c.toList)) (by have:=hfl c;omega)
  have t3:∀ l:List ItemItem,_:=fun l=>trim_p (w64 (s.Ver + 1)) s.Floor l (g:=s.Gone) (by omega)
  have htd:s.Items.take (posC s.Items x.Contact)++s.Items.drop (posC s.Items x.Contact)=s.Items:=List.take_append_drop _ _
  cases hid:idleI (ItemItem.mk x.Contact x.Name x.Sub (w64 (s.Ver + 1)) x.Own) <;> cases hl2:listedI x <;>
   simp only [cond_true,cond_false,if_true,if_false,Bool.false_eq_true,hins,t1,t3,Option.bind_some,List.nil_append,Bool.or_true,Bool.or_false,Bool.true_or,Bool.false_or,Bool.and_true,Bool.and_false,Bool.true_and,Bool.false_and,Bool.not_true,Bool.not_false,keep_all,keep_some,List.append_nil,filt_t,htd]
theorem rchange_l (was now:Bool) (st:RosterState) (y:ItemItem) (hg:st.Gone.length≤1000):∀ (n k F:Nat) (out:List RosterGone),k + n=st.Gone.length→n < F→out.length≤k →
  p_ref21_change_l1 was now st y F out (k:Int)=some (out++(st.Gone.drop k).filter (fun g=>!(g.Contact.toList == y.Contact.toList) || !(now || was)),(st.Gone.length:Int))
 | 0,k,F + 1,out,hk,hF,ho=>by
  have e:k=st.Gone.length:=by omega
  rw [p_ref21_change_l1,lt_ff (by omega),e,List.drop_length];simp
 | n + 1,k,F + 1,out,hk,hF,ho=>by
  have h:k < st.Gone.length:=by omega
  rw [p_ref21_change_l1,lt_tt h,cond_true,at_lt h,drop_at h,w64_succ (by omega)]
  simp only [Option.bind_some]
  rw [app_ok (by simp;omega)]
  simp only [Option.bind_some]
  have r1:=rchange_l was now st y hg n (k + 1) F out (by omega) (by omega) (by omega)
  have r2:=rchange_l was now st y hg n (k + 1) F (out++[st.Gone[k]]) (by omega) (by omega) (by simp;omega)
  rw [r1,r2]
  rw [List.filter_cons]
  cases (st.Gone[k].Contact.toList == y.Contact.toList) <;> cases now <;> cases was <;> simp
theorem rchange_p {s:RosterState} (hi:s.Items.length≤20) (hg:s.Gone.length≤20) (x:ItemItem):p_ref21_change s x=some (changeR s x):=by
 have hle:=posC_le s.Items x.Contact
 unfold p_ref21_change
 rw [place_p (by omega),Option.bind_some]
 dsimp only
 have q6:((bif fndC s.Items x.Contact then (at? s.Items (posC s.Items x.Contact:Int)).bind fun x3=>(p_ref20_Listed x3).bind fun v4=>some v4 else some false):Option Bool)=some (wasR s x):=by
  unfold wasR
  cases hf:fndC s.Items x.Contact with
  | true =>
   obtain ⟨hl,hc⟩:=fndC_some hf
   rw [cond_true,at_lt hl,List.getElem?_eq_getElem hl]
   simp only [Option.bind_some,rlisted_p,Bool.true_and]
  | false=>rw [cond_false];split <;> rfl
 have q16:((bif fndC s.Items x.Contact then some (w64 ((posC s.Items x.Contact:Int) + (1:Int))) else some ((posC s.Items x.Contact:Nat):Int)):Option Int)=some (((if fndC s.Items x.Contact then posC s.Items x.Contact + 1 else posC s.Items x.Contact:Nat)):Int):=by
  cases hf:fndC s.Items x.Contact with
  | true=>rw [cond_true,w64_succ (by omega),if_pos rfl]
  | false=>rfl
 have hd:(if fndC s.Items x.Contact then posC s.Items x.Contact + 1 else posC s.Items x.Contact)≤s.Items.length:=by
  cases hf:fndC s.Items x.Contact with
  | true=>obtain ⟨hl,hc⟩:=fndC_some hf;rw [if_pos rfl];omega
  | false=>exact hle
 rw [q6,Option.bind_some,cutTo hle,Option.bind_some,app_ok (by simp;omega),Option.bind_some,ridle_p,Option.bind_some]
 have q13:((bif idleI (ItemItem.mk x.Contact x.Name x.Sub (w64 (s.Ver + (1:Int))) x.Own) then some ([]++s.Items.take (posC s.Items x.Contact)) else (app? ([]++s.Items.take (posC s.Items x.Contact)) [(ItemItem.mk x.Contact x.Name x.Sub (w64 (s.Ver + (1:Int))) x.Own)]).bind fun l11=>some l11):Option (List ItemItem))=some (s.Items.take (posC s.Items x.Contact)++(if idleI (verI x (w64 (s.Ver + 1))) then [] else [verI x (w64 (s.Ver + 1))])):=by
  unfold verI
  cases idleI (ItemItem.mk x.Contact x.Name x.Sub (w64 (s.Ver + (1:Int))) x.Own) with
  | true=>simp
  | false=>rw [cond_false,app_ok (by simp;omega)];simp
 rw [q13,Option.bind_some,q16,Option.bind_some,cutFrom hd,Option.bind_some,app_ok (by simp;split <;> simp <;> omega),Option.bind_some,List.append_assoc,rlisted_p,Option.bind_some]
 have hl:=rchange_l (wasR s x) (listedI x) (RosterState.mk (w64 (s.Ver + (1:Int))) s.Floor (itemsR s x (w64 (s.Ver + 1))) s.Gone) (ItemItem.mk x.Contact x.Name x.Sub (w64 (s.Ver + (1:Int))) x.Own) (by show s.Gone.length≤1000;omega) s.Gone.length 0 fuel [] (by simp) (by have:=fuel_pos;omega) (Nat.zero_le _)
 have hli:listedI (ItemItem.mk x.Contact x.Name x.Sub (w64 (s.Ver + (1:Int))) x.Own)=listedI x:=rfl
 rw [hli]
 show ((p_ref21_change_l1 (wasR s x) (listedI x) (RosterState.mk (w64 (s.Ver + (1:Int))) s.Floor (itemsR s x (w64 (s.Ver + 1))) s.Gone) (ItemItem.mk x.Contact x.Name x.Sub (w64 (s.Ver + (1:Int))) x.Own) fuel [] ((0:Nat):Int)).bind _)=_
 rw [hl,Option.bind_some]
 dsimp only
 rw [List.drop_zero,List.nil_append]
 have hfl:(s.Gone.filter fun g=>!(g.Contact.toList == x.Contact.toList) || !(listedI x || wasR s x)).length≤20:=Nat.le_trans (List.length_filter_le _ _) hg
 have q49:((bif wasR s x then bif listedI x then some (s.Gone.filter fun g=>!(g.Contact.toList == x.Contact.toList) || !(listedI x || wasR s x)) else (app? (s.Gone.filter fun g=>!(g.Contact.toList == x.Contact.toList) || !(listedI x || wasR s x)) [(RosterGone.mk x.Contact (w64 (s.Ver + (1:Int))))]).bind fun l47=>some l47 else some (s.Gone.filter fun g=>!(g.Contact.toList == x.Contact.toList) || !(listedI x || wasR s x))):Option (List RosterGone))=some (goneR s x (w64 (s.Ver + 1))):=by
  rw [app_ok (by rw [List.length_singleton];exact Nat.le_trans (Nat.add_le_add_right hfl 1) (by decide))]
  unfold goneR
  cases wasR s x <;> cases listedI x <;> simp
 rw [q49,Option.bind_some,rtrim_p];rfl
end Go.Proofs.YtpmoioopjbfhkaaGreat

namespace Go.Proofs.YtpmoioopjbfhkaaGreat
open Go.RowKit
theorem own_l (z:List ItemItem) (hn:z.length≤1000):∀ (n k F:Nat) (acc:List ItemItem),k + n=z.length→n < F→acc.length=k→p_law20_Own_l1 z F acc (k:Int)=some (acc++z.drop k,(z.length:Int))
 | 0,k,F + 1,acc,hk,hF,ha=>by
  have e:k=z.length:=by omega
  rw [p_law20_Own_l1,lt_ff (by omega),e,List.drop_length,List.append_nil];rfl
 | n + 1,k,F + 1,acc,hk,hF,ha=>by
  have hlt:k < z.length:=by omega
  rw [p_law20_Own_l1,lt_tt hlt,cond_true,at_lt hlt,Option.bind_some,app_ok (by simp;omega),Option.bind_some,w64_succ (by omega),own_l z hn n (k + 1) F _ (by omega) (by omega) (by simp;omega),drop_at hlt]
  simp
theorem own_p (l:List ItemItem) (hn:l.length≤1000):p_law20_Own l=some l:=by
 unfold p_law20_Own
 have h2:p_law20_Own_l1 l fuel [] 0=some (l,(l.length:Int)):=own_l l hn l.length 0 fuel [] (by omega) (by have:=fuel_pos;omega) rfl
 rw [h2];rfl
theorem back_l (z:List ItemItem) (hn:z.length≤1000):∀ (n k F:Nat) (acc:List ItemItem),k + n=z.length→n < F→acc.length=k→p_law20_Back_l1 z F acc (k:Int)=some (acc++z.drop k,(z.length:Int))
 | 0,k,F + 1,acc,hk,hF,ha=>by
  have e:k=z.length:=by omega
  rw [p_law20_Back_l1,lt_ff (by omega),e,List.drop_length,List.append_nil];rfl
 | n + 1,k,F + 1,acc,hk,hF,ha=>by
  have hlt:k < z.length:=by omega
  rw [p_law20_Back_l1,lt_tt hlt,cond_true,at_lt hlt,Option.bind_some,app_ok (by simp;omega),Option.bind_some,w64_succ (by omega),back_l z hn n (k + 1) F _ (by omega) (by omega) (by simp;omega),drop_at hlt]
  simp
theorem back_p (l:List ItemItem) (hn:l.length≤1000):p_law20_Back l=some l:=by
 unfold p_law20_Back
 have h2:p_law20_Back_l1 l fuel [] 0=some (l,(l.length:Int)):=back_l l hn l.length 0 fuel [] (by omega) (by have:=fuel_pos;omega) rfl
 rw [h2];rfl
theorem same_l (z:List ItemItem) (hn:z.length≤1000):∀ (n k F:Nat),k + n=z.length→n < F→p_ref20_SameItems_l1 z z F (k:Int)=some (.inr (z.length:Int))
 | 0,k,F + 1,hk,hF=>by
  have e:k=z.length:=by omega
  rw [p_ref20_SameItems_l1,lt_ff (by omega),e];rfl
 | n + 1,k,F + 1,hk,hF=>by
  have hlt:k < z.length:=by omega
  rw [p_ref20_SameItems_l1,lt_tt hlt,cond_true,at_lt hlt]
  simp only [Option.bind_some,eqT_refl,beq_self_eq_true,Bool.and_self,Bool.and_true,cond_true]
  rw [w64_succ (by omega),same_l z hn n (k + 1) F (by omega) (by omega)]
theorem same_p (l:List ItemItem) (hn:l.length≤1000):p_ref20_SameItems l l=some true:=by
 unfold p_ref20_SameItems
 rw [bne_self_eq_false,cond_false]
 have h2:p_ref20_SameItems_l1 l l fuel 0=some (.inr (l.length:Int)):=same_l l hn l.length 0 fuel (by omega) (by have:=fuel_pos;omega)
 rw [h2];rfl
end Go.Proofs.YtpmoioopjbfhkaaGreat

