/- A part of the proof: 3 texts joined. -/
import Derived.Test.YtmmmcpeickfolaaGreatZaA14
import Derived.Test.YtmmmcpeickfolaaGreatZaA15
import Derived.KernelRfl
import Derived.Test.YtmmmcpeickfolaaGreatZaA12
set_option linter.all false
namespace Go.Proofs.YtmmmcpeickfolaaGreat
open Go.RowKit
def p_roster_State_errors_l1 (z5:List ItemItem) (z6:Int):Nat→Int→Option (Int ⊕ Int)
 | 0,_=>none
 | n + 1,y7 =>
  bif (decide (y7 < z6)) then
   (at? z5 y7).bind fun x9 =>
   (p_item_Check x9).bind fun v10 =>
   bif (v10 != (0:Int)) then
    some (.inl v10)
   else
   (p_item_Idle x9).bind fun v12 =>
   bif v12 then
    some (.inl (4:Int))
   else
   p_roster_State_errors_l1 z5 z6 n (w64 (y7 + (1:Int)))
  else
  some (.inr y7)
def p_roster_State_errors (a0:RosterState):Option (Int) :=
 (p_roster_State_errors_l1 a0.Items (a0.Items.length:Int) fuel (0:Int)).bind fun o14=>match o14 with
 | .inl q15 =>
  some q15
 | .inr q16 =>
  some (0:Int)
def p_roster_Check_1 (a0:RosterGone):Option (Bool) :=
 (p_addr_IsBare a0.Contact).bind fun v1 =>
 some (!v1)
def p_slices_ContainsFunc_roster_Gone (a0:List RosterGone) (a1:RosterGone→Option Bool):Option (Bool) :=
 (p_slices_IndexFunc_roster_Gone a0 a1).bind fun v1 =>
 some (decide ((0:Int)≤v1))
def p_roster_State_of_1 (a0:ItemItem) (c0:Int):Option (Bool) :=
 some (a0.Ver == c0)
def p_slices_IndexFunc_item_Item_l1 (a1:ItemItem→Option Bool) (z5:List ItemItem) (z6:Int):Nat→Int→Option (Int ⊕ Int)
 | 0,_=>none
 | n + 1,y7 =>
  bif (decide (y7 < z6)) then
   (at? z5 y7).bind fun x9 =>
   (a1 x9).bind fun v10 =>
   bif v10 then
    some (.inl y7)
   else
   p_slices_IndexFunc_item_Item_l1 a1 z5 z6 n (w64 (y7 + (1:Int)))
  else
  some (.inr y7)
def p_slices_IndexFunc_item_Item (a0:List ItemItem) (a1:ItemItem→Option Bool):Option (Int) :=
 (p_slices_IndexFunc_item_Item_l1 a1 a0 (a0.length:Int) fuel (0:Int)).bind fun o12=>match o12 with
 | .inl q13 =>
  some q13
 | .inr q14 =>
  some (-1:Int)
def p_roster_State_of (a0:RosterState) (a1:Int):Option (Int) :=
 (p_slices_IndexFunc_item_Item a0.Items (fun x0=>p_roster_State_of_1 x0 a1)).bind fun v1 =>
 some v1
def p_roster_State_rise_l1 (z6:List ItemItem) (z7:Int) (z9:RosterState):Nat→Int→Option (Bool ⊕ Int)
 | 0,_=>none
 | n + 1,y8 =>
  bif (decide (y8 < z7)) then
   (at? z6 y8).bind fun x11 =>
   bif (decide (x11.Ver < (1:Int))) then
    some (.inl false)
   else
   bif (decide (z9.Ver < x11.Ver)) then
    some (.inl false)
   else
   (p_roster_State_of z9 x11.Ver).bind fun v14 =>
   bif (v14 != y8) then
    some (.inl false)
   else
   bif (decide ((0:Int) < y8)) then
    (at? z9.Items (w64 (y8 - (1:Int)))).bind fun x17 =>
    bif (Op.bytesLess x17.Contact.toList x11.Contact.toList) then
     p_roster_State_rise_l1 z6 z7 z9 n (w64 (y8 + (1:Int)))
    else
    some (.inl false)
   else
   p_roster_State_rise_l1 z6 z7 z9 n (w64 (y8 + (1:Int)))
  else
  some (.inr y8)
def p_roster_State_rise (a0:RosterState):Option (Bool) :=
 (p_roster_State_rise_l1 a0.Items (a0.Items.length:Int) a0 fuel (0:Int)).bind fun o19=>match o19 with
 | .inl q20 =>
  some q20
 | .inr q21 =>
  some true
def p_roster_State_left_1 (a0:RosterGone) (c0:RosterGone):Option (Bool) :=
 some (a0.Contact.toList == c0.Contact.toList)
def p_roster_State_left_l1 (z8:List RosterGone) (z9:Int) (z11:RosterState):Nat→Int→Int→Option (Bool ⊕ (Int × Int))
 | 0,_,_=>none
 | n + 1,y7,y10 =>
  bif (decide (y10 < z9)) then
   (at? z8 y10).bind fun x13 =>
   bif (decide (x13.Ver≤y7)) then
    some (.inl false)
   else
   bif (decide (z11.Ver < x13.Ver)) then
    some (.inl false)
   else
   (cut? z11.Gone none (some y10)).bind fun x16 =>
   (p_slices_ContainsFunc_roster_Gone x16 (fun x0=>p_roster_State_left_1 x0 x13)).bind fun v17 =>
   bif v17 then
    some (.inl false)
   else
   (p_roster_State_of z11 x13.Ver).bind fun v19 =>
   bif (decide ((0:Int)≤v19)) then
    (at? z11.Items v19).bind fun x21 =>
    bif (x21.Contact.toList == x13.Contact.toList) then
     (p_roster_State_find z11 x13.Contact).bind fun v23 =>
     bif v23.2 then
      (at? z11.Items v23.1).bind fun x25 =>
      (p_item_Listed x25).bind fun v26 =>
      bif v26 then
       some (.inl false)
      else
      p_roster_State_left_l1 z8 z9 z11 n x13.Ver (w64 (y10 + (1:Int)))
     else
     p_roster_State_left_l1 z8 z9 z11 n x13.Ver (w64 (y10 + (1:Int)))
    else
    some (.inl false)
   else
   (p_roster_State_find z11 x13.Contact).bind fun v28 =>
   bif v28.2 then
    (at? z11.Items v28.1).bind fun x30 =>
    (p_item_Listed x30).bind fun v31 =>
    bif v31 then
     some (.inl false)
    else
    p_roster_State_left_l1 z8 z9 z11 n x13.Ver (w64 (y10 + (1:Int)))
   else
   p_roster_State_left_l1 z8 z9 z11 n x13.Ver (w64 (y10 + (1:Int)))
  else
  some (.inr (y7,y10))
def p_roster_State_left (a0:RosterState):Option (Bool) :=
 (p_roster_State_left_l1 a0.Gone (a0.Gone.length:Int) a0 fuel a0.Floor (0:Int)).bind fun o33=>match o33 with
 | .inl q34 =>
  some q34
 | .inr q35 =>
  some true
def p_roster_Check (a0:RosterState):Option (Int) :=
 bif (decide ((12:Int) < (a0.Items.length:Int))) then
  some (5:Int)
 else
 bif (decide ((8:Int) < (a0.Gone.length:Int))) then
  some (5:Int)
 else
 bif (decide (a0.Ver < (0:Int))) then
  some (8:Int)
 else
 bif (decide ((1099511627776:Int) < a0.Ver)) then
  some (8:Int)
 else
 bif (decide (a0.Floor < (0:Int))) then
  some (8:Int)
 else
 bif (decide (a0.Ver < a0.Floor)) then
  some (8:Int)
 else
 (p_roster_State_errors a0).bind fun v7 =>
 bif (v7 != (0:Int)) then
  some v7
 else
 (p_slices_ContainsFunc_roster_Gone a0.Gone (fun x0=>p_roster_Check_1 x0)).bind fun v9 =>
 bif v9 then
  some (11:Int)
 else
 (p_roster_State_rise a0).bind fun v11 =>
 bif v11 then
  (p_roster_State_left a0).bind fun v13 =>
  bif v13 then
   some (0:Int)
  else
  some (10:Int)
 else
 some (10:Int)
def p_roster_Find (a0:RosterState) (a1:ByteArray):Option (ItemItem × Bool) :=
 (p_roster_Check a0).bind fun v1 =>
 bif (v1 != (0:Int)) then
  some ((ItemItem.mk (⟨#[]⟩ : ByteArray) (⟨#[]⟩ : ByteArray) (0:Int) (0:Int) false),false)
 else
 (p_roster_State_find a0 a1).bind fun v3 =>
 bif v3.2 then
  (at? a0.Items v3.1).bind fun x5 =>
  some (x5,true)
 else
 some ((ItemItem.mk (⟨#[]⟩ : ByteArray) (⟨#[]⟩ : ByteArray) (0:Int) (0:Int) false),false)
def p_roster_State_may (a0:RosterState) (a1:Bool) (a2:Bool):Option (Int) :=
 bif a2 then
  bif a1 then
   bif (decide ((1099511627776:Int)≤a0.Ver)) then
    some (9:Int)
   else
   some (0:Int)
  else
  bif (decide ((12:Int)≤(a0.Items.length:Int))) then
   some (7:Int)
  else
  bif (decide ((1099511627776:Int)≤a0.Ver)) then
   some (9:Int)
  else
  some (0:Int)
 else
 bif (decide ((1099511627776:Int)≤a0.Ver)) then
  some (9:Int)
 else
 some (0:Int)
def p_roster_Set (a0:RosterState) (a1:ByteArray) (a2:ByteArray):Option (RosterState × Int) :=
 (p_roster_State_own a0).bind fun v1 =>
 (p_roster_Check a0).bind fun v2 =>
 bif (v2 != (0:Int)) then
  some (v1,v2)
 else
 (p_roster_Find a0 a1).bind fun v4 =>
 (p_item_Check (ItemItem.mk a1 a2 v4.1.Sub (0:Int) true)).bind fun v5 =>
 bif (v5 != (0:Int)) then
  some (v1,v5)
 else
 (p_roster_State_may a0 v4.2 true).bind fun v7 =>
 bif (v7 != (0:Int)) then
  some (v1,v7)
 else
 ((
  bif v4.1.Own then
   bif (v4.1.Name.toList == a2.toList) then
    some (.inl (v1,(0:Int)))
   else
   some (.inr ())
  else
  some (.inr ())):Option ((RosterState × Int) ⊕ Unit)).bind fun o11=>match o11 with
 | .inl q12 =>
  some q12
 | .inr q13 =>
  (p_roster_State_change v1 (ItemItem.mk a1 a2 v4.1.Sub (0:Int) true)).bind fun v14 =>
  some (v14,(0:Int))
def p_roster_Sub (a0:RosterState) (a1:ByteArray) (a2:Int):Option (RosterState × Int) :=
 (p_roster_State_own a0).bind fun v1 =>
 (p_roster_Check a0).bind fun v2 =>
 bif (v2 != (0:Int)) then
  some (v1,v2)
 else
 (p_addr_IsBare a1).bind fun v4 =>
 bif v4 then
  (p_subs_Check a2).bind fun v6 =>
  bif (v6 != (0:Int)) then
   some (v1,v6)
  else
  (p_roster_Find a0 a1).bind fun v8 =>
  (p_roster_State_may a0 v8.2 (a2 != (0:Int))).bind fun v9 =>
  bif (v9 != (0:Int)) then
   some (v1,v9)
  else
  bif (v8.1.Sub == a2) then
   some (v1,(0:Int))
  else
  ((
   some ()):Option (Unit)).bind fun q13 =>
  (p_roster_State_change v1 (ItemItem.mk a1 v8.1.Name a2 v8.1.Ver v8.1.Own)).bind fun v14 =>
  some (v14,(0:Int))
 else
 some (v1,(11:Int))
def p_roster_Drop (a0:RosterState) (a1:ByteArray):Option (RosterState × Int) :=
 (p_roster_State_own a0).bind fun v1 =>
 (p_roster_Check a0).bind fun v2 =>
 bif (v2 != (0:Int)) then
  some (v1,v2)
 else
 (p_roster_State_find a0 a1).bind fun v4 =>
 bif v4.2 then
  ((
   (p_roster_State_may a0 true false).bind fun v6 =>
   bif (v6 != (0:Int)) then
    some (.inl (v1,v6))
   else
   some (.inr ())):Option ((RosterState × Int) ⊕ Unit)).bind fun o8=>match o8 with
  | .inl q9 =>
   some q9
  | .inr q10 =>
   (p_roster_State_change v1 (ItemItem.mk a1 (⟨#[]⟩ : ByteArray) (0:Int) (0:Int) false)).bind fun v11 =>
   some (v11,(0:Int))
 else
 some (v1,(6:Int))
def p_roster_State_some_l1 (a1:ItemItem→Option Bool) (z9:List ItemItem) (z10:Int):Nat→(List ItemItem)→Int→Option (((List ItemItem) × Int))
 | 0,_,_=>none
 | n + 1,y8,y11 =>
  bif (decide (y11 < z10)) then
   (at? z9 y11).bind fun x13 =>
   (a1 x13).bind fun v14 =>
   bif v14 then
    (app? y8 [x13]).bind fun l16 =>
    p_roster_State_some_l1 a1 z9 z10 n l16 (w64 (y11 + (1:Int)))
   else
   p_roster_State_some_l1 a1 z9 z10 n y8 (w64 (y11 + (1:Int)))
  else
  some (y8,y11)
def p_roster_State_some (a0:RosterState) (a1:ItemItem→Option Bool):Option ((List ItemItem)) :=
 (p_roster_Check a0).bind fun v1 =>
 bif (v1 != (0:Int)) then
  some []
 else
 (p_roster_State_some_l1 a1 a0.Items (a0.Items.length:Int) fuel [] (0:Int)).bind fun q18 =>
 some q18.1
def p_roster_contacts_l1 (z7:List ItemItem) (z8:Int):Nat→(List ByteArray)→Int→Option (((List ByteArray) × Int))
 | 0,_,_=>none
 | n + 1,y6,y9 =>
  bif (decide (y9 < z8)) then
   (at? z7 y9).bind fun x11 =>
   (app? y6 [x11.Contact]).bind fun l12 =>
   p_roster_contacts_l1 z7 z8 n l12 (w64 (y9 + (1:Int)))
  else
  some (y6,y9)
def p_roster_contacts (a0:List ItemItem):Option ((List ByteArray)) :=
 (p_roster_contacts_l1 a0 (a0.length:Int) fuel [] (0:Int)).bind fun q14 =>
 some q14.1
def p_roster_Sees (a0:RosterState):Option ((List ByteArray)) :=
 (p_roster_State_some a0 (fun x0=>p_item_Sees x0)).bind fun v1 =>
 (p_roster_contacts v1).bind fun v2 =>
 some v2
def p_roster_Seen (a0:RosterState):Option ((List ByteArray)) :=
 (p_roster_State_some a0 (fun x0=>p_item_Seen x0)).bind fun v1 =>
 (p_roster_contacts v1).bind fun v2 =>
 some v2
def p_roster_Listed (a0:RosterState):Option ((List ItemItem)) :=
 (p_roster_State_some a0 (fun x0=>p_item_Listed x0)).bind fun v1 =>
 some v1
def p_roster_Gone_newer (a0:RosterGone) (a1:Int):Option (Bool) :=
 some (decide (a1 < a0.Ver))
def p_roster_Since_1 (a0:ItemItem) (c0:Int):Option (Bool) :=
 bif (decide (c0 < a0.Ver)) then
  (p_item_Listed a0).bind fun v2 =>
  some v2
 else
 some false
def p_roster_Since_l1 (z18:List RosterGone) (z19:Int) (z22:Int):Nat→(List RosterGone)→Int→Option (((List RosterGone) × Int))
 | 0,_,_=>none
 | n + 1,y17,y20 =>
  bif (decide (y20 < z19)) then
   (at? z18 y20).bind fun x24 =>
   (p_roster_Gone_newer x24 z22).bind fun v25 =>
   bif v25 then
    (app? y17 [x24]).bind fun l27 =>
    p_roster_Since_l1 z18 z19 z22 n l27 (w64 (y20 + (1:Int)))
   else
   p_roster_Since_l1 z18 z19 z22 n y17 (w64 (y20 + (1:Int)))
  else
  some (y17,y20)
def p_roster_Since (a0:RosterState) (a1:Int):Option ((List ItemItem) × (List RosterGone) × Bool) :=
 bif (decide (a1 < a0.Floor)) then
  (p_roster_Listed a0).bind fun v2 =>
  some (v2,[],true)
 else
 bif (decide (a0.Ver < a1)) then
  (p_roster_Listed a0).bind fun v4 =>
  some (v4,[],true)
 else
 (p_roster_Check a0).bind fun v5 =>
 bif (v5 != (0:Int)) then
  (p_roster_Listed a0).bind fun v7 =>
  some (v7,[],true)
 else
 (p_roster_Since_l1 a0.Gone (a0.Gone.length:Int) a1 fuel [] (0:Int)).bind fun q29 =>
 (p_roster_State_some a0 (fun x0=>p_roster_Since_1 x0 a1)).bind fun v30 =>
 some (v30,q29.1,false)
def p_slices_Equal_item_Item_l1 (z7:List ItemItem) (z8:List ItemItem) (z9:Int):Nat→Int→Option (Bool ⊕ Int)
 | 0,_=>none
 | n + 1,y10 =>
  bif (decide (y10 < z9)) then
   (at? z7 y10).bind fun x12 =>
   (at? z8 y10).bind fun x13 =>
   bif ((x12.Contact.toList == x13.Contact.toList) && ((x12.Name.toList == x13.Name.toList) && ((x12.Sub == x13.Sub) && ((x12.Ver == x13.Ver) && ((x12.Own == x13.Own) && true))))) then
    p_slices_Equal_item_Item_l1 z7 z8 z9 n (w64 (y10 + (1:Int)))
   else
   some (.inl false)
  else
  some (.inr y10)
def p_slices_Equal_item_Item (a0:List ItemItem) (a1:List ItemItem):Option (Bool) :=
 bif ((a0.length:Int) != (a1.length:Int)) then
  some false
 else
 (p_slices_Equal_item_Item_l1 a0 a1 (a0.length:Int) fuel (0:Int)).bind fun o15=>match o15 with
 | .inl q16 =>
  some q16
 | .inr q17 =>
  some true
def p_slices_Equal_roster_Gone_l1 (z7:List RosterGone) (z8:List RosterGone) (z9:Int):Nat→Int→Option (Bool ⊕ Int)
 | 0,_=>none
 | n + 1,y10 =>
  bif (decide (y10 < z9)) then
   (at? z7 y10).bind fun x12 =>
   (at? z8 y10).bind fun x13 =>
   bif ((x12.Contact.toList == x13.Contact.toList) && ((x12.Ver == x13.Ver) && true)) then
    p_slices_Equal_roster_Gone_l1 z7 z8 z9 n (w64 (y10 + (1:Int)))
   else
   some (.inl false)
  else
  some (.inr y10)
def p_slices_Equal_roster_Gone (a0:List RosterGone) (a1:List RosterGone):Option (Bool) :=
 bif ((a0.length:Int) != (a1.length:Int)) then
  some false
 else
 (p_slices_Equal_roster_Gone_l1 a0 a1 (a0.length:Int) fuel (0:Int)).bind fun o15=>match o15 with
 | .inl q16 =>
  some q16
 | .inr q17 =>
  some true
def p_roster_Same (a0:RosterState) (a1:RosterState):Option (Bool) :=
 bif (a0.Ver == a1.Ver) then
  bif (a0.Floor == a1.Floor) then
   (p_slices_Equal_item_Item a0.Items a1.Items).bind fun v3 =>
   bif v3 then
    (p_slices_Equal_roster_Gone a0.Gone a1.Gone).bind fun v5 =>
    some v5
   else
   some false
  else
  some false
 else
 some false
end Go.Proofs.YtmmmcpeickfolaaGreat

namespace Go.Proofs.YtmmmcpeickfolaaGreat
open Go.RowKit
def p_ref01_SameTexts_l1 (z6:List ByteArray) (z7:List ByteArray):Nat→Int→Option (Bool ⊕ Int)
 | 0,_=>none
 | n + 1,y8 =>
  bif (decide (y8 < (z6.length:Int))) then
   (at? z6 y8).bind fun x10 =>
   (at? z7 y8).bind fun x11 =>
   bif (x10.toList == x11.toList) then
    p_ref01_SameTexts_l1 z6 z7 n (w64 (y8 + (1:Int)))
   else
   some (.inl false)
  else
  some (.inr y8)
def p_ref01_SameTexts (a0:List ByteArray) (a1:List ByteArray):Option (Bool) :=
 bif ((a0.length:Int) != (a1.length:Int)) then
  some false
 else
 (p_ref01_SameTexts_l1 a0 a1 fuel (0:Int)).bind fun o13=>match o13 with
 | .inl q14 =>
  some q14
 | .inr q15 =>
  some true
def p_law21_awake:Option (Bool) :=
 (p_roster_Set (RosterState.mk (0:Int) (0:Int) [] []) (⟨#[97,64,98]⟩ : ByteArray) (⟨#[65,110,110]⟩ : ByteArray)).bind fun v1 =>
 (p_roster_Sub v1.1 (⟨#[99,64,100]⟩ : ByteArray) (1:Int)).bind fun v2 =>
 (p_roster_Drop v2.1 (⟨#[97,64,98]⟩ : ByteArray)).bind fun v3 =>
 (p_roster_Drop v3.1 (⟨#[97,64,98]⟩ : ByteArray)).bind fun v4 =>
 (p_roster_Find v3.1 (⟨#[99,64,100]⟩ : ByteArray)).bind fun v5 =>
 (p_roster_Since v3.1 (1:Int)).bind fun v6 =>
 (p_roster_Since v3.1 (9:Int)).bind fun v7 =>
 (p_roster_Set v3.1 (⟨#[120]⟩ : ByteArray) (⟨#[]⟩ : ByteArray)).bind fun v8 =>
 (p_roster_Sub v3.1 (⟨#[99,64,100]⟩ : ByteArray) (5:Int)).bind fun v9 =>
 bif (v1.2 == (0:Int)) then
  bif (v2.2 == (0:Int)) then
   bif (v3.2 == (0:Int)) then
    bif (v4.2 == (6:Int)) then
     bif v5.2 then
      bif (v5.1.Ver == (2:Int)) then
       bif (v5.1.Sub == (1:Int)) then
        bif ((v6.1.length:Int) == (1:Int)) then
         (at? v6.1 (0:Int)).bind fun x18 =>
         bif ((x18.Contact.toList == v5.1.Contact.toList) && ((x18.Name.toList == v5.1.Name.toList) && ((x18.Sub == v5.1.Sub) && ((x18.Ver == v5.1.Ver) && ((x18.Own == v5.1.Own) && true))))) then
          bif ((v6.2.1.length:Int) == (1:Int)) then
           (at? v6.2.1 (0:Int)).bind fun x21 =>
           bif ((x21.Contact.toList == (⟨#[97,64,98]⟩ : ByteArray).toList) && ((x21.Ver == (3:Int)) && true)) then
            bif v6.2.2 then
             some false
            else
            bif v7.2.2 then
             bif (v8.2 == (11:Int)) then
              bif (v9.2 == (4:Int)) then
               (p_roster_Sees v3.1).bind fun v27 =>
               (p_ref01_SameTexts v27 [(⟨#[99,64,100]⟩ : ByteArray)]).bind fun v28 =>
               bif v28 then
                (p_roster_Seen v3.1).bind fun v30 =>
                bif ((v30.length:Int) == (0:Int)) then
                 (p_roster_Listed v2.1).bind fun v32 =>
                 bif ((v32.length:Int) == (2:Int)) then
                  (p_roster_Check v3.1).bind fun v34 =>
                  bif (v34 == (0:Int)) then
                   (p_roster_Check (RosterState.mk (0:Int) (1:Int) [] [])).bind fun v36 =>
                   bif (v36 == (8:Int)) then
                    (p_roster_Same v2.1 v3.1).bind fun v38 =>
                    bif v38 then
                     some false
                    else
                    (p_roster_Same v3.1 v3.1).bind fun v40 =>
                    bif v40 then
                     some true
                    else
                    some false
                   else
                   some false
                  else
                  some false
                 else
                 some false
                else
                some false
               else
               some false
              else
              some false
             else
             some false
            else
            some false
           else
           some false
          else
          some false
         else
         some false
        else
        some false
       else
       some false
      else
      some false
     else
     some false
    else
    some false
   else
   some false
  else
  some false
 else
 some false
def p_law21_who (a0:Int):Option (ByteArray) :=
 (text? [IntKind.wrap .u8 ((97:Int) + (Int.tmod a0 (14:Int)))]).bind fun s1 =>
 (cat? s1 (⟨#[64,104,111,109,101]⟩ : ByteArray)).bind fun s2 =>
 some s2
def p_law21_done (a0:RosterState) (a1:Law21Deed):Option (RosterState) :=
 bif ((Int.tmod a1.Kind (4:Int)) == (2:Int)) then
  (p_law21_who a1.Who).bind fun v2 =>
  (p_roster_Sub a0 v2 (w64 (Int.tmod a1.Name (16:Int)))).bind fun v3 =>
  some v3.1
 else
 bif ((Int.tmod a1.Kind (4:Int)) == (3:Int)) then
  (p_law21_who a1.Who).bind fun v5 =>
  (p_roster_Drop a0 v5).bind fun v6 =>
  some v6.1
 else
 (p_law21_who a1.Who).bind fun v7 =>
 (sub? (⟨#[65,97,97]⟩ : ByteArray) none (some (Int.tmod a1.Name (4:Int)))).bind fun s8 =>
 (p_roster_Set a0 v7 s8).bind fun v9 =>
 some v9.1
def p_law21_RosterReplay_l1 (z11:List Law21Deed) (z12:Int):Nat→(List ItemItem)→Int→Int→RosterState→Option (((List ItemItem) × Int × Int × RosterState) ⊕ Bool)
 | 0,_,_,_,_=>none
 | n + 1,y13,y14,y15,y16 =>
  bif (decide (y15≤(z11.length:Int))) then
   ((
    bif (y15 == z12) then
     (p_roster_Listed y16).bind fun v19 =>
     some (v19,y16.Ver)
    else
    some (y13,y14)):Option (((List ItemItem) × Int))).bind fun q21 =>
   bif (y15 == (z11.length:Int)) then
    some (.inl (q21.1,q21.2,y15,y16))
   else
   (at? z11 y15).bind fun x23 =>
   (p_law21_done y16 x23).bind fun v24 =>
   (p_roster_Check v24).bind fun v25 =>
   bif (v25 != (0:Int)) then
    some (.inr false)
   else
   bif (decide (v24.Ver < y16.Ver)) then
    some (.inr false)
   else
   bif (decide (w64 (y16.Ver + (1:Int)) < v24.Ver)) then
    some (.inr false)
   else
   bif (decide (v24.Floor < y16.Floor)) then
    some (.inr false)
   else
   bif (decide ((12:Int) < (v24.Items.length:Int))) then
    some (.inr false)
   else
   p_law21_RosterReplay_l1 z11 z12 n q21.1 q21.2 (w64 (y15 + (1:Int))) v24
  else
  some (.inl (y13,y14,y15,y16))
def p_law21_RosterReplay_l3 (z63:List ItemItem) (z65:List RosterGone) (z67:Int):Nat→Bool→Int→Option ((Bool × Int))
 | 0,_,_=>none
 | n + 1,y68,y69 =>
  bif (decide (y69 < (z65.length:Int))) then
   bif y68 then
    (at? z65 y69).bind fun x73 =>
    (at? z63 z67).bind fun x74 =>
    p_law21_RosterReplay_l3 z63 z65 z67 n (!(x73.Contact.toList == x74.Contact.toList)) (w64 (y69 + (1:Int)))
   else
   p_law21_RosterReplay_l3 z63 z65 z67 n false (w64 (y69 + (1:Int)))
  else
  some (y68,y69)
def p_law21_RosterReplay_l4 (z86:List ItemItem) (z87:List ItemItem) (z90:Int):Nat→Bool→Int→Option ((Bool × Int))
 | 0,_,_=>none
 | n + 1,y91,y92 =>
  bif (decide (y92 < (z87.length:Int))) then
   bif y91 then
    (at? z87 y92).bind fun x96 =>
    (at? z86 z90).bind fun x97 =>
    p_law21_RosterReplay_l4 z86 z87 z90 n (!(x96.Contact.toList == x97.Contact.toList)) (w64 (y92 + (1:Int)))
   else
   p_law21_RosterReplay_l4 z86 z87 z90 n false (w64 (y92 + (1:Int)))
  else
  some (y91,y92)
def p_law21_RosterReplay_l2 (z47:List ItemItem) (z48:List ItemItem) (z49:List RosterGone):Nat→(List ItemItem)→Int→Option (((List ItemItem) × Int))
 | 0,_,_=>none
 | n + 1,y50,y51 =>
  bif (decide (y51 < (z47.length:Int))) then
   (p_law21_RosterReplay_l3 z47 z49 y51 fuel true (0:Int)).bind fun q76 =>
   (p_law21_RosterReplay_l4 z47 z48 y51 fuel q76.1 (0:Int)).bind fun q99 =>
   bif q99.1 then
    (at? z47 y51).bind fun x101 =>
    (app? y50 [x101]).bind fun l102 =>
    p_law21_RosterReplay_l2 z47 z48 z49 n l102 (w64 (y51 + (1:Int)))
   else
   p_law21_RosterReplay_l2 z47 z48 z49 n y50 (w64 (y51 + (1:Int)))
  else
  some (y50,y51)
def p_law21_RosterReplay_l5 (z113:List ItemItem) (z114:List ItemItem):Nat→Int→Option (Bool ⊕ Int)
 | 0,_=>none
 | n + 1,y115 =>
  bif (decide (y115 < (z113.length:Int))) then
   (at? z113 y115).bind fun x117 =>
   (at? z114 y115).bind fun x118 =>
   bif ((x117.Contact.toList == x118.Contact.toList) && ((x117.Name.toList == x118.Name.toList) && ((x117.Sub == x118.Sub) && ((x117.Ver == x118.Ver) && ((x117.Own == x118.Own) && true))))) then
    p_law21_RosterReplay_l5 z113 z114 n (w64 (y115 + (1:Int)))
   else
   some (.inl false)
  else
  some (.inr y115)
def p_law21_RosterReplay (a0:List Law21Deed) (a1:Int):Option (Bool) :=
 bif (decide ((60:Int) < (a0.length:Int))) then
  (p_law21_awake).bind fun v2 =>
  some v2
 else
 (ne0? (w64 ((a0.length:Int) + (1:Int)))).bind fun x3 =>
 ((
  (p_law21_RosterReplay_l1 a0 (Int.tmod (w64 a1) (w64 ((a0.length:Int) + (1:Int)))) fuel [] (0:Int) (0:Int) (RosterState.mk (0:Int) (0:Int) [] [])).bind fun o31=>match o31 with
  | .inl q32 =>
   some (.inl (q32.1,q32.2.1,q32.2.2.2))
  | .inr q33 =>
   some (.inr q33)):Option (((List ItemItem) × Int × RosterState) ⊕ Bool)).bind fun o34=>match o34 with
 | .inl q35 =>
  (p_roster_Since q35.2.2 q35.2.1).bind fun v36 =>
  ((
   bif v36.2.2 then
    some v36.1
   else
   some q35.1):Option ((List ItemItem))).bind fun q39 =>
  (p_law21_RosterReplay_l2 q39 v36.1 v36.2.1 fuel [] (0:Int)).bind fun q104 =>
  (app? q104.1 v36.1).bind fun l105 =>
  (p_item_Sort l105).bind fun v106 =>
  (p_roster_Listed q35.2.2).bind fun v107 =>
  bif ((v106.length:Int) != (v107.length:Int)) then
   some false
  else
  (p_law21_RosterReplay_l5 v106 v107 fuel (0:Int)).bind fun o120=>match o120 with
  | .inl q121 =>
   some q121
  | .inr q122 =>
   (p_law21_awake).bind fun v123 =>
   some v123
 | .inr q124 =>
  some q124
end Go.Proofs.YtmmmcpeickfolaaGreat

namespace Go.Proofs.YtmmmcpeickfolaaGreat
open Go.ChangeShapes Go.WideShapes Go.ChangeAt Go.RowKit Go.Joins Go.Deep
structure Law21Deed.Wf (x:Law21Deed):Prop where
 Kind:(Lit.int .u8 x.Kind).wf=true
 Who:(Lit.int .u8 x.Who).wf=true
 Name:(Lit.int .u8 x.Name).wf=true
set_option maxRecDepth 100000 in
theorem rd_T103 {H:Type} {enc:TypeId × Value→H} {W:World} {spare:Nat→Bool} {held:Bool} {fuel:Nat} {cs:List Value} {y:DataW H × List MemPlace} (h:DataW.trod enc Tryz.prog W 0 spare held fuel 103 cs=some y):∃ x:Law21Deed,Law21Deed.Wf x∧RepL (MW W) noBk cs [.y8 x.Kind,.y8 x.Who,.y8 x.Name]:=by
 obtain ⟨xs,n,_,_,hl,hx,hall⟩:=DataW.trod_struct Tryz.underlying103 h
 have hce:Tryz.prog.cellsOf 103=3:=by kernel_rfl
 rw [hce] at hl
 match cs,hl,hall with
 | [c0,c1,c2],_,hall =>
  obtain ⟨y0,hy0⟩:=get_some hx (show 0 < 3 by omega)
  have g0:DataW.trod enc Tryz.prog W 0 spare held n 5 [c0]=some y0:=by
   have hz:Tryz.prog.cellsOf 5=1:=by kernel_rfl
   have g:DataW.trod enc Tryz.prog W 0 spare held n 5 (([c0,c1,c2].drop 0).take (Tryz.prog.cellsOf 5))=some y0:=(hall 0 _ rfl).trans hy0
   rw [hz] at g;exact g
  obtain ⟨x0,w0,r0⟩:=rd_int Tryz.underlying5 g0
  obtain ⟨y1,hy1⟩:=get_some hx (show 1 < 3 by omega)
  have g1:DataW.trod enc Tryz.prog W 0 spare held n 5 [c1]=some y1:=by
   have hz:Tryz.prog.cellsOf 5=1:=by kernel_rfl
   have g:DataW.trod enc Tryz.prog W 0 spare held n 5 (([c0,c1,c2].drop 1).take (Tryz.prog.cellsOf 5))=some y1:=(hall 1 _ rfl).trans hy1
   rw [hz] at g;exact g
  obtain ⟨x1,w1,r1⟩:=rd_int Tryz.underlying5 g1
  obtain ⟨y2,hy2⟩:=get_some hx (show 2 < 3 by omega)
  have g2:DataW.trod enc Tryz.prog W 0 spare held n 5 [c2]=some y2:=by
   have hz:Tryz.prog.cellsOf 5=1:=by kernel_rfl
   have g:DataW.trod enc Tryz.prog W 0 spare held n 5 (([c0,c1,c2].drop 2).take (Tryz.prog.cellsOf 5))=some y2:=(hall 2 _ rfl).trans hy2
   rw [hz] at g;exact g
  obtain ⟨x2,w2,r2⟩:=rd_int Tryz.underlying5 g2
  exact ⟨⟨x0,x1,x2⟩,⟨w0,w1,w2⟩,repL_app r0 (repL_app r1 (repL_app r2 (repL_nil)))⟩
theorem rd_T95 {H:Type} {enc:TypeId × Value→H} {W:World} {spare:Nat→Bool} {held:Bool} {fuel:Nat} {cs:List Value} {y:DataW H × List MemPlace} (h:DataW.trod enc Tryz.prog W 0 spare held fuel 95 cs=some y):∃ x:List Law21Deed,(∀ z ∈ x,Law21Deed.Wf z)∧RepL (MW W) noBk cs [(fun l:List Law21Deed=>V.sl (l.map Law21Deed.v) false) x] :=
 rd_slice (f:=Law21Deed.v) (es:=3) (wf:=Law21Deed.Wf) Tryz.underlying95 (fun _=>rfl) (by intro a v hv;simp [V.cells] at hv;first | (subst hv;rfl) | (rcases hv with rfl | rfl | rfl <;> rfl)) (by omega) (by kernel_rfl) (fun n cs y h=>rd_T103 h) h
end Go.Proofs.YtmmmcpeickfolaaGreat

