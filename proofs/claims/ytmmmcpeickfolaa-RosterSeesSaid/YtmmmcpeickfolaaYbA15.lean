/- A part of the proof: 8 texts joined. -/
import Derived.Test.YtmmmcpeickfolaaYbA14
import Derived.Test.YtmmmcpeickfolaaYbA11
import Derived.Test.YtmmmcpeickfolaaYbA12
import Derived.Test.YtmmmcpeickfolaaYbA13
import Derived.KernelRfl
set_option linter.all false
namespace Go.Proofs.Ytmmmcpeickfolaa
open Go.RowKit
attribute [local irreducible] AW Fin FinR loopQ CallsV CallsS Callable
end Go.Proofs.Ytmmmcpeickfolaa

namespace Go.Proofs.Ytmmmcpeickfolaa
open Go.RowKit
attribute [local irreducible] AW Fin FinR loopQ CallsV CallsS Callable
end Go.Proofs.Ytmmmcpeickfolaa

namespace Go.Proofs.Ytmmmcpeickfolaa
open Go.RowKit
attribute [local irreducible] CallsS CallsV Callable
end Go.Proofs.Ytmmmcpeickfolaa

namespace Go.Proofs.Ytmmmcpeickfolaa
open Go.RowKit
attribute [local irreducible] CallsS CallsV Callable
end Go.Proofs.Ytmmmcpeickfolaa

namespace Go.Proofs.Ytmmmcpeickfolaa
open Go.RowKit
def stzFits (x:StanzaStanza):Prop:=(0≤x.Kind∧x.Kind≤255)∧x.User.size≤100000∧x.Res.size≤100000∧x.Name.size≤100000
instance (x:StanzaStanza):Decidable (stzFits x):=inferInstanceAs (Decidable (_∧_))
end Go.Proofs.Ytmmmcpeickfolaa

namespace Go.Proofs.Ytmmmcpeickfolaa
open Go.RowKit
def p_roster_State_find_1 (a0:ItemItem) (a1:ByteArray):Option (Int) :=
 (p_strings_Compare a0.Contact a1).bind fun v1 =>
 some v1
def p_slices_BinarySearchFunc_item_Item_l1 (a2:ItemItem→ByteArray→Option Int) (z8:List ItemItem) (z9:ByteArray):Nat→Int→Int→Option ((Int × Int))
 | 0,_,_=>none
 | n + 1,y11,y12 =>
  bif (decide (y11 < y12)) then
   (at? z8 (w64 (shrI .u64 (IntKind.wrap .u64 (w64 (y11 + y12))) (1:Int)))).bind fun x14 =>
   (a2 x14 z9).bind fun v15 =>
   bif (decide (v15 < (0:Int))) then
    p_slices_BinarySearchFunc_item_Item_l1 a2 z8 z9 n (w64 (w64 (shrI .u64 (IntKind.wrap .u64 (w64 (y11 + y12))) (1:Int)) + (1:Int))) y12
   else
   p_slices_BinarySearchFunc_item_Item_l1 a2 z8 z9 n y11 (w64 (shrI .u64 (IntKind.wrap .u64 (w64 (y11 + y12))) (1:Int)))
  else
  some (y11,y12)
def p_slices_BinarySearchFunc_item_Item (a0:List ItemItem) (a1:ByteArray) (a2:ItemItem→ByteArray→Option Int):Option (Int × Bool) :=
 (p_slices_BinarySearchFunc_item_Item_l1 a2 a0 a1 fuel (0:Int) (a0.length:Int)).bind fun q18 =>
 bif (decide (q18.1 < (a0.length:Int))) then
  (at? a0 q18.1).bind fun x20 =>
  (a2 x20 a1).bind fun v21 =>
  some (q18.1,(v21 == (0:Int)))
 else
 some (q18.1,false)
def p_roster_State_find (a0:RosterState) (a1:ByteArray):Option (Int × Bool) :=
 (p_slices_BinarySearchFunc_item_Item a0.Items a1 (fun x0 x1=>p_roster_State_find_1 x0 x1)).bind fun v1 =>
 some (v1.1,v1.2)
def p_roster_State_change_1 (a0:RosterGone) (c0:ItemItem):Option (Bool) :=
 some (a0.Contact.toList == c0.Contact.toList)
def p_roster_State_change (a0:RosterState) (a1:ItemItem):Option (RosterState) :=
 (p_roster_State_find a0 a1.Contact).bind fun v1 =>
 bif v1.2 then
  (at? a0.Items v1.1).bind fun x3 =>
  (p_item_Listed x3).bind fun v5 =>
  (p_item_Listed a1).bind fun v6 =>
  (p_item_Idle (ItemItem.mk a1.Contact a1.Name a1.Sub (w64 (a0.Ver + (1:Int))) a1.Own)).bind fun v7 =>
  bif v7 then
   (del? a0.Items v1.1 (w64 (v1.1 + (1:Int)))).bind fun v9 =>
   bif v5 then
    (delF? (fun x0=>p_roster_State_change_1 x0 (ItemItem.mk a1.Contact a1.Name a1.Sub (w64 (a0.Ver + (1:Int))) a1.Own)) a0.Gone).bind fun v11 =>
    bif v6 then
     bif (decide ((8:Int) < (v11.length:Int))) then
      (at? v11 (0:Int)).bind fun x14 =>
      (del? v11 (0:Int) (1:Int)).bind fun v16 =>
      some (RosterState.mk (w64 (a0.Ver + (1:Int))) x14.Ver v9 v16)
     else
     some (RosterState.mk (w64 (a0.Ver + (1:Int))) a0.Floor v9 v11)
    else
    (app? v11 [(RosterGone.mk a1.Contact (w64 (a0.Ver + (1:Int))))]).bind fun l17 =>
    bif (decide ((8:Int) < (l17.length:Int))) then
     (at? l17 (0:Int)).bind fun x19 =>
     (del? l17 (0:Int) (1:Int)).bind fun v21 =>
     some (RosterState.mk (w64 (a0.Ver + (1:Int))) x19.Ver v9 v21)
    else
    some (RosterState.mk (w64 (a0.Ver + (1:Int))) a0.Floor v9 l17)
   else
   bif v6 then
    (delF? (fun x0=>p_roster_State_change_1 x0 (ItemItem.mk a1.Contact a1.Name a1.Sub (w64 (a0.Ver + (1:Int))) a1.Own)) a0.Gone).bind fun v23 =>
    bif (decide ((8:Int) < (v23.length:Int))) then
     (at? v23 (0:Int)).bind fun x25 =>
     (del? v23 (0:Int) (1:Int)).bind fun v27 =>
     some (RosterState.mk (w64 (a0.Ver + (1:Int))) x25.Ver v9 v27)
    else
    some (RosterState.mk (w64 (a0.Ver + (1:Int))) a0.Floor v9 v23)
   else
   bif (decide ((8:Int) < (a0.Gone.length:Int))) then
    (at? a0.Gone (0:Int)).bind fun x29 =>
    (del? a0.Gone (0:Int) (1:Int)).bind fun v31 =>
    some (RosterState.mk (w64 (a0.Ver + (1:Int))) x29.Ver v9 v31)
   else
   some (RosterState.mk (w64 (a0.Ver + (1:Int))) a0.Floor v9 a0.Gone)
  else
  (at? a0.Items v1.1).bind fun x32 =>
  bif v5 then
   (delF? (fun x0=>p_roster_State_change_1 x0 (ItemItem.mk a1.Contact a1.Name a1.Sub (w64 (a0.Ver + (1:Int))) a1.Own)) a0.Gone).bind fun v35 =>
   bif v6 then
    bif (decide ((8:Int) < (v35.length:Int))) then
     (at? v35 (0:Int)).bind fun x38 =>
     (del? v35 (0:Int) (1:Int)).bind fun v40 =>
     some (RosterState.mk (w64 (a0.Ver + (1:Int))) x38.Ver (List.set a0.Items (Int.toNat v1.1) (ItemItem.mk a1.Contact a1.Name a1.Sub (w64 (a0.Ver + (1:Int))) a1.Own)) v40)
    else
    some (RosterState.mk (w64 (a0.Ver + (1:Int))) a0.Floor (List.set a0.Items (Int.toNat v1.1) (ItemItem.mk a1.Contact a1.Name a1.Sub (w64 (a0.Ver + (1:Int))) a1.Own)) v35)
   else
   (app? v35 [(RosterGone.mk a1.Contact (w64 (a0.Ver + (1:Int))))]).bind fun l41 =>
   bif (decide ((8:Int) < (l41.length:Int))) then
    (at? l41 (0:Int)).bind fun x43 =>
    (del? l41 (0:Int) (1:Int)).bind fun v45 =>
    some (RosterState.mk (w64 (a0.Ver + (1:Int))) x43.Ver (List.set a0.Items (Int.toNat v1.1) (ItemItem.mk a1.Contact a1.Name a1.Sub (w64 (a0.Ver + (1:Int))) a1.Own)) v45)
   else
   some (RosterState.mk (w64 (a0.Ver + (1:Int))) a0.Floor (List.set a0.Items (Int.toNat v1.1) (ItemItem.mk a1.Contact a1.Name a1.Sub (w64 (a0.Ver + (1:Int))) a1.Own)) l41)
  else
  bif v6 then
   (delF? (fun x0=>p_roster_State_change_1 x0 (ItemItem.mk a1.Contact a1.Name a1.Sub (w64 (a0.Ver + (1:Int))) a1.Own)) a0.Gone).bind fun v47 =>
   bif (decide ((8:Int) < (v47.length:Int))) then
    (at? v47 (0:Int)).bind fun x49 =>
    (del? v47 (0:Int) (1:Int)).bind fun v51 =>
    some (RosterState.mk (w64 (a0.Ver + (1:Int))) x49.Ver (List.set a0.Items (Int.toNat v1.1) (ItemItem.mk a1.Contact a1.Name a1.Sub (w64 (a0.Ver + (1:Int))) a1.Own)) v51)
   else
   some (RosterState.mk (w64 (a0.Ver + (1:Int))) a0.Floor (List.set a0.Items (Int.toNat v1.1) (ItemItem.mk a1.Contact a1.Name a1.Sub (w64 (a0.Ver + (1:Int))) a1.Own)) v47)
  else
  bif (decide ((8:Int) < (a0.Gone.length:Int))) then
   (at? a0.Gone (0:Int)).bind fun x53 =>
   (del? a0.Gone (0:Int) (1:Int)).bind fun v55 =>
   some (RosterState.mk (w64 (a0.Ver + (1:Int))) x53.Ver (List.set a0.Items (Int.toNat v1.1) (ItemItem.mk a1.Contact a1.Name a1.Sub (w64 (a0.Ver + (1:Int))) a1.Own)) v55)
  else
  some (RosterState.mk (w64 (a0.Ver + (1:Int))) a0.Floor (List.set a0.Items (Int.toNat v1.1) (ItemItem.mk a1.Contact a1.Name a1.Sub (w64 (a0.Ver + (1:Int))) a1.Own)) a0.Gone)
 else
 (p_item_Listed a1).bind fun v56 =>
 (p_item_Idle (ItemItem.mk a1.Contact a1.Name a1.Sub (w64 (a0.Ver + (1:Int))) a1.Own)).bind fun v57 =>
 bif v57 then
  bif v56 then
   (delF? (fun x0=>p_roster_State_change_1 x0 (ItemItem.mk a1.Contact a1.Name a1.Sub (w64 (a0.Ver + (1:Int))) a1.Own)) a0.Gone).bind fun v60 =>
   bif (decide ((8:Int) < (v60.length:Int))) then
    (at? v60 (0:Int)).bind fun x62 =>
    (del? v60 (0:Int) (1:Int)).bind fun v64 =>
    some (RosterState.mk (w64 (a0.Ver + (1:Int))) x62.Ver a0.Items v64)
   else
   some (RosterState.mk (w64 (a0.Ver + (1:Int))) a0.Floor a0.Items v60)
  else
  bif (decide ((8:Int) < (a0.Gone.length:Int))) then
   (at? a0.Gone (0:Int)).bind fun x66 =>
   (del? a0.Gone (0:Int) (1:Int)).bind fun v68 =>
   some (RosterState.mk (w64 (a0.Ver + (1:Int))) x66.Ver a0.Items v68)
  else
  some (RosterState.mk (w64 (a0.Ver + (1:Int))) a0.Floor a0.Items a0.Gone)
 else
 (insAt? a0.Items v1.1 (ItemItem.mk a1.Contact a1.Name a1.Sub (w64 (a0.Ver + (1:Int))) a1.Own)).bind fun v69 =>
 bif v56 then
  (delF? (fun x0=>p_roster_State_change_1 x0 (ItemItem.mk a1.Contact a1.Name a1.Sub (w64 (a0.Ver + (1:Int))) a1.Own)) a0.Gone).bind fun v71 =>
  bif (decide ((8:Int) < (v71.length:Int))) then
   (at? v71 (0:Int)).bind fun x73 =>
   (del? v71 (0:Int) (1:Int)).bind fun v75 =>
   some (RosterState.mk (w64 (a0.Ver + (1:Int))) x73.Ver v69 v75)
  else
  some (RosterState.mk (w64 (a0.Ver + (1:Int))) a0.Floor v69 v71)
 else
 bif (decide ((8:Int) < (a0.Gone.length:Int))) then
  (at? a0.Gone (0:Int)).bind fun x77 =>
  (del? a0.Gone (0:Int) (1:Int)).bind fun v79 =>
  some (RosterState.mk (w64 (a0.Ver + (1:Int))) x77.Ver v69 v79)
 else
 some (RosterState.mk (w64 (a0.Ver + (1:Int))) a0.Floor v69 a0.Gone)
end Go.Proofs.Ytmmmcpeickfolaa

namespace Go.Proofs.Ytmmmcpeickfolaa
open Go.RowKit
def p_roster_State_own (a0:RosterState):Option (RosterState) :=
 (clone? a0.Items).bind fun l1 =>
 (clone? a0.Gone).bind fun l2 =>
 some (RosterState.mk a0.Ver a0.Floor l1 l2)
end Go.Proofs.Ytmmmcpeickfolaa

namespace Go.Proofs.Ytmmmcpeickfolaa
open Go.RowKit
end Go.Proofs.Ytmmmcpeickfolaa

