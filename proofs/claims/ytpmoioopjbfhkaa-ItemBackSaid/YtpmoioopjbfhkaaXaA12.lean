/- A part of the proof: 6 texts joined. -/
import Derived.Test.YtpmoioopjbfhkaaXaA11
import Derived.KernelRfl
import Derived.Test.YtpmoioopjbfhkaaXaA10
import Derived.Lib.AppendZerosOnto
import Derived.Lib.SliceRun
set_option linter.all false
/- Plain functions (written by a program of mine). -/
namespace Go.Proofs.Ytpmoioopjbfhkaa
open Go.RowKit
def p_subs_Check (a0:Int):Option (Int) :=
 bif (decide (a0 < (0:Int))) then
  some (8:Int)
 else
 bif (decide ((15:Int) < a0)) then
  some (8:Int)
 else
 bif ((andI .i64 a0 (5:Int)) == (5:Int)) then
  some (4:Int)
 else
 bif ((andI .i64 a0 (10:Int)) == (10:Int)) then
  some (4:Int)
 else
 some (0:Int)
def p_item_Check (a0:ItemItem):Option (Int) :=
 (p_addr_IsBare a0.Contact).bind fun v1 =>
 bif v1 then
  bif (decide ((24:Int) < (a0.Name.size:Int))) then
   some (5:Int)
  else
  (p_utf_Plain a0.Name).bind fun v4 =>
  bif v4 then
   (p_subs_Check a0.Sub).bind fun v6 =>
   bif (v6 != (0:Int)) then
    some v6
   else
   bif (decide (a0.Ver < (0:Int))) then
    some (8:Int)
   else
   bif (decide ((1099511627776:Int) < a0.Ver)) then
    some (8:Int)
   else
   bif (a0.Name.toList == (⟨#[]⟩ : ByteArray).toList) then
    some (0:Int)
   else
   bif a0.Own then
    some (0:Int)
   else
   some (4:Int)
  else
  some (11:Int)
 else
 some (11:Int)
def p_octet_Say (a0:ByteArray) (a1:Int):Option ((List Int) × Int) :=
 bif (decide ((if (255:Int) < a1 then (255:Int) else a1) < (a0.size:Int))) then
  some ([],(5:Int))
 else
 (app? [IntKind.wrap .u8 (a0.size:Int)] (bytesI a0)).bind fun l2 =>
 some (l2,(0:Int))
def p_octet_wide (a0:Int):Option (Bool) :=
 bif (a0 == (1:Int)) then
  some true
 else
 bif (a0 == (2:Int)) then
  some true
 else
 bif (a0 == (4:Int)) then
  some true
 else
 bif (a0 == (6:Int)) then
  some true
 else
 some false
def p_octet_Lay_l1 (a1:Int) (z15:Int) (z16:Int) (z18:Int):Nat→Int→(List Int)→Option ((Int × (List Int)))
 | 0,_,_=>none
 | n + 1,y19,y20 =>
  bif (decide (y19 < z18)) then
   (pos? (w64 ((8:Int) * y19))).bind fun x22 =>
   (arr? (Int.toNat a1) y20 (w64 (w64 (z16 - (1:Int)) - y19))).bind fun x23 =>
   p_octet_Lay_l1 a1 z15 z16 z18 n (w64 (y19 + (1:Int))) (List.set y20 (Int.toNat (w64 (w64 (z16 - (1:Int)) - y19))) (IntKind.wrap .u8 (shrI .i64 z15 (w64 ((8:Int) * y19)))))
  else
  some (y19,y20)
def p_octet_Lay (a0:Int) (a1:Int):Option ((List Int) × Int) :=
 (p_octet_wide a1).bind fun v1 =>
 bif v1 then
  bif (decide (a0 < (0:Int))) then
   some ([],(8:Int))
  else
  (pos? (w64 ((8:Int) * a1))).bind fun x4 =>
  bif ((shrI .i64 a0 (w64 ((8:Int) * a1))) != (0:Int)) then
   some ([],(8:Int))
  else
  (mk? a1 (0:Int)).bind fun l6 =>
  (p_octet_Lay_l1 a1 a0 a1 a1 fuel (0:Int) l6).bind fun q26 =>
  (lenG? (Int.toNat a1) q26.2).bind fun _ =>
  some (q26.2,(0:Int))
 else
 some ([],(2:Int))
def p_slices_Concat_byte_l1 (z9:List (List Int)) (z10:Int):Nat→Int→Int→Option ((Int × Int))
 | 0,_,_=>none
 | n + 1,y8,y11 =>
  bif (decide (y11 < z10)) then
   (at? z9 y11).bind fun x13 =>
   bif (decide (w64 (y8 + (x13.length:Int)) < (0:Int))) then
    none
   else
   p_slices_Concat_byte_l1 z9 z10 n (w64 (y8 + (x13.length:Int))) (w64 (y11 + (1:Int)))
  else
  some (y8,y11)
def p_slices_Concat_byte_l2 (z23:List (List Int)) (z24:Int):Nat→(List Int)→Int→Option (((List Int) × Int))
 | 0,_,_=>none
 | n + 1,y22,y25 =>
  bif (decide (y25 < z24)) then
   (at? z23 y25).bind fun x27 =>
   (app? y22 x27).bind fun l28 =>
   p_slices_Concat_byte_l2 z23 z24 n l28 (w64 (y25 + (1:Int)))
  else
  some (y22,y25)
def p_slices_Concat_byte (a0:List (List Int)):Option ((List Int)) :=
 (p_slices_Concat_byte_l1 a0 (a0.length:Int) fuel (0:Int) (0:Int)).bind fun q16 =>
 (grow? q16.1).bind fun _ =>
 (p_slices_Concat_byte_l2 a0 (a0.length:Int) fuel ([]:List Int) (0:Int)).bind fun q30 =>
 some q30.1
def p_item_Put (a0:ItemItem):Option (ByteArray × Int) :=
 (p_item_Check a0).bind fun v1 =>
 bif (v1 != (0:Int)) then
  some ((⟨#[]⟩ : ByteArray),v1)
 else
 bif a0.Own then
  (p_octet_Say a0.Contact (33:Int)).bind fun v4 =>
  (p_octet_Say a0.Name (24:Int)).bind fun v5 =>
  (p_octet_Lay a0.Ver (6:Int)).bind fun v6 =>
  (p_slices_Concat_byte [v4.1,v5.1,[IntKind.wrap .u8 (orI .i64 a0.Sub (16:Int))],v6.1]).bind fun v7 =>
  (text? v7).bind fun s8 =>
  some (s8,(0:Int))
 else
 (p_octet_Say a0.Contact (33:Int)).bind fun v9 =>
 (p_octet_Say a0.Name (24:Int)).bind fun v10 =>
 (p_octet_Lay a0.Ver (6:Int)).bind fun v11 =>
 (p_slices_Concat_byte [v9.1,v10.1,[IntKind.wrap .u8 a0.Sub],v11.1]).bind fun v12 =>
 (text? v12).bind fun s13 =>
 some (s13,(0:Int))
def p_octet_Open (a0:ByteArray):Option (OctetRead) :=
 some (OctetRead.mk a0 (0:Int) (0:Int))
def p_octet_Read_fault (a0:OctetRead):Option (Int) :=
 bif (a0.Bad == (0:Int)) then
  bif (decide (a0.At < (0:Int))) then
   some (2:Int)
  else
  bif (decide ((a0.S.size:Int) < a0.At)) then
   some (2:Int)
  else
  some a0.Bad
 else
 some a0.Bad
def p_octet_Read_fail (a0:OctetRead) (a1:Int):Option (OctetRead) :=
 some (OctetRead.mk a0.S a0.At a1)
def p_octet_Left (a0:OctetRead):Option (Int) :=
 (p_octet_Read_fault a0).bind fun v1 =>
 bif (v1 != (0:Int)) then
  some (0:Int)
 else
 some (w64 ((a0.S.size:Int) - a0.At))
def p_octet_Num_l1 (z20:List Int) (z21:Int):Nat→Int→Int→Option ((Int × Int))
 | 0,_,_=>none
 | n + 1,y19,y22 =>
  bif (decide (y22 < z21)) then
   (at? z20 y22).bind fun x26 =>
   p_octet_Num_l1 z20 z21 n (orI .i64 (shlI .i64 y19 (8:Int)) (w64 x26)) (w64 (y22 + (1:Int)))
  else
  some (y19,y22)
def p_octet_Num (a0:OctetRead) (a1:Int):Option (OctetRead × Int) :=
 (p_octet_Read_fault a0).bind fun v1 =>
 bif (v1 != (0:Int)) then
  (p_octet_Read_fail a0 v1).bind fun v3 =>
  some (v3,(0:Int))
 else
 (p_octet_wide a1).bind fun v4 =>
 bif v4 then
  (p_octet_Left a0).bind fun v6 =>
  bif (decide (v6 < a1)) then
   (p_octet_Read_fail a0 (3:Int)).bind fun v8 =>
   some (v8,(0:Int))
  else
  (sub? a0.S (some a0.At) (some (w64 (a0.At + a1)))).bind fun s9 =>
  (p_octet_Num_l1 (bytesI s9) ((bytesI s9).length:Int) fuel (0:Int) (0:Int)).bind fun q28 =>
  some ((OctetRead.mk a0.S (w64 (a0.At + a1)) a0.Bad),q28.1)
 else
 (p_octet_Read_fail a0 (2:Int)).bind fun v29 =>
 some (v29,(0:Int))
def p_octet_Text (a0:OctetRead) (a1:Int):Option (OctetRead × ByteArray) :=
 (p_octet_Num a0 (1:Int)).bind fun v1 =>
 bif (v1.1.Bad != (0:Int)) then
  some (v1.1,(⟨#[]⟩ : ByteArray))
 else
 bif (decide (a1 < v1.2)) then
  (p_octet_Read_fail a0 (5:Int)).bind fun v4 =>
  some (v4,(⟨#[]⟩ : ByteArray))
 else
 (p_octet_Left v1.1).bind fun v5 =>
 bif (decide (v5 < v1.2)) then
  (p_octet_Read_fail a0 (3:Int)).bind fun v7 =>
  some (v7,(⟨#[]⟩ : ByteArray))
 else
 (sub? a0.S (some v1.1.At) (some (w64 (v1.1.At + v1.2)))).bind fun s8 =>
 some ((OctetRead.mk v1.1.S (w64 (v1.1.At + v1.2)) v1.1.Bad),s8)
def p_octet_Done (a0:OctetRead):Option (Int) :=
 (p_octet_Read_fault a0).bind fun v1 =>
 bif (v1 != (0:Int)) then
  some v1
 else
 bif (decide (a0.At < (a0.S.size:Int))) then
  some (4:Int)
 else
 some (0:Int)
def p_item_Get (a0:ByteArray):Option (ItemItem × Int) :=
 (p_octet_Open a0).bind fun v1 =>
 (p_octet_Text v1 (33:Int)).bind fun v2 =>
 (p_octet_Text v2.1 (24:Int)).bind fun v3 =>
 (p_octet_Num v3.1 (1:Int)).bind fun v4 =>
 (p_octet_Num v4.1 (6:Int)).bind fun v5 =>
 (p_octet_Done v5.1).bind fun v6 =>
 bif (v6 != (0:Int)) then
  some ((ItemItem.mk (⟨#[]⟩ : ByteArray) (⟨#[]⟩ : ByteArray) (0:Int) (0:Int) false),v6)
 else
 bif (decide ((31:Int) < v4.2)) then
  some ((ItemItem.mk (⟨#[]⟩ : ByteArray) (⟨#[]⟩ : ByteArray) (0:Int) (0:Int) false),(4:Int))
 else
 (p_item_Check (ItemItem.mk v2.2 v3.2 (andNotI .i64 v4.2 (16:Int)) v5.2 ((andI .i64 v4.2 (16:Int)) != (0:Int)))).bind fun v9 =>
 bif (v9 != (0:Int)) then
  some ((ItemItem.mk (⟨#[]⟩ : ByteArray) (⟨#[]⟩ : ByteArray) (0:Int) (0:Int) false),v9)
 else
 some ((ItemItem.mk v2.2 v3.2 (andNotI .i64 v4.2 (16:Int)) v5.2 ((andI .i64 v4.2 (16:Int)) != (0:Int))),(0:Int))
def p_slices_insertionSortCmpFunc_item_Item__l2 (a0:List ItemItem) (a3:ItemItem→ItemItem→Option Int) (z19:Int):Nat→Int→(List ItemItem)→Option ((Int × (List ItemItem)))
 | 0,_,_=>none
 | n + 1,y22,y23 =>
  bif (decide (z19 < y22)) then
   (arr? (List.length a0) y23 y22).bind fun x25 =>
   (arr? (List.length a0) y23 (w64 (y22 - (1:Int)))).bind fun x27 =>
   (a3 x25 x27).bind fun v29 =>
   bif (decide (v29 < (0:Int))) then
    (arr? (List.length a0) y23 (w64 (y22 - (1:Int)))).bind fun x31 =>
    (arr? (List.length a0) y23 y22).bind fun x33 =>
    (arr? (List.length a0) y23 y22).bind fun x35 =>
    (arr? (List.length a0) (List.set y23 (Int.toNat y22) x31) (w64 (y22 - (1:Int)))).bind fun x37 =>
    p_slices_insertionSortCmpFunc_item_Item__l2 a0 a3 z19 n (w64 (y22 - (1:Int))) (List.set (List.set y23 (Int.toNat y22) x31) (Int.toNat (w64 (y22 - (1:Int)))) x33)
   else
   some (y22,y23)
  else
  some (y22,y23)
def p_slices_insertionSortCmpFunc_item_Item__l1 (a0:List ItemItem) (a3:ItemItem→ItemItem→Option Int) (z7:Int) (z8:Int):Nat→Int→(List ItemItem)→Option ((Int × (List ItemItem)))
 | 0,_,_=>none
 | n + 1,y9,y10 =>
  bif (decide (y9 < z8)) then
   (p_slices_insertionSortCmpFunc_item_Item__l2 a0 a3 z7 fuel y9 y10).bind fun q40 =>
   p_slices_insertionSortCmpFunc_item_Item__l1 a0 a3 z7 z8 n (w64 (y9 + (1:Int))) q40.2
  else
  some (y9,y10)
def p_slices_insertionSortCmpFunc_item_Item_ (a0:List ItemItem) (a1:Int) (a2:Int) (a3:ItemItem→ItemItem→Option Int):Option (List ItemItem) :=
 (p_slices_insertionSortCmpFunc_item_Item__l1 a0 a3 a1 a2 fuel (w64 (a1 + (1:Int))) a0).bind fun q42 =>
 some q42.2
def p_slices_stableCmpFunc_item_Item__l1 (a0:List ItemItem) (a2:ItemItem→ItemItem→Option Int) (z8:Int):Nat→Int→Int→(List ItemItem)→Option ((Int × Int × (List ItemItem)))
 | 0,_,_,_=>none
 | n + 1,y9,y10,y11 =>
  bif (decide (y10≤z8)) then
   (inG? (List.length a0) y11 (p_slices_insertionSortCmpFunc_item_Item_ y11 y9 y10 a2)).bind fun l14 =>
   p_slices_stableCmpFunc_item_Item__l1 a0 a2 z8 n y10 (w64 (y10 + (20:Int))) l14
  else
  some (y9,y10,y11)
def p_slices_stableCmpFunc_item_Item__l3 (z35:Int) (z37:Int):Nat→Option (Unit)
 | 0=>none
 | n + 1 =>
  bif (decide (z37≤z35)) then
   none
  else
  some ()
def p_slices_stableCmpFunc_item_Item__l2 (z24:Int):Nat→Int→Option (Int)
 | 0,_=>none
 | n + 1,y25 =>
  bif (decide (y25 < z24)) then
   (p_slices_stableCmpFunc_item_Item__l3 z24 (w64 ((2:Int) * y25)) fuel).bind fun q41 =>
   bif (decide (w64 ((0:Int) + y25) < z24)) then
    none
   else
   p_slices_stableCmpFunc_item_Item__l2 z24 n (w64 (y25 * (2:Int)))
  else
  some y25
def p_slices_stableCmpFunc_item_Item_ (a0:List ItemItem) (a1:Int) (a2:ItemItem→ItemItem→Option Int):Option (List ItemItem) :=
 (p_slices_stableCmpFunc_item_Item__l1 a0 a2 a1 fuel (0:Int) (20:Int) a0).bind fun q16 =>
 (inG? (List.length a0) q16.2.2 (p_slices_insertionSortCmpFunc_item_Item_ q16.2.2 q16.1 a1 a2)).bind fun l18 =>
 (p_slices_stableCmpFunc_item_Item__l2 a1 fuel (20:Int)).bind fun q44 =>
 some l18
def p_slices_SortStableFunc_item_Item (a0:List ItemItem) (a1:ItemItem→ItemItem→Option Int):Option (List ItemItem) :=
 (inG? (List.length a0) a0 (p_slices_stableCmpFunc_item_Item_ a0 ((List.length a0):Int) a1)).bind fun l2 =>
 some l2
def p_cmp_isNaN_int_ (a0:Int):Option (Bool) :=
 some (a0 != a0)
def p_cmp_Compare_int_ (a0:Int) (a1:Int):Option (Int) :=
 (p_cmp_isNaN_int_ a0).bind fun v1 =>
 (p_cmp_isNaN_int_ a1).bind fun v2 =>
 bif v1 then
  bif v2 then
   some (0:Int)
  else
  some (-1:Int)
 else
 bif v2 then
  some (1:Int)
 else
 bif (decide (a0 < a1)) then
  some (-1:Int)
 else
 bif (decide (a1 < a0)) then
  some (1:Int)
 else
 some (0:Int)
def p_cmp_Or_int__l1 (z6:List Int) (z7:Int):Nat→Int→Option (Int ⊕ Int)
 | 0,_=>none
 | n + 1,y8 =>
  bif (decide (y8 < z7)) then
   (at? z6 y8).bind fun x10 =>
   bif (x10 != (0:Int)) then
    some (.inl x10)
   else
   p_cmp_Or_int__l1 z6 z7 n (w64 (y8 + (1:Int)))
  else
  some (.inr y8)
def p_cmp_Or_int_ (a0:List Int):Option (Int) :=
 (p_cmp_Or_int__l1 a0 (a0.length:Int) fuel (0:Int)).bind fun o12=>match o12 with
 | .inl q13 =>
  some q13
 | .inr q14 =>
  some (0:Int)
def p_item_Item_order (a0:ItemItem) (a1:ItemItem):Option (Int) :=
 (p_strings_Compare a0.Contact a1.Contact).bind fun v1 =>
 (p_cmp_Compare_int_ a0.Ver a1.Ver).bind fun v2 =>
 (p_cmp_Or_int_ [v1,v2]).bind fun v3 =>
 some v3
def p_item_Sort (a0:List ItemItem):Option ((List ItemItem)) :=
 (clone? a0).bind fun l1 =>
 (inG? (List.length l1) l1 (p_slices_SortStableFunc_item_Item l1 (fun x0 x1=>p_item_Item_order x0 x1))).bind fun l3 =>
 some l3
def p_item_Item_has (a0:ItemItem) (a1:Int):Option (Bool) :=
 (p_subs_Check a0.Sub).bind fun v1 =>
 bif (v1 == (0:Int)) then
  some ((andI .i64 a0.Sub a1) != (0:Int))
 else
 some false
def p_item_Listed (a0:ItemItem):Option (Bool) :=
 bif a0.Own then
  some true
 else
 (p_item_Item_has a0 (7:Int)).bind fun v2 =>
 some v2
def p_item_Idle (a0:ItemItem):Option (Bool) :=
 bif (a0.Sub == (0:Int)) then
  some (!a0.Own)
 else
 some false
def p_item_Sees (a0:ItemItem):Option (Bool) :=
 (p_item_Item_has a0 (1:Int)).bind fun v1 =>
 some v1
def p_item_Seen (a0:ItemItem):Option (Bool) :=
 (p_item_Item_has a0 (2:Int)).bind fun v1 =>
 some v1
def p_item_Push (a0:ItemItem):Option (StanzaStanza) :=
 (p_item_Check a0).bind fun v1 =>
 bif (v1 != (0:Int)) then
  some (StanzaStanza.mk (0:Int) (⟨#[]⟩ : ByteArray) (⟨#[]⟩ : ByteArray) (⟨#[]⟩ : ByteArray) (0:Int) (0:Int) (0:Int) (0:Int))
 else
 (p_item_Listed a0).bind fun v3 =>
 bif v3 then
  some (StanzaStanza.mk (38:Int) a0.Contact (⟨#[]⟩ : ByteArray) a0.Name (andNotI .i64 a0.Sub (8:Int)) (0:Int) (0:Int) a0.Ver)
 else
 some (StanzaStanza.mk (39:Int) a0.Contact (⟨#[]⟩ : ByteArray) (⟨#[]⟩ : ByteArray) (0:Int) (0:Int) (0:Int) a0.Ver)
def p_item_Less (a0:ItemItem) (a1:ItemItem):Option (Bool) :=
 (p_item_Item_order a0 a1).bind fun v1 =>
 some (decide (v1 < (0:Int)))
def p_law20_awake:Option (Bool) :=
 (p_item_Put (ItemItem.mk (⟨#[97,64,98]⟩ : ByteArray) (⟨#[65,110,110]⟩ : ByteArray) (1:Int) (3:Int) true)).bind fun v1 =>
 (p_item_Get v1.1).bind fun v2 =>
 (cat? v1.1 (⟨#[120]⟩ : ByteArray)).bind fun s3 =>
 (p_item_Get s3).bind fun v4 =>
 (p_item_Put (ItemItem.mk (⟨#[97,64,98]⟩ : ByteArray) (⟨#[120]⟩ : ByteArray) (0:Int) (0:Int) false)).bind fun v5 =>
 (p_item_Sort [(ItemItem.mk (⟨#[99,64,100]⟩ : ByteArray) (⟨#[]⟩ : ByteArray) (8:Int) (0:Int) false),(ItemItem.mk (⟨#[97,64,98]⟩ : ByteArray) (⟨#[65,110,110]⟩ : ByteArray) (1:Int) (3:Int) true),(ItemItem.mk (⟨#[97,64,98]⟩ : ByteArray) (⟨#[]⟩ : ByteArray) (0:Int) (1:Int) false)]).bind fun v6 =>
 bif (v1.1.toList == (⟨#[3,97,64,98,3,65,110,110,17,0,0,0,0,0,3]⟩ : ByteArray).toList) then
  bif (v1.2 == (0:Int)) then
   bif ((v2.1.Contact.toList == (⟨#[97,64,98]⟩ : ByteArray).toList) && ((v2.1.Name.toList == (⟨#[65,110,110]⟩ : ByteArray).toList) && ((v2.1.Sub == (1:Int)) && ((v2.1.Ver == (3:Int)) && ((v2.1.Own == true) && true))))) then
    bif (v2.2 == (0:Int)) then
     bif (v4.2 == (4:Int)) then
      bif (v5.2 == (4:Int)) then
       (p_item_Listed (ItemItem.mk (⟨#[97,64,98]⟩ : ByteArray) (⟨#[65,110,110]⟩ : ByteArray) (1:Int) (3:Int) true)).bind fun v13 =>
       bif v13 then
        (p_item_Listed (ItemItem.mk (⟨#[99,64,100]⟩ : ByteArray) (⟨#[]⟩ : ByteArray) (8:Int) (0:Int) false)).bind fun v15 =>
        bif v15 then
         some false
        else
        (p_item_Idle (ItemItem.mk (⟨#[99,64,100]⟩ : ByteArray) (⟨#[]⟩ : ByteArray) (8:Int) (0:Int) false)).bind fun v17 =>
        bif v17 then
         some false
        else
        (p_item_Idle (ItemItem.mk (⟨#[99,64,100]⟩ : ByteArray) (⟨#[]⟩ : ByteArray) (0:Int) (0:Int) false)).bind fun v19 =>
        bif v19 then
         (p_item_Sees (ItemItem.mk (⟨#[97,64,98]⟩ : ByteArray) (⟨#[65,110,110]⟩ : ByteArray) (1:Int) (3:Int) true)).bind fun v21 =>
         bif v21 then
          (p_item_Seen (ItemItem.mk (⟨#[97,64,98]⟩ : ByteArray) (⟨#[65,110,110]⟩ : ByteArray) (1:Int) (3:Int) true)).bind fun v23 =>
          bif v23 then
           some false
          else
          (p_item_Push (ItemItem.mk (⟨#[97,64,98]⟩ : ByteArray) (⟨#[65,110,110]⟩ : ByteArray) (1:Int) (3:Int) true)).bind fun v25 =>
          bif ((v25.Kind == (38:Int)) && ((v25.User.toList == (⟨#[97,64,98]⟩ : ByteArray).toList) && ((v25.Res.toList == (⟨#[]⟩ : ByteArray).toList) && ((v25.Name.toList == (⟨#[65,110,110]⟩ : ByteArray).toList) && ((v25.Show == (1:Int)) && ((v25.Prio == (0:Int)) && ((v25.Code == (0:Int)) && ((v25.N == (3:Int)) && true)))))))) then
           (p_item_Push (ItemItem.mk (⟨#[99,64,100]⟩ : ByteArray) (⟨#[]⟩ : ByteArray) (8:Int) (0:Int) false)).bind fun v27 =>
           bif ((v27.Kind == (39:Int)) && ((v27.User.toList == (⟨#[99,64,100]⟩ : ByteArray).toList) && ((v27.Res.toList == (⟨#[]⟩ : ByteArray).toList) && ((v27.Name.toList == (⟨#[]⟩ : ByteArray).toList) && ((v27.Show == (0:Int)) && ((v27.Prio == (0:Int)) && ((v27.Code == (0:Int)) && ((v27.N == (0:Int)) && true)))))))) then
            bif ((v6.length:Int) == (3:Int)) then
             (at? v6 (0:Int)).bind fun x30 =>
             bif (x30.Ver == (1:Int)) then
              (at? v6 (1:Int)).bind fun x32 =>
              bif ((x32.Contact.toList == (⟨#[97,64,98]⟩ : ByteArray).toList) && ((x32.Name.toList == (⟨#[65,110,110]⟩ : ByteArray).toList) && ((x32.Sub == (1:Int)) && ((x32.Ver == (3:Int)) && ((x32.Own == true) && true))))) then
               (p_item_Less (ItemItem.mk (⟨#[97,64,98]⟩ : ByteArray) (⟨#[65,110,110]⟩ : ByteArray) (1:Int) (3:Int) true) (ItemItem.mk (⟨#[99,64,100]⟩ : ByteArray) (⟨#[]⟩ : ByteArray) (8:Int) (0:Int) false)).bind fun v34 =>
               bif v34 then
                (p_item_Check (ItemItem.mk (⟨#[97,64,98]⟩ : ByteArray) (⟨#[65,110,110]⟩ : ByteArray) (1:Int) (3:Int) true)).bind fun v36 =>
                bif (v36 == (0:Int)) then
                 (p_item_Check (ItemItem.mk (⟨#[]⟩ : ByteArray) (⟨#[]⟩ : ByteArray) (0:Int) (0:Int) false)).bind fun v38 =>
                 bif (v38 == (11:Int)) then
                  some true
                 else
                 some false
                else
                some false
               else
               some false
              else
              some false
             else
             some false
            else
            some false
           else
           some false
          else
          some false
         else
         some false
        else
        some false
       else
       some false
      else
      some false
     else
     some false
    else
    some false
   else
   some false
  else
  some false
 else
 some false
def p_ref20_Light (a0:ItemItem):Option (Bool) :=
 bif (decide ((a0.Contact.size:Int)≤(100:Int))) then
  some (decide ((a0.Name.size:Int)≤(100:Int)))
 else
 some false
def p_law20_Own_l1 (z5:List ItemItem):Nat→(List ItemItem)→Int→Option (((List ItemItem) × Int))
 | 0,_,_=>none
 | n + 1,y6,y7 =>
  bif (decide (y7 < (z5.length:Int))) then
   (at? z5 y7).bind fun x9 =>
   (app? y6 [x9]).bind fun l10 =>
   p_law20_Own_l1 z5 n l10 (w64 (y7 + (1:Int)))
  else
  some (y6,y7)
def p_law20_Own (a0:List ItemItem):Option ((List ItemItem)) :=
 (p_law20_Own_l1 a0 fuel [] (0:Int)).bind fun q12 =>
 some q12.1
def p_law20_Back_l1 (z5:List ItemItem):Nat→(List ItemItem)→Int→Option (((List ItemItem) × Int))
 | 0,_,_=>none
 | n + 1,y6,y7 =>
  bif (decide (y7 < (z5.length:Int))) then
   (at? z5 y7).bind fun x9 =>
   (app? y6 [x9]).bind fun l10 =>
   p_law20_Back_l1 z5 n l10 (w64 (y7 + (1:Int)))
  else
  some (y6,y7)
def p_law20_Back (a0:List ItemItem):Option ((List ItemItem)) :=
 (p_law20_Back_l1 a0 fuel [] (0:Int)).bind fun q12 =>
 some q12.1
def p_ref20_SameItems_l1 (z6:List ItemItem) (z7:List ItemItem):Nat→Int→Option (Bool ⊕ Int)
 | 0,_=>none
 | n + 1,y8 =>
  bif (decide (y8 < (z6.length:Int))) then
   (at? z6 y8).bind fun x10 =>
   (at? z7 y8).bind fun x11 =>
   bif ((x10.Contact.toList == x11.Contact.toList) && ((x10.Name.toList == x11.Name.toList) && ((x10.Sub == x11.Sub) && ((x10.Ver == x11.Ver) && ((x10.Own == x11.Own) && true))))) then
    p_ref20_SameItems_l1 z6 z7 n (w64 (y8 + (1:Int)))
   else
   some (.inl false)
  else
  some (.inr y8)
def p_ref20_SameItems (a0:List ItemItem) (a1:List ItemItem):Option (Bool) :=
 bif ((a0.length:Int) != (a1.length:Int)) then
  some false
 else
 (p_ref20_SameItems_l1 a0 a1 fuel (0:Int)).bind fun o13=>match o13 with
 | .inl q14 =>
  some q14
 | .inr q15 =>
  some true
def p_law20_ItemSorts_l1 (z6:List ItemItem):Nat→Int→Option (Bool ⊕ Int)
 | 0,_=>none
 | n + 1,y7 =>
  bif (decide (y7 < (z6.length:Int))) then
   (at? z6 y7).bind fun x9 =>
   (p_ref20_Light x9).bind fun v10 =>
   bif v10 then
    p_law20_ItemSorts_l1 z6 n (w64 (y7 + (1:Int)))
   else
   (p_law20_awake).bind fun v12 =>
   some (.inl v12)
  else
  some (.inr y7)
def p_law20_ItemSorts_l3 (z63:List ItemItem) (z64:List ItemItem) (z65:Int):Nat→Int→Int→Int→Option ((Int × Int × Int))
 | 0,_,_,_=>none
 | n + 1,y66,y67,y68 =>
  bif (decide (y68 < (z64.length:Int))) then
   (at? z64 y68).bind fun x70 =>
   (at? z64 z65).bind fun x71 =>
   bif ((x70.Contact.toList == x71.Contact.toList) && ((x70.Name.toList == x71.Name.toList) && ((x70.Sub == x71.Sub) && ((x70.Ver == x71.Ver) && ((x70.Own == x71.Own) && true))))) then
    (at? z63 y68).bind fun x73 =>
    (at? z64 z65).bind fun x74 =>
    bif ((x73.Contact.toList == x74.Contact.toList) && ((x73.Name.toList == x74.Name.toList) && ((x73.Sub == x74.Sub) && ((x73.Ver == x74.Ver) && ((x73.Own == x74.Own) && true))))) then
     p_law20_ItemSorts_l3 z63 z64 z65 n (w64 (y66 + (1:Int))) (w64 (y67 + (1:Int))) (w64 (y68 + (1:Int)))
    else
    p_law20_ItemSorts_l3 z63 z64 z65 n (w64 (y66 + (1:Int))) y67 (w64 (y68 + (1:Int)))
   else
   (at? z63 y68).bind fun x76 =>
   (at? z64 z65).bind fun x77 =>
   bif ((x76.Contact.toList == x77.Contact.toList) && ((x76.Name.toList == x77.Name.toList) && ((x76.Sub == x77.Sub) && ((x76.Ver == x77.Ver) && ((x76.Own == x77.Own) && true))))) then
    p_law20_ItemSorts_l3 z63 z64 z65 n y66 (w64 (y67 + (1:Int))) (w64 (y68 + (1:Int)))
   else
   p_law20_ItemSorts_l3 z63 z64 z65 n y66 y67 (w64 (y68 + (1:Int)))
  else
  some (y66,y67,y68)
def p_law20_ItemSorts_l2 (z28:List ItemItem) (z29:List ItemItem):Nat→Int→Option (Bool ⊕ Int)
 | 0,_=>none
 | n + 1,y30 =>
  bif (decide (y30 < (z29.length:Int))) then
   bif (decide ((0:Int) < y30)) then
    (at? z29 y30).bind fun x33 =>
    (at? z29 (w64 (y30 - (1:Int)))).bind fun x34 =>
    (p_item_Less x33 x34).bind fun v35 =>
    bif v35 then
     some (.inl false)
    else
    (p_law20_ItemSorts_l3 z28 z29 y30 fuel (0:Int) (0:Int) (0:Int)).bind fun q61 =>
    bif (q61.1 != q61.2.1) then
     some (.inl false)
    else
    p_law20_ItemSorts_l2 z28 z29 n (w64 (y30 + (1:Int)))
   else
   (p_law20_ItemSorts_l3 z28 z29 y30 fuel (0:Int) (0:Int) (0:Int)).bind fun q80 =>
   bif (q80.1 != q80.2.1) then
    some (.inl false)
   else
   p_law20_ItemSorts_l2 z28 z29 n (w64 (y30 + (1:Int)))
  else
  some (.inr y30)
def p_law20_ItemSorts (a0:List ItemItem):Option (Bool) :=
 bif (decide ((20:Int) < (a0.length:Int))) then
  (p_law20_awake).bind fun v2 =>
  some v2
 else
 (p_law20_ItemSorts_l1 a0 fuel (0:Int)).bind fun o13=>match o13 with
 | .inl q14 =>
  some q14
 | .inr q15 =>
  (p_law20_Own a0).bind fun v16 =>
  (p_item_Sort v16).bind fun v17 =>
  bif ((v17.length:Int) != (a0.length:Int)) then
   some false
  else
  (p_item_Sort v17).bind fun v19 =>
  (p_law20_Back v19).bind fun v20 =>
  (p_law20_Back v17).bind fun v21 =>
  (p_ref20_SameItems v20 v21).bind fun v22 =>
  bif v22 then
   (p_law20_ItemSorts_l2 a0 v17 fuel (0:Int)).bind fun o82=>match o82 with
   | .inl q83 =>
    some q83
   | .inr q84 =>
    (p_law20_awake).bind fun v85 =>
    some v85
  else
  some false
end Go.Proofs.Ytpmoioopjbfhkaa

/- Plain laws of no program: what loops and questions come to. -/
namespace Go.Proofs.Ytpmoioopjbfhkaa
open Go.RowKit
theorem at_nat {α:Type} (l:List α) (k:Nat):at? l (k:Int)=l[k]?:=by
 unfold at?;rw [if_pos (Int.natCast_nonneg k)];rfl
theorem at_lt {α:Type} {l:List α} {k:Nat} (h:k < l.length):at? l (k:Int)=some l[k]:=by rw [at_nat,List.getElem?_eq_getElem h]
theorem w64_id {r:Int} (h:-9223372036854775808≤r∧r≤9223372036854775807):w64 r=r:=wrap_ok h
theorem w64_succ {k:Nat} (h:k≤1000000):w64 ((k:Int) + 1)=((k + 1:Nat):Int):=by rw [w64_id (by omega)];rfl
theorem lt_tt {a b:Nat} (h:a < b):decide ((a:Int) < (b:Int))=true:=by simpa using h
theorem lt_ff {a b:Nat} (h:b≤a):decide ((a:Int) < (b:Int))=false:=by simpa using h
theorem drop_at {α:Type} {l:List α} {k:Nat} (h:k < l.length):l.drop k=l[k] :: l.drop (k + 1):=List.drop_eq_getElem_cons h
theorem fuel_pos:(1000000:Nat) < fuel:=by decide
theorem fdivN (m p:Nat):(m:Int).fdiv (2 ^ p)=((m / 2 ^ p:Nat):Int):=by
 rw [show ((2:Int) ^ p)=((2 ^ p:Nat):Int) by simp,Int.fdiv_eq_ediv_of_nonneg _ (Int.natCast_nonneg _)];rfl
theorem app_ok {α:Type} {a b:List α} (h:a.length + b.length≤1000000):app? a b=some (a++b):=if_pos h
theorem tl_data (s:ByteArray):s.toList=s.data.toList:=by rw [ByteArray.toList_eq]
def eqT (a b:ByteArray):Bool:=a.toList == b.toList
theorem eqT_refl (a:ByteArray):(a.toList == a.toList)=true:=by simp
theorem eqT_iff {a b:ByteArray}:(a.toList == b.toList)=true ↔ a=b:=by
 rw [beq_iff_eq,tl_data,tl_data]
 exact ⟨fun h=>by cases a;cases b;congr 1;exact Array.ext' h,fun h=>by rw [h]⟩
theorem cmp_eq0:∀ {a b:List UInt8},Lib.compareBytes a b=0→a=b
 | [],[],_=>rfl
 | [],_ :: _,h=>by simp [Lib.compareBytes] at h
 | _ :: _,[],h=>by simp [Lib.compareBytes] at h
 | a :: xs,b :: ys,h=>by
  unfold Lib.compareBytes at h
  split at h
  ·omega
  ·split at h
   ·omega
   ·rename_i h1 h2
    have e:a=b:=by
     apply UInt8.toNat_inj.1
     rw [UInt8.lt_iff_toNat_lt] at h1 h2;omega
    rw [e,cmp_eq0 h]
theorem cmp_anti:∀ (a b:List UInt8),Lib.compareBytes b a=- Lib.compareBytes a b
 | [],[]=>by simp [Lib.compareBytes]
 | [],_ :: _=>by simp [Lib.compareBytes]
 | _ :: _,[]=>by simp [Lib.compareBytes]
 | a :: xs,b :: ys=>by
  unfold Lib.compareBytes
  rw [cmp_anti xs ys]
  by_cases h:a < b
  ·have h2:¬ b < a:=by rw [UInt8.lt_iff_toNat_lt] at h ⊢;omega
   simp [h,h2]
  ·by_cases h2:b < a
   ·simp [h,h2]
   ·simp [h,h2]
theorem cmp_trans:∀ {a b c:List UInt8},Lib.compareBytes a b < 0→Lib.compareBytes b c < 0→Lib.compareBytes a c < 0
 | [],[],_,h,_=>by simp [Lib.compareBytes] at h
 | _ :: _,[],_,h,_=>by simp [Lib.compareBytes] at h
 | _,_ :: _,[],_,h=>by simp [Lib.compareBytes] at h
 | [],_ :: _,_ :: _,_,_=>by simp [Lib.compareBytes]
 | a :: xs,b :: ys,c :: cs,h1,h2=>by
  unfold Lib.compareBytes at h1 h2 ⊢
  by_cases x:a < b
  ·by_cases y:b < c
   ·rw [if_pos (UInt8.lt_trans x y)];omega
   ·rw [if_neg y] at h2
    by_cases z:c < b
    ·rw [if_pos z] at h2;omega
    ·have e:b=c:=by
      apply UInt8.toNat_inj.1
      rw [UInt8.lt_iff_toNat_lt] at y z;omega
     subst e
     rw [if_pos x];omega
  ·rw [if_neg x] at h1
   by_cases x2:b < a
   ·rw [if_pos x2] at h1;omega
   ·rw [if_neg x2] at h1
    have e:a=b:=by
     apply UInt8.toNat_inj.1
     rw [UInt8.lt_iff_toNat_lt] at x x2;omega
    subst e
    by_cases y:a < c
    ·rw [if_pos y];omega
    ·rw [if_neg y] at h2 ⊢
     by_cases z:c < a
     ·rw [if_pos z] at h2;omega
     ·rw [if_neg z] at h2 ⊢
      exact cmp_trans h1 h2
end Go.Proofs.Ytpmoioopjbfhkaa

/- Items in plain words: subscriptions, whether an item may be, what is listed, the order. -/
namespace Go.Proofs.Ytpmoioopjbfhkaa
open Go.RowKit
theorem some_bif {α:Type} (b:Bool) (x y:α):(bif b then some x else some y)=some (bif b then x else y):=by cases b <;> rfl
def subC (s:Int):Int:=if s < 0∨15 < s then 8 else if s=5∨s=7∨s=13∨s=15∨s=10∨s=11∨s=14 then 4 else 0
theorem sub16 {s:Int} (h:¬ (s < 0∨15 < s)):s=0∨s=1∨s=2∨s=3∨s=4∨s=5∨s=6∨s=7∨s=8∨s=9∨s=10∨s=11∨s=12∨s=13∨s=14∨s=15:=by omega
theorem subs_p (s:Int):p_subs_Check s=some (subC s):=by
 by_cases h:s < 0∨15 < s
 ·unfold p_subs_Check subC
  rw [if_pos h]
  by_cases h1:s < 0
  ·rw [show decide (s < 0)=true by simpa using h1];rfl
  ·rw [show decide (s < 0)=false by simpa using h1,show decide (15 < s)=true by simp;omega];rfl
 ·rcases sub16 h with rfl | rfl | rfl | rfl | rfl | rfl | rfl | rfl | rfl | rfl | rfl | rfl | rfl | rfl | rfl | rfl <;> kernel_rfl
theorem subC_in {s:Int} (h:subC s=0):¬ (s < 0∨15 < s):=fun g=>by unfold subC at h;rw [if_pos g] at h;omega
def hasB (s p:Int):Bool:=bif subC s == 0 then andI .i64 s p != 0 else false
theorem has_p (x:ItemItem) (p:Int):p_item_Item_has x p=some (hasB x.Sub p):=by
 unfold p_item_Item_has hasB
 rw [subs_p]
 simp only [Option.bind_some,some_bif]
def listedI (x:ItemItem):Bool:=x.Own || hasB x.Sub 7
theorem listed_p (x:ItemItem):p_item_Listed x=some (listedI x):=by
 unfold p_item_Listed listedI
 rw [has_p]
 cases x.Own <;> rfl
def idleI (x:ItemItem):Bool:=x.Sub == 0 && !x.Own
theorem idle_p (x:ItemItem):p_item_Idle x=some (idleI x):=by
 unfold p_item_Idle idleI
 cases x.Sub == 0 <;> rfl
def chkI (x:ItemItem):Int :=
 bif isBareL x.Contact.data.toList then bif decide ((24:Int) < (x.Name.size:Int)) then 5 else bif plainL x.Name.data.toList then bif subC x.Sub != 0 then subC x.Sub else bif decide (x.Ver < 0) then 8 else bif decide ((1099511627776:Int) < x.Ver) then 8 else bif x.Name.toList == (⟨#[]⟩ : ByteArray).toList then 0 else bif x.Own then 0 else 4 else 11 else 11
theorem check_p {x:ItemItem} (h:x.Contact.size≤100000) (hn:x.Name.size≤100000):p_item_Check x=some (chkI x):=by
 unfold p_item_Check p_addr_IsBare p_utf_Plain chkI
 rw [if_pos h,if_pos hn,subs_p]
 simp only [Option.bind_some,some_bif]
structure FineI (x:ItemItem):Prop where
 bare:isBareL x.Contact.data.toList=true
 name:x.Name.size≤24
 plain:plainL x.Name.data.toList=true
 sub:subC x.Sub=0
 ver:0≤x.Ver∧x.Ver≤1099511627776
 own:x.Own=true∨x.Name=⟨#[]⟩
theorem fine_of {x:ItemItem} (h:chkI x=0):FineI x:=by
 unfold chkI at h
 by_cases h1:isBareL x.Contact.data.toList=true
 case neg=>rw [Bool.not_eq_true] at h1;rw [h1,cond_false] at h;omega
 rw [h1,cond_true] at h
 by_cases h2:decide ((24:Int) < (x.Name.size:Int))=true
 ·rw [h2,cond_true] at h;omega
 rw [Bool.not_eq_true] at h2
 rw [h2,cond_false] at h
 by_cases h3:plainL x.Name.data.toList=true
 case neg=>rw [Bool.not_eq_true] at h3;rw [h3,cond_false] at h;omega
 rw [h3,cond_true] at h
 by_cases h4:(subC x.Sub != 0)=true
 ·rw [h4,cond_true] at h;rw [h] at h4;cases h4
 rw [Bool.not_eq_true] at h4
 rw [h4,cond_false] at h
 by_cases h5:decide (x.Ver < 0)=true
 ·rw [h5,cond_true] at h;omega
 rw [Bool.not_eq_true] at h5
 rw [h5,cond_false] at h
 by_cases h6:decide ((1099511627776:Int) < x.Ver)=true
 ·rw [h6,cond_true] at h;omega
 rw [Bool.not_eq_true] at h6
 rw [h6,cond_false] at h
 simp at h2 h4 h5 h6
 refine ⟨h1,by omega,h3,h4,⟨h5,h6⟩,?_⟩
 by_cases h7:(x.Name.toList == (⟨#[]⟩ : ByteArray).toList)=true
 ·exact .inr (eqT_iff.1 h7)
 ·rw [Bool.not_eq_true] at h7
  rw [h7,cond_false] at h
  cases h8:x.Own with
  | true=>exact .inl rfl
  | false=>rw [h8,cond_false] at h;omega
theorem fine_to {x:ItemItem} (h:FineI x):chkI x=0:=by
 have h2:decide ((24:Int) < (x.Name.size:Int))=false:=by have:=h.name;simp;omega
 have h5:decide (x.Ver < 0)=false:=by have:=h.ver;simp;omega
 have h6:decide ((1099511627776:Int) < x.Ver)=false:=by have:=h.ver;simp;omega
 unfold chkI
 rw [h.bare,h2,h.plain,h.sub,h5,h6]
 rcases h.own with e | e
 ·rw [e];cases (x.Name.toList == (⟨#[]⟩ : ByteArray).toList) <;> rfl
 ·rw [e,eqT_refl];rfl
def lessI (x y:ItemItem):Bool:=decide (Lib.compareBytes x.Contact.data.toList y.Contact.data.toList < 0) || (Lib.compareBytes x.Contact.data.toList y.Contact.data.toList == 0 && decide (x.Ver < y.Ver))
theorem or_p (a b:Int):p_cmp_Or_int_ [a,b]=some (if a≠0 then a else b):=by
 unfold p_cmp_Or_int_
 have key:∀ F,p_cmp_Or_int__l1 [a,b] 2 (F + 3) 0=some (if a≠0 then .inl a else if b≠0 then .inl b else .inr 2):=fun F=>by
  rw [p_cmp_Or_int__l1]
  show (bif (a != 0) then some (.inl a) else p_cmp_Or_int__l1 [a,b] 2 (F + 2) 1)=_
  by_cases ha:a=0
  ·rw [show (a != 0)=false by simpa using ha,cond_false,if_neg (by simpa using ha),p_cmp_Or_int__l1]
   show (bif (b != 0) then some (.inl b) else p_cmp_Or_int__l1 [a,b] 2 (F + 1) 2)=_
   by_cases hb:b=0
   ·rw [show (b != 0)=false by simpa using hb,cond_false,if_neg (by simpa using hb),p_cmp_Or_int__l1];rfl
   ·rw [show (b != 0)=true by simpa using hb,cond_true,if_pos hb]
  ·rw [show (a != 0)=true by simpa using ha,cond_true,if_pos ha]
 have:=key (fuel - 3)
 rw [show fuel - 3 + 3=fuel from rfl] at this
 show ((p_cmp_Or_int__l1 [a,b] 2 fuel 0).bind _)=_
 rw [this]
 by_cases ha:a=0
 ·by_cases hb:b=0
  ·subst ha hb;rfl
  ·rw [if_neg (by simpa using ha),if_pos hb,if_neg (by simpa using ha)];rfl
 ·rw [if_pos ha,if_pos ha];rfl
theorem cmpc_p (a b:Int):p_cmp_Compare_int_ a b=some (if a < b then -1 else if b < a then 1 else 0):=by
 unfold p_cmp_Compare_int_ p_cmp_isNaN_int_
 simp only [Option.bind_some,bne_self_eq_false,cond_false]
 by_cases h:a < b
 ·rw [show decide (a < b)=true by simpa using h,if_pos h];rfl
 ·rw [show decide (a < b)=false by simpa using h,if_neg h]
  by_cases h2:b < a
  ·rw [show decide (b < a)=true by simpa using h2,if_pos h2];rfl
  ·rw [show decide (b < a)=false by simpa using h2,if_neg h2];rfl
theorem order_p (x y:ItemItem):∃ v,p_item_Item_order x y=some v∧decide (v < 0)=lessI x y:=by
 unfold p_item_Item_order p_strings_Compare
 simp only [Option.bind_some,cmpc_p,or_p]
 refine ⟨_,rfl,?_⟩
 unfold lessI
 generalize Lib.compareBytes x.Contact.data.toList y.Contact.data.toList=c
 by_cases hc:c=0
 ·rw [if_neg (by simpa using hc),hc]
  by_cases h:x.Ver < y.Ver
  ·simp [h]
  ·by_cases h2:y.Ver < x.Ver <;> simp [h,h2]
 ·rw [if_pos hc,show (c == 0)=false by simpa using hc];simp
theorem less_p (x y:ItemItem):p_item_Less x y=some (lessI x y):=by
 obtain ⟨v,h1,h2⟩:=order_p x y
 unfold p_item_Less
 rw [h1,Option.bind_some,h2]
theorem light_p (x:ItemItem):p_ref20_Light x=some (decide (x.Contact.size≤100) && decide (x.Name.size≤100)):=by
 unfold p_ref20_Light
 rw [show decide ((x.Contact.size:Int)≤100)=decide (x.Contact.size≤100) by simp;omega,show decide ((x.Name.size:Int)≤100)=decide (x.Name.size≤100) by simp;omega]
 cases decide (x.Contact.size≤100) <;> rfl
end Go.Proofs.Ytpmoioopjbfhkaa

/- slices.Grow of a nil slice at function 103. -/
namespace Go.Proofs.Ytpmoioopjbfhkaa
open Go.RowKit Go.Lib
set_option maxHeartbeats 4000000
set_option maxRecDepth 100000
theorem groS103 (base:Option Addr) (n:Nat) (w:World) (hn:0 < n) (hbig:n≤1000000) :
  Calls Try.prog 103 #[.slice base 0 0,.int .i64 n] w fun e w'=>∃ (ZS:Array Value) (c:Nat),e=.returned (.slice (some ⟨w.heap.size,0,none⟩) 0 c)∧w'=w.drew.alloc (.cells ZS 5)∧c * 1≤ZS.size:=by
 have tS:Try.prog.underlying 96=some (.slice 5):=by kernel_rfl
 have tI:Try.prog.underlying 3=some (.int .i64):=by kernel_rfl
 have uS:=run_underlying tS
 have uI:=run_underlying tI
 have mixed:Try.prog.follows .mixedOrders=true:=mix
 obtain ⟨i0,z,hi0,hzs,hz0,hzc,hzb⟩:=infB_ok (P:=Try.prog) (e:=5) (es:=1) (by kernel_rfl)
 have hold:(Builtin.firstCells i0.size 0 (.slice base 0 0)).run Try.prog w.drew=.ok ([]:List Value).toArray w.drew:=by
  cases base with
  | none=>exact run_firstCells_none w.drew i0.size 0 0 0
  | some a=>exact run_firstCells_some w.drew i0.size 0 a 0 0 [] (by simp) (fun j v hj=>by simp at hj)
 have hb1:=grown_bound (n:=0) (k:=n) (by omega) hzb
 have hge:=grownCap_ge w (0 + n) 0 5
 have hsz:grownCap w (0 + n) 0 5 * 1≤(([]:List Value).toArray++Builtin.zeroCells z.cells n++Builtin.zeroCells z.cells (grownCap w (0 + n) 0 5 - (0 + n))).size:=by
  simp only [Array.size_append,size_zeroCells,hzc,List.size_toArray,List.length_nil]
  have:grownCap w (0 + n) 0 5=n + (grownCap w (0 + n) 0 5 - (0 + n)):=by omega
  rw [Nat.zero_add (n * 1),← Nat.add_mul,← this]
  exact Nat.le_refl _
 have hrun:∀ ty,(Builtin.append_ #[96,3] ty #[.slice base 0 0,.int .i64 (n:Int)]).run Try.prog w=_:=fun ty =>
  run_append_grow_zeros w 96 3 ty 5 i0 z .i64 .i64 tS tI hi0 hz0 base 0 0 [] hold n hn (by rw [hzs];decide) (by omega) (by omega) (by first | omega | (have:=Nat.mul_le_mul hbig hzb;omega)) (growslice_fits (by omega) hb1)
 obtain ⟨ZS,hZ⟩ : ∃ ZS:Array Value,ZS=([]:List Value).toArray++Builtin.zeroCells z.cells n++Builtin.zeroCells z.cells (grownCap w (0 + n) 0 5 - (0 + n)):=⟨_,rfl⟩
 rw [← hZ] at hsz
 simp only [← hZ] at hrun
 simp only [Nat.zero_add] at hge hsz hrun
 obtain ⟨G,hG⟩ : ∃ G,G=grownCap w n 0 5:=⟨_,rfl⟩
 rw [← hG] at hge hsz
 simp only [← hG] at hrun
 have hG63:G≤9223372036854775807:=by
  have:=grownCap_le_maxLen w n 0 5 (by unfold maxLen;omega)
  rw [← hG] at this
  unfold maxLen at this
  omega
 refine Calls.mono (R:=fun e w'=>e=.returned (.slice (some ⟨w.heap.size,0,none⟩) 0 G)∧w'=w.drew.alloc (.cells ZS 5)) ?_ (by rintro e w' ⟨rfl,rfl⟩;exact ⟨ZS,G,rfl,rfl,hsz⟩)
 clear hsz hZ hG hold hb1 hz0 hzb hzc hzs hi0
 have h1:¬ ((n:Int) < 0):=by omega
 have h3:IntKind.i64.wrap (n:Int)=(n:Int):=by rw [IntKind.wrap_i64];omega
 have h3' : wrap64 (n:Int)=(n:Int):=by unfold wrap64;omega
 have h4:(n:Int) > 0:=by omega
 cases base with
 | none =>
  go_enter Try.func103,Try.ntmps103
  go_wp2_with (at_builtin;refine Lib.wpList_append_run _ rfl _ _ _ _ rfl _ _ rfl rfl _ _ (hrun _) ?_)
  go_ret
  exact ⟨rfl,rfl⟩
 | some a =>
  obtain ⟨ab,ao,asp⟩:=a
  go_enter Try.func103,Try.ntmps103
  go_wp2_with (at_builtin;refine Lib.wpList_append_run _ rfl _ _ _ _ rfl _ _ rfl rfl _ _ (hrun _) ?_)
  go_ret
  exact ⟨rfl,rfl⟩
theorem groZ103 (base:Option Addr) (w:World):Calls Try.prog 103 #[.slice base 0 0,.int .i64 0] w fun e w'=>e=.returned (.slice base 0 0)∧w'=w:=by
 have tS:Try.prog.underlying 96=some (.slice 5):=by kernel_rfl
 have tI:Try.prog.underlying 3=some (.int .i64):=by kernel_rfl
 have uS:=run_underlying tS
 have uI:=run_underlying tI
 have mixed:Try.prog.follows .mixedOrders=true:=mix
 go_enter Try.func103,Try.ntmps103
 go_wp2
 go_ret
 exact ⟨rfl,rfl⟩
theorem groR103_v:GrowRoads Try.prog 103 1 5:=⟨groS103,groZ103⟩
end Go.Proofs.Ytpmoioopjbfhkaa

/- That the program's functions yield what the plain ones tell (written by a program of mine). -/
namespace Go.Proofs.Ytpmoioopjbfhkaa
open Go.RowKit
set_option maxRecDepth 100000
set_option maxHeartbeats 4000000
def gc17:BCode:=(.seq (.reg 0 [⟨(some 2),.mv (.const (.int .i64 0)),none,0⟩] none 0 []) (.seq (.block 0 (.seq (.seq (.reg 0 [⟨(some 4),.mv (.tmp 0),none,0⟩,⟨(some 5),.bin .lss (.tmp 4) (.const (.int .i64 0)),none,0⟩,⟨(some 3),.mv (.tmp 5),none,0⟩] none 0 []) (.cond (.tmp 3) .skip (.reg 0 [⟨(some 6),.mv (.tmp 0),none,0⟩,⟨(some 7),.bin .gtr (.tmp 6) (.const (.int .i64 15)),none,0⟩,⟨(some 3),.mv (.tmp 7),none,0⟩] none 0 []))) (.cond (.tmp 3) (.seq (.reg 0 [⟨(some 2),.mv (.const (.int .i64 8)),none,0⟩] none 0 []) .ret) (.seq (.seq (.reg 0 [⟨(some 9),.mv (.tmp 0),none,0⟩,⟨(some 10),.bin .and (.tmp 9) (.const (.int .i64 5)),none,0⟩,⟨(some 11),.bin .eql (.tmp 10) (.const (.int .i64 5)),none,0⟩,⟨(some 8),.mv (.tmp 11),none,0⟩] none 0 []) (.cond (.tmp 8) .skip (.reg 0 [⟨(some 12),.mv (.tmp 0),none,0⟩,⟨(some 13),.bin .and (.tmp 12) (.const (.int .i64 10)),none,0⟩,⟨(some 14),.bin .eql (.tmp 13) (.const (.int .i64 10)),none,0⟩,⟨(some 8),.mv (.tmp 14),none,0⟩] none 0 []))) (.cond (.tmp 8) (.seq (.reg 0 [⟨(some 2),.mv (.const (.int .i64 4)),none,0⟩] none 0 []) .ret) .skip))))) (.seq (.reg 0 [⟨(some 2),.mv (.const (.int .i64 0)),none,0⟩] none 0 []) .ret)))
theorem gc17_ok:compF Try.prog Try.f17=some (gc17.er,15,[.tmp 2]):=by unfold gc17;kernel_rfl
theorem p_subs_Check_v (a0:Int):CallsO Try.prog 17 [.i a0] V.i (p_subs_Check a0):=by
 refine callsO_comp mix Try.func17 gc17_ok fun r H=>?_
 rw [p_subs_Check] at H
 conv=>whnf
 refine tst_c H (fun b1 H=>?_) (fun b1 H=>?_)
 ·conv=>whnf
  refine Tst.T ?_;conv=>whnf
  exact fi_ H
 conv=>whnf
 refine tst_c H (fun b2 H=>?_) (fun b2 H=>?_)
 ·conv=>whnf
  exact fi_ H
 conv=>whnf
 refine tst_c H (fun b3 H=>?_) (fun b3 H=>?_)
 ·conv=>whnf
  refine Tst.T ?_;conv=>whnf
  exact fi_ H
 conv=>whnf
 refine tst_c H (fun b4 H=>?_) (fun b4 H=>?_)
 ·conv=>whnf
  exact fi_ H
 conv=>whnf
 exact fi_ H
def gc25:BCode:=(.seq (.reg 1 [⟨(some 1),.bx (.tmp 0),none,0⟩,⟨(some 2),.mv (.const (.int .i64 0)),none,1⟩] none 0 []) (.seq (.seq (.reg 0 [⟨(some 4),.fa 0 (.tmp 1),none,0⟩,⟨(some 5),.ld 1 false (.tmp 4),none,0⟩,⟨(some 6),.cl 49 [(.tmp 5)],none,0⟩,⟨(some 7),.un .not (.tmp 6),none,0⟩] none 0 []) (.cond (.tmp 7) (.seq (.reg 0 [⟨(some 2),.mv (.const (.int .i64 11)),none,0⟩] none 0 []) .ret) .skip)) (.seq (.seq (.reg 0 [⟨(some 8),.fa 1 (.tmp 1),none,0⟩,⟨(some 9),.ld 1 false (.tmp 8),none,0⟩,⟨(some 10),.lent (.tmp 9),none,0⟩,⟨(some 11),.bin .gtr (.tmp 10) (.const (.int .i64 24)),none,0⟩] none 0 []) (.cond (.tmp 11) (.seq (.reg 0 [⟨(some 2),.mv (.const (.int .i64 5)),none,0⟩] none 0 []) .ret) .skip)) (.seq (.seq (.reg 0 [⟨(some 12),.fa 1 (.tmp 1),none,0⟩,⟨(some 13),.ld 1 false (.tmp 12),none,0⟩,⟨(some 14),.cl 62 [(.tmp 13)],none,0⟩,⟨(some 15),.un .not (.tmp 14),none,0⟩] none 0 []) (.cond (.tmp 15) (.seq (.reg 0 [⟨(some 2),.mv (.const (.int .i64 11)),none,0⟩] none 0 []) .ret) .skip)) (.seq (.seq (.reg 0 [⟨(some 16),.fa 2 (.tmp 1),none,0⟩,⟨(some 17),.ld 1 false (.tmp 16),none,0⟩,⟨(some 18),.cl 17 [(.tmp 17)],none,0⟩,⟨(some 3),.mv (.tmp 18),none,0⟩] none 0 []) (.seq (.reg 0 [⟨(some 19),.mv (.tmp 3),none,0⟩,⟨(some 20),.bin .neq (.tmp 19) (.const (.int .i64 0)),none,0⟩] none 0 []) (.cond (.tmp 20) (.seq (.reg 0 [⟨(some 21),.mv (.tmp 3),none,0⟩,⟨(some 2),.mv (.tmp 21),none,0⟩] none 0 []) .ret) .skip))) (.seq (.seq (.reg 0 [⟨(some 22),.fa 3 (.tmp 1),none,0⟩,⟨(some 23),.ld 1 false (.tmp 22),none,0⟩,⟨(some 24),.bin .lss (.tmp 23) (.const (.int .i64 0)),none,0⟩,⟨(some 25),.mv (.tmp 24),none,0⟩,⟨(some 26),.fa 3 (.tmp 1),(some (25,false)),0⟩,⟨(some 27),.ld 1 false (.tmp 26),(some (25,false)),0⟩,⟨(some 28),.bin .gtr (.tmp 27) (.const (.int .i64 1099511627776)),(some (25,false)),0⟩,⟨(some 29),.pick (.tmp 25) (.const (.bool true)) (.tmp 28),none,0⟩] none 0 []) (.cond (.tmp 29) (.seq (.reg 0 [⟨(some 2),.mv (.const (.int .i64 8)),none,0⟩] none 0 []) .ret) .skip)) (.seq (.seq (.reg 0 [⟨(some 30),.fa 1 (.tmp 1),none,0⟩,⟨(some 31),.ld 1 false (.tmp 30),none,0⟩,⟨(some 32),.bin .neq (.tmp 31) (.const (.string ⟨#[]⟩)),none,0⟩,⟨(some 33),.mv (.tmp 32),none,0⟩,⟨(some 34),.fa 4 (.tmp 1),(some (33,true)),0⟩,⟨(some 35),.ld 1 false (.tmp 34),(some (33,true)),0⟩,⟨(some 36),.un .not (.tmp 35),(some (33,true)),0⟩,⟨(some 37),.pick (.tmp 33) (.tmp 36) (.const (.bool false)),none,0⟩] none 0 []) (.cond (.tmp 37) (.seq (.reg 0 [⟨(some 2),.mv (.const (.int .i64 4)),none,0⟩] none 0 []) .ret) .skip)) (.seq (.reg 0 [⟨(some 2),.mv (.const (.int .i64 0)),none,0⟩] none 0 []) .ret))))))))
theorem gc25_ok:compF Try.prog Try.f25=some (gc25.er,38,[.tmp 2]):=by unfold gc25;kernel_rfl
theorem p_item_Check_v (a0:ItemItem):CallsO Try.prog 25 [.agg [.s a0.Contact,.s a0.Name,.i a0.Sub,.i a0.Ver,.b a0.Own]] V.i (p_item_Check a0):=by
 refine callsO_comp mix Try.func25 gc25_ok fun r H=>?_
 rw [p_item_Check] at H
 conv=>whnf
 refine ask_c (p_addr_IsBare_v _) H rfl rfl (fun v1 H=>?_);conv=>whnf
 refine Tst.not ?_
 refine tst_d H (fun b2 H=>?_) (fun b2 H=>?_)
 ·conv=>whnf
  exact fi_ H
 conv=>whnf
 refine tst_c H (fun b3 H=>?_) (fun b3 H=>?_)
 ·conv=>whnf
  exact fi_ H
 conv=>whnf
 refine ask_c (p_utf_Plain_v _) H rfl rfl (fun v4 H=>?_);conv=>whnf
 refine Tst.not ?_
 refine tst_d H (fun b5 H=>?_) (fun b5 H=>?_)
 ·conv=>whnf
  exact fi_ H
 conv=>whnf
 refine ask_c (p_subs_Check_v _) H rfl rfl (fun v6 H=>?_);conv=>whnf
 refine tst_c H (fun b7 H=>?_) (fun b7 H=>?_)
 ·conv=>whnf
  exact fi_ H
 conv=>whnf
 refine tst_c H (fun b8 H=>?_) (fun b8 H=>?_)
 ·conv=>whnf
  iterate 4 (refine Tst.T ?_;conv=>whnf)
  exact fi_ H
 conv=>whnf
 iterate 3 (refine Tst.F ?_;conv=>whnf)
 refine tst_c H (fun b9 H=>?_) (fun b9 H=>?_)
 ·conv=>whnf
  exact fi_ H
 conv=>whnf
 refine Tst.not ?_
 refine tst_c H (fun b10 H=>?_) (fun b10 H=>?_)
 ·conv=>whnf
  iterate 4 (refine Tst.F ?_;conv=>whnf)
  exact fi_ H
 conv=>whnf
 iterate 3 (refine Tst.T ?_;conv=>whnf)
 refine Tst.not ?_
 refine tst_c H (fun b11 H=>?_) (fun b11 H=>?_)
 ·conv=>whnf
  exact fi_ H
 conv=>whnf
 exact fi_ H
def gc55:BCode:=(.seq (.reg 0 [⟨(some 4),.mv (.const (.slice none 0 0)),none,0⟩,⟨(some 5),.mv (.const (.int .i64 0)),none,0⟩] none 0 []) (.seq (.seq (.reg 0 [⟨(some 6),.mv (.tmp 0),none,0⟩,⟨(some 7),.lent (.tmp 6),none,0⟩,⟨(some 8),.mv (.tmp 1),none,0⟩,⟨(some 9),.mn false (.tmp 8) (.const (.int .i64 255)),none,0⟩,⟨(some 10),.bin .gtr (.tmp 7) (.tmp 9),none,0⟩] none 0 []) (.cond (.tmp 10) (.seq (.reg 0 [⟨(some 4),.mv (.const (.slice none 0 0)),none,0⟩,⟨(some 5),.mv (.const (.int .i64 5)),none,0⟩] none 0 []) .ret) .skip)) (.seq (.reg 2 [⟨(some 11),.mv (.tmp 0),none,0⟩,⟨(some 12),.lent (.tmp 11),none,0⟩,⟨(some 13),.cvi .u8 (.tmp 12),none,0⟩,⟨(some 14),.bs 1 1 [(.lit (.int .u8 0))] [(0,(.tmp 13))],none,0⟩,⟨(some 15),.mv (.tmp 0),none,1⟩,⟨(some 16),.ap 1 1 (.tmp 14) (.tmp 15),none,1⟩,⟨(some 4),.mv (.tmp 16),none,2⟩,⟨(some 5),.mv (.const (.int .i64 0)),none,2⟩] none 0 []) .ret)))
theorem gc55_ok:compF Try.prog Try.f55=some (gc55.er,17,[.tmp 4,.tmp 5]):=by unfold gc55;kernel_rfl
theorem p_octet_Say_v (a0:ByteArray) (a1:Int):CallsO Try.prog 55 [.s a0,.i a1] (fun r:(List Int) × Int=>.tup [(fun l:List Int=>V.sl (l.map V.y8) false) r.1,V.i r.2]) (p_octet_Say a0 a1):=by
 refine callsO_comp mix Try.func55 gc55_ok fun r H=>?_
 rw [p_octet_Say] at H
 conv=>whnf
 refine tst_c H (fun b1 H=>?_) (fun b1 H=>?_)
 ·conv=>whnf
  refine finR_c (enc:=(fun r:(List Int) × Int=>.tup [(fun l:List Int=>V.sl (l.map V.y8) false) r.1,V.i r.2])) H ?_;conv=>whnf
  exact ⟨_,.tup (.cons (.c (.slw)) (.cons (.c (.id rfl)) (.nil)))⟩
 conv=>whnf
 refine Ari.w ?_;conv=>whnf
 refine appD_c (f:=V.y8) H (fun _=>rfl) rfl rfl rfl rfl (srcText _) (by decide) rfl (fun l2 H=>?_) (fun l2 H=>?_)
 ·conv=>whnf
  refine finR_c (enc:=(fun r:(List Int) × Int=>.tup [(fun l:List Int=>V.sl (l.map V.y8) false) r.1,V.i r.2])) H ?_;conv=>whnf
  exact ⟨_,.tup (.cons (.c (fzown (f:=V.y8) (l:=l2) rfl rfl (fun _=>rfl) (fun _=>rfl))) (.cons (.c (.id rfl)) (.nil)))⟩
 conv=>whnf
 refine finR_c (enc:=(fun r:(List Int) × Int=>.tup [(fun l:List Int=>V.sl (l.map V.y8) false) r.1,V.i r.2])) H ?_;conv=>whnf
 exact ⟨_,.tup (.cons (.c (fzown (f:=V.y8) (l:=l2) rfl rfl (fun _=>rfl) (fun _=>rfl))) (.cons (.c (.id rfl)) (.nil)))⟩
def gc102:BCode:=(.seq (.reg 0 [⟨(some 2),.mv (.const (.bool false)),none,0⟩] none 0 []) (.seq (.seq (.reg 0 [⟨(some 3),.mv (.tmp 0),none,0⟩] none 0 []) (.block 0 (.seq (.seq (.reg 0 [⟨(some 5),.bin .eql (.tmp 3) (.const (.int .i64 1)),none,0⟩,⟨(some 4),.mv (.tmp 5),none,0⟩] none 0 []) (.cond (.tmp 4) .skip (.seq (.reg 0 [⟨(some 6),.bin .eql (.tmp 3) (.const (.int .i64 2)),none,0⟩,⟨(some 4),.mv (.tmp 6),none,0⟩] none 0 []) (.cond (.tmp 4) .skip (.seq (.reg 0 [⟨(some 7),.bin .eql (.tmp 3) (.const (.int .i64 4)),none,0⟩,⟨(some 4),.mv (.tmp 7),none,0⟩] none 0 []) (.cond (.tmp 4) .skip (.reg 0 [⟨(some 8),.bin .eql (.tmp 3) (.const (.int .i64 6)),none,0⟩,⟨(some 4),.mv (.tmp 8),none,0⟩] none 0 []))))))) (.cond (.tmp 4) (.seq (.reg 0 [⟨(some 2),.mv (.const (.bool true)),none,0⟩] none 0 []) .ret) .skip)))) (.seq (.reg 0 [⟨(some 2),.mv (.const (.bool false)),none,0⟩] none 0 []) .ret)))
theorem gc102_ok:compF Try.prog Try.f102=some (gc102.er,9,[.tmp 2]):=by unfold gc102;kernel_rfl
theorem p_octet_wide_v (a0:Int):CallsO Try.prog 102 [.i a0] V.b (p_octet_wide a0):=by
 refine callsO_comp mix Try.func102 gc102_ok fun r H=>?_
 rw [p_octet_wide] at H
 conv=>whnf
 refine tst_c H (fun b1 H=>?_) (fun b1 H=>?_)
 ·conv=>whnf
  refine Tst.T ?_;conv=>whnf
  exact fb_ H
 conv=>whnf
 refine tst_c H (fun b2 H=>?_) (fun b2 H=>?_)
 ·conv=>whnf
  refine Tst.T ?_;conv=>whnf
  exact fb_ H
 conv=>whnf
 refine tst_c H (fun b3 H=>?_) (fun b3 H=>?_)
 ·conv=>whnf
  refine Tst.T ?_;conv=>whnf
  exact fb_ H
 conv=>whnf
 refine tst_c H (fun b4 H=>?_) (fun b4 H=>?_)
 ·conv=>whnf
  exact fb_ H
 conv=>whnf
 exact fb_ H
def gc56:BCode:=(.seq (.reg 0 [⟨(some 4),.mv (.const (.slice none 0 0)),none,0⟩,⟨(some 5),.mv (.const (.int .i64 0)),none,0⟩] none 0 []) (.seq (.seq (.reg 0 [⟨(some 8),.mv (.tmp 1),none,0⟩,⟨(some 9),.cl 102 [(.tmp 8)],none,0⟩,⟨(some 10),.un .not (.tmp 9),none,0⟩] none 0 []) (.cond (.tmp 10) (.seq (.reg 0 [⟨(some 4),.mv (.const (.slice none 0 0)),none,0⟩,⟨(some 5),.mv (.const (.int .i64 2)),none,0⟩] none 0 []) .ret) .skip)) (.seq (.seq (.reg 0 [⟨(some 11),.mv (.tmp 0),none,0⟩,⟨(some 12),.bin .lss (.tmp 11) (.const (.int .i64 0)),none,0⟩,⟨(some 13),.mv (.tmp 12),none,0⟩,⟨(some 14),.mv (.tmp 0),(some (13,false)),0⟩,⟨(some 15),.mv (.tmp 1),(some (13,false)),0⟩,⟨(some 16),.bin .mul (.const (.int .i64 8)) (.tmp 15),(some (13,false)),0⟩,⟨(some 17),.bin .shr (.tmp 14) (.tmp 16),(some (13,false)),0⟩,⟨(some 18),.bin .neq (.tmp 17) (.const (.int .i64 0)),(some (13,false)),0⟩,⟨(some 19),.pick (.tmp 13) (.const (.bool true)) (.tmp 18),none,0⟩] none 0 []) (.cond (.tmp 19) (.seq (.reg 0 [⟨(some 4),.mv (.const (.slice none 0 0)),none,0⟩,⟨(some 5),.mv (.const (.int .i64 8)),none,0⟩] none 0 []) .ret) .skip)) (.seq (.reg 1 [⟨(some 20),.mv (.tmp 1),none,0⟩,⟨(some 21),.mks 1 1 [(.lit (.int .u8 0))] (.tmp 20) (.tmp 20),none,0⟩,⟨(some 6),.mv (.tmp 21),none,1⟩] none 0 []) (.seq (.seq (.reg 0 [⟨(some 22),.mv (.tmp 1),none,0⟩,⟨(some 23),.mv (.const (.int .i64 0)),none,0⟩] none 0 []) (.block 0 (.loop (.seq (.reg 0 [⟨(some 24),.bin .lss (.tmp 23) (.tmp 22),none,0⟩] none 0 []) (.seq (.cond (.tmp 24) .skip (.exit 0)) (.seq (.block 1 (.seq (.reg 0 [⟨(some 25),.mv (.tmp 23),none,0⟩,⟨(some 7),.mv (.tmp 25),none,0⟩] none 0 []) (.reg 0 [⟨(some 26),.mv (.tmp 6),none,0⟩,⟨(some 27),.mv (.tmp 1),none,0⟩,⟨(some 28),.bin .sub (.tmp 27) (.const (.int .i64 1)),none,0⟩,⟨(some 29),.mv (.tmp 7),none,0⟩,⟨(some 30),.bin .sub (.tmp 28) (.tmp 29),none,0⟩,⟨(some 31),.mv (.tmp 0),none,0⟩,⟨(some 32),.mv (.tmp 7),none,0⟩,⟨(some 33),.bin .mul (.const (.int .i64 8)) (.tmp 32),none,0⟩,⟨(some 34),.bin .shr (.tmp 31) (.tmp 33),none,0⟩,⟨(some 35),.cvi .u8 (.tmp 34),none,0⟩,⟨(some 36),.ixs 1 (.tmp 26) (.tmp 30),none,0⟩,⟨none,.st 1 (.tmp 36) (.tmp 35),none,0⟩] none 0 []))) (.reg 0 [⟨(some 37),.bin .add (.tmp 23) (.const (.int .i64 1)),none,0⟩,⟨(some 23),.mv (.tmp 37),none,0⟩] none 0 []))))))) (.seq (.reg 0 [⟨(some 38),.mv (.tmp 6),none,0⟩,⟨(some 4),.mv (.tmp 38),none,0⟩,⟨(some 5),.mv (.const (.int .i64 0)),none,0⟩] none 0 []) .ret))))))
theorem gc56_ok:compF Try.prog Try.f56=some (gc56.er,39,[.tmp 4,.tmp 5]):=by unfold gc56;kernel_rfl
theorem p_octet_Lay_v (a0:Int) (a1:Int):CallsO Try.prog 56 [.i a0,.i a1] (fun r:(List Int) × Int=>.tup [(fun l:List Int=>V.sl (l.map V.y8) false) r.1,V.i r.2]) (p_octet_Lay a0 a1):=by
 refine callsO_comp mix Try.func56 gc56_ok fun r H=>?_
 rw [p_octet_Lay] at H
 conv=>whnf
 refine ask_c (p_octet_wide_v _) H rfl rfl (fun v1 H=>?_);conv=>whnf
 refine Tst.not ?_
 refine tst_d H (fun b2 H=>?_) (fun b2 H=>?_)
 ·conv=>whnf
  refine finR_c (enc:=(fun r:(List Int) × Int=>.tup [(fun l:List Int=>V.sl (l.map V.y8) false) r.1,V.i r.2])) H ?_;conv=>whnf
  exact ⟨_,.tup (.cons (.c (.slw)) (.cons (.c (.id rfl)) (.nil)))⟩
 conv=>whnf
 refine tst_c H (fun b3 H=>?_) (fun b3 H=>?_)
 ·conv=>whnf
  iterate 6 (refine Tst.T ?_;conv=>whnf)
  refine finR_c (enc:=(fun r:(List Int) × Int=>.tup [(fun l:List Int=>V.sl (l.map V.y8) false) r.1,V.i r.2])) H ?_;conv=>whnf
  exact ⟨_,.tup (.cons (.c (.slw)) (.cons (.c (.id rfl)) (.nil)))⟩
 conv=>whnf
 iterate 2 (refine Tst.F ?_;conv=>whnf)
 refine Ari.w ?_;conv=>whnf
 refine Tst.F ?_;conv=>whnf
 refine Shr.ok (pos_c H).1 ((fun H=>?_) (pos_c H).2);conv=>whnf
 iterate 2 (refine Tst.F ?_;conv=>whnf)
 refine tst_c H (fun b5 H=>?_) (fun b5 H=>?_)
 ·conv=>whnf
  refine finR_c (enc:=(fun r:(List Int) × Int=>.tup [(fun l:List Int=>V.sl (l.map V.y8) false) r.1,V.i r.2])) H ?_;conv=>whnf
  exact ⟨_,.tup (.cons (.c (.slw)) (.cons (.c (.id rfl)) (.nil)))⟩
 conv=>whnf
 refine mksA_c (f:=V.y8) H rfl rfl (by decide) (fun l6 H=>?_);conv=>whnf
 obtain ⟨o8,HL9,HQ10⟩:=bind_c H
 refine loop_c [23] [7,24,25,26,27,28,29,30,31,32,33,34,35,36,37,21] [7,24,25,26,27,28,29,30,31,32,33,34,35,36,37,21] (fun n vals st=>(∃ y12 y13,p_octet_Lay_l1  a1 a0 a1 a1 n y12 y13=some o8∧vals=[.i y12]∧st=[.live (cellsM V.y8 y13) 0])) fuel 1 [] (⟨_,_,HL9,rfl,rfl⟩) (Nat.zero_le _) rfl (by kernel_rfl) (by kernel_rfl) rfl (wkB_live0 rfl (cellsM_idlt (f:=V.y8) (fun _=>rfl) _) rfl trivial) ?_
 rintro (_ | n11) _ _ (⟨y12,y13,H,rfl,rfl⟩)
 ·rw [p_octet_Lay_l1] at H;cases H
 rw [p_octet_Lay_l1] at H
 conv=>whnf
 refine tst_d H (fun b14 H=>?_) (fun b14 H=>?_)
 ·conv=>whnf
  obtain rfl:=Option.some.inj H
  have H:=HQ10
  try dsimp only at H
  obtain ⟨_,h18,H⟩:=lenG_c H
  refine finRz_c (enc:=(fun r:(List Int) × Int=>.tup [(fun l:List Int=>V.sl (l.map V.y8) false) r.1,V.i r.2])) [0] H ?_;conv=>whnf
  refine ⟨Nat.zero_le _,?_⟩;conv=>whnf
  exact ⟨_,.tup (.cons (.c (fzc_made (f:=V.y8) (l:=y13) rfl rfl rfl h18 (fun _=>rfl) (fun _=>rfl))) (.cons (.c (.id rfl)) (.nil)))⟩
 conv=>whnf
 iterate 3 (refine Ari.w ?_;conv=>whnf)
 refine Shr.ok (pos_c H).1 ((fun H=>?_) (pos_c H).2);conv=>whnf
 refine Ari.w ?_;conv=>whnf
 refine ⟨rfl,ixa_c H (fun x16 h17 H=>?_)⟩;conv=>whnf
 refine ⟨Nat.zero_le _,sto_c (f:=V.y8) (es:=1) h17 (x':=IntKind.wrap .u8 (shrI .i64 a0 (w64 ((8:Int) * y12)))) (fun _=>rfl) 0 (by omega) (Nat.le_of_ble_eq_true rfl) (by rfl) ?_⟩;conv=>whnf
 refine Ari.w ?_;conv=>whnf
 exact again_c [7,24,25,26,27,28,29,30,31,32,33,34,35,36,37,21] n11 1 [] (⟨_,_,H,rfl,rfl⟩) (Nat.lt_succ_self _) (Nat.zero_le _) rfl (by kernel_rfl) (by kernel_rfl) rfl (wkB_live0 rfl (cellsM_idlt (f:=V.y8) (fun _=>rfl) _) rfl trivial)
def gc57 (c:Nat→Code):BCode:=(.seq (.reg 0 [⟨(some 2),.mv (.const (.slice none 0 0)),none,0⟩] none 0 []) (.seq (.reg 0 [⟨(some 3),.mv (.const (.int .i64 0)),none,0⟩] none 0 []) (.seq (.seq (.reg 0 [⟨(some 9),.mv (.tmp 0),none,0⟩,⟨(some 10),.lens (.tmp 9),none,0⟩,⟨(some 11),.mv (.const (.int .i64 0)),none,0⟩] none 0 []) (.block 0 (.loop (.seq (.reg 0 [⟨(some 12),.bin .lss (.tmp 11) (.tmp 10),none,0⟩] none 0 []) (.seq (.cond (.tmp 12) .skip (.exit 0)) (.seq (.block 1 (.seq (.reg 0 [⟨(some 13),.ixs 1 (.tmp 9) (.tmp 11),none,0⟩,⟨(some 14),.ld 1 false (.tmp 13),none,0⟩,⟨(some 5),.mv (.tmp 14),none,0⟩] none 0 []) (.seq (.reg 0 [⟨(some 15),.mv (.tmp 3),none,0⟩,⟨(some 16),.mv (.tmp 5),none,0⟩,⟨(some 17),.lens (.tmp 16),none,0⟩,⟨(some 18),.bin .add (.tmp 15) (.tmp 17),none,0⟩,⟨(some 3),.mv (.tmp 18),none,0⟩] none 0 []) (.seq (.reg 0 [⟨(some 19),.mv (.tmp 3),none,0⟩,⟨(some 20),.bin .lss (.tmp 19) (.const (.int .i64 0)),none,0⟩] none 0 []) (.cond (.tmp 20) (.raw (c 7)) .skip))))) (.reg 0 [⟨(some 22),.bin .add (.tmp 11) (.const (.int .i64 1)),none,0⟩,⟨(some 11),.mv (.tmp 22),none,0⟩] none 0 []))))))) (.seq (.reg 0 [⟨(some 23),.mv (.tmp 3),none,0⟩,⟨(some 24),.cl 103 [(.const (.slice none 0 0)),(.tmp 23)],none,0⟩,⟨(some 6),.mv (.tmp 24),none,0⟩] none 1 []) (.seq (.seq (.reg 0 [⟨(some 25),.mv (.tmp 0),none,0⟩,⟨(some 26),.lens (.tmp 25),none,0⟩,⟨(some 27),.mv (.const (.int .i64 0)),none,0⟩] none 0 []) (.block 2 (.loop (.seq (.reg 0 [⟨(some 28),.bin .lss (.tmp 27) (.tmp 26),none,0⟩] none 0 []) (.seq (.cond (.tmp 28) .skip (.exit 2)) (.seq (.block 3 (.seq (.reg 0 [⟨(some 29),.ixs 1 (.tmp 25) (.tmp 27),none,0⟩,⟨(some 30),.ld 1 false (.tmp 29),none,0⟩,⟨(some 8),.mv (.tmp 30),none,0⟩] none 0 []) (.reg 1 [⟨(some 31),.mv (.tmp 6),none,0⟩,⟨(some 32),.mv (.tmp 8),none,0⟩,⟨(some 33),.ap 1 1 (.tmp 31) (.tmp 32),none,0⟩,⟨(some 6),.mv (.tmp 33),none,1⟩] none 0 []))) (.reg 0 [⟨(some 34),.bin .add (.tmp 27) (.const (.int .i64 1)),none,0⟩,⟨(some 27),.mv (.tmp 34),none,0⟩] none 0 []))))))) (.seq (.reg 0 [⟨(some 35),.mv (.tmp 6),none,0⟩,⟨(some 2),.mv (.tmp 35),none,0⟩] none 0 []) .ret))))))
theorem gc57_ok:compF Try.prog Try.f57=some ((gc57 (regAt Try.f57)).er,36,[.tmp 2]):=by unfold gc57;kernel_rfl
theorem p_slices_Concat_byte_v {u1:Bool} (a0:List (List Int)):CallsO Try.prog 57 [.sl (List.map (fun l:List Int=>V.sl (l.map V.y8) false) a0) u1] (fun l:List Int=>V.sl (l.map V.y8) false) (p_slices_Concat_byte a0):=by
 refine callsO_comp mix Try.func57 gc57_ok fun r H=>?_
 rw [p_slices_Concat_byte] at H
 conv=>whnf
 refine LenQ.M ?_;conv=>whnf
 obtain ⟨o2,HL3,HQ4⟩:=bind_c H
 refine loop_c [3,11] [5,12,13,14,15,16,17,18,19,20,22] [5,12,13,14,15,16,17,18,19,20,22] (fun n vals st=>(∃ y6 y7,p_slices_Concat_byte_l1  a0 (a0.length:Int) n y6 y7=some o2∧vals=[.i y6,.i y7]∧st=[])) fuel 0 [] (⟨_,_,HL3,rfl,rfl⟩) (Nat.zero_le _) rfl (by kernel_rfl) (by kernel_rfl) rfl trivial ?_
 rintro (_ | n5) _ _ (⟨y6,y7,H,rfl,rfl⟩)
 ·rw [p_slices_Concat_byte_l1] at H;cases H
 rw [p_slices_Concat_byte_l1] at H
 conv=>whnf
 refine tst_c H (fun b8 H=>?_) (fun b8 H=>?_)
 ·conv=>whnf
  refine ixs_c (f:=(fun l:List Int=>V.sl (l.map V.y8) false)) H (fun _=>rfl) (fun x9 H=>?_);conv=>whnf
  refine LenQ.M ?_;conv=>whnf
  refine Ari.w ?_;conv=>whnf
  refine tst_c H (fun b10 H=>?_) (fun b10 H=>?_)
  ·conv=>whnf
   cases H
  conv=>whnf
  refine Ari.w ?_;conv=>whnf
  exact again_c [5,12,13,14,15,16,17,18,19,20,22] n5 0 [] (⟨_,_,H,rfl,rfl⟩) (Nat.lt_succ_self _) (Nat.zero_le _) rfl (by kernel_rfl) (by kernel_rfl) rfl trivial
 conv=>whnf
 obtain rfl:=Option.some.inj H
 have H:=HQ4
 try dsimp only at H
 refine grow_c (f:=V.y8) (id:=0) groR103_v H rfl (fun H=>?_) (fun H=>?_)
 ·conv=>whnf
  refine LenQ.M ?_;conv=>whnf
  obtain ⟨o22,HL23,HQ24⟩:=bind_c H
  refine loop_c [6,27] [8,28,29,30,31,32,33,34] [8,28,29,30,31,32,33,34] (fun n vals st=>(∃ y26,p_slices_Concat_byte_l2  a0 (a0.length:Int) n [] y26=some o22∧vals=[.sl (List.map V.y8 []) true,.i y26]∧st=[])∨(∃ y30 y31,p_slices_Concat_byte_l2  a0 (a0.length:Int) n y30 y31=some o22∧vals=[.osl 0 0 (List.length y30) 1 false,.i y31]∧st=[.live (cellsM V.y8 y30) (cellsM V.y8 y30).length])) fuel 0 [] (.inl (⟨_,HL23,rfl,rfl⟩)) (Nat.zero_le _) rfl (by kernel_rfl) (by kernel_rfl) rfl trivial ?_
  rintro (_ | n25) _ _ (⟨y26,H,rfl,rfl⟩ | ⟨y30,y31,H,rfl,rfl⟩)
  ·rw [p_slices_Concat_byte_l2] at H;cases H
  ·rw [p_slices_Concat_byte_l2] at H;cases H
  ·rw [p_slices_Concat_byte_l2] at H
   conv=>whnf
   refine tst_d H (fun b27 H=>?_) (fun b27 H=>?_)
   ·conv=>whnf
    obtain rfl:=Option.some.inj H
    have H:=HQ24
    try dsimp only at H
    refine finR_c (enc:=(fun l:List Int=>V.sl (l.map V.y8) false)) H ?_;conv=>whnf
    exact ⟨_,.v (.c (.slw))⟩
   conv=>whnf
   refine ixs_c (f:=(fun l:List Int=>V.sl (l.map V.y8) false)) H (fun _=>rfl) (fun x28 H=>?_);conv=>whnf
   refine appE_c (f:=V.y8) H (fun _=>rfl) rfl (.v (srcM (f:=V.y8) (fun _=>rfl) _ _)) (by decide) rfl (fun H=>?_) (fun l29 H=>?_)
   ·conv=>whnf
    refine Ari.w ?_;conv=>whnf
    exact again_c [8,28,29,30,31,32,33,34] n25 0 [] (.inl (⟨_,H,rfl,rfl⟩)) (Nat.lt_succ_self _) (Nat.zero_le _) rfl (by kernel_rfl) (by kernel_rfl) rfl trivial
   conv=>whnf
   refine Ari.w ?_;conv=>whnf
   exact again_c [8,28,29,30,31,32,33,34] n25 1 [] (.inr (⟨_,_,H,rfl,rfl⟩)) (Nat.lt_succ_self _) (Nat.zero_le _) rfl (by kernel_rfl) (by kernel_rfl) rfl (wkB_live0 rfl (cellsM_idlt (f:=V.y8) (fun _=>rfl) _) rfl trivial)
  rw [p_slices_Concat_byte_l2] at H
  conv=>whnf
  refine tst_d H (fun b32 H=>?_) (fun b32 H=>?_)
  ·conv=>whnf
   obtain rfl:=Option.some.inj H
   have H:=HQ24
   try dsimp only at H
   refine finR_c (enc:=(fun l:List Int=>V.sl (l.map V.y8) false)) H ?_;conv=>whnf
   exact ⟨_,.v (.c (fzown (f:=V.y8) (l:=y30) rfl rfl (fun _=>rfl) (fun _=>rfl)))⟩
  conv=>whnf
  refine ixs_c (f:=(fun l:List Int=>V.sl (l.map V.y8) false)) H (fun _=>rfl) (fun x33 H=>?_);conv=>whnf
  refine appP_c (f:=V.y8) H (fun _=>rfl) rfl rfl (.v (srcM (f:=V.y8) (fun _=>rfl) _ _)) (by decide) rfl (fun l34 H=>?_) (fun l34 H=>?_)
  ·conv=>whnf
   refine Ari.w ?_;conv=>whnf
   exact again_c [8,28,29,30,31,32,33,34] n25 1 [] (.inr (⟨_,_,H,rfl,rfl⟩)) (Nat.lt_succ_self _) (Nat.zero_le _) rfl (by kernel_rfl) (by kernel_rfl) rfl (wkB_live0 rfl (cellsM_idlt (f:=V.y8) (fun _=>rfl) _) rfl trivial)
  conv=>whnf
  refine Ari.w ?_;conv=>whnf
  exact again_c [8,28,29,30,31,32,33,34] n25 1 [1] (.inr (⟨_,_,H,rfl,rfl⟩)) (Nat.lt_succ_self _) (Nat.zero_le _) rfl (by kernel_rfl) (by kernel_rfl) rfl (wkB_live0 rfl (cellsM_idlt (f:=V.y8) (fun _=>rfl) _) rfl trivial)
 conv=>whnf
 refine LenQ.M ?_;conv=>whnf
 obtain ⟨o12,HL13,HQ14⟩:=bind_c H
 refine loop_c [6,27] [8,28,29,30,31,32,33,34,24] [8,28,29,30,31,32,33,34,24] (fun n vals st=>(∃ y16 y17,p_slices_Concat_byte_l2  a0 (a0.length:Int) n y16 y17=some o12∧vals=[.osl 0 0 (List.length y16) 1 false,.i y17]∧st=[.live (cellsM V.y8 y16) (cellsM V.y8 y16).length])) fuel 1 [] (⟨_,_,HL13,rfl,rfl⟩) (Nat.zero_le _) rfl (by kernel_rfl) (by kernel_rfl) rfl (wkB_live0 rfl (cellsM_idlt (f:=V.y8) (fun _=>rfl) _) rfl trivial) ?_
 rintro (_ | n15) _ _ (⟨y16,y17,H,rfl,rfl⟩)
 ·rw [p_slices_Concat_byte_l2] at H;cases H
 rw [p_slices_Concat_byte_l2] at H
 conv=>whnf
 refine tst_d H (fun b18 H=>?_) (fun b18 H=>?_)
 ·conv=>whnf
  obtain rfl:=Option.some.inj H
  have H:=HQ14
  try dsimp only at H
  refine finR_c (enc:=(fun l:List Int=>V.sl (l.map V.y8) false)) H ?_;conv=>whnf
  exact ⟨_,.v (.c (fzown (f:=V.y8) (l:=y16) rfl rfl (fun _=>rfl) (fun _=>rfl)))⟩
 conv=>whnf
 refine ixs_c (f:=(fun l:List Int=>V.sl (l.map V.y8) false)) H (fun _=>rfl) (fun x19 H=>?_);conv=>whnf
 refine appP_c (f:=V.y8) H (fun _=>rfl) rfl rfl (.v (srcM (f:=V.y8) (fun _=>rfl) _ _)) (by decide) rfl (fun l20 H=>?_) (fun l20 H=>?_)
 ·conv=>whnf
  refine Ari.w ?_;conv=>whnf
  exact again_c [8,28,29,30,31,32,33,34,24] n15 1 [] (⟨_,_,H,rfl,rfl⟩) (Nat.lt_succ_self _) (Nat.zero_le _) rfl (by kernel_rfl) (by kernel_rfl) rfl (wkB_live0 rfl (cellsM_idlt (f:=V.y8) (fun _=>rfl) _) rfl trivial)
 conv=>whnf
 refine Ari.w ?_;conv=>whnf
 exact again_c [8,28,29,30,31,32,33,34,24] n15 1 [1] (⟨_,_,H,rfl,rfl⟩) (Nat.lt_succ_self _) (Nat.zero_le _) rfl (by kernel_rfl) (by kernel_rfl) rfl (wkB_live0 rfl (cellsM_idlt (f:=V.y8) (fun _=>rfl) _) rfl trivial)
end Go.Proofs.Ytpmoioopjbfhkaa

/- That the program's functions yield what the plain ones tell (written by a program of mine). -/
namespace Go.Proofs.Ytpmoioopjbfhkaa
open Go.RowKit
set_option maxRecDepth 100000
set_option maxHeartbeats 4000000
def gc23:BCode:=(.seq (.reg 1 [⟨(some 1),.bx (.tmp 0),none,0⟩,⟨(some 2),.mv (.const (.string ⟨#[]⟩)),none,1⟩,⟨(some 3),.mv (.const (.int .i64 0)),none,1⟩] none 0 []) (.seq (.seq (.reg 0 [⟨(some 12),.ld 5 true (.tmp 1),none,0⟩,⟨(some 13),.cl 25 [(.tmp 12)],none,0⟩,⟨(some 4),.mv (.tmp 13),none,0⟩] none 0 []) (.seq (.reg 0 [⟨(some 14),.mv (.tmp 4),none,0⟩,⟨(some 15),.bin .neq (.tmp 14) (.const (.int .i64 0)),none,0⟩] none 0 []) (.cond (.tmp 15) (.seq (.reg 0 [⟨(some 16),.mv (.tmp 4),none,0⟩,⟨(some 2),.mv (.const (.string ⟨#[]⟩)),none,0⟩,⟨(some 3),.mv (.tmp 16),none,0⟩] none 0 []) .ret) .skip))) (.seq (.reg 0 [⟨(some 17),.fa 2 (.tmp 1),none,0⟩,⟨(some 18),.ld 1 false (.tmp 17),none,0⟩,⟨(some 5),.mv (.tmp 18),none,0⟩] none 0 []) (.seq (.seq (.reg 0 [⟨(some 19),.fa 4 (.tmp 1),none,0⟩,⟨(some 20),.ld 1 false (.tmp 19),none,0⟩] none 0 []) (.cond (.tmp 20) (.reg 0 [⟨(some 21),.mv (.tmp 5),none,0⟩,⟨(some 22),.bin .or (.tmp 21) (.const (.int .i64 16)),none,0⟩,⟨(some 5),.mv (.tmp 22),none,0⟩] none 0 []) .skip)) (.seq (.reg 0 [⟨(some 24),.fa 0 (.tmp 1),none,0⟩,⟨(some 25),.ld 1 false (.tmp 24),none,0⟩,⟨(some 26),.cl 55 [(.tmp 25),(.const (.int .i64 33))],none,0⟩,⟨(some 23),.mv (.tmp 26),none,0⟩,⟨(some 27),.ex (.tmp 23) 0,none,0⟩,⟨(some 28),.ex (.tmp 23) 1,none,0⟩,⟨(some 6),.mv (.tmp 27),none,0⟩,⟨(some 7),.mv (.tmp 28),none,0⟩] none 0 []) (.seq (.reg 0 [⟨(some 30),.fa 1 (.tmp 1),none,0⟩,⟨(some 31),.ld 1 false (.tmp 30),none,0⟩,⟨(some 32),.cl 55 [(.tmp 31),(.const (.int .i64 24))],none,0⟩,⟨(some 29),.mv (.tmp 32),none,0⟩,⟨(some 33),.ex (.tmp 29) 0,none,0⟩,⟨(some 34),.ex (.tmp 29) 1,none,0⟩,⟨(some 8),.mv (.tmp 33),none,0⟩,⟨(some 9),.mv (.tmp 34),none,0⟩] none 0 []) (.seq (.reg 0 [⟨(some 36),.fa 3 (.tmp 1),none,0⟩,⟨(some 37),.ld 1 false (.tmp 36),none,0⟩,⟨(some 38),.cl 56 [(.tmp 37),(.const (.int .i64 6))],none,0⟩,⟨(some 35),.mv (.tmp 38),none,0⟩,⟨(some 39),.ex (.tmp 35) 0,none,0⟩,⟨(some 40),.ex (.tmp 35) 1,none,0⟩,⟨(some 10),.mv (.tmp 39),none,0⟩,⟨(some 11),.mv (.tmp 40),none,0⟩] none 0 []) (.seq (.reg 2 [⟨(some 41),.mv (.tmp 6),none,0⟩,⟨(some 42),.mv (.tmp 8),none,0⟩,⟨(some 43),.mv (.tmp 5),none,0⟩,⟨(some 44),.cvi .u8 (.tmp 43),none,0⟩,⟨(some 45),.bs 1 1 [(.lit (.int .u8 0))] [(0,(.tmp 44))],none,0⟩,⟨(some 46),.mv (.tmp 10),none,1⟩,⟨(some 47),.bs 1 4 [(.sl [] true),(.sl [] true),(.sl [] true),(.sl [] true)] [(0,(.tmp 41)),(1,(.tmp 42)),(2,(.tmp 45)),(3,(.tmp 46))],none,1⟩,⟨(some 48),.cl 57 [(.tmp 47)],none,2⟩,⟨(some 49),.b2s (.tmp 48),none,2⟩,⟨(some 2),.mv (.tmp 49),none,2⟩,⟨(some 3),.mv (.const (.int .i64 0)),none,2⟩] none 0 []) .ret))))))))
theorem gc23_ok:compF Try.prog Try.f23=some (gc23.er,50,[.tmp 2,.tmp 3]):=by unfold gc23;kernel_rfl
theorem p_item_Put_v (a0:ItemItem):CallsO Try.prog 23 [.agg [.s a0.Contact,.s a0.Name,.i a0.Sub,.i a0.Ver,.b a0.Own]] (fun r:ByteArray × Int=>.tup [V.s r.1,V.i r.2]) (p_item_Put a0):=by
 refine callsO_comp mix Try.func23 gc23_ok fun r H=>?_
 rw [p_item_Put] at H
 conv=>whnf
 refine ask_c (p_item_Check_v _) H rfl rfl (fun v1 H=>?_);conv=>whnf
 refine tst_c H (fun b2 H=>?_) (fun b2 H=>?_)
 ·conv=>whnf
  exact fin0_c (enc:=(fun r:ByteArray × Int=>.tup [V.s r.1,V.i r.2])) H (.inr rfl) (.cons (.tmp rfl) (.cons (.tmp rfl) (.nil))) rfl rfl
 conv=>whnf
 refine tst_d H (fun b3 H=>?_) (fun b3 H=>?_)
 ·conv=>whnf
  refine ask_c (p_octet_Say_v _ _) H rfl rfl (fun v9 H=>?_);conv=>whnf
  refine ask_c (p_octet_Say_v _ _) H rfl rfl (fun v10 H=>?_);conv=>whnf
  refine ask_c (p_octet_Lay_v _ _) H rfl rfl (fun v11 H=>?_);conv=>whnf
  refine Ari.w ?_;conv=>whnf
  refine askF_c (p_slices_Concat_byte_v _) H (.cons (fzdeep (g:=(fun l:List Int=>V.sl (l.map V.y8) false)) (l:=[v9.1,v10.1,[IntKind.wrap .u8 a0.Sub],v11.1]) rfl rfl rfl rfl (fun _=>rfl) (fun _ _ h=>by rcases List.mem_singleton.1 h with rfl;rfl) (.cons (.id rfl) (.cons (.id rfl) (.cons (fzown (f:=V.y8) (l:=[IntKind.wrap .u8 a0.Sub]) rfl rfl (fun _=>rfl) (fun _=>rfl)) (.cons (.id rfl) (.nil)))))) (.nil)) (fun v12 H=>?_);conv=>whnf
  refine b2sI_c H (fun s13 H=>?_);conv=>whnf
  exact fin0_c (enc:=(fun r:ByteArray × Int=>.tup [V.s r.1,V.i r.2])) H (.inr rfl) (.cons (.tmp rfl) (.cons (.tmp rfl) (.nil))) rfl rfl
 conv=>whnf
 refine ask_c (p_octet_Say_v _ _) H rfl rfl (fun v4 H=>?_);conv=>whnf
 refine ask_c (p_octet_Say_v _ _) H rfl rfl (fun v5 H=>?_);conv=>whnf
 refine ask_c (p_octet_Lay_v _ _) H rfl rfl (fun v6 H=>?_);conv=>whnf
 refine Ari.w ?_;conv=>whnf
 refine askF_c (p_slices_Concat_byte_v _) H (.cons (fzdeep (g:=(fun l:List Int=>V.sl (l.map V.y8) false)) (l:=[v4.1,v5.1,[IntKind.wrap .u8 (orI .i64 a0.Sub (16:Int))],v6.1]) rfl rfl rfl rfl (fun _=>rfl) (fun _ _ h=>by rcases List.mem_singleton.1 h with rfl;rfl) (.cons (.id rfl) (.cons (.id rfl) (.cons (fzown (f:=V.y8) (l:=[IntKind.wrap .u8 (orI .i64 a0.Sub (16:Int))]) rfl rfl (fun _=>rfl) (fun _=>rfl)) (.cons (.id rfl) (.nil)))))) (.nil)) (fun v7 H=>?_);conv=>whnf
 refine b2sI_c H (fun s8 H=>?_);conv=>whnf
 exact fin0_c (enc:=(fun r:ByteArray × Int=>.tup [V.s r.1,V.i r.2])) H (.inr rfl) (.cons (.tmp rfl) (.cons (.tmp rfl) (.nil))) rfl rfl
def gc58:BCode:=(.seq (.reg 1 [⟨(some 2),.al (.agg [(.lit (.string ⟨#[]⟩)),(.lit (.int .i64 0)),(.lit (.int .i64 0))]),none,0⟩] none 0 []) (.seq (.reg 0 [⟨(some 3),.mv (.tmp 0),none,0⟩,⟨(some 4),.bd [(.lit (.string ⟨#[]⟩)),(.lit (.int .i64 0)),(.lit (.int .i64 0))] [(0,1,(.tmp 3))],none,0⟩,⟨none,.st 3 (.tmp 2) (.tmp 4),none,0⟩] none 0 []) .ret))
theorem gc58_ok:compF Try.prog Try.f58=some (gc58.er,5,[.cell 2 3 true]):=by unfold gc58;kernel_rfl
theorem p_octet_Open_v (a0:ByteArray):CallsO Try.prog 58 [.s a0] OctetRead.v (p_octet_Open a0):=by
 refine callsO_comp mix Try.func58 gc58_ok fun r H=>?_
 rw [p_octet_Open] at H
 conv=>whnf
 refine ⟨Nat.le_of_ble_eq_true rfl,?_⟩;conv=>whnf
 exact fin0_c (enc:=OctetRead.v) H (.inr rfl) (.cons (.cell rfl rfl (Nat.le_of_ble_eq_true rfl)) (.nil)) rfl rfl
def gc106:BCode:=(.seq (.reg 1 [⟨(some 1),.bx (.tmp 0),none,0⟩,⟨(some 2),.mv (.const (.int .i64 0)),none,1⟩] none 0 []) (.seq (.seq (.reg 0 [⟨(some 3),.fa 2 (.tmp 1),none,0⟩,⟨(some 4),.ld 1 false (.tmp 3),none,0⟩,⟨(some 5),.bin .eql (.tmp 4) (.const (.int .i64 0)),none,0⟩,⟨(some 6),.mv (.tmp 5),none,0⟩,⟨(some 7),.fa 1 (.tmp 1),(some (6,true)),0⟩,⟨(some 8),.ld 1 false (.tmp 7),(some (6,true)),0⟩,⟨(some 9),.bin .lss (.tmp 8) (.const (.int .i64 0)),(some (6,true)),0⟩,⟨(some 10),.mv (.tmp 9),(some (6,true)),0⟩,⟨(some 11),.fa 1 (.tmp 1),(some (10,false)),0⟩,⟨(some 12),.ld 1 false (.tmp 11),(some (10,false)),0⟩,⟨(some 13),.fa 0 (.tmp 1),(some (10,false)),0⟩,⟨(some 14),.ld 1 false (.tmp 13),(some (10,false)),0⟩,⟨(some 15),.lent (.tmp 14),(some (10,false)),0⟩,⟨(some 16),.bin .gtr (.tmp 12) (.tmp 15),(some (10,false)),0⟩,⟨(some 17),.pick (.tmp 10) (.const (.bool true)) (.tmp 16),(some (6,true)),0⟩,⟨(some 18),.pick (.tmp 6) (.tmp 17) (.const (.bool false)),none,0⟩] none 0 []) (.cond (.tmp 18) (.seq (.reg 0 [⟨(some 2),.mv (.const (.int .i64 2)),none,0⟩] none 0 []) .ret) .skip)) (.seq (.reg 0 [⟨(some 19),.fa 2 (.tmp 1),none,0⟩,⟨(some 20),.ld 1 false (.tmp 19),none,0⟩,⟨(some 2),.mv (.tmp 20),none,0⟩] none 0 []) .ret)))
theorem gc106_ok:compF Try.prog Try.f106=some (gc106.er,21,[.tmp 2]):=by unfold gc106;kernel_rfl
theorem p_octet_Read_fault_v (a0:OctetRead):CallsO Try.prog 106 [.agg [.s a0.S,.i a0.At,.i a0.Bad]] V.i (p_octet_Read_fault a0):=by
 refine callsO_comp mix Try.func106 gc106_ok fun r H=>?_
 rw [p_octet_Read_fault] at H
 conv=>whnf
 refine tst_d H (fun b1 H=>?_) (fun b1 H=>?_)
 ·conv=>whnf
  iterate 6 (refine Tst.F ?_;conv=>whnf)
  exact fi_ H
 conv=>whnf
 iterate 3 (refine Tst.T ?_;conv=>whnf)
 refine tst_c H (fun b2 H=>?_) (fun b2 H=>?_)
 ·conv=>whnf
  iterate 9 (refine Tst.T ?_;conv=>whnf)
  exact fi_ H
 conv=>whnf
 iterate 5 (refine Tst.F ?_;conv=>whnf)
 refine Tst.T ?_;conv=>whnf
 refine Tst.F ?_;conv=>whnf
 refine Tst.T ?_;conv=>whnf
 refine tst_c H (fun b3 H=>?_) (fun b3 H=>?_)
 ·conv=>whnf
  exact fi_ H
 conv=>whnf
 exact fi_ H
def gc104:BCode:=(.seq (.reg 2 [⟨(some 2),.bx (.tmp 0),none,0⟩,⟨(some 4),.al (.agg [(.lit (.string ⟨#[]⟩)),(.lit (.int .i64 0)),(.lit (.int .i64 0))]),none,1⟩] none 0 []) (.seq (.reg 0 [⟨(some 5),.mv (.tmp 1),none,0⟩,⟨(some 6),.fa 2 (.tmp 2),none,0⟩,⟨none,.st 1 (.tmp 6) (.tmp 5),none,0⟩] none 0 []) (.seq (.reg 0 [⟨(some 7),.ld 3 true (.tmp 2),none,0⟩,⟨none,.st 3 (.tmp 4) (.tmp 7),none,0⟩] none 0 []) .ret)))
theorem gc104_ok:compF Try.prog Try.f104=some (gc104.er,8,[.cell 4 3 true]):=by unfold gc104;kernel_rfl
theorem p_octet_Read_fail_v (a0:OctetRead) (a1:Int):CallsO Try.prog 104 [.agg [.s a0.S,.i a0.At,.i a0.Bad],.i a1] OctetRead.v (p_octet_Read_fail a0 a1):=by
 refine callsO_comp mix Try.func104 gc104_ok fun r H=>?_
 rw [p_octet_Read_fail] at H
 conv=>whnf
 refine ⟨Nat.le_of_ble_eq_true rfl,?_⟩;conv=>whnf
 refine ⟨Nat.le_of_ble_eq_true rfl,?_⟩;conv=>whnf
 exact fin0_c (enc:=OctetRead.v) H (.inr rfl) (.cons (.cell rfl rfl (Nat.le_of_ble_eq_true rfl)) (.nil)) rfl rfl
def gc105:BCode:=(.seq (.reg 1 [⟨(some 1),.bx (.tmp 0),none,0⟩,⟨(some 2),.mv (.const (.int .i64 0)),none,1⟩] none 0 []) (.seq (.seq (.reg 0 [⟨(some 3),.ld 3 true (.tmp 1),none,0⟩,⟨(some 4),.cl 106 [(.tmp 3)],none,0⟩,⟨(some 5),.bin .neq (.tmp 4) (.const (.int .i64 0)),none,0⟩] none 0 []) (.cond (.tmp 5) (.seq (.reg 0 [⟨(some 2),.mv (.const (.int .i64 0)),none,0⟩] none 0 []) .ret) .skip)) (.seq (.reg 0 [⟨(some 6),.fa 0 (.tmp 1),none,0⟩,⟨(some 7),.ld 1 false (.tmp 6),none,0⟩,⟨(some 8),.lent (.tmp 7),none,0⟩,⟨(some 9),.fa 1 (.tmp 1),none,0⟩,⟨(some 10),.ld 1 false (.tmp 9),none,0⟩,⟨(some 11),.bin .sub (.tmp 8) (.tmp 10),none,0⟩,⟨(some 2),.mv (.tmp 11),none,0⟩] none 0 []) .ret)))
theorem gc105_ok:compF Try.prog Try.f105=some (gc105.er,12,[.tmp 2]):=by unfold gc105;kernel_rfl
theorem p_octet_Left_v (a0:OctetRead):CallsO Try.prog 105 [.agg [.s a0.S,.i a0.At,.i a0.Bad]] V.i (p_octet_Left a0):=by
 refine callsO_comp mix Try.func105 gc105_ok fun r H=>?_
 rw [p_octet_Left] at H
 conv=>whnf
 refine ask_c (p_octet_Read_fault_v _) H rfl rfl (fun v1 H=>?_);conv=>whnf
 refine tst_c H (fun b2 H=>?_) (fun b2 H=>?_)
 ·conv=>whnf
  exact fi_ H
 conv=>whnf
 refine Ari.w ?_;conv=>whnf
 exact fi_ H
def gc60:BCode:=(.seq (.reg 2 [⟨(some 2),.bx (.tmp 0),none,0⟩,⟨(some 4),.al (.agg [(.lit (.string ⟨#[]⟩)),(.lit (.int .i64 0)),(.lit (.int .i64 0))]),none,1⟩,⟨(some 5),.mv (.const (.int .i64 0)),none,2⟩] none 0 []) (.seq (.seq (.reg 0 [⟨(some 10),.ld 3 true (.tmp 2),none,0⟩,⟨(some 11),.cl 106 [(.tmp 10)],none,0⟩,⟨(some 6),.mv (.tmp 11),none,0⟩] none 0 []) (.seq (.reg 0 [⟨(some 12),.mv (.tmp 6),none,0⟩,⟨(some 13),.bin .neq (.tmp 12) (.const (.int .i64 0)),none,0⟩] none 0 []) (.cond (.tmp 13) (.seq (.reg 0 [⟨(some 14),.ld 3 true (.tmp 2),none,0⟩,⟨(some 15),.mv (.tmp 6),none,0⟩,⟨(some 16),.cl 104 [(.tmp 14),(.tmp 15)],none,0⟩,⟨none,.st 3 (.tmp 4) (.tmp 16),none,0⟩,⟨(some 5),.mv (.const (.int .i64 0)),none,0⟩] none 0 []) .ret) .skip))) (.seq (.seq (.reg 0 [⟨(some 17),.mv (.tmp 1),none,0⟩,⟨(some 18),.cl 102 [(.tmp 17)],none,0⟩,⟨(some 19),.un .not (.tmp 18),none,0⟩] none 0 []) (.cond (.tmp 19) (.seq (.reg 0 [⟨(some 20),.ld 3 true (.tmp 2),none,0⟩,⟨(some 21),.cl 104 [(.tmp 20),(.const (.int .i64 2))],none,0⟩,⟨none,.st 3 (.tmp 4) (.tmp 21),none,0⟩,⟨(some 5),.mv (.const (.int .i64 0)),none,0⟩] none 0 []) .ret) .skip)) (.seq (.seq (.reg 0 [⟨(some 22),.ld 3 true (.tmp 2),none,0⟩,⟨(some 23),.cl 105 [(.tmp 22)],none,0⟩,⟨(some 24),.mv (.tmp 1),none,0⟩,⟨(some 25),.bin .lss (.tmp 23) (.tmp 24),none,0⟩] none 0 []) (.cond (.tmp 25) (.seq (.reg 0 [⟨(some 26),.ld 3 true (.tmp 2),none,0⟩,⟨(some 27),.cl 104 [(.tmp 26),(.const (.int .i64 3))],none,0⟩,⟨none,.st 3 (.tmp 4) (.tmp 27),none,0⟩,⟨(some 5),.mv (.const (.int .i64 0)),none,0⟩] none 0 []) .ret) .skip)) (.seq (.reg 0 [⟨(some 7),.mv (.const (.int .i64 0)),none,0⟩] none 0 []) (.seq (.seq (.reg 1 [⟨(some 28),.fa 0 (.tmp 2),none,0⟩,⟨(some 29),.ld 1 false (.tmp 28),none,0⟩,⟨(some 30),.fa 1 (.tmp 2),none,0⟩,⟨(some 31),.ld 1 false (.tmp 30),none,0⟩,⟨(some 32),.fa 1 (.tmp 2),none,0⟩,⟨(some 33),.ld 1 false (.tmp 32),none,0⟩,⟨(some 34),.mv (.tmp 1),none,0⟩,⟨(some 35),.bin .add (.tmp 33) (.tmp 34),none,0⟩,⟨(some 36),.slt (.tmp 29) (some (.tmp 31)) (some (.tmp 35)),none,0⟩,⟨(some 37),.s2b (.tmp 36),none,0⟩,⟨(some 38),.lens (.tmp 37),none,1⟩,⟨(some 39),.mv (.const (.int .i64 0)),none,1⟩] none 0 []) (.block 0 (.loop (.seq (.reg 0 [⟨(some 40),.bin .lss (.tmp 39) (.tmp 38),none,0⟩] none 0 []) (.seq (.cond (.tmp 40) .skip (.exit 0)) (.seq (.block 1 (.seq (.reg 0 [⟨(some 41),.ixs 1 (.tmp 37) (.tmp 39),none,0⟩,⟨(some 42),.ld 1 false (.tmp 41),none,0⟩,⟨(some 9),.mv (.tmp 42),none,0⟩] none 0 []) (.reg 0 [⟨(some 43),.mv (.tmp 7),none,0⟩,⟨(some 44),.bin .shl (.tmp 43) (.const (.int .u64 8)),none,0⟩,⟨(some 45),.mv (.tmp 9),none,0⟩,⟨(some 46),.cvi .i64 (.tmp 45),none,0⟩,⟨(some 47),.bin .or (.tmp 44) (.tmp 46),none,0⟩,⟨(some 7),.mv (.tmp 47),none,0⟩] none 0 []))) (.reg 0 [⟨(some 48),.bin .add (.tmp 39) (.const (.int .i64 1)),none,0⟩,⟨(some 39),.mv (.tmp 48),none,0⟩] none 0 []))))))) (.seq (.reg 0 [⟨(some 49),.fa 1 (.tmp 2),none,0⟩,⟨(some 50),.ld 1 false (.tmp 49),none,0⟩,⟨(some 51),.mv (.tmp 1),none,0⟩,⟨(some 52),.bin .add (.tmp 50) (.tmp 51),none,0⟩,⟨(some 53),.fa 1 (.tmp 2),none,0⟩,⟨none,.st 1 (.tmp 53) (.tmp 52),none,0⟩] none 0 []) (.seq (.reg 0 [⟨(some 54),.ld 3 true (.tmp 2),none,0⟩,⟨(some 55),.mv (.tmp 7),none,0⟩,⟨none,.st 3 (.tmp 4) (.tmp 54),none,0⟩,⟨(some 5),.mv (.tmp 55),none,0⟩] none 0 []) .ret))))))))
theorem gc60_ok:compF Try.prog Try.f60=some (gc60.er,56,[.cell 4 3 true,.tmp 5]):=by unfold gc60;kernel_rfl
theorem p_octet_Num_v (a0:OctetRead) (a1:Int):CallsO Try.prog 60 [.agg [.s a0.S,.i a0.At,.i a0.Bad],.i a1] (fun r:OctetRead × Int=>.tup [OctetRead.v r.1,V.i r.2]) (p_octet_Num a0 a1):=by
 refine callsO_comp mix Try.func60 gc60_ok fun r H=>?_
 rw [p_octet_Num] at H
 conv=>whnf
 refine ask_c (p_octet_Read_fault_v _) H rfl rfl (fun v1 H=>?_);conv=>whnf
 refine tst_c H (fun b2 H=>?_) (fun b2 H=>?_)
 ·conv=>whnf
  refine ask_c (p_octet_Read_fail_v _ _) H rfl rfl (fun v3 H=>?_);conv=>whnf
  refine ⟨Nat.le_of_ble_eq_true rfl,?_⟩;conv=>whnf
  exact fin0_c (enc:=(fun r:OctetRead × Int=>.tup [OctetRead.v r.1,V.i r.2])) H (.inr rfl) (.cons (.cell rfl rfl (Nat.le_of_ble_eq_true rfl)) (.cons (.tmp rfl) (.nil))) rfl rfl
 conv=>whnf
 refine ask_c (p_octet_wide_v _) H rfl rfl (fun v4 H=>?_);conv=>whnf
 refine Tst.not ?_
 refine tst_d H (fun b5 H=>?_) (fun b5 H=>?_)
 ·conv=>whnf
  refine ask_c (p_octet_Read_fail_v _ _) H rfl rfl (fun v19 H=>?_);conv=>whnf
  refine ⟨Nat.le_of_ble_eq_true rfl,?_⟩;conv=>whnf
  exact fin0_c (enc:=(fun r:OctetRead × Int=>.tup [OctetRead.v r.1,V.i r.2])) H (.inr rfl) (.cons (.cell rfl rfl (Nat.le_of_ble_eq_true rfl)) (.cons (.tmp rfl) (.nil))) rfl rfl
 conv=>whnf
 refine ask_c (p_octet_Left_v _) H rfl rfl (fun v6 H=>?_);conv=>whnf
 refine tst_c H (fun b7 H=>?_) (fun b7 H=>?_)
 ·conv=>whnf
  refine ask_c (p_octet_Read_fail_v _ _) H rfl rfl (fun v8 H=>?_);conv=>whnf
  refine ⟨Nat.le_of_ble_eq_true rfl,?_⟩;conv=>whnf
  exact fin0_c (enc:=(fun r:OctetRead × Int=>.tup [OctetRead.v r.1,V.i r.2])) H (.inr rfl) (.cons (.cell rfl rfl (Nat.le_of_ble_eq_true rfl)) (.cons (.tmp rfl) (.nil))) rfl rfl
 conv=>whnf
 refine Ari.w ?_;conv=>whnf
 refine slt_c H (fun s9 H=>?_);conv=>whnf
 rw [bytesI_V]
 refine LenQ.M ?_;conv=>whnf
 obtain ⟨o11,HL12,HQ13⟩:=bind_c H
 refine loop_c [7,39] [9,40,41,42,43,44,45,46,47,48,28,30,32] [9,40,41,42,43,44,45,46,47,48,28,30,32] (fun n vals st=>(∃ y15 y16,p_octet_Num_l1  (bytesI s9) ((bytesI s9).length:Int) n y15 y16=some o11∧vals=[.i y15,.i y16]∧st=[.live [.s a0.S,.i a0.At,.i a0.Bad] 0,.live [.s (⟨#[]⟩ : ByteArray),.i (0:Int),.i (0:Int)] 0])) fuel 2 [] (⟨_,_,HL12,rfl,rfl⟩) (Nat.zero_le _) rfl (by kernel_rfl) (by kernel_rfl) rfl ⟨⟨rfl,rfl,rfl⟩,⟨⟨rfl,rfl,rfl⟩,trivial⟩⟩ ?_
 rintro (_ | n14) _ _ (⟨y15,y16,H,rfl,rfl⟩)
 ·rw [p_octet_Num_l1] at H;cases H
 rw [p_octet_Num_l1] at H
 conv=>whnf
 refine tst_d H (fun b17 H=>?_) (fun b17 H=>?_)
 ·conv=>whnf
  obtain rfl:=Option.some.inj H
  have H:=HQ13
  try dsimp only at H
  refine Ari.w ?_;conv=>whnf
  refine ⟨Nat.le_of_ble_eq_true rfl,?_⟩;conv=>whnf
  refine ⟨Nat.le_of_ble_eq_true rfl,?_⟩;conv=>whnf
  exact fin0_c (enc:=(fun r:OctetRead × Int=>.tup [OctetRead.v r.1,V.i r.2])) H (.inr rfl) (.cons (.cell rfl rfl (Nat.le_of_ble_eq_true rfl)) (.cons (.tmp rfl) (.nil))) rfl rfl
 conv=>whnf
 refine ixs_c (f:=V.y8) H (fun _=>rfl) (fun x18 H=>?_);conv=>whnf
 refine Shl.ok (by decide) ?_;conv=>whnf
 iterate 2 (refine Ari.w ?_;conv=>whnf)
 exact again_c [9,40,41,42,43,44,45,46,47,48,28,30,32] n14 2 [] (⟨_,_,H,rfl,rfl⟩) (Nat.lt_succ_self _) (Nat.zero_le _) rfl (by kernel_rfl) (by kernel_rfl) rfl ⟨⟨rfl,rfl,rfl⟩,⟨⟨rfl,rfl,rfl⟩,trivial⟩⟩
def gc59:BCode:=(.seq (.reg 2 [⟨(some 2),.bx (.tmp 0),none,0⟩,⟨(some 4),.al (.agg [(.lit (.string ⟨#[]⟩)),(.lit (.int .i64 0)),(.lit (.int .i64 0))]),none,1⟩,⟨(some 5),.mv (.const (.string ⟨#[]⟩)),none,2⟩] none 0 []) (.seq (.reg 1 [⟨(some 10),.ld 3 true (.tmp 2),none,0⟩,⟨(some 11),.cl 60 [(.tmp 10),(.const (.int .i64 1))],none,0⟩,⟨(some 9),.mv (.tmp 11),none,0⟩,⟨(some 12),.ex (.tmp 9) 0,none,0⟩,⟨(some 13),.ex (.tmp 9) 1,none,0⟩,⟨(some 6),.al (.agg [(.lit (.string ⟨#[]⟩)),(.lit (.int .i64 0)),(.lit (.int .i64 0))]),none,0⟩,⟨none,.st 3 (.tmp 6) (.tmp 12),none,1⟩,⟨(some 7),.mv (.tmp 13),none,1⟩] none 0 []) (.seq (.block 0 (.seq (.reg 0 [⟨(some 15),.fa 2 (.tmp 6),none,0⟩,⟨(some 16),.ld 1 false (.tmp 15),none,0⟩,⟨(some 17),.bin .neq (.tmp 16) (.const (.int .i64 0)),none,0⟩,⟨(some 14),.mv (.tmp 17),none,0⟩] none 0 []) (.cond (.tmp 14) (.seq (.reg 0 [⟨(some 18),.ld 3 true (.tmp 6),none,0⟩,⟨none,.st 3 (.tmp 4) (.tmp 18),none,0⟩,⟨(some 5),.mv (.const (.string ⟨#[]⟩)),none,0⟩] none 0 []) .ret) (.seq (.reg 0 [⟨(some 20),.mv (.tmp 7),none,0⟩,⟨(some 21),.mv (.tmp 1),none,0⟩,⟨(some 22),.bin .gtr (.tmp 20) (.tmp 21),none,0⟩,⟨(some 19),.mv (.tmp 22),none,0⟩] none 0 []) (.cond (.tmp 19) (.seq (.reg 0 [⟨(some 23),.ld 3 true (.tmp 2),none,0⟩,⟨(some 24),.cl 104 [(.tmp 23),(.const (.int .i64 5))],none,0⟩,⟨none,.st 3 (.tmp 4) (.tmp 24),none,0⟩,⟨(some 5),.mv (.const (.string ⟨#[]⟩)),none,0⟩] none 0 []) .ret) (.seq (.reg 0 [⟨(some 26),.mv (.tmp 7),none,0⟩,⟨(some 27),.ld 3 true (.tmp 6),none,0⟩,⟨(some 28),.cl 105 [(.tmp 27)],none,0⟩,⟨(some 29),.bin .gtr (.tmp 26) (.tmp 28),none,0⟩,⟨(some 25),.mv (.tmp 29),none,0⟩] none 0 []) (.cond (.tmp 25) (.seq (.reg 0 [⟨(some 30),.ld 3 true (.tmp 2),none,0⟩,⟨(some 31),.cl 104 [(.tmp 30),(.const (.int .i64 3))],none,0⟩,⟨none,.st 3 (.tmp 4) (.tmp 31),none,0⟩,⟨(some 5),.mv (.const (.string ⟨#[]⟩)),none,0⟩] none 0 []) .ret) .skip))))))) (.seq (.reg 0 [⟨(some 32),.fa 1 (.tmp 6),none,0⟩,⟨(some 33),.ld 1 false (.tmp 32),none,0⟩,⟨(some 8),.mv (.tmp 33),none,0⟩] none 0 []) (.seq (.reg 0 [⟨(some 34),.fa 1 (.tmp 6),none,0⟩,⟨(some 35),.ld 1 false (.tmp 34),none,0⟩,⟨(some 36),.mv (.tmp 7),none,0⟩,⟨(some 37),.bin .add (.tmp 35) (.tmp 36),none,0⟩,⟨(some 38),.fa 1 (.tmp 6),none,0⟩,⟨none,.st 1 (.tmp 38) (.tmp 37),none,0⟩] none 0 []) (.seq (.reg 0 [⟨(some 39),.ld 3 true (.tmp 6),none,0⟩,⟨(some 40),.fa 0 (.tmp 2),none,0⟩,⟨(some 41),.ld 1 false (.tmp 40),none,0⟩,⟨(some 42),.mv (.tmp 8),none,0⟩,⟨(some 43),.fa 1 (.tmp 6),none,0⟩,⟨(some 44),.ld 1 false (.tmp 43),none,0⟩,⟨(some 45),.slt (.tmp 41) (some (.tmp 42)) (some (.tmp 44)),none,0⟩,⟨none,.st 3 (.tmp 4) (.tmp 39),none,0⟩,⟨(some 5),.mv (.tmp 45),none,0⟩] (some [[],[],[1],[],[],[4],[4,5,3,1,2],[0],[0,7,2,1,3,5,4,6]]) 0 []) .ret))))))
theorem gc59_ok:compF Try.prog Try.f59=some (gc59.er,46,[.cell 4 3 true,.tmp 5]):=by unfold gc59;kernel_rfl
theorem p_octet_Text_v (a0:OctetRead) (a1:Int):CallsO Try.prog 59 [.agg [.s a0.S,.i a0.At,.i a0.Bad],.i a1] (fun r:OctetRead × ByteArray=>.tup [OctetRead.v r.1,V.s r.2]) (p_octet_Text a0 a1):=by
 refine callsO_comp mix Try.func59 gc59_ok fun r H=>?_
 rw [p_octet_Text] at H
 conv=>whnf
 refine ask_c (p_octet_Num_v _ _) H rfl rfl (fun v1 H=>?_);conv=>whnf
 refine ⟨Nat.le_of_ble_eq_true rfl,?_⟩;conv=>whnf
 refine tst_c H (fun b2 H=>?_) (fun b2 H=>?_)
 ·conv=>whnf
  refine ⟨Nat.le_of_ble_eq_true rfl,?_⟩;conv=>whnf
  exact fin0_c (enc:=(fun r:OctetRead × ByteArray=>.tup [OctetRead.v r.1,V.s r.2])) H (.inr rfl) (.cons (.cell rfl rfl (Nat.le_of_ble_eq_true rfl)) (.cons (.tmp rfl) (.nil))) rfl rfl
 conv=>whnf
 refine tst_c H (fun b3 H=>?_) (fun b3 H=>?_)
 ·conv=>whnf
  refine ask_c (p_octet_Read_fail_v _ _) H rfl rfl (fun v4 H=>?_);conv=>whnf
  refine ⟨Nat.le_of_ble_eq_true rfl,?_⟩;conv=>whnf
  exact fin0_c (enc:=(fun r:OctetRead × ByteArray=>.tup [OctetRead.v r.1,V.s r.2])) H (.inr rfl) (.cons (.cell rfl rfl (Nat.le_of_ble_eq_true rfl)) (.cons (.tmp rfl) (.nil))) rfl rfl
 conv=>whnf
 refine ask_c (p_octet_Left_v _) H rfl rfl (fun v5 H=>?_);conv=>whnf
 refine tst_c H (fun b6 H=>?_) (fun b6 H=>?_)
 ·conv=>whnf
  refine ask_c (p_octet_Read_fail_v _ _) H rfl rfl (fun v7 H=>?_);conv=>whnf
  refine ⟨Nat.le_of_ble_eq_true rfl,?_⟩;conv=>whnf
  exact fin0_c (enc:=(fun r:OctetRead × ByteArray=>.tup [OctetRead.v r.1,V.s r.2])) H (.inr rfl) (.cons (.cell rfl rfl (Nat.le_of_ble_eq_true rfl)) (.cons (.tmp rfl) (.nil))) rfl rfl
 conv=>whnf
 refine Ari.w ?_;conv=>whnf
 refine ⟨Nat.le_of_ble_eq_true rfl,?_⟩;conv=>whnf
 refine slt_c H (fun s8 H=>?_);conv=>whnf
 refine ⟨Nat.le_of_ble_eq_true rfl,?_⟩;conv=>whnf
 refine FootQ.mk ⟨rfl,?_⟩;conv=>whnf
 exact fin0_c (enc:=(fun r:OctetRead × ByteArray=>.tup [OctetRead.v r.1,V.s r.2])) H (.inr rfl) (.cons (.cell rfl rfl (Nat.le_of_ble_eq_true rfl)) (.cons (.tmp rfl) (.nil))) rfl rfl
def gc61:BCode:=(.seq (.reg 1 [⟨(some 1),.bx (.tmp 0),none,0⟩,⟨(some 2),.mv (.const (.int .i64 0)),none,1⟩] none 0 []) (.seq (.seq (.reg 0 [⟨(some 4),.ld 3 true (.tmp 1),none,0⟩,⟨(some 5),.cl 106 [(.tmp 4)],none,0⟩,⟨(some 3),.mv (.tmp 5),none,0⟩] none 0 []) (.seq (.reg 0 [⟨(some 6),.mv (.tmp 3),none,0⟩,⟨(some 7),.bin .neq (.tmp 6) (.const (.int .i64 0)),none,0⟩] none 0 []) (.cond (.tmp 7) (.seq (.reg 0 [⟨(some 8),.mv (.tmp 3),none,0⟩,⟨(some 2),.mv (.tmp 8),none,0⟩] none 0 []) .ret) .skip))) (.seq (.seq (.reg 0 [⟨(some 9),.fa 1 (.tmp 1),none,0⟩,⟨(some 10),.ld 1 false (.tmp 9),none,0⟩,⟨(some 11),.fa 0 (.tmp 1),none,0⟩,⟨(some 12),.ld 1 false (.tmp 11),none,0⟩,⟨(some 13),.lent (.tmp 12),none,0⟩,⟨(some 14),.bin .lss (.tmp 10) (.tmp 13),none,0⟩] none 0 []) (.cond (.tmp 14) (.seq (.reg 0 [⟨(some 2),.mv (.const (.int .i64 4)),none,0⟩] none 0 []) .ret) .skip)) (.seq (.reg 0 [⟨(some 2),.mv (.const (.int .i64 0)),none,0⟩] none 0 []) .ret))))
theorem gc61_ok:compF Try.prog Try.f61=some (gc61.er,15,[.tmp 2]):=by unfold gc61;kernel_rfl
theorem p_octet_Done_v (a0:OctetRead):CallsO Try.prog 61 [.agg [.s a0.S,.i a0.At,.i a0.Bad]] V.i (p_octet_Done a0):=by
 refine callsO_comp mix Try.func61 gc61_ok fun r H=>?_
 rw [p_octet_Done] at H
 conv=>whnf
 refine ask_c (p_octet_Read_fault_v _) H rfl rfl (fun v1 H=>?_);conv=>whnf
 refine tst_c H (fun b2 H=>?_) (fun b2 H=>?_)
 ·conv=>whnf
  exact fi_ H
 conv=>whnf
 refine tst_c H (fun b3 H=>?_) (fun b3 H=>?_)
 ·conv=>whnf
  exact fi_ H
 conv=>whnf
 exact fi_ H
end Go.Proofs.Ytpmoioopjbfhkaa

