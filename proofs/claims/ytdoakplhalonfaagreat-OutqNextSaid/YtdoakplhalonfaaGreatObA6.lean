/- A part of the proof: 3 texts joined. -/
import Derived.Test.YtdoakplhalonfaaGreatObA5
import Derived.KernelRfl
import Derived.Test.YtdoakplhalonfaaGreatObA1
set_option linter.all false
namespace Go.Proofs.YtdoakplhalonfaaGreat
open Go.RowKit
def p_pres_named (a0:ByteArray) (a1:ByteArray):Option (Bool) :=
 (p_addr_Resource a1).bind fun v1 =>
 bif (v1 == (0:Int)) then
  (p_addr_IsBare a0).bind fun v3 =>
  some v3
 else
 some false
def p_pres_Key (a0:ByteArray) (a1:ByteArray):Option (ByteArray) :=
 (p_pres_named a0 a1).bind fun v1 =>
 bif v1 then
  (cat? a0 (⟨#[32]⟩ : ByteArray)).bind fun s3 =>
  (cat? s3 a1).bind fun s4 =>
  some s4
 else
 some (⟨#[]⟩ : ByteArray)
def p_book_Row_key (a0:BookRow):Option (ByteArray) :=
 (p_pres_Key a0.User a0.Res).bind fun v1 =>
 some v1
def p_book_Check_1 (a0:BookRow):Option (Bool) :=
 (p_book_Row_key a0).bind fun v1 =>
 some (v1.toList == (⟨#[]⟩ : ByteArray).toList)
def p_slices_IndexFunc_book_Row_l1 (a1:BookRow→Option Bool) (z5:List BookRow) (z6:Int):Nat→Int→Option (Int ⊕ Int)
 | 0,_=>none
 | n + 1,y7 =>
  bif (decide (y7 < z6)) then
   (at? z5 y7).bind fun x9 =>
   (a1 x9).bind fun v10 =>
   bif v10 then
    some (.inl y7)
   else
   p_slices_IndexFunc_book_Row_l1 a1 z5 z6 n (w64 (y7 + (1:Int)))
  else
  some (.inr y7)
def p_slices_IndexFunc_book_Row (a0:List BookRow) (a1:BookRow→Option Bool):Option (Int) :=
 (p_slices_IndexFunc_book_Row_l1 a1 a0 (a0.length:Int) fuel (0:Int)).bind fun o12=>match o12 with
 | .inl q13 =>
  some q13
 | .inr q14 =>
  some (-1:Int)
def p_slices_ContainsFunc_book_Row (a0:List BookRow) (a1:BookRow→Option Bool):Option (Bool) :=
 (p_slices_IndexFunc_book_Row a0 a1).bind fun v1 =>
 some (decide ((0:Int)≤v1))
def p_pres_in (a0:Int) (a1:Int) (a2:Int):Option (Bool) :=
 bif (decide (a1≤a0)) then
  some (decide (a0≤a2))
 else
 some false
def p_pres_Check (a0:PresPres):Option (Int) :=
 (p_pres_in a0.Show (0:Int) (4:Int)).bind fun v1 =>
 bif v1 then
  (p_pres_in a0.Prio (-128:Int) (127:Int)).bind fun v3 =>
  bif v3 then
   (p_pres_in a0.Seq (0:Int) (1099511627776:Int)).bind fun v5 =>
   bif v5 then
    bif a0.On then
     some (0:Int)
    else
    bif ((a0.On == false) && ((a0.Show == (0:Int)) && ((a0.Prio == (0:Int)) && ((a0.Seq == a0.Seq) && true)))) then
     some (0:Int)
    else
    some (4:Int)
   else
   some (8:Int)
  else
  some (8:Int)
 else
 some (8:Int)
def p_book_State_errors_l1 (z5:List BookRow) (z6:Int):Nat→Int→Option (Int ⊕ Int)
 | 0,_=>none
 | n + 1,y7 =>
  bif (decide (y7 < z6)) then
   (at? z5 y7).bind fun x9 =>
   (p_pres_Check x9.P).bind fun v10 =>
   bif (v10 != (0:Int)) then
    some (.inl v10)
   else
   bif x9.P.On then
    p_book_State_errors_l1 z5 z6 n (w64 (y7 + (1:Int)))
   else
   some (.inl (4:Int))
  else
  some (.inr y7)
def p_book_State_errors (a0:BookState):Option (Int) :=
 (p_book_State_errors_l1 a0.Rows (a0.Rows.length:Int) fuel (0:Int)).bind fun o13=>match o13 with
 | .inl q14 =>
  some q14
 | .inr q15 =>
  some (0:Int)
def p_book_State_ordered_1 (a0:BookRow) (c0:BookRow):Option (Bool) :=
 some (a0.P.Seq == c0.P.Seq)
def p_book_State_ordered_l1 (z6:List BookRow) (z7:Int) (z9:BookState):Nat→Int→Option (Bool ⊕ Int)
 | 0,_=>none
 | n + 1,y8 =>
  bif (decide (y8 < z7)) then
   (at? z6 y8).bind fun x11 =>
   bif (decide (x11.P.Seq < (1:Int))) then
    some (.inl false)
   else
   bif (decide (z9.Seq < x11.P.Seq)) then
    some (.inl false)
   else
   bif (decide ((0:Int) < y8)) then
    (at? z9.Rows (w64 (y8 - (1:Int)))).bind fun x15 =>
    (p_book_Row_key x15).bind fun v16 =>
    (p_book_Row_key x11).bind fun v17 =>
    bif (Op.bytesLess v16.toList v17.toList) then
     (cut? z9.Rows none (some y8)).bind fun x19 =>
     (p_slices_ContainsFunc_book_Row x19 (fun x0=>p_book_State_ordered_1 x0 x11)).bind fun v20 =>
     bif v20 then
      some (.inl false)
     else
     p_book_State_ordered_l1 z6 z7 z9 n (w64 (y8 + (1:Int)))
    else
    some (.inl false)
   else
   (cut? z9.Rows none (some y8)).bind fun x22 =>
   (p_slices_ContainsFunc_book_Row x22 (fun x0=>p_book_State_ordered_1 x0 x11)).bind fun v23 =>
   bif v23 then
    some (.inl false)
   else
   p_book_State_ordered_l1 z6 z7 z9 n (w64 (y8 + (1:Int)))
  else
  some (.inr y8)
def p_book_State_ordered (a0:BookState):Option (Bool) :=
 (p_book_State_ordered_l1 a0.Rows (a0.Rows.length:Int) a0 fuel (0:Int)).bind fun o25=>match o25 with
 | .inl q26 =>
  some q26
 | .inr q27 =>
  some true
def p_book_State_many_l1 (z7:ByteArray) (z9:List BookRow) (z10:Int):Nat→Int→Int→Option ((Int × Int))
 | 0,_,_=>none
 | n + 1,y8,y11 =>
  bif (decide (y11 < z10)) then
   (at? z9 y11).bind fun x13 =>
   bif (x13.User.toList == z7.toList) then
    p_book_State_many_l1 z7 z9 z10 n (w64 (y8 + (1:Int))) (w64 (y11 + (1:Int)))
   else
   p_book_State_many_l1 z7 z9 z10 n y8 (w64 (y11 + (1:Int)))
  else
  some (y8,y11)
def p_book_State_many (a0:BookState) (a1:ByteArray):Option (Int) :=
 (p_book_State_many_l1 a1 a0.Rows (a0.Rows.length:Int) fuel (0:Int) (0:Int)).bind fun q16 =>
 some q16.1
def p_book_Check_2 (a0:BookRow) (c0:BookState):Option (Bool) :=
 (p_book_State_many c0 a0.User).bind fun v1 =>
 some (decide ((3:Int) < v1))
def p_book_Check (a0:BookState):Option (Int) :=
 bif (decide ((16:Int) < (a0.Rows.length:Int))) then
  some (5:Int)
 else
 bif (decide (a0.Seq < (0:Int))) then
  some (8:Int)
 else
 bif (decide ((1099511627776:Int) < a0.Seq)) then
  some (8:Int)
 else
 (p_slices_ContainsFunc_book_Row a0.Rows (fun x0=>p_book_Check_1 x0)).bind fun v4 =>
 bif v4 then
  some (11:Int)
 else
 (p_book_State_errors a0).bind fun v6 =>
 bif (v6 != (0:Int)) then
  some v6
 else
 (p_book_State_ordered a0).bind fun v8 =>
 bif v8 then
  (p_slices_ContainsFunc_book_Row a0.Rows (fun x0=>p_book_Check_2 x0 a0)).bind fun v10 =>
  bif v10 then
   some (7:Int)
  else
  some (0:Int)
 else
 some (10:Int)
def p_book_State_find_1 (a0:BookRow) (a1:ByteArray):Option (Int) :=
 (p_book_Row_key a0).bind fun v1 =>
 (p_strings_Compare v1 a1).bind fun v2 =>
 some v2
def p_slices_BinarySearchFunc_book_Row_l1 (a2:BookRow→ByteArray→Option Int) (z8:List BookRow) (z9:ByteArray):Nat→Int→Int→Option ((Int × Int))
 | 0,_,_=>none
 | n + 1,y11,y12 =>
  bif (decide (y11 < y12)) then
   (at? z8 (w64 (shrI .u64 (IntKind.wrap .u64 (w64 (y11 + y12))) (1:Int)))).bind fun x14 =>
   (a2 x14 z9).bind fun v15 =>
   bif (decide (v15 < (0:Int))) then
    p_slices_BinarySearchFunc_book_Row_l1 a2 z8 z9 n (w64 (w64 (shrI .u64 (IntKind.wrap .u64 (w64 (y11 + y12))) (1:Int)) + (1:Int))) y12
   else
   p_slices_BinarySearchFunc_book_Row_l1 a2 z8 z9 n y11 (w64 (shrI .u64 (IntKind.wrap .u64 (w64 (y11 + y12))) (1:Int)))
  else
  some (y11,y12)
def p_slices_BinarySearchFunc_book_Row (a0:List BookRow) (a1:ByteArray) (a2:BookRow→ByteArray→Option Int):Option (Int × Bool) :=
 (p_slices_BinarySearchFunc_book_Row_l1 a2 a0 a1 fuel (0:Int) (a0.length:Int)).bind fun q18 =>
 bif (decide (q18.1 < (a0.length:Int))) then
  (at? a0 q18.1).bind fun x20 =>
  (a2 x20 a1).bind fun v21 =>
  some (q18.1,(v21 == (0:Int)))
 else
 some (q18.1,false)
def p_book_State_find (a0:BookState) (a1:ByteArray):Option (Int × Bool) :=
 (p_slices_BinarySearchFunc_book_Row a0.Rows a1 (fun x0 x1=>p_book_State_find_1 x0 x1)).bind fun v1 =>
 some (v1.1,v1.2)
def p_book_Set (a0:BookState) (a1:ByteArray) (a2:ByteArray) (a3:Int) (a4:Int):Option (BookState × PresPres × Int) :=
 (p_book_Check a0).bind fun v1 =>
 bif (v1 != (0:Int)) then
  some (a0,(PresPres.mk false (0:Int) (0:Int) (0:Int)),v1)
 else
 (p_book_Row_key (BookRow.mk a1 a2 (PresPres.mk true a3 a4 (0:Int)))).bind fun v3 =>
 bif (v3.toList == (⟨#[]⟩ : ByteArray).toList) then
  some (a0,(PresPres.mk false (0:Int) (0:Int) (0:Int)),(11:Int))
 else
 (p_pres_Check (PresPres.mk true a3 a4 (0:Int))).bind fun v5 =>
 bif (v5 != (0:Int)) then
  some (a0,(PresPres.mk false (0:Int) (0:Int) (0:Int)),v5)
 else
 (p_book_Row_key (BookRow.mk a1 a2 (PresPres.mk true a3 a4 (0:Int)))).bind fun v7 =>
 (p_book_State_find a0 v7).bind fun v8 =>
 bif v8.2 then
  bif (decide ((1099511627776:Int)≤a0.Seq)) then
   some (a0,(PresPres.mk false (0:Int) (0:Int) (0:Int)),(9:Int))
  else
  (cut? a0.Rows (some v8.1) none).bind fun x11 =>
  (cut? a0.Rows (some (w64 (v8.1 + (1:Int)))) none).bind fun x12 =>
  (cut? a0.Rows none (some v8.1)).bind fun x13 =>
  (app? x13 [(BookRow.mk a1 a2 (PresPres.mk true a3 a4 (w64 (a0.Seq + (1:Int)))))]).bind fun l14 =>
  (app? l14 x12).bind fun l15 =>
  some ((BookState.mk (w64 (a0.Seq + (1:Int))) l15),(PresPres.mk true a3 a4 (w64 (a0.Seq + (1:Int)))),(0:Int))
 else
 bif (decide ((16:Int)≤(a0.Rows.length:Int))) then
  some (a0,(PresPres.mk false (0:Int) (0:Int) (0:Int)),(7:Int))
 else
 (p_book_State_many a0 a1).bind fun v17 =>
 bif (decide ((3:Int)≤v17)) then
  some (a0,(PresPres.mk false (0:Int) (0:Int) (0:Int)),(7:Int))
 else
 bif (decide ((1099511627776:Int)≤a0.Seq)) then
  some (a0,(PresPres.mk false (0:Int) (0:Int) (0:Int)),(9:Int))
 else
 (cut? a0.Rows (some v8.1) none).bind fun x20 =>
 (cut? a0.Rows none (some v8.1)).bind fun x21 =>
 (app? x21 [(BookRow.mk a1 a2 (PresPres.mk true a3 a4 (w64 (a0.Seq + (1:Int)))))]).bind fun l22 =>
 (app? l22 x20).bind fun l23 =>
 some ((BookState.mk (w64 (a0.Seq + (1:Int))) l23),(PresPres.mk true a3 a4 (w64 (a0.Seq + (1:Int)))),(0:Int))
def p_book_Next (a0:BookState) (a1:ByteArray):Option (BookRow × Bool) :=
 (p_book_Check a0).bind fun v1 =>
 bif (v1 != (0:Int)) then
  some ((BookRow.mk (⟨#[]⟩ : ByteArray) (⟨#[]⟩ : ByteArray) (PresPres.mk false (0:Int) (0:Int) (0:Int))),false)
 else
 (p_book_State_find a0 a1).bind fun v3 =>
 bif v3.2 then
  bif (w64 (v3.1 + (1:Int)) == (a0.Rows.length:Int)) then
   some ((BookRow.mk (⟨#[]⟩ : ByteArray) (⟨#[]⟩ : ByteArray) (PresPres.mk false (0:Int) (0:Int) (0:Int))),false)
  else
  (at? a0.Rows (w64 (v3.1 + (1:Int)))).bind fun x6 =>
  some (x6,true)
 else
 bif (v3.1 == (a0.Rows.length:Int)) then
  some ((BookRow.mk (⟨#[]⟩ : ByteArray) (⟨#[]⟩ : ByteArray) (PresPres.mk false (0:Int) (0:Int) (0:Int))),false)
 else
 (at? a0.Rows v3.1).bind fun x8 =>
 some (x8,true)
def p_pres_Say (a0:ByteArray) (a1:ByteArray) (a2:PresPres):Option (StanzaStanza) :=
 (p_pres_Check a2).bind fun v1 =>
 bif (v1 != (0:Int)) then
  some (StanzaStanza.mk (0:Int) (⟨#[]⟩ : ByteArray) (⟨#[]⟩ : ByteArray) (⟨#[]⟩ : ByteArray) (0:Int) (0:Int) (0:Int) (0:Int))
 else
 (p_pres_named a0 a1).bind fun v3 =>
 bif v3 then
  bif a2.On then
   some (StanzaStanza.mk (34:Int) a0 a1 (⟨#[]⟩ : ByteArray) a2.Show a2.Prio (0:Int) a2.Seq)
  else
  some (StanzaStanza.mk (35:Int) a0 a1 (⟨#[]⟩ : ByteArray) (0:Int) (0:Int) (0:Int) a2.Seq)
 else
 some (StanzaStanza.mk (0:Int) (⟨#[]⟩ : ByteArray) (⟨#[]⟩ : ByteArray) (⟨#[]⟩ : ByteArray) (0:Int) (0:Int) (0:Int) (0:Int))
def p_slices_Index_string_l1 (z6:List ByteArray) (z7:ByteArray) (z8:Int):Nat→Int→Option (Int ⊕ Int)
 | 0,_=>none
 | n + 1,y9 =>
  bif (decide (y9 < z8)) then
   (at? z6 y9).bind fun x11 =>
   bif (z7.toList == x11.toList) then
    some (.inl y9)
   else
   p_slices_Index_string_l1 z6 z7 z8 n (w64 (y9 + (1:Int)))
  else
  some (.inr y9)
def p_slices_Index_string (a0:List ByteArray) (a1:ByteArray):Option (Int) :=
 (p_slices_Index_string_l1 a0 a1 (a0.length:Int) fuel (0:Int)).bind fun o13=>match o13 with
 | .inl q14 =>
  some q14
 | .inr q15 =>
  some (-1:Int)
def p_slices_Contains_string (a0:List ByteArray) (a1:ByteArray):Option (Bool) :=
 (p_slices_Index_string a0 a1).bind fun v1 =>
 some (decide ((0:Int)≤v1))
def p_snap_Sees (a0:SnapEyes) (a1:BookRow):Option (Bool) :=
 (p_slices_Contains_string a0.Users a1.User).bind fun v1 =>
 bif v1 then
  some true
 else
 (p_pres_Key a1.User a1.Res).bind fun v3 =>
 (p_slices_Contains_string a0.Keys v3).bind fun v4 =>
 some v4
def p_snap_Check (a0:SnapState):Option (Int) :=
 bif a0.On then
  bif a0.Begun then
   bif ((false == false) && ((false == false) && (((⟨#[]⟩ : ByteArray).toList == (⟨#[]⟩ : ByteArray).toList) && (((0:Int) == (0:Int)) && true)))) then
    bif (decide (a0.Told < (0:Int))) then
     some (8:Int)
    else
    bif (decide ((1099511627776:Int) < a0.Told)) then
     some (8:Int)
    else
    some (0:Int)
   else
   some (4:Int)
  else
  bif ((false == false) && ((false == false) && ((a0.After.toList == (⟨#[]⟩ : ByteArray).toList) && ((a0.Told == (0:Int)) && true)))) then
   bif (decide (a0.Told < (0:Int))) then
    some (8:Int)
   else
   bif (decide ((1099511627776:Int) < a0.Told)) then
    some (8:Int)
   else
   some (0:Int)
  else
  some (4:Int)
 else
 bif a0.Begun then
  bif ((a0.On == false) && ((a0.Begun == false) && ((a0.After.toList == (⟨#[]⟩ : ByteArray).toList) && ((a0.Told == (0:Int)) && true)))) then
   bif (decide (a0.Told < (0:Int))) then
    some (8:Int)
   else
   bif (decide ((1099511627776:Int) < a0.Told)) then
    some (8:Int)
   else
   some (0:Int)
  else
  some (4:Int)
 else
 bif ((a0.On == false) && ((a0.Begun == false) && ((a0.After.toList == (⟨#[]⟩ : ByteArray).toList) && ((a0.Told == (0:Int)) && true)))) then
  bif (decide (a0.Told < (0:Int))) then
   some (8:Int)
  else
  bif (decide ((1099511627776:Int) < a0.Told)) then
   some (8:Int)
  else
  some (0:Int)
 else
 some (4:Int)
def p_snap_Covers (a0:SnapState) (a1:ByteArray):Option (Bool) :=
 bif a0.On then
  bif a0.Begun then
   some (Op.bytesLess a0.After.toList a1.toList)
  else
  some true
 else
 some false
def p_snap_Begin:Option (SnapState) :=
 some (SnapState.mk true false (⟨#[]⟩ : ByteArray) (0:Int))
end Go.Proofs.YtdoakplhalonfaaGreat

namespace Go.Proofs.YtdoakplhalonfaaGreat
open Go.RowKit
set_option maxRecDepth 100000
set_option maxHeartbeats 4000000
def gc67:BCode:=(.seq (R_ 0 [O_ 4 (.mv (b_ false)) 0]) (.seq (R_ 0 [O_ 5 (.mv (t_ 1)) 0,O_ 6 (.cl 109 [(t_ 5)]) 0,O_ 7 (.bin .eql (t_ 6) (i_ 0)) 0,O_ 8 (.mv (t_ 7)) 0,⟨(some 9),.mv (t_ 0),(some (8,true)),0⟩,⟨(some 10),.cl 110 [(t_ 9)],(some (8,true)),0⟩,O_ 11 (.pick (t_ 8) (t_ 10) (b_ false)) 0,O_ 4 (.mv (t_ 11)) 0]) .ret))
theorem gc67_ok:compF Tryz.prog Tryz.f67=some (gc67.er,12,[.tmp 4]):=by unfold gc67;kernel_rfl
theorem p_pres_named_v (a0:ByteArray) (a1:ByteArray):CallsO Tryz.prog 67 [.s a0,.s a1] V.b (p_pres_named a0 a1):=by
 refine callsO_comp mix Tryz.func67 gc67_ok fun r H=>?_
 rw [p_pres_named] at H
 conv=>whnf
 refine ask_c (p_addr_Resource_v _) H rfl rfl (fun v1 H=>?_);conv=>whnf
 refine tst_d H (fun b2 H=>?_) (fun b2 H=>?_)
 ·conv=>whnf
  iterate 2 (refine Tst.F ?_;conv=>whnf)
  exact fb_ H
 conv=>whnf
 refine Tst.T ?_;conv=>whnf
 refine ask_c (p_addr_IsBare_v _) H rfl rfl (fun v3 H=>?_);conv=>whnf
 refine Tst.T ?_;conv=>whnf
 exact fb_ H
def gc37:BCode:=(.seq (R_ 0 [O_ 4 (.mv (.const (.string ⟨#[]⟩))) 0]) (.seq (.seq (R_ 0 [O_ 5 (.mv (t_ 0)) 0,O_ 6 (.mv (t_ 1)) 0,O_ 7 (.cl 67 [(t_ 5),(t_ 6)]) 0,O_ 8 (.un .not (t_ 7)) 0]) (.cond (t_ 8) (.seq (R_ 0 [O_ 4 (.mv (.const (.string ⟨#[]⟩))) 0]) .ret) .skip)) (.seq (R_ 0 [O_ 9 (.mv (t_ 0)) 0,O_ 10 (.bin .add (t_ 9) (.const (.string ⟨#[32]⟩))) 0,O_ 11 (.mv (t_ 1)) 0,O_ 12 (.bin .add (t_ 10) (t_ 11)) 0,O_ 4 (.mv (t_ 12)) 0]) .ret)))
theorem gc37_ok:compF Tryz.prog Tryz.f37=some (gc37.er,13,[.tmp 4]):=by unfold gc37;kernel_rfl
theorem p_pres_Key_v (a0:ByteArray) (a1:ByteArray):CallsO Tryz.prog 37 [.s a0,.s a1] V.s (p_pres_Key a0 a1):=by
 refine callsO_comp mix Tryz.func37 gc37_ok fun r H=>?_
 rw [p_pres_Key] at H
 conv=>whnf
 refine ask_c (p_pres_named_v _ _) H rfl rfl (fun v1 H=>?_);conv=>whnf
 refine Tst.not ?_
 refine tst_d H (fun b2 H=>?_) (fun b2 H=>?_)
 ·conv=>whnf
  exact fin0_c (enc:=V.s) H (.inr rfl) (.cons (.tmp rfl) (.nil)) rfl rfl
 conv=>whnf
 refine cat_c H (fun s3 H=>?_);conv=>whnf
 refine cat_c H (fun s4 H=>?_);conv=>whnf
 exact fin0_c (enc:=V.s) H (.inr rfl) (.cons (.tmp rfl) (.nil)) rfl rfl
def gc64:BCode:=(.seq (R_ 1 [O_ 1 (.bx (t_ 0)) 0,O_ 2 (.mv (.const (.string ⟨#[]⟩))) 1]) (.seq (R_ 0 [O_ 3 (.fa 0 (t_ 1)) 0,O_ 4 (.ld 1 false (t_ 3)) 0,O_ 5 (.fa 1 (t_ 1)) 0,O_ 6 (.ld 1 false (t_ 5)) 0,O_ 7 (.cl 37 [(t_ 4),(t_ 6)]) 0,O_ 2 (.mv (t_ 7)) 0]) .ret))
theorem gc64_ok:compF Tryz.prog Tryz.f64=some (gc64.er,8,[.tmp 2]):=by unfold gc64;kernel_rfl
theorem p_book_Row_key_v (a0:BookRow):CallsO Tryz.prog 64 [.agg [.s a0.User,.s a0.Res,.b a0.P.On,.i a0.P.Show,.i a0.P.Prio,.i a0.P.Seq]] V.s (p_book_Row_key a0):=by
 refine callsO_comp mix Tryz.func64 gc64_ok fun r H=>?_
 rw [p_book_Row_key] at H
 conv=>whnf
 refine ask_c (p_pres_Key_v _ _) H rfl rfl (fun v1 H=>?_);conv=>whnf
 exact fin0_c (enc:=V.s) H (.inr rfl) (.cons (.tmp rfl) (.nil)) rfl rfl
def gc101:BCode:=(.seq (R_ 1 [O_ 1 (.bx (t_ 0)) 0,O_ 2 (.mv (b_ false)) 1]) (.seq (R_ 0 [O_ 3 (.ld 6 true (t_ 1)) 0,O_ 4 (.cl 64 [(t_ 3)]) 0,O_ 5 (.bin .eql (t_ 4) (.const (.string ⟨#[]⟩))) 0,O_ 2 (.mv (t_ 5)) 0]) .ret))
theorem gc101_ok:compF Tryz.prog Tryz.f101=some (gc101.er,6,[.tmp 2]):=by unfold gc101;kernel_rfl
theorem p_book_Check_1_v (a0:BookRow):CallsO Tryz.prog 101 [.agg [.s a0.User,.s a0.Res,.b a0.P.On,.i a0.P.Show,.i a0.P.Prio,.i a0.P.Seq]] V.b (p_book_Check_1 a0):=by
 refine callsO_comp mix Tryz.func101 gc101_ok fun r H=>?_
 rw [p_book_Check_1] at H
 conv=>whnf
 refine ask_c (p_book_Row_key_v _) H rfl rfl (fun v1 H=>?_);conv=>whnf
 exact fb_ H
def gc125:BCode:=(.seq (R_ 0 [O_ 4 (.mv (i_ 0)) 0]) (.seq (.seq (R_ 0 [O_ 6 (.mv (t_ 0)) 0,O_ 7 (.lens (t_ 6)) 0,O_ 8 (.mv (i_ 0)) 0]) (.block 0 (.loop (.seq (R_ 0 [O_ 9 (.bin .lss (t_ 8) (t_ 7)) 0]) (.seq (.cond (t_ 9) .skip (.exit 0)) (.seq (.block 1 (.seq (R_ 0 [O_ 10 (.mv (t_ 8)) 0,O_ 5 (.mv (t_ 10)) 0]) (.seq (R_ 0 [O_ 11 (.mv (t_ 1)) 0,O_ 12 (.mv (t_ 0)) 0,O_ 13 (.mv (t_ 5)) 0,O_ 14 (.ixs 6 (t_ 12) (t_ 13)) 0,O_ 15 (.ld 6 true (t_ 14)) 0,O_ 16 (.cv (t_ 11) [(t_ 15)]) 0]) (.cond (t_ 16) (.seq (R_ 0 [O_ 17 (.mv (t_ 5)) 0,O_ 4 (.mv (t_ 17)) 0]) .ret) .skip)))) (R_ 0 [O_ 18 (.bin .add (t_ 8) (i_ 1)) 0,O_ 8 (.mv (t_ 18)) 0]))))))) (.seq (R_ 0 [O_ 4 (.mv (.const (.int .i64 (-1)))) 0]) .ret)))
theorem gc125_ok:compF Tryz.prog Tryz.f125=some (gc125.er,19,[.tmp 4]):=by unfold gc125;kernel_rfl
theorem p_slices_IndexFunc_book_Row_v {u1:Bool} (a0:List BookRow) (a1:BookRow→Option Bool) {a1_g:Nat} {a1_k:List V} (a1_h:Clo1 Tryz.prog a1_g a1_k BookRow.v V.b a1):CallsO Tryz.prog 125 [.sl (List.map BookRow.v a0) u1,.clo (.func a1_g) a1_k] V.i (p_slices_IndexFunc_book_Row a0 a1):=by
 refine callsO_comp mix Tryz.func125 gc125_ok fun r H=>?_
 rw [p_slices_IndexFunc_book_Row] at H
 conv=>whnf
 refine LenQ.M ?_;conv=>whnf
 obtain ⟨o2,HL3,HQ4⟩:=bind_c H
 refine loop_c [4,8] [5,9,10,11,12,13,14,15,16,17,18] [5,9,10,11,12,13,14,15,16,17,18] (fun n vals st=>(∃ y6,p_slices_IndexFunc_book_Row_l1  a1 a0 (a0.length:Int) n y6=some o2∧vals=[.i (0:Int),.i y6]∧st=[])) fuel 0 [] (⟨_,HL3,rfl,rfl⟩) (Nat.zero_le _) rfl (by simp only [maskF,setF,List.set_cons_zero,List.set_cons_succ,V.ren.renL,V.ren,renL_id _ a1_h.own] <;> rfl) (by simp only [maskF,setF,List.set_cons_zero,List.set_cons_succ,V.idlt.belowL,V.idlt,fun n=>idltL_up (n:=n) _ a1_h.own] <;> rfl) rfl trivial ?_
 rintro (_ | n5) _ _ (⟨y6,H,rfl,rfl⟩)
 ·rw [p_slices_IndexFunc_book_Row_l1] at H;cases H
 rw [p_slices_IndexFunc_book_Row_l1] at H
 conv=>whnf
 refine tst_d H (fun b7 H=>?_) (fun b7 H=>?_)
 ·conv=>whnf
  obtain rfl:=Option.some.inj H
  have H:=HQ4
  try dsimp only at H
  exact fi_ H
 conv=>whnf
 refine ixs_c (f:=BookRow.v) H (fun _=>rfl) (fun x8 H=>?_);conv=>whnf
 refine askC_c a1_h H (.cons (fzagg (.cons (.id rfl) (.cons (.id rfl) (.cons (.id rfl) (.cons (.id rfl) (.cons (.id rfl) (.cons (.id rfl) (.nil))))))) rfl) (.nil)) (fun v9 H=>?_);conv=>whnf
 refine tst_c H (fun b10 H=>?_) (fun b10 H=>?_)
 ·conv=>whnf
  obtain rfl:=Option.some.inj H
  have H:=HQ4
  try dsimp only at H
  exact fi_ H
 conv=>whnf
 refine Ari.w ?_;conv=>whnf
 exact again_c [5,9,10,11,12,13,14,15,16,17,18] n5 0 [] (⟨_,H,rfl,rfl⟩) (Nat.lt_succ_self _) (Nat.zero_le _) rfl (by simp only [maskF,setF,List.set_cons_zero,List.set_cons_succ,V.ren.renL,V.ren,renL_id _ a1_h.own] <;> rfl) (by simp only [maskF,setF,List.set_cons_zero,List.set_cons_succ,V.idlt.belowL,V.idlt,fun n=>idltL_up (n:=n) _ a1_h.own] <;> rfl) rfl trivial
def gc100:BCode:=(.seq (R_ 0 [O_ 4 (.mv (b_ false)) 0]) (.seq (R_ 0 [O_ 5 (.mv (t_ 0)) 0,O_ 6 (.mv (t_ 1)) 0,O_ 7 (.cl 125 [(t_ 5),(t_ 6)]) 0,O_ 8 (.bin .geq (t_ 7) (i_ 0)) 0,O_ 4 (.mv (t_ 8)) 0]) .ret))
theorem gc100_ok:compF Tryz.prog Tryz.f100=some (gc100.er,9,[.tmp 4]):=by unfold gc100;kernel_rfl
theorem p_slices_ContainsFunc_book_Row_v {u1:Bool} (a0:List BookRow) (a1:BookRow→Option Bool) {a1_g:Nat} {a1_k:List V} (a1_h:Clo1 Tryz.prog a1_g a1_k BookRow.v V.b a1):CallsO Tryz.prog 100 [.sl (List.map BookRow.v a0) u1,.clo (.func a1_g) a1_k] V.b (p_slices_ContainsFunc_book_Row a0 a1):=by
 refine callsO_comp mix Tryz.func100 gc100_ok fun r H=>?_
 rw [p_slices_ContainsFunc_book_Row] at H
 conv=>whnf
 refine askF_c (p_slices_IndexFunc_book_Row_v _ _ a1_h) H (.cons (.c (.slw)) (.cons (.c (.id a1_h.own)) (.nil))) (fun v1 H=>?_);conv=>whnf
 exact fb_ H
def gc108:BCode:=(.seq (R_ 0 [O_ 6 (.mv (b_ false)) 0]) (.seq (R_ 0 [O_ 7 (.mv (t_ 1)) 0,O_ 8 (.mv (t_ 0)) 0,O_ 9 (.bin .leq (t_ 7) (t_ 8)) 0,O_ 10 (.mv (t_ 9)) 0,⟨(some 11),.mv (t_ 0),(some (10,true)),0⟩,⟨(some 12),.mv (t_ 2),(some (10,true)),0⟩,⟨(some 13),.bin .leq (t_ 11) (t_ 12),(some (10,true)),0⟩,O_ 14 (.pick (t_ 10) (t_ 13) (b_ false)) 0,O_ 6 (.mv (t_ 14)) 0]) .ret))
theorem gc108_ok:compF Tryz.prog Tryz.f108=some (gc108.er,15,[.tmp 6]):=by unfold gc108;kernel_rfl
theorem p_pres_in_v (a0:Int) (a1:Int) (a2:Int):CallsO Tryz.prog 108 [.i a0,.i a1,.i a2] V.b (p_pres_in a0 a1 a2):=by
 refine callsO_comp mix Tryz.func108 gc108_ok fun r H=>?_
 rw [p_pres_in] at H
 conv=>whnf
 refine tst_c H (fun b1 H=>?_) (fun b1 H=>?_)
 ·conv=>whnf
  iterate 3 (refine Tst.T ?_;conv=>whnf)
  exact fb_ H
 conv=>whnf
 iterate 3 (refine Tst.F ?_;conv=>whnf)
 exact fb_ H
def gc65:BCode:=(.seq (R_ 1 [O_ 1 (.bx (t_ 0)) 0,O_ 2 (.mv (i_ 0)) 1]) (.seq (.seq (R_ 0 [O_ 4 (.fa 1 (t_ 1)) 0,O_ 5 (.ld 1 false (t_ 4)) 0,O_ 6 (.cl 108 [(t_ 5),(i_ 0),(i_ 4)]) 0,O_ 7 (.un .not (t_ 6)) 0,O_ 8 (.mv (t_ 7)) 0,⟨(some 9),.fa 2 (t_ 1),(some (8,false)),0⟩,⟨(some 10),.ld 1 false (t_ 9),(some (8,false)),0⟩,⟨(some 11),.cl 108 [(t_ 10),(.const (.int .i64 (-128))),(i_ 127)],(some (8,false)),0⟩,⟨(some 12),.un .not (t_ 11),(some (8,false)),0⟩,O_ 13 (.pick (t_ 8) (b_ true) (t_ 12)) 0,O_ 14 (.mv (t_ 13)) 0,⟨(some 15),.fa 3 (t_ 1),(some (14,false)),0⟩,⟨(some 16),.ld 1 false (t_ 15),(some (14,false)),0⟩,⟨(some 17),.cl 108 [(t_ 16),(i_ 0),(i_ 1099511627776)],(some (14,false)),0⟩,⟨(some 18),.un .not (t_ 17),(some (14,false)),0⟩,O_ 19 (.pick (t_ 14) (b_ true) (t_ 18)) 0]) (.cond (t_ 19) (.seq (R_ 0 [O_ 2 (.mv (i_ 8)) 0]) .ret) .skip)) (.seq (.seq (R_ 1 [O_ 20 (.fa 3 (t_ 1)) 0,O_ 21 (.ld 1 false (t_ 20)) 0,O_ 22 (.bd [(.lit (.bool false)),(.lit (.int .i64 0)),(.lit (.int .i64 0)),(.lit (.int .i64 0))] [(3,1,(t_ 21))]) 0,O_ 3 (.al (.agg [(.lit (.bool false)),(.lit (.int .i64 0)),(.lit (.int .i64 0)),(.lit (.int .i64 0))])) 0,U_ (.st 4 (t_ 3) (t_ 22)) 1]) (.seq (R_ 0 [O_ 23 (.fa 0 (t_ 1)) 0,O_ 24 (.ld 1 false (t_ 23)) 0,O_ 25 (.un .not (t_ 24)) 0,O_ 26 (.mv (t_ 25)) 0,⟨(some 27),.ld 4 true (t_ 1),(some (26,true)),0⟩,⟨(some 28),.ld 4 true (t_ 3),(some (26,true)),0⟩,⟨(some 29),.eqa true [0,1,1,1] (t_ 27) (t_ 28),(some (26,true)),0⟩,O_ 30 (.pick (t_ 26) (t_ 29) (b_ false)) 0]) (.cond (t_ 30) (.seq (R_ 0 [O_ 2 (.mv (i_ 4)) 0]) .ret) .skip))) (.seq (R_ 0 [O_ 2 (.mv (i_ 0)) 0]) .ret))))
theorem gc65_ok:compF Tryz.prog Tryz.f65=some (gc65.er,31,[.tmp 2]):=by unfold gc65;kernel_rfl
theorem p_pres_Check_v (a0:PresPres):CallsO Tryz.prog 65 [.agg [.b a0.On,.i a0.Show,.i a0.Prio,.i a0.Seq]] V.i (p_pres_Check a0):=by
 refine callsO_comp mix Tryz.func65 gc65_ok fun r H=>?_
 rw [p_pres_Check] at H
 conv=>whnf
 refine ask_c (p_pres_in_v _ _ _) H rfl rfl (fun v1 H=>?_);conv=>whnf
 refine Tst.not ?_
 refine tst_d H (fun b2 H=>?_) (fun b2 H=>?_)
 ·conv=>whnf
  iterate 10 (refine Tst.T ?_;conv=>whnf)
  exact fi_ H
 conv=>whnf
 iterate 2 (refine Tst.F ?_;conv=>whnf)
 refine ask_c (p_pres_in_v _ _ _) H rfl rfl (fun v3 H=>?_);conv=>whnf
 iterate 2 (refine Tst.F ?_;conv=>whnf)
 refine Tst.not ?_
 refine tst_d H (fun b4 H=>?_) (fun b4 H=>?_)
 ·conv=>whnf
  iterate 5 (refine Tst.T ?_;conv=>whnf)
  exact fi_ H
 conv=>whnf
 iterate 2 (refine Tst.F ?_;conv=>whnf)
 refine ask_c (p_pres_in_v _ _ _) H rfl rfl (fun v5 H=>?_);conv=>whnf
 iterate 2 (refine Tst.F ?_;conv=>whnf)
 refine Tst.not ?_
 refine tst_d H (fun b6 H=>?_) (fun b6 H=>?_)
 ·conv=>whnf
  exact fi_ H
 conv=>whnf
 refine lq_ ?_;conv=>whnf
 refine Tst.not ?_
 refine tst_c H (fun b7 H=>?_) (fun b7 H=>?_)
 ·conv=>whnf
  iterate 4 (refine Tst.F ?_;conv=>whnf)
  exact fi_ H
 conv=>whnf
 iterate 3 (refine Tst.T ?_;conv=>whnf)
 refine Tst.not ?_
 refine tst_c H (fun b8 H=>?_) (fun b8 H=>?_)
 ·conv=>whnf
  exact fi_ H
 conv=>whnf
 exact fi_ H
def gc102:BCode:=(.seq (R_ 1 [O_ 1 (.bx (t_ 0)) 0,O_ 2 (.mv (i_ 0)) 1]) (.seq (.seq (R_ 0 [O_ 6 (.fa 1 (t_ 1)) 0,O_ 7 (.ld 1 false (t_ 6)) 0,O_ 8 (.lens (t_ 7)) 0,O_ 9 (.mv (i_ 0)) 0]) (.block 0 (.loop (.seq (R_ 0 [O_ 10 (.bin .lss (t_ 9) (t_ 8)) 0]) (.seq (.cond (t_ 10) .skip (.exit 0)) (.seq (.block 1 (.seq (R_ 1 [O_ 11 (.ixs 6 (t_ 7) (t_ 9)) 0,O_ 12 (.ld 6 true (t_ 11)) 0,O_ 4 (.al (.agg [(.lit (.string ⟨#[]⟩)),(.lit (.string ⟨#[]⟩)),(.lit (.bool false)),(.lit (.int .i64 0)),(.lit (.int .i64 0)),(.lit (.int .i64 0))])) 0,U_ (.st 6 (t_ 4) (t_ 12)) 1]) (.seq (.seq (R_ 0 [O_ 13 (.fa 2 (t_ 4)) 0,O_ 14 (.ld 4 true (t_ 13)) 0,O_ 15 (.cl 65 [(t_ 14)]) 0,O_ 5 (.mv (t_ 15)) 0]) (.seq (R_ 0 [O_ 16 (.mv (t_ 5)) 0,O_ 17 (.bin .neq (t_ 16) (i_ 0)) 0]) (.cond (t_ 17) (.seq (R_ 0 [O_ 18 (.mv (t_ 5)) 0,O_ 2 (.mv (t_ 18)) 0]) .ret) .skip))) (.seq (R_ 0 [O_ 19 (.fa 2 (t_ 4)) 0,O_ 20 (.fa 0 (t_ 19)) 0,O_ 21 (.ld 1 false (t_ 20)) 0,O_ 22 (.un .not (t_ 21)) 0]) (.cond (t_ 22) (.seq (R_ 0 [O_ 2 (.mv (i_ 4)) 0]) .ret) .skip))))) (R_ 0 [O_ 23 (.bin .add (t_ 9) (i_ 1)) 0,O_ 9 (.mv (t_ 23)) 0]))))))) (.seq (R_ 0 [O_ 2 (.mv (i_ 0)) 0]) .ret)))
theorem gc102_ok:compF Tryz.prog Tryz.f102=some (gc102.er,24,[.tmp 2]):=by unfold gc102;kernel_rfl
theorem p_book_State_errors_v {u1:Bool} (a0:BookState):CallsO Tryz.prog 102 [.agg [.i a0.Seq,.sl (List.map BookRow.v a0.Rows) u1]] V.i (p_book_State_errors a0):=by
 refine callsO_comp mix Tryz.func102 gc102_ok fun r H=>?_
 rw [p_book_State_errors] at H
 conv=>whnf
 refine LenQ.M ?_;conv=>whnf
 obtain ⟨o2,HL3,HQ4⟩:=bind_c H
 refine loop_c [2,9] [4,5,10,11,12,13,14,15,16,17,18,19,20,21,22,23,1,6] [4,5,10,11,12,13,14,15,16,17,18,19,20,21,22,23,1,6] (fun n vals st=>(∃ y6,p_book_State_errors_l1  a0.Rows (a0.Rows.length:Int) n y6=some o2∧vals=[.i (0:Int),.i y6]∧st=[])) fuel 0 [] (⟨_,HL3,rfl,rfl⟩) (Nat.zero_le _) rfl (by kernel_rfl) (by kernel_rfl) rfl trivial ?_
 rintro (_ | n5) _ _ (⟨y6,H,rfl,rfl⟩)
 ·rw [p_book_State_errors_l1] at H;cases H
 rw [p_book_State_errors_l1] at H
 conv=>whnf
 refine tst_d H (fun b7 H=>?_) (fun b7 H=>?_)
 ·conv=>whnf
  obtain rfl:=Option.some.inj H
  have H:=HQ4
  try dsimp only at H
  exact fi_ H
 conv=>whnf
 refine ixs_c (f:=BookRow.v) H (fun _=>rfl) (fun x8 H=>?_);conv=>whnf
 refine lq_ ?_;conv=>whnf
 refine ask_c (p_pres_Check_v _) H rfl rfl (fun v9 H=>?_);conv=>whnf
 refine tst_c H (fun b10 H=>?_) (fun b10 H=>?_)
 ·conv=>whnf
  obtain rfl:=Option.some.inj H
  have H:=HQ4
  try dsimp only at H
  exact fi_ H
 conv=>whnf
 refine Tst.not ?_
 refine tst_d H (fun b11 H=>?_) (fun b11 H=>?_)
 ·conv=>whnf
  obtain rfl:=Option.some.inj H
  have H:=HQ4
  try dsimp only at H
  exact fi_ H
 conv=>whnf
 refine Ari.w ?_;conv=>whnf
 exact again_c [4,5,10,11,12,13,14,15,16,17,18,19,20,21,22,23,1,6] n5 0 [] (⟨_,H,rfl,rfl⟩) (Nat.lt_succ_self _) (Nat.zero_le _) rfl (by kernel_rfl) (by kernel_rfl) rfl trivial
def gc126:BCode:=(.seq (R_ 1 [O_ 2 (.bx (t_ 0)) 0,O_ 3 (.mv (b_ false)) 1]) (.seq (R_ 0 [O_ 4 (.fa 2 (t_ 2)) 0,O_ 5 (.fa 3 (t_ 4)) 0,O_ 6 (.ld 1 false (t_ 5)) 0,O_ 7 (.fa 2 (t_ 1)) 0,O_ 8 (.fa 3 (t_ 7)) 0,O_ 9 (.ld 1 false (t_ 8)) 0,O_ 10 (.bin .eql (t_ 6) (t_ 9)) 0,O_ 3 (.mv (t_ 10)) 0]) .ret))
theorem gc126_ok:compF Tryz.prog Tryz.f126=some (gc126.er,11,[.tmp 3]):=by unfold gc126;kernel_rfl
theorem p_book_State_ordered_1_v (a0:BookRow) (c0:BookRow):CallsO Tryz.prog 126 [.agg [.s a0.User,.s a0.Res,.b a0.P.On,.i a0.P.Show,.i a0.P.Prio,.i a0.P.Seq],.eptr [.s c0.User,.s c0.Res,.b c0.P.On,.i c0.P.Show,.i c0.P.Prio,.i c0.P.Seq]] V.b (p_book_State_ordered_1 a0 c0):=by
 refine callsO_comp mix Tryz.func126 gc126_ok fun r H=>?_
 rw [p_book_State_ordered_1] at H
 conv=>whnf
 refine lq_ ?_;conv=>whnf
 refine lq_ ?_;conv=>whnf
 exact fb_ H
def gc103:BCode:=(.seq (R_ 1 [O_ 1 (.bx (t_ 0)) 0,O_ 2 (.mv (b_ false)) 1]) (.seq (.seq (R_ 0 [O_ 5 (.fa 1 (t_ 1)) 0,O_ 6 (.ld 1 false (t_ 5)) 0,O_ 7 (.lens (t_ 6)) 0,O_ 8 (.mv (i_ 0)) 0]) (.block 0 (.loop (.seq (R_ 0 [O_ 9 (.bin .lss (t_ 8) (t_ 7)) 0]) (.seq (.cond (t_ 9) .skip (.exit 0)) (.seq (.block 1 (.seq (R_ 1 [O_ 10 (.mv (t_ 8)) 0,O_ 11 (.ixs 6 (t_ 6) (t_ 8)) 0,O_ 12 (.ld 6 true (t_ 11)) 0,O_ 4 (.al (.agg [(.lit (.string ⟨#[]⟩)),(.lit (.string ⟨#[]⟩)),(.lit (.bool false)),(.lit (.int .i64 0)),(.lit (.int .i64 0)),(.lit (.int .i64 0))])) 0,O_ 3 (.mv (t_ 10)) 1,U_ (.st 6 (t_ 4) (t_ 12)) 1]) (.seq (.seq (R_ 0 [O_ 13 (.fa 2 (t_ 4)) 0,O_ 14 (.fa 3 (t_ 13)) 0,O_ 15 (.ld 1 false (t_ 14)) 0,O_ 16 (.bin .lss (t_ 15) (i_ 1)) 0,O_ 17 (.mv (t_ 16)) 0,⟨(some 18),.fa 2 (t_ 4),(some (17,false)),0⟩,⟨(some 19),.fa 3 (t_ 18),(some (17,false)),0⟩,⟨(some 20),.ld 1 false (t_ 19),(some (17,false)),0⟩,⟨(some 21),.fa 0 (t_ 1),(some (17,false)),0⟩,⟨(some 22),.ld 1 false (t_ 21),(some (17,false)),0⟩,⟨(some 23),.bin .gtr (t_ 20) (t_ 22),(some (17,false)),0⟩,O_ 24 (.pick (t_ 17) (b_ true) (t_ 23)) 0]) (.cond (t_ 24) (.seq (R_ 0 [O_ 2 (.mv (b_ false)) 0]) .ret) .skip)) (.seq (.seq (.reg 0 [O_ 25 (.mv (t_ 3)) 0,O_ 26 (.bin .gtr (t_ 25) (i_ 0)) 0,O_ 27 (.mv (t_ 26)) 0,⟨(some 28),.fa 1 (t_ 1),(some (27,true)),0⟩,⟨(some 29),.ld 1 false (t_ 28),(some (27,true)),0⟩,⟨(some 30),.mv (t_ 3),(some (27,true)),0⟩,⟨(some 31),.bin .sub (t_ 30) (i_ 1),(some (27,true)),0⟩,⟨(some 32),.ixs 6 (t_ 29) (t_ 31),(some (27,true)),0⟩,⟨(some 33),.ld 6 true (t_ 32),(some (27,true)),0⟩,⟨(some 34),.cl 64 [(t_ 33)],(some (27,true)),0⟩,⟨(some 35),.ld 6 true (t_ 4),(some (27,true)),0⟩,⟨(some 36),.cl 64 [(t_ 35)],(some (27,true)),0⟩,⟨(some 37),.bin .geq (t_ 34) (t_ 36),(some (27,true)),0⟩,O_ 38 (.pick (t_ 27) (t_ 37) (b_ false)) 0] (some [[],[0],[0,1],[1,0,2],[2,0,1,3],[1,0,2],[2,0,1,5],[5,6,3,1,0,2,4],[4,2,0,1,3,6,5,7],[7,5,6,3,1,0,2,4,8],[1,0,2],[8,4,3,6,5,7,9,2,0,1,10],[10,11,8,4,2,0,1,3,6,5,7,9],[9,7,5,6,3,4,8,11,10,12,1,0,2]]) 0 []) (.cond (t_ 38) (.seq (R_ 0 [O_ 2 (.mv (b_ false)) 0]) .ret) .skip)) (.seq (.reg 0 [O_ 39 (.fa 1 (t_ 1)) 0,O_ 40 (.ld 1 false (t_ 39)) 0,O_ 41 (.mv (t_ 3)) 0,O_ 42 (.sls 6 (t_ 40) none (some (t_ 41)) none) 0,O_ 43 (.mf (.func 126) [(t_ 4)]) 0,O_ 44 (.cl 100 [(t_ 42),(t_ 43)]) 0] none 0 [4]) (.cond (t_ 44) (.seq (R_ 0 [O_ 2 (.mv (b_ false)) 0]) .ret) .skip)))))) (R_ 0 [O_ 45 (.bin .add (t_ 8) (i_ 1)) 0,O_ 8 (.mv (t_ 45)) 0]))))))) (.seq (R_ 0 [O_ 2 (.mv (b_ true)) 0]) .ret)))
theorem gc103_ok:compF Tryz.prog Tryz.f103=some (gc103.er,46,[.tmp 2]):=by unfold gc103;kernel_rfl
theorem p_book_State_ordered_v {u1:Bool} (a0:BookState):CallsO Tryz.prog 103 [.agg [.i a0.Seq,.sl (List.map BookRow.v a0.Rows) u1]] V.b (p_book_State_ordered a0):=by
 refine callsO_comp mix Tryz.func103 gc103_ok fun r H=>?_
 rw [p_book_State_ordered] at H
 conv=>whnf
 refine LenQ.M ?_;conv=>whnf
 obtain ⟨o2,HL3,HQ4⟩:=bind_c H
 refine loop_c [2,8] [3,4,9,10,11,12,13,14,15,16,17,18,19,20,21,22,23,24,25,26,27,28,29,30,31,32,33,34,35,36,37,38,39,40,41,42,43,44,45,5] [3,4,9,10,11,12,13,14,15,16,17,18,19,20,21,22,23,24,25,26,27,28,29,30,31,32,33,34,35,36,37,38,39,40,41,42,43,44,45,5] (fun n vals st=>(∃ y6,p_book_State_ordered_l1  a0.Rows (a0.Rows.length:Int) a0 n y6=some o2∧vals=[.b false,.i y6]∧st=[.live [.i a0.Seq,.sl (List.map BookRow.v a0.Rows) u1] 0])) fuel 1 [] (⟨_,HL3,rfl,rfl⟩) (Nat.zero_le _) rfl (by kernel_rfl) (by kernel_rfl) rfl ⟨⟨rfl,rfl,rfl⟩,trivial⟩ ?_
 rintro (_ | n5) _ _ (⟨y6,H,rfl,rfl⟩)
 ·rw [p_book_State_ordered_l1] at H;cases H
 rw [p_book_State_ordered_l1] at H
 conv=>whnf
 refine tst_d H (fun b7 H=>?_) (fun b7 H=>?_)
 ·conv=>whnf
  obtain rfl:=Option.some.inj H
  have H:=HQ4
  try dsimp only at H
  exact fb_ H
 conv=>whnf
 refine ixs_c (f:=BookRow.v) H (fun _=>rfl) (fun x8 H=>?_);conv=>whnf
 refine lq_ ?_;conv=>whnf
 refine tst_c H (fun b9 H=>?_) (fun b9 H=>?_)
 ·conv=>whnf
  iterate 7 (refine Tst.T ?_;conv=>whnf)
  obtain rfl:=Option.some.inj H
  have H:=HQ4
  try dsimp only at H
  exact fb_ H
 conv=>whnf
 iterate 6 (refine Tst.F ?_;conv=>whnf)
 refine tst_c H (fun b10 H=>?_) (fun b10 H=>?_)
 ·conv=>whnf
  obtain rfl:=Option.some.inj H
  have H:=HQ4
  try dsimp only at H
  exact fb_ H
 conv=>whnf
 refine tst_d H (fun b11 H=>?_) (fun b11 H=>?_)
 ·conv=>whnf
  iterate 10 (refine Tst.F ?_;conv=>whnf)
  refine FootQ.mk ⟨rfl,?_⟩;conv=>whnf
  refine Tst.F ?_;conv=>whnf
  refine ⟨Nat.zero_le _,?_⟩;conv=>whnf
  refine slsH_c (f:=BookRow.v) H (fun _=>rfl) (fun x19 H=>?_);conv=>whnf
  refine askF_c (p_slices_ContainsFunc_book_Row_v _ _ ⟨⟨_,Tryz.func126,by kernel_rfl,by kernel_rfl⟩,rfl,fun x0=>p_book_State_ordered_1_v _ _⟩) H (.cons (.c (.id rfl)) (.cons (.c (.clo (.cons (.ptr rfl (Nat.le_of_ble_eq_true rfl) (.cons (.id rfl) (.cons (.id rfl) (.cons (.id rfl) (.cons (.id rfl) (.cons (.id rfl) (.cons (.id rfl) (.nil)))))))) (.nil)))) (.nil))) (fun v20 H=>?_);conv=>whnf
  refine tst_c H (fun b21 H=>?_) (fun b21 H=>?_)
  ·conv=>whnf
   obtain rfl:=Option.some.inj H
   have H:=HQ4
   try dsimp only at H
   exact fb_ H
  conv=>whnf
  refine Ari.w ?_;conv=>whnf
  exact again_c [3,4,9,10,11,12,13,14,15,16,17,18,19,20,21,22,23,24,25,26,27,28,29,30,31,32,33,34,35,36,37,38,39,40,41,42,43,44,45,5] n5 1 [] (⟨_,H,rfl,rfl⟩) (Nat.lt_succ_self _) (Nat.zero_le _) rfl (by kernel_rfl) (by kernel_rfl) rfl ⟨⟨rfl,rfl,rfl⟩,trivial⟩
 conv=>whnf
 iterate 3 (refine Tst.T ?_;conv=>whnf)
 refine Ari.w ?_;conv=>whnf
 refine Tst.T ?_;conv=>whnf
 refine ixs_c (f:=BookRow.v) H (fun _=>rfl) (fun x12 H=>?_);conv=>whnf
 iterate 2 (refine Tst.T ?_;conv=>whnf)
 refine ask_c (p_book_Row_key_v _) H rfl rfl (fun v13 H=>?_);conv=>whnf
 iterate 2 (refine Tst.T ?_;conv=>whnf)
 refine ask_c (p_book_Row_key_v _) H rfl rfl (fun v14 H=>?_);conv=>whnf
 iterate 2 (refine Tst.T ?_;conv=>whnf)
 refine FootQ.mk ⟨rfl,?_⟩;conv=>whnf
 refine Tst.not ?_
 refine tst_d H (fun b15 H=>?_) (fun b15 H=>?_)
 ·conv=>whnf
  obtain rfl:=Option.some.inj H
  have H:=HQ4
  try dsimp only at H
  exact fb_ H
 conv=>whnf
 refine ⟨Nat.zero_le _,?_⟩;conv=>whnf
 refine slsH_c (f:=BookRow.v) H (fun _=>rfl) (fun x16 H=>?_);conv=>whnf
 refine askF_c (p_slices_ContainsFunc_book_Row_v _ _ ⟨⟨_,Tryz.func126,by kernel_rfl,by kernel_rfl⟩,rfl,fun x0=>p_book_State_ordered_1_v _ _⟩) H (.cons (.c (.id rfl)) (.cons (.c (.clo (.cons (.ptr rfl (Nat.le_of_ble_eq_true rfl) (.cons (.id rfl) (.cons (.id rfl) (.cons (.id rfl) (.cons (.id rfl) (.cons (.id rfl) (.cons (.id rfl) (.nil)))))))) (.nil)))) (.nil))) (fun v17 H=>?_);conv=>whnf
 refine tst_c H (fun b18 H=>?_) (fun b18 H=>?_)
 ·conv=>whnf
  obtain rfl:=Option.some.inj H
  have H:=HQ4
  try dsimp only at H
  exact fb_ H
 conv=>whnf
 refine Ari.w ?_;conv=>whnf
 exact again_c [3,4,9,10,11,12,13,14,15,16,17,18,19,20,21,22,23,24,25,26,27,28,29,30,31,32,33,34,35,36,37,38,39,40,41,42,43,44,45,5] n5 1 [] (⟨_,H,rfl,rfl⟩) (Nat.lt_succ_self _) (Nat.zero_le _) rfl (by kernel_rfl) (by kernel_rfl) rfl ⟨⟨rfl,rfl,rfl⟩,trivial⟩
end Go.Proofs.YtdoakplhalonfaaGreat

namespace Go.Proofs.YtdoakplhalonfaaGreat
open Go.RowKit
set_option maxRecDepth 100000
set_option maxHeartbeats 4000000
def gc66:BCode:=(.seq (R_ 1 [O_ 2 (.bx (t_ 0)) 0,O_ 4 (.mv (i_ 0)) 1]) (.seq (R_ 0 [O_ 5 (.mv (i_ 0)) 0]) (.seq (.seq (R_ 0 [O_ 8 (.fa 1 (t_ 2)) 0,O_ 9 (.ld 1 false (t_ 8)) 0,O_ 10 (.lens (t_ 9)) 0,O_ 11 (.mv (i_ 0)) 0]) (.block 0 (.loop (.seq (R_ 0 [O_ 12 (.bin .lss (t_ 11) (t_ 10)) 0]) (.seq (.cond (t_ 12) .skip (.exit 0)) (.seq (.block 1 (.seq (R_ 1 [O_ 13 (.ixs 6 (t_ 9) (t_ 11)) 0,O_ 14 (.ld 6 true (t_ 13)) 0,O_ 7 (.al (.agg [(.lit (.string ⟨#[]⟩)),(.lit (.string ⟨#[]⟩)),(.lit (.bool false)),(.lit (.int .i64 0)),(.lit (.int .i64 0)),(.lit (.int .i64 0))])) 0,U_ (.st 6 (t_ 7) (t_ 14)) 1]) (.seq (R_ 0 [O_ 15 (.fa 0 (t_ 7)) 0,O_ 16 (.ld 1 false (t_ 15)) 0,O_ 17 (.mv (t_ 1)) 0,O_ 18 (.bin .eql (t_ 16) (t_ 17)) 0]) (.cond (t_ 18) (R_ 0 [O_ 19 (.mv (t_ 5)) 0,O_ 20 (.bin .add (t_ 19) (i_ 1)) 0,O_ 5 (.mv (t_ 20)) 0]) .skip)))) (R_ 0 [O_ 21 (.bin .add (t_ 11) (i_ 1)) 0,O_ 11 (.mv (t_ 21)) 0]))))))) (.seq (R_ 0 [O_ 22 (.mv (t_ 5)) 0,O_ 4 (.mv (t_ 22)) 0]) .ret))))
theorem gc66_ok:compF Tryz.prog Tryz.f66=some (gc66.er,23,[.tmp 4]):=by unfold gc66;kernel_rfl
theorem p_book_State_many_v {u1:Bool} (a0:BookState) (a1:ByteArray):CallsO Tryz.prog 66 [.agg [.i a0.Seq,.sl (List.map BookRow.v a0.Rows) u1],.s a1] V.i (p_book_State_many a0 a1):=by
 refine callsO_comp mix Tryz.func66 gc66_ok fun r H=>?_
 rw [p_book_State_many] at H
 conv=>whnf
 refine LenQ.M ?_;conv=>whnf
 obtain ⟨o2,HL3,HQ4⟩:=bind_c H
 refine loop_c [5,11] [7,12,13,14,15,16,17,18,19,20,21,2,8] [7,12,13,14,15,16,17,18,19,20,21,2,8] (fun n vals st=>(∃ y6 y7,p_book_State_many_l1  a1 a0.Rows (a0.Rows.length:Int) n y6 y7=some o2∧vals=[.i y6,.i y7]∧st=[])) fuel 0 [] (⟨_,_,HL3,rfl,rfl⟩) (Nat.zero_le _) rfl (by kernel_rfl) (by kernel_rfl) rfl trivial ?_
 rintro (_ | n5) _ _ (⟨y6,y7,H,rfl,rfl⟩)
 ·rw [p_book_State_many_l1] at H;cases H
 rw [p_book_State_many_l1] at H
 conv=>whnf
 refine tst_d H (fun b8 H=>?_) (fun b8 H=>?_)
 ·conv=>whnf
  obtain rfl:=Option.some.inj H
  have H:=HQ4
  try dsimp only at H
  exact fi_ H
 conv=>whnf
 refine ixs_c (f:=BookRow.v) H (fun _=>rfl) (fun x9 H=>?_);conv=>whnf
 refine lq_ ?_;conv=>whnf
 refine tst_d H (fun b10 H=>?_) (fun b10 H=>?_)
 ·conv=>whnf
  refine Ari.w ?_;conv=>whnf
  exact again_c [7,12,13,14,15,16,17,18,19,20,21,2,8] n5 0 [] (⟨_,_,H,rfl,rfl⟩) (Nat.lt_succ_self _) (Nat.zero_le _) rfl (by kernel_rfl) (by kernel_rfl) rfl trivial
 conv=>whnf
 iterate 2 (refine Ari.w ?_;conv=>whnf)
 exact again_c [7,12,13,14,15,16,17,18,19,20,21,2,8] n5 0 [] (⟨_,_,H,rfl,rfl⟩) (Nat.lt_succ_self _) (Nat.zero_le _) rfl (by kernel_rfl) (by kernel_rfl) rfl trivial
def gc104:BCode:=(.seq (R_ 1 [O_ 2 (.bx (t_ 0)) 0,O_ 3 (.mv (b_ false)) 1]) (.seq (R_ 0 [O_ 4 (.ld 2 true (t_ 1)) 0,O_ 5 (.fa 0 (t_ 2)) 0,O_ 6 (.ld 1 false (t_ 5)) 0,O_ 7 (.cl 66 [(t_ 4),(t_ 6)]) 0,O_ 8 (.bin .gtr (t_ 7) (i_ 3)) 0,O_ 3 (.mv (t_ 8)) 0]) .ret))
theorem gc104_ok:compF Tryz.prog Tryz.f104=some (gc104.er,9,[.tmp 3]):=by unfold gc104;kernel_rfl
theorem p_book_Check_2_v {u1:Bool} (a0:BookRow) (c0:BookState):CallsO Tryz.prog 104 [.agg [.s a0.User,.s a0.Res,.b a0.P.On,.i a0.P.Show,.i a0.P.Prio,.i a0.P.Seq],.eptr [.i c0.Seq,.sl (List.map BookRow.v c0.Rows) u1]] V.b (p_book_Check_2 a0 c0):=by
 refine callsO_comp mix Tryz.func104 gc104_ok fun r H=>?_
 rw [p_book_Check_2] at H
 conv=>whnf
 refine ask_c (p_book_State_many_v _ _) H rfl rfl (fun v1 H=>?_);conv=>whnf
 exact fb_ H
def gc62:BCode:=(.seq (R_ 1 [O_ 1 (.bx (t_ 0)) 0,O_ 2 (.mv (i_ 0)) 1]) (.seq (.block 0 (.seq (R_ 0 [O_ 5 (.fa 1 (t_ 1)) 0,O_ 6 (.ld 1 false (t_ 5)) 0,O_ 7 (.lens (t_ 6)) 0,O_ 8 (.bin .gtr (t_ 7) (i_ 16)) 0,O_ 4 (.mv (t_ 8)) 0]) (.cond (t_ 4) (.seq (R_ 0 [O_ 2 (.mv (i_ 5)) 0]) .ret) (.seq (.seq (R_ 0 [O_ 10 (.fa 0 (t_ 1)) 0,O_ 11 (.ld 1 false (t_ 10)) 0,O_ 12 (.bin .lss (t_ 11) (i_ 0)) 0,O_ 9 (.mv (t_ 12)) 0]) (.cond (t_ 9) .skip (R_ 0 [O_ 13 (.fa 0 (t_ 1)) 0,O_ 14 (.ld 1 false (t_ 13)) 0,O_ 15 (.bin .gtr (t_ 14) (i_ 1099511627776)) 0,O_ 9 (.mv (t_ 15)) 0]))) (.cond (t_ 9) (.seq (R_ 0 [O_ 2 (.mv (i_ 8)) 0]) .ret) (.seq (R_ 0 [O_ 17 (.fa 1 (t_ 1)) 0,O_ 18 (.ld 1 false (t_ 17)) 0,O_ 19 (.cl 100 [(t_ 18),(.func 101)]) 0,O_ 16 (.mv (t_ 19)) 0]) (.cond (t_ 16) (.seq (R_ 0 [O_ 2 (.mv (i_ 11)) 0]) .ret) .skip))))))) (.seq (.seq (R_ 0 [O_ 20 (.ld 2 true (t_ 1)) 0,O_ 21 (.cl 102 [(t_ 20)]) 0,O_ 3 (.mv (t_ 21)) 0]) (.seq (R_ 0 [O_ 22 (.mv (t_ 3)) 0,O_ 23 (.bin .neq (t_ 22) (i_ 0)) 0]) (.cond (t_ 23) (.seq (R_ 0 [O_ 24 (.mv (t_ 3)) 0,O_ 2 (.mv (t_ 24)) 0]) .ret) .skip))) (.seq (.block 1 (.seq (R_ 0 [O_ 26 (.ld 2 true (t_ 1)) 0,O_ 27 (.cl 103 [(t_ 26)]) 0,O_ 28 (.un .not (t_ 27)) 0,O_ 25 (.mv (t_ 28)) 0]) (.cond (t_ 25) (.seq (R_ 0 [O_ 2 (.mv (i_ 10)) 0]) .ret) (.seq (.reg 0 [O_ 30 (.fa 1 (t_ 1)) 0,O_ 31 (.ld 1 false (t_ 30)) 0,O_ 32 (.mf (.func 104) [(t_ 1)]) 0,O_ 33 (.cl 100 [(t_ 31),(t_ 32)]) 0,O_ 29 (.mv (t_ 33)) 0] none 0 [1]) (.cond (t_ 29) (.seq (R_ 0 [O_ 2 (.mv (i_ 7)) 0]) .ret) .skip))))) (.seq (R_ 0 [O_ 2 (.mv (i_ 0)) 0]) .ret)))))
theorem gc62_ok:compF Tryz.prog Tryz.f62=some (gc62.er,34,[.tmp 2]):=by unfold gc62;kernel_rfl
theorem p_book_Check_v {u1:Bool} (a0:BookState):CallsO Tryz.prog 62 [.agg [.i a0.Seq,.sl (List.map BookRow.v a0.Rows) u1]] V.i (p_book_Check a0):=by
 refine callsO_comp mix Tryz.func62 gc62_ok fun r H=>?_
 rw [p_book_Check] at H
 conv=>whnf
 refine LenQ.M ?_;conv=>whnf
 refine tst_c H (fun b1 H=>?_) (fun b1 H=>?_)
 ·conv=>whnf
  exact fi_ H
 conv=>whnf
 refine tst_c H (fun b2 H=>?_) (fun b2 H=>?_)
 ·conv=>whnf
  refine Tst.T ?_;conv=>whnf
  exact fi_ H
 conv=>whnf
 refine tst_c H (fun b3 H=>?_) (fun b3 H=>?_)
 ·conv=>whnf
  exact fi_ H
 conv=>whnf
 refine askF_c (p_slices_ContainsFunc_book_Row_v _ _ ⟨⟨_,Tryz.func101,by kernel_rfl,by kernel_rfl⟩,rfl,fun x0=>p_book_Check_1_v _⟩) H (.cons (.c (.slw)) (.cons (.c (.clo (.nil))) (.nil))) (fun v4 H=>?_);conv=>whnf
 refine tst_c H (fun b5 H=>?_) (fun b5 H=>?_)
 ·conv=>whnf
  exact fi_ H
 conv=>whnf
 refine ask_c (p_book_State_errors_v _) H rfl rfl (fun v6 H=>?_);conv=>whnf
 refine tst_c H (fun b7 H=>?_) (fun b7 H=>?_)
 ·conv=>whnf
  exact fi_ H
 conv=>whnf
 refine ask_c (p_book_State_ordered_v _) H rfl rfl (fun v8 H=>?_);conv=>whnf
 refine Tst.not ?_
 refine tst_d H (fun b9 H=>?_) (fun b9 H=>?_)
 ·conv=>whnf
  exact fi_ H
 conv=>whnf
 refine ⟨Nat.zero_le _,?_⟩;conv=>whnf
 refine askF_c (p_slices_ContainsFunc_book_Row_v _ _ ⟨⟨_,Tryz.func104,by kernel_rfl,by kernel_rfl⟩,rfl,fun x0=>p_book_Check_2_v _ _⟩) H (.cons (.c (.slw)) (.cons (.c (.clo (.cons (.ptr rfl (Nat.le_of_ble_eq_true rfl) (.cons (.id rfl) (.cons (.id rfl) (.nil)))) (.nil)))) (.nil))) (fun v10 H=>?_);conv=>whnf
 refine tst_c H (fun b11 H=>?_) (fun b11 H=>?_)
 ·conv=>whnf
  exact fi_ H
 conv=>whnf
 exact fi_ H
def gc106:BCode:=(.seq (R_ 1 [O_ 2 (.bx (t_ 0)) 0,O_ 4 (.mv (i_ 0)) 1]) (.seq (R_ 0 [O_ 5 (.ld 6 true (t_ 2)) 0,O_ 6 (.cl 64 [(t_ 5)]) 0,O_ 7 (.mv (t_ 1)) 0,O_ 8 (.cl 107 [(t_ 6),(t_ 7)]) 0,O_ 4 (.mv (t_ 8)) 0]) .ret))
theorem gc106_ok:compF Tryz.prog Tryz.f106=some (gc106.er,9,[.tmp 4]):=by unfold gc106;kernel_rfl
theorem p_book_State_find_1_v (a0:BookRow) (a1:ByteArray):CallsO Tryz.prog 106 [.agg [.s a0.User,.s a0.Res,.b a0.P.On,.i a0.P.Show,.i a0.P.Prio,.i a0.P.Seq],.s a1] V.i (p_book_State_find_1 a0 a1):=by
 refine callsO_comp mix Tryz.func106 gc106_ok fun r H=>?_
 rw [p_book_State_find_1] at H
 conv=>whnf
 refine ask_c (p_book_Row_key_v _) H rfl rfl (fun v1 H=>?_);conv=>whnf
 refine ask_c (p_strings_Compare_v _ _) H rfl rfl (fun v2 H=>?_);conv=>whnf
 exact fi_ H
def gc105:BCode:=(.seq (R_ 0 [O_ 6 (.mv (i_ 0)) 0,O_ 7 (.mv (b_ false)) 0]) (.seq (R_ 0 [O_ 12 (.mv (t_ 0)) 0,O_ 13 (.lens (t_ 12)) 0,O_ 8 (.mv (t_ 13)) 0]) (.seq (R_ 0 [O_ 14 (.mv (t_ 8)) 0,O_ 9 (.mv (i_ 0)) 0,O_ 10 (.mv (t_ 14)) 0]) (.seq (.block 0 (.loop (.seq (.seq (R_ 0 [O_ 15 (.mv (t_ 9)) 0,O_ 16 (.mv (t_ 10)) 0,O_ 17 (.bin .lss (t_ 15) (t_ 16)) 0]) (.cond (t_ 17) .skip (.exit 0))) (.block 1 (.seq (R_ 0 [O_ 18 (.mv (t_ 9)) 0,O_ 19 (.mv (t_ 10)) 0,O_ 20 (.bin .add (t_ 18) (t_ 19)) 0,O_ 21 (.cvi .u64 (t_ 20)) 0,O_ 22 (.bin .shr (t_ 21) (.const (.int .u64 1))) 0,O_ 23 (.cvi .i64 (t_ 22)) 0,O_ 11 (.mv (t_ 23)) 0]) (.seq (R_ 0 [O_ 24 (.mv (t_ 2)) 0,O_ 25 (.mv (t_ 0)) 0,O_ 26 (.mv (t_ 11)) 0,O_ 27 (.ixs 6 (t_ 25) (t_ 26)) 0,O_ 28 (.ld 6 true (t_ 27)) 0,O_ 29 (.mv (t_ 1)) 0,O_ 30 (.cv (t_ 24) [(t_ 28),(t_ 29)]) 0,O_ 31 (.bin .lss (t_ 30) (i_ 0)) 0]) (.cond (t_ 31) (R_ 0 [O_ 32 (.mv (t_ 11)) 0,O_ 33 (.bin .add (t_ 32) (i_ 1)) 0,O_ 9 (.mv (t_ 33)) 0]) (R_ 0 [O_ 34 (.mv (t_ 11)) 0,O_ 10 (.mv (t_ 34)) 0])))))))) (.seq (R_ 0 [O_ 35 (.mv (t_ 9)) 0,O_ 36 (.mv (t_ 9)) 0,O_ 37 (.mv (t_ 8)) 0,O_ 38 (.bin .lss (t_ 36) (t_ 37)) 0,O_ 39 (.mv (t_ 38)) 0,⟨(some 40),.mv (t_ 2),(some (39,true)),0⟩,⟨(some 41),.mv (t_ 0),(some (39,true)),0⟩,⟨(some 42),.mv (t_ 9),(some (39,true)),0⟩,⟨(some 43),.ixs 6 (t_ 41) (t_ 42),(some (39,true)),0⟩,⟨(some 44),.ld 6 true (t_ 43),(some (39,true)),0⟩,⟨(some 45),.mv (t_ 1),(some (39,true)),0⟩,⟨(some 46),.cv (t_ 40) [(t_ 44),(t_ 45)],(some (39,true)),0⟩,⟨(some 47),.bin .eql (t_ 46) (i_ 0),(some (39,true)),0⟩,O_ 48 (.pick (t_ 39) (t_ 47) (b_ false)) 0,O_ 6 (.mv (t_ 35)) 0,O_ 7 (.mv (t_ 48)) 0]) .ret)))))
theorem gc105_ok:compF Tryz.prog Tryz.f105=some (gc105.er,49,[.tmp 6,.tmp 7]):=by unfold gc105;kernel_rfl
theorem p_slices_BinarySearchFunc_book_Row_v {u1:Bool} (a0:List BookRow) (a1:ByteArray) (a2:BookRow→ByteArray→Option Int) {a2_g:Nat} {a2_k:List V} (a2_h:Clo2 Tryz.prog a2_g a2_k BookRow.v V.s V.i a2):CallsO Tryz.prog 105 [.sl (List.map BookRow.v a0) u1,.s a1,.clo (.func a2_g) a2_k] (fun r:Int × Bool=>.tup [V.i r.1,V.b r.2]) (p_slices_BinarySearchFunc_book_Row a0 a1 a2):=by
 refine callsO_comp mix Tryz.func105 gc105_ok fun r H=>?_
 rw [p_slices_BinarySearchFunc_book_Row] at H
 conv=>whnf
 refine LenQ.M ?_;conv=>whnf
 obtain ⟨o2,HL3,HQ4⟩:=bind_c H
 refine loop_c [9,10] [11,15,16,17,18,19,20,21,22,23,24,25,26,27,28,29,30,31,32,33,34] [11,15,16,17,18,19,20,21,22,23,24,25,26,27,28,29,30,31,32,33,34] (fun n vals st=>(∃ y6 y7,p_slices_BinarySearchFunc_book_Row_l1  a2 a0 a1 n y6 y7=some o2∧vals=[.i y6,.i y7]∧st=[])) fuel 0 [] (⟨_,_,HL3,rfl,rfl⟩) (Nat.zero_le _) rfl (by simp only [maskF,setF,List.set_cons_zero,List.set_cons_succ,V.ren.renL,V.ren,renL_id _ a2_h.own] <;> rfl) (by simp only [maskF,setF,List.set_cons_zero,List.set_cons_succ,V.idlt.belowL,V.idlt,fun n=>idltL_up (n:=n) _ a2_h.own] <;> rfl) rfl trivial ?_
 rintro (_ | n5) _ _ (⟨y6,y7,H,rfl,rfl⟩)
 ·rw [p_slices_BinarySearchFunc_book_Row_l1] at H;cases H
 rw [p_slices_BinarySearchFunc_book_Row_l1] at H
 conv=>whnf
 refine tst_d H (fun b8 H=>?_) (fun b8 H=>?_)
 ·conv=>whnf
  obtain rfl:=Option.some.inj H
  have H:=HQ4
  try dsimp only at H
  refine tst_d H (fun b12 H=>?_) (fun b12 H=>?_)
  ·conv=>whnf
   iterate 8 (refine Tst.F ?_;conv=>whnf)
   exact fq_ H
  conv=>whnf
  iterate 3 (refine Tst.T ?_;conv=>whnf)
  refine ixs_c (f:=BookRow.v) H (fun _=>rfl) (fun x13 H=>?_);conv=>whnf
  iterate 3 (refine Tst.T ?_;conv=>whnf)
  refine askC2_c a2_h H (.cons (fzagg (.cons (.id rfl) (.cons (.id rfl) (.cons (.id rfl) (.cons (.id rfl) (.cons (.id rfl) (.cons (.id rfl) (.nil))))))) rfl) (.cons (.c (.id rfl)) (.nil))) (fun v14 H=>?_);conv=>whnf
  iterate 2 (refine Tst.T ?_;conv=>whnf)
  exact fq_ H
 conv=>whnf
 iterate 2 (refine Ari.w ?_;conv=>whnf)
 refine Shr.ok (by decide) ?_;conv=>whnf
 refine Ari.w ?_;conv=>whnf
 refine ixs_c (f:=BookRow.v) H (fun _=>rfl) (fun x9 H=>?_);conv=>whnf
 refine askC2_c a2_h H (.cons (fzagg (.cons (.id rfl) (.cons (.id rfl) (.cons (.id rfl) (.cons (.id rfl) (.cons (.id rfl) (.cons (.id rfl) (.nil))))))) rfl) (.cons (.c (.id rfl)) (.nil))) (fun v10 H=>?_);conv=>whnf
 refine tst_d H (fun b11 H=>?_) (fun b11 H=>?_)
 ·conv=>whnf
  exact again_c [11,15,16,17,18,19,20,21,22,23,24,25,26,27,28,29,30,31,32,33,34] n5 0 [] (⟨_,_,H,rfl,rfl⟩) (Nat.lt_succ_self _) (Nat.zero_le _) rfl (by simp only [maskF,setF,List.set_cons_zero,List.set_cons_succ,V.ren.renL,V.ren,renL_id _ a2_h.own] <;> rfl) (by simp only [maskF,setF,List.set_cons_zero,List.set_cons_succ,V.idlt.belowL,V.idlt,fun n=>idltL_up (n:=n) _ a2_h.own] <;> rfl) rfl trivial
 conv=>whnf
 refine Ari.w ?_;conv=>whnf
 exact again_c [11,15,16,17,18,19,20,21,22,23,24,25,26,27,28,29,30,31,32,33,34] n5 0 [] (⟨_,_,H,rfl,rfl⟩) (Nat.lt_succ_self _) (Nat.zero_le _) rfl (by simp only [maskF,setF,List.set_cons_zero,List.set_cons_succ,V.ren.renL,V.ren,renL_id _ a2_h.own] <;> rfl) (by simp only [maskF,setF,List.set_cons_zero,List.set_cons_succ,V.idlt.belowL,V.idlt,fun n=>idltL_up (n:=n) _ a2_h.own] <;> rfl) rfl trivial
def gc63:BCode:=(.seq (R_ 1 [O_ 2 (.bx (t_ 0)) 0,O_ 4 (.mv (i_ 0)) 1,O_ 5 (.mv (b_ false)) 1]) (.seq (R_ 0 [O_ 6 (.fa 1 (t_ 2)) 0,O_ 7 (.ld 1 false (t_ 6)) 0,O_ 8 (.mv (t_ 1)) 0,O_ 9 (.cl 105 [(t_ 7),(t_ 8),(.func 106)]) 0,O_ 10 (.ex (t_ 9) 0) 0,O_ 11 (.ex (t_ 9) 1) 0,O_ 4 (.mv (t_ 10)) 0,O_ 5 (.mv (t_ 11)) 0]) .ret))
theorem gc63_ok:compF Tryz.prog Tryz.f63=some (gc63.er,12,[.tmp 4,.tmp 5]):=by unfold gc63;kernel_rfl
theorem p_book_State_find_v {u1:Bool} (a0:BookState) (a1:ByteArray):CallsO Tryz.prog 63 [.agg [.i a0.Seq,.sl (List.map BookRow.v a0.Rows) u1],.s a1] (fun r:Int × Bool=>.tup [V.i r.1,V.b r.2]) (p_book_State_find a0 a1):=by
 refine callsO_comp mix Tryz.func63 gc63_ok fun r H=>?_
 rw [p_book_State_find] at H
 conv=>whnf
 refine askF_c (p_slices_BinarySearchFunc_book_Row_v _ _ _ ⟨⟨_,Tryz.func106,by kernel_rfl,by kernel_rfl⟩,rfl,fun x0 x1=>p_book_State_find_1_v _ _⟩) H (.cons (.c (.slw)) (.cons (.c (.id rfl)) (.cons (.c (.clo (.nil))) (.nil)))) (fun v1 H=>?_);conv=>whnf
 exact fq_ H
end Go.Proofs.YtdoakplhalonfaaGreat

