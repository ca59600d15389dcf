/- A part of the proof: 2 texts joined. -/
import Derived.Test.YtpmoioopjbfhkaaGreatWaA14
import Derived.KernelRfl
set_option linter.all false
/- Plain functions (written by a program of mine). -/
namespace Go.Proofs.YtpmoioopjbfhkaaGreat
open Go.RowKit
def p_ref35_rising_l1 (z4:List MailEntry):Nat→Int→Option (Bool ⊕ Int)
 | 0,_=>none
 | n + 1,y5 =>
  bif (decide (y5 < (z4.length:Int))) then
   (at? z4 (w64 (y5 - (1:Int)))).bind fun x7 =>
   (at? z4 y5).bind fun x8 =>
   bif (Op.bytesLess x7.Key.toList x8.Key.toList) then
    p_ref35_rising_l1 z4 n (w64 (y5 + (1:Int)))
   else
   some (.inl false)
  else
  some (.inr y5)
def p_ref35_rising (a0:List MailEntry):Option (Bool) :=
 (p_ref35_rising_l1 a0 fuel (1:Int)).bind fun o10=>match o10 with
 | .inl q11 =>
  some q11
 | .inr q12 =>
  some true
def p_ref35_Check_l1 (z14:Ref35State):Nat→Bool→Int→Option ((Bool × Int))
 | 0,_,_=>none
 | n + 1,y12,y13 =>
  bif (decide (y13 < (z14.Seen.length:Int))) then
   bif y12 then
    (at? z14.Seen (w64 (y13 - (1:Int)))).bind fun x17 =>
    (at? z14.Seen y13).bind fun x18 =>
    p_ref35_Check_l1 z14 n (Op.bytesLess x17.toList x18.toList) (w64 (y13 + (1:Int)))
   else
   p_ref35_Check_l1 z14 n false (w64 (y13 + (1:Int)))
  else
  some (y12,y13)
def p_ref35_Check_l3 (z51:Ref35State):Nat→Bool→Int→Option ((Bool × Int))
 | 0,_,_=>none
 | n + 1,y49,y50 =>
  bif (decide (y50 < (z51.Seen.length:Int))) then
   bif y49 then
    (at? z51.Seen (w64 (y50 - (1:Int)))).bind fun x54 =>
    (at? z51.Seen y50).bind fun x55 =>
    p_ref35_Check_l3 z51 n (Op.bytesLess x54.toList x55.toList) (w64 (y50 + (1:Int)))
   else
   p_ref35_Check_l3 z51 n false (w64 (y50 + (1:Int)))
  else
  some (y49,y50)
def p_ref35_Check_l2 (z60:Ref35State):Nat→Bool→Int→Option ((Bool × Int))
 | 0,_,_=>none
 | n + 1,y58,y59 =>
  bif (decide (y59 < (z60.List.length:Int))) then
   bif y58 then
    (at? z60.List (w64 (y59 - (1:Int)))).bind fun x63 =>
    (at? z60.List y59).bind fun x64 =>
    p_ref35_Check_l2 z60 n (Op.bytesLess x63.User.toList x64.User.toList) (w64 (y59 + (1:Int)))
   else
   p_ref35_Check_l2 z60 n false (w64 (y59 + (1:Int)))
  else
  some (y58,y59)
def p_ref35_Check (a0:Ref35State):Option (Int) :=
 bif (decide ((64:Int) < (a0.Rows.length:Int))) then
  some (5:Int)
 else
 bif (decide ((64:Int) < (a0.Last.length:Int))) then
  some (5:Int)
 else
 bif (decide ((64:Int) < (a0.Seen.length:Int))) then
  some (5:Int)
 else
 bif (decide ((64:Int) < (a0.List.length:Int))) then
  some (5:Int)
 else
 (p_ref35_rising a0.Rows).bind fun v5 =>
 bif v5 then
  (p_ref35_rising a0.Last).bind fun v7 =>
  (p_ref35_Check_l1 a0 fuel v7 (1:Int)).bind fun q20 =>
  (p_ref35_Check_l2 a0 fuel q20.1 (1:Int)).bind fun q33 =>
  bif q33.1 then
   bif a0.Anew then
    bif (decide (a0.Odd < (0:Int))) then
     some (9:Int)
    else
    bif (decide ((1099511627776:Int) < a0.Odd)) then
     some (9:Int)
    else
    bif (decide (a0.Told < (0:Int))) then
     some (9:Int)
    else
    bif (decide ((1099511627776:Int) < a0.Told)) then
     some (9:Int)
    else
    some (0:Int)
   else
   bif (decide ((0:Int) < (a0.Seen.length:Int))) then
    some (9:Int)
   else
   bif (decide (a0.Odd < (0:Int))) then
    some (9:Int)
   else
   bif (decide ((1099511627776:Int) < a0.Odd)) then
    some (9:Int)
   else
   bif (decide (a0.Told < (0:Int))) then
    some (9:Int)
   else
   bif (decide ((1099511627776:Int) < a0.Told)) then
    some (9:Int)
   else
   some (0:Int)
  else
  some (10:Int)
 else
 (p_ref35_Check_l3 a0 fuel false (1:Int)).bind fun q57 =>
 (p_ref35_Check_l2 a0 fuel q57.1 (1:Int)).bind fun q66 =>
 bif q66.1 then
  bif a0.Anew then
   bif (decide (a0.Odd < (0:Int))) then
    some (9:Int)
   else
   bif (decide ((1099511627776:Int) < a0.Odd)) then
    some (9:Int)
   else
   bif (decide (a0.Told < (0:Int))) then
    some (9:Int)
   else
   bif (decide ((1099511627776:Int) < a0.Told)) then
    some (9:Int)
   else
   some (0:Int)
  else
  bif (decide ((0:Int) < (a0.Seen.length:Int))) then
   some (9:Int)
  else
  bif (decide (a0.Odd < (0:Int))) then
   some (9:Int)
  else
  bif (decide ((1099511627776:Int) < a0.Odd)) then
   some (9:Int)
  else
  bif (decide (a0.Told < (0:Int))) then
   some (9:Int)
  else
  bif (decide ((1099511627776:Int) < a0.Told)) then
   some (9:Int)
  else
  some (0:Int)
 else
 some (10:Int)
def p_ref35_seen_l1 (z5:ByteArray) (z7:Ref35State):Nat→Int→Option (Bool ⊕ Int)
 | 0,_=>none
 | n + 1,y6 =>
  bif (decide (y6 < (z7.Seen.length:Int))) then
   (at? z7.Seen y6).bind fun x9 =>
   bif (x9.toList == z5.toList) then
    some (.inl true)
   else
   p_ref35_seen_l1 z5 z7 n (w64 (y6 + (1:Int)))
  else
  some (.inr y6)
def p_ref35_seen (a0:Ref35State) (a1:ByteArray):Option (Bool) :=
 (p_ref35_seen_l1 a1 a0 fuel (0:Int)).bind fun o11=>match o11 with
 | .inl q12 =>
  some q12
 | .inr q13 =>
  some false
def p_ref35_done_l1 (z8:Ref35State):Nat→(List MailEntry)→Int→Option (((List MailEntry) × Int))
 | 0,_,_=>none
 | n + 1,y6,y7 =>
  bif (decide (y7 < (z8.Rows.length:Int))) then
   (at? z8.Rows y7).bind fun x11 =>
   (p_ref35_seen z8 x11.Key).bind fun v12 =>
   bif v12 then
    (at? z8.Rows y7).bind fun x14 =>
    (app? y6 [x14]).bind fun l15 =>
    p_ref35_done_l1 z8 n l15 (w64 (y7 + (1:Int)))
   else
   p_ref35_done_l1 z8 n y6 (w64 (y7 + (1:Int)))
  else
  some (y6,y7)
def p_ref35_done (a0:Ref35State):Option (Ref35State) :=
 bif a0.Anew then
  (p_ref35_done_l1 a0 fuel [] (0:Int)).bind fun q17 =>
  some (Ref35State.mk q17.1 a0.Last false [] a0.List a0.Odd a0.Told)
 else
 some a0
def p_ref23_Check (a0:PresPres):Option (Int) :=
 bif (decide (a0.Show < (0:Int))) then
  some (8:Int)
 else
 bif (decide ((4:Int) < a0.Show)) then
  some (8:Int)
 else
 bif (decide (a0.Prio < (-128:Int))) then
  some (8:Int)
 else
 bif (decide ((127:Int) < a0.Prio)) then
  some (8:Int)
 else
 bif (decide (a0.Seq < (0:Int))) then
  some (8:Int)
 else
 bif (decide ((1099511627776:Int) < a0.Seq)) then
  some (8:Int)
 else
 bif a0.On then
  some (0:Int)
 else
 bif (a0.Show != (0:Int)) then
  some (4:Int)
 else
 bif (a0.Prio != (0:Int)) then
  some (4:Int)
 else
 some (0:Int)
def p_ref23_Of (a0:StanzaStanza):Option (ByteArray × ByteArray × PresPres × Int) :=
 bif (a0.Kind != (34:Int)) then
  bif (a0.Kind != (35:Int)) then
   bif ((12:Int) != (0:Int)) then
    some ((⟨#[]⟩ : ByteArray),(⟨#[]⟩ : ByteArray),(PresPres.mk false (0:Int) (0:Int) (0:Int)),(12:Int))
   else
   some (a0.User,a0.Res,(PresPres.mk (a0.Kind == (34:Int)) a0.Show a0.Prio a0.N),(0:Int))
  else
  (p_ref10_Check a0).bind fun v4 =>
  bif (v4 != (0:Int)) then
   (p_ref10_Check a0).bind fun v6 =>
   bif (v6 != (0:Int)) then
    some ((⟨#[]⟩ : ByteArray),(⟨#[]⟩ : ByteArray),(PresPres.mk false (0:Int) (0:Int) (0:Int)),v6)
   else
   some (a0.User,a0.Res,(PresPres.mk (a0.Kind == (34:Int)) a0.Show a0.Prio a0.N),(0:Int))
  else
  (p_ref23_Check (PresPres.mk (a0.Kind == (34:Int)) a0.Show a0.Prio a0.N)).bind fun v8 =>
  bif (v8 != (0:Int)) then
   some ((⟨#[]⟩ : ByteArray),(⟨#[]⟩ : ByteArray),(PresPres.mk false (0:Int) (0:Int) (0:Int)),v8)
  else
  some (a0.User,a0.Res,(PresPres.mk (a0.Kind == (34:Int)) a0.Show a0.Prio a0.N),(0:Int))
 else
 (p_ref10_Check a0).bind fun v10 =>
 bif (v10 != (0:Int)) then
  (p_ref10_Check a0).bind fun v12 =>
  bif (v12 != (0:Int)) then
   some ((⟨#[]⟩ : ByteArray),(⟨#[]⟩ : ByteArray),(PresPres.mk false (0:Int) (0:Int) (0:Int)),v12)
  else
  some (a0.User,a0.Res,(PresPres.mk (a0.Kind == (34:Int)) a0.Show a0.Prio a0.N),(0:Int))
 else
 (p_ref23_Check (PresPres.mk (a0.Kind == (34:Int)) a0.Show a0.Prio a0.N)).bind fun v14 =>
 bif (v14 != (0:Int)) then
  some ((⟨#[]⟩ : ByteArray),(⟨#[]⟩ : ByteArray),(PresPres.mk false (0:Int) (0:Int) (0:Int)),v14)
 else
 some (a0.User,a0.Res,(PresPres.mk (a0.Kind == (34:Int)) a0.Show a0.Prio a0.N),(0:Int))
def p_ref23_named (a0:ByteArray) (a1:ByteArray):Option (Bool) :=
 (p_ref09_IsBare a0).bind fun v1 =>
 bif v1 then
  (p_ref09_Resource a1).bind fun v3 =>
  some (v3 == (0:Int))
 else
 some false
def p_ref23_Key (a0:ByteArray) (a1:ByteArray):Option (ByteArray) :=
 (p_ref23_named a0 a1).bind fun v1 =>
 bif v1 then
  (cat? a0 (⟨#[32]⟩ : ByteArray)).bind fun s3 =>
  (cat? s3 a1).bind fun s4 =>
  some s4
 else
 some (⟨#[]⟩ : ByteArray)
def p_ref35_find_l1 (z6:List MailEntry) (z7:ByteArray):Nat→Int→Option ((PresPres × Bool) ⊕ Int)
 | 0,_=>none
 | n + 1,y8 =>
  bif (decide (y8 < (z6.length:Int))) then
   (at? z6 y8).bind fun x11 =>
   bif (x11.Key.toList == z7.toList) then
    (at? z6 y8).bind fun x13 =>
    some (.inl (x13.P,true))
   else
   p_ref35_find_l1 z6 z7 n (w64 (y8 + (1:Int)))
  else
  some (.inr y8)
def p_ref35_find (a0:List MailEntry) (a1:ByteArray):Option (PresPres × Bool) :=
 (p_ref35_find_l1 a0 a1 fuel (0:Int)).bind fun o14=>match o14 with
 | .inl q15 =>
  some q15
 | .inr q16 =>
  some ((PresPres.mk false (0:Int) (0:Int) (0:Int)),false)
def p_ref35_without_l1 (z6:List MailEntry) (z7:ByteArray):Nat→(List MailEntry)→Int→Option (((List MailEntry) × Int))
 | 0,_,_=>none
 | n + 1,y8,y9 =>
  bif (decide (y9 < (z6.length:Int))) then
   (at? z6 y9).bind fun x11 =>
   bif (x11.Key.toList == z7.toList) then
    p_ref35_without_l1 z6 z7 n y8 (w64 (y9 + (1:Int)))
   else
   (at? z6 y9).bind fun x13 =>
   (app? y8 [x13]).bind fun l14 =>
   p_ref35_without_l1 z6 z7 n l14 (w64 (y9 + (1:Int)))
  else
  some (y8,y9)
def p_ref35_without (a0:List MailEntry) (a1:ByteArray):Option ((List MailEntry)) :=
 (p_ref35_without_l1 a0 a1 fuel [] (0:Int)).bind fun q16 =>
 some q16.1
def p_ref35_with_l1 (z23:List MailEntry) (z25:MailEntry):Nat→Int→Option (Int)
 | 0,_=>none
 | n + 1,y24 =>
  bif (decide (y24 < (z23.length:Int))) then
   (at? z23 y24).bind fun x27 =>
   bif (Op.bytesLess x27.Key.toList z25.Key.toList) then
    p_ref35_with_l1 z23 z25 n (w64 (y24 + (1:Int)))
   else
   some y24
  else
  some y24
def p_ref35_with (a0:List MailEntry) (a1:MailEntry):Option ((List MailEntry)) :=
 (p_ref35_find a0 a1.Key).bind fun v1 =>
 bif v1.2 then
  (p_ref35_without a0 a1.Key).bind fun v3 =>
  (p_ref35_with_l1 v3 a1 fuel (0:Int)).bind fun q15 =>
  (cut? v3 none (some q15)).bind fun x16 =>
  (app? ([]:List MailEntry) x16).bind fun l17 =>
  (app? l17 [a1]).bind fun l18 =>
  (cut? v3 (some q15) none).bind fun x19 =>
  (app? l18 x19).bind fun l20 =>
  some l20
 else
 bif (decide ((64:Int)≤(a0.length:Int))) then
  some a0
 else
 (p_ref35_without a0 a1.Key).bind fun v22 =>
 (p_ref35_with_l1 v22 a1 fuel (0:Int)).bind fun q30 =>
 (cut? v22 none (some q30)).bind fun x31 =>
 (app? ([]:List MailEntry) x31).bind fun l32 =>
 (app? l32 [a1]).bind fun l33 =>
 (cut? v22 (some q30) none).bind fun x34 =>
 (app? l33 x34).bind fun l35 =>
 some l35
def p_ref35_see_l1 (z8:ByteArray) (z10:Ref35State):Nat→Int→Option (Int)
 | 0,_=>none
 | n + 1,y9 =>
  bif (decide (y9 < (z10.Seen.length:Int))) then
   (at? z10.Seen y9).bind fun x13 =>
   bif (Op.bytesLess x13.toList z8.toList) then
    p_ref35_see_l1 z8 z10 n (w64 (y9 + (1:Int)))
   else
   some y9
  else
  some y9
def p_ref35_see (a0:Ref35State) (a1:ByteArray):Option (Ref35State) :=
 (p_ref35_seen a0 a1).bind fun v1 =>
 bif v1 then
  some a0
 else
 bif (decide ((64:Int)≤(a0.Seen.length:Int))) then
  some a0
 else
 (p_ref35_see_l1 a1 a0 fuel (0:Int)).bind fun q16 =>
 (cut? a0.Seen none (some q16)).bind fun x17 =>
 (app? ([]:List ByteArray) x17).bind fun l18 =>
 (app? l18 [a1]).bind fun l19 =>
 (cut? a0.Seen (some q16) none).bind fun x20 =>
 (app? l19 x20).bind fun l21 =>
 some (Ref35State.mk a0.Rows a0.Last a0.Anew l21 a0.List a0.Odd a0.Told)
def p_ref35_row (a0:Ref35State) (a1:StanzaStanza):Option (Ref35State) :=
 (p_ref23_Of a1).bind fun v1 =>
 bif (v1.2.2.2 != (0:Int)) then
  some a0
 else
 (p_ref23_Key v1.1 v1.2.1).bind fun v3 =>
 (p_ref35_find a0.Last v3).bind fun v4 =>
 bif v4.2 then
  bif (decide (v1.2.2.1.Seq < v4.1.Seq)) then
   (p_ref35_with a0.Last (MailEntry.mk v3 v1.2.2.1)).bind fun v7 =>
   bif v1.2.2.1.On then
    (p_ref35_with a0.Rows (MailEntry.mk v3 v1.2.2.1)).bind fun v9 =>
    bif a0.Anew then
     (p_ref35_see (Ref35State.mk v9 v7 a0.Anew a0.Seen a0.List (if w64 (a0.Odd + (1:Int)) < (1099511627776:Int) then w64 (a0.Odd + (1:Int)) else (1099511627776:Int)) a0.Told) v3).bind fun v11 =>
     some v11
    else
    some (Ref35State.mk v9 v7 a0.Anew a0.Seen a0.List (if w64 (a0.Odd + (1:Int)) < (1099511627776:Int) then w64 (a0.Odd + (1:Int)) else (1099511627776:Int)) a0.Told)
   else
   (p_ref35_without a0.Rows v3).bind fun v12 =>
   bif a0.Anew then
    (p_ref35_see (Ref35State.mk v12 v7 a0.Anew a0.Seen a0.List (if w64 (a0.Odd + (1:Int)) < (1099511627776:Int) then w64 (a0.Odd + (1:Int)) else (1099511627776:Int)) a0.Told) v3).bind fun v14 =>
    some v14
   else
   some (Ref35State.mk v12 v7 a0.Anew a0.Seen a0.List (if w64 (a0.Odd + (1:Int)) < (1099511627776:Int) then w64 (a0.Odd + (1:Int)) else (1099511627776:Int)) a0.Told)
  else
  bif (v4.1.Seq == v1.2.2.1.Seq) then
   bif a0.Anew then
    (p_ref35_with a0.Last (MailEntry.mk v3 v1.2.2.1)).bind fun v17 =>
    bif v1.2.2.1.On then
     (p_ref35_with a0.Rows (MailEntry.mk v3 v1.2.2.1)).bind fun v19 =>
     (p_ref35_see (Ref35State.mk v19 v17 a0.Anew a0.Seen a0.List a0.Odd a0.Told) v3).bind fun v20 =>
     some v20
    else
    (p_ref35_without a0.Rows v3).bind fun v21 =>
    (p_ref35_see (Ref35State.mk v21 v17 a0.Anew a0.Seen a0.List a0.Odd a0.Told) v3).bind fun v22 =>
    some v22
   else
   (p_ref35_with a0.Last (MailEntry.mk v3 v1.2.2.1)).bind fun v23 =>
   bif v1.2.2.1.On then
    (p_ref35_with a0.Rows (MailEntry.mk v3 v1.2.2.1)).bind fun v25 =>
    some (Ref35State.mk v25 v23 a0.Anew a0.Seen a0.List (if w64 (a0.Odd + (1:Int)) < (1099511627776:Int) then w64 (a0.Odd + (1:Int)) else (1099511627776:Int)) a0.Told)
   else
   (p_ref35_without a0.Rows v3).bind fun v26 =>
   some (Ref35State.mk v26 v23 a0.Anew a0.Seen a0.List (if w64 (a0.Odd + (1:Int)) < (1099511627776:Int) then w64 (a0.Odd + (1:Int)) else (1099511627776:Int)) a0.Told)
  else
  (p_ref35_with a0.Last (MailEntry.mk v3 v1.2.2.1)).bind fun v27 =>
  bif v1.2.2.1.On then
   (p_ref35_with a0.Rows (MailEntry.mk v3 v1.2.2.1)).bind fun v29 =>
   bif a0.Anew then
    (p_ref35_see (Ref35State.mk v29 v27 a0.Anew a0.Seen a0.List a0.Odd a0.Told) v3).bind fun v31 =>
    some v31
   else
   some (Ref35State.mk v29 v27 a0.Anew a0.Seen a0.List a0.Odd a0.Told)
  else
  (p_ref35_without a0.Rows v3).bind fun v32 =>
  bif a0.Anew then
   (p_ref35_see (Ref35State.mk v32 v27 a0.Anew a0.Seen a0.List a0.Odd a0.Told) v3).bind fun v34 =>
   some v34
  else
  some (Ref35State.mk v32 v27 a0.Anew a0.Seen a0.List a0.Odd a0.Told)
 else
 (p_ref35_with a0.Last (MailEntry.mk v3 v1.2.2.1)).bind fun v35 =>
 bif v1.2.2.1.On then
  (p_ref35_with a0.Rows (MailEntry.mk v3 v1.2.2.1)).bind fun v37 =>
  bif a0.Anew then
   (p_ref35_see (Ref35State.mk v37 v35 a0.Anew a0.Seen a0.List a0.Odd a0.Told) v3).bind fun v39 =>
   some v39
  else
  some (Ref35State.mk v37 v35 a0.Anew a0.Seen a0.List a0.Odd a0.Told)
 else
 (p_ref35_without a0.Rows v3).bind fun v40 =>
 bif a0.Anew then
  (p_ref35_see (Ref35State.mk v40 v35 a0.Anew a0.Seen a0.List a0.Odd a0.Told) v3).bind fun v42 =>
  some v42
 else
 some (Ref35State.mk v40 v35 a0.Anew a0.Seen a0.List a0.Odd a0.Told)
def p_ref35_list_l1 (z10:Ref35State) (z11:StanzaStanza):Nat→(List Ref35Contact)→Bool→Int→Option (((List Ref35Contact) × Bool × Int))
 | 0,_,_,_=>none
 | n + 1,y7,y8,y9 =>
  bif (decide (y9 < (z10.List.length:Int))) then
   (at? z10.List y9).bind fun x14 =>
   bif (x14.User.toList == z11.User.toList) then
    p_ref35_list_l1 z10 z11 n y7 true (w64 (y9 + (1:Int)))
   else
   (at? z10.List y9).bind fun x16 =>
   (app? y7 [x16]).bind fun l17 =>
   p_ref35_list_l1 z10 z11 n l17 y8 (w64 (y9 + (1:Int)))
  else
  some (y7,y8,y9)
def p_ref35_list_l2 (z30:List Ref35Contact) (z33:StanzaStanza):Nat→Int→Option (Int)
 | 0,_=>none
 | n + 1,y31 =>
  bif (decide (y31 < (z30.length:Int))) then
   (at? z30 y31).bind fun x36 =>
   bif (Op.bytesLess x36.User.toList z33.User.toList) then
    p_ref35_list_l2 z30 z33 n (w64 (y31 + (1:Int)))
   else
   some y31
  else
  some y31
def p_ref35_list (a0:Ref35State) (a1:StanzaStanza):Option (Ref35State) :=
 (p_ref35_list_l1 a0 a1 fuel [] false (0:Int)).bind fun q19 =>
 ((
  bif (a1.Kind == (38:Int)) then
   bif q19.2.1 then
    some true
   else
   some (decide ((a0.List.length:Int) < (64:Int)))
  else
  some false):Option (Bool)).bind fun q23 =>
 bif q23 then
  (p_ref35_list_l2 q19.1 a1 fuel (0:Int)).bind fun q39 =>
  (cut? q19.1 none (some q39)).bind fun x40 =>
  (app? ([]:List Ref35Contact) x40).bind fun l41 =>
  (app? l41 [(Ref35Contact.mk a1.User a1.Name a1.Show a1.N)]).bind fun l42 =>
  (cut? q19.1 (some q39) none).bind fun x43 =>
  (app? l42 x43).bind fun l44 =>
  some (Ref35State.mk a0.Rows a0.Last a0.Anew a0.Seen l44 a0.Odd a0.Told)
 else
 some (Ref35State.mk a0.Rows a0.Last a0.Anew a0.Seen q19.1 a0.Odd a0.Told)
def p_ref35_Tell (a0:Ref35State) (a1:StanzaStanza):Option (Ref35State) :=
 (p_ref35_Check a0).bind fun v1 =>
 bif (v1 != (0:Int)) then
  some a0
 else
 bif (a1.Kind == (36:Int)) then
  some (Ref35State.mk a0.Rows a0.Last true [] a0.List a0.Odd (if w64 (a0.Told + (1:Int)) < (1099511627776:Int) then w64 (a0.Told + (1:Int)) else (1099511627776:Int)))
 else
 bif (a1.Kind == (37:Int)) then
  (p_ref35_done (Ref35State.mk a0.Rows a0.Last a0.Anew a0.Seen a0.List a0.Odd (if w64 (a0.Told + (1:Int)) < (1099511627776:Int) then w64 (a0.Told + (1:Int)) else (1099511627776:Int)))).bind fun v5 =>
  some v5
 else
 bif (a1.Kind == (34:Int)) then
  (p_ref35_row (Ref35State.mk a0.Rows a0.Last a0.Anew a0.Seen a0.List a0.Odd (if w64 (a0.Told + (1:Int)) < (1099511627776:Int) then w64 (a0.Told + (1:Int)) else (1099511627776:Int))) a1).bind fun v7 =>
  some v7
 else
 bif (a1.Kind == (35:Int)) then
  (p_ref35_row (Ref35State.mk a0.Rows a0.Last a0.Anew a0.Seen a0.List a0.Odd (if w64 (a0.Told + (1:Int)) < (1099511627776:Int) then w64 (a0.Told + (1:Int)) else (1099511627776:Int))) a1).bind fun v9 =>
  some v9
 else
 bif (a1.Kind == (38:Int)) then
  (p_ref35_list (Ref35State.mk a0.Rows a0.Last a0.Anew a0.Seen a0.List a0.Odd (if w64 (a0.Told + (1:Int)) < (1099511627776:Int) then w64 (a0.Told + (1:Int)) else (1099511627776:Int))) a1).bind fun v11 =>
  some v11
 else
 bif (a1.Kind == (39:Int)) then
  (p_ref35_list (Ref35State.mk a0.Rows a0.Last a0.Anew a0.Seen a0.List a0.Odd (if w64 (a0.Told + (1:Int)) < (1099511627776:Int) then w64 (a0.Told + (1:Int)) else (1099511627776:Int))) a1).bind fun v13 =>
  some v13
 else
 some (Ref35State.mk a0.Rows a0.Last a0.Anew a0.Seen a0.List a0.Odd (if w64 (a0.Told + (1:Int)) < (1099511627776:Int) then w64 (a0.Told + (1:Int)) else (1099511627776:Int)))
def p_ref35_Run_l1 (z5:List StanzaStanza):Nat→Int→Ref35State→Option ((Int × Ref35State))
 | 0,_,_=>none
 | n + 1,y6,y7 =>
  bif (decide (y6 < (z5.length:Int))) then
   (at? z5 y6).bind fun x10 =>
   (p_ref35_Tell y7 x10).bind fun v11 =>
   p_ref35_Run_l1 z5 n (w64 (y6 + (1:Int))) v11
  else
  some (y6,y7)
def p_ref35_Run (a0:Ref35State) (a1:List StanzaStanza):Option (Ref35State) :=
 (p_ref35_Run_l1 a1 fuel (0:Int) a0).bind fun q13 =>
 some q13.2
def p_ref35_sameRows_l1 (z6:List MailEntry) (z7:List MailEntry):Nat→Int→Option (Bool ⊕ Int)
 | 0,_=>none
 | n + 1,y8 =>
  bif (decide (y8 < (z6.length:Int))) then
   (at? z6 y8).bind fun x10 =>
   (at? z7 y8).bind fun x11 =>
   bif ((x10.Key.toList == x11.Key.toList) && ((x10.P.On == x11.P.On) && ((x10.P.Show == x11.P.Show) && ((x10.P.Prio == x11.P.Prio) && ((x10.P.Seq == x11.P.Seq) && true))))) then
    p_ref35_sameRows_l1 z6 z7 n (w64 (y8 + (1:Int)))
   else
   some (.inl false)
  else
  some (.inr y8)
def p_ref35_sameRows (a0:List MailEntry) (a1:List MailEntry):Option (Bool) :=
 bif ((a0.length:Int) != (a1.length:Int)) then
  some false
 else
 (p_ref35_sameRows_l1 a0 a1 fuel (0:Int)).bind fun o13=>match o13 with
 | .inl q14 =>
  some q14
 | .inr q15 =>
  some true
def p_ref35_Same_l1 (z10:Ref35State) (z11:Ref35State):Nat→Int→Option (Bool ⊕ Int)
 | 0,_=>none
 | n + 1,y9 =>
  bif (decide (y9 < (z10.List.length:Int))) then
   (at? z10.List y9).bind fun x13 =>
   (at? z11.List y9).bind fun x14 =>
   bif ((x13.User.toList == x14.User.toList) && ((x13.Name.toList == x14.Name.toList) && ((x13.Show == x14.Show) && ((x13.Ver == x14.Ver) && true)))) then
    p_ref35_Same_l1 z10 z11 n (w64 (y9 + (1:Int)))
   else
   some (.inl false)
  else
  some (.inr y9)
def p_ref35_Same (a0:Ref35State) (a1:Ref35State):Option (Bool) :=
 bif (a0.Anew != a1.Anew) then
  some false
 else
 bif (a0.Odd != a1.Odd) then
  some false
 else
 bif (a0.Told != a1.Told) then
  some false
 else
 bif ((a0.List.length:Int) != (a1.List.length:Int)) then
  some false
 else
 (p_ref35_Same_l1 a0 a1 fuel (0:Int)).bind fun o16=>match o16 with
 | .inl q17 =>
  some q17
 | .inr q18 =>
  (p_ref35_sameRows a0.Rows a1.Rows).bind fun v19 =>
  bif v19 then
   (p_ref35_sameRows a0.Last a1.Last).bind fun v21 =>
   bif v21 then
    (p_ref01_SameTexts a0.Seen a1.Seen).bind fun v23 =>
    some v23
   else
   some false
  else
  some false
def p_law35_theirs_l1 (z5:List MailEntry):Nat→(List MailEntry)→Int→Option (((List MailEntry) × Int))
 | 0,_,_=>none
 | n + 1,y6,y7 =>
  bif (decide (y7 < (z5.length:Int))) then
   (at? z5 y7).bind fun x9 =>
   (at? z5 y7).bind fun x10 =>
   (app? y6 [(MailEntry.mk x9.Key x10.P)]).bind fun l11 =>
   p_law35_theirs_l1 z5 n l11 (w64 (y7 + (1:Int)))
  else
  some (y6,y7)
def p_law35_theirs (a0:List MailEntry):Option ((List MailEntry)) :=
 (p_law35_theirs_l1 a0 fuel [] (0:Int)).bind fun q13 =>
 some q13.1
def p_law35_back_l1 (z8:Ref35State):Nat→Int→Ref35State→Option ((Int × Ref35State))
 | 0,_,_=>none
 | n + 1,y7,y10 =>
  bif (decide (y7 < (z8.List.length:Int))) then
   (at? z8.List y7).bind fun x12 =>
   (app? y10.List [x12]).bind fun l13 =>
   p_law35_back_l1 z8 n (w64 (y7 + (1:Int))) (Ref35State.mk y10.Rows y10.Last y10.Anew y10.Seen l13 y10.Odd y10.Told)
  else
  some (y7,y10)
def p_law35_back (a0:Ref35State):Option (Ref35State) :=
 (p_law35_theirs a0.Rows).bind fun v1 =>
 (p_law35_theirs a0.Last).bind fun v2 =>
 (p_law35_back_l1 a0 fuel (0:Int) (Ref35State.mk v1 v2 a0.Anew a0.Seen [] a0.Odd a0.Told)).bind fun q15 =>
 some q15.2
end Go.Proofs.YtpmoioopjbfhkaaGreat

/- Plain functions (written by a program of mine). -/
namespace Go.Proofs.YtpmoioopjbfhkaaGreat
open Go.RowKit
def p_law35_ViewRuns_l1 (z7:List StanzaStanza):Nat→(List StanzaStanza)→Int→Option (Bool ⊕ ((List StanzaStanza) × Int))
 | 0,_,_=>none
 | n + 1,y8,y9 =>
  bif (decide (y9 < (z7.length:Int))) then
   (at? z7 y9).bind fun x11 =>
   (p_ref10_Light x11).bind fun v12 =>
   bif v12 then
    (at? z7 y9).bind fun x14 =>
    (app? y8 [x14]).bind fun l15 =>
    p_law35_ViewRuns_l1 z7 n l15 (w64 (y9 + (1:Int)))
   else
   (p_law35_awake).bind fun v16 =>
   some (.inl v16)
  else
  some (.inr (y8,y9))
def p_law35_ViewRuns (a0:List StanzaStanza):Option (Bool) :=
 bif (decide ((60:Int) < (a0.length:Int))) then
  (p_law35_awake).bind fun v2 =>
  some v2
 else
 (p_law35_ViewRuns_l1 a0 fuel [] (0:Int)).bind fun o17=>match o17 with
 | .inl q18 =>
  some q18
 | .inr q19 =>
  (p_view_Run (Ref35State.mk [] [] false [] [] (0:Int) (0:Int)) q19.1).bind fun v20 =>
  (p_law35_back v20).bind fun v21 =>
  (p_ref35_Run (Ref35State.mk [] [] false [] [] (0:Int) (0:Int)) a0).bind fun v22 =>
  (p_ref35_Same v21 v22).bind fun v23 =>
  bif v23 then
   (p_law35_awake).bind fun v25 =>
   some v25
  else
  some false
end Go.Proofs.YtpmoioopjbfhkaaGreat

