/- A part of the proof: 7 texts joined. -/
import Derived.Test.YtdoakplhalonfaaGreatObA8
import Derived.Test.YtdoakplhalonfaaGreatObA7
import Derived.Test.YtdoakplhalonfaaGreatObA3
import Derived.Test.YtdoakplhalonfaaGreatObA4
import Derived.Test.YtdoakplhalonfaaGreatObA6
import Derived.KernelRfl
import Derived.Test.YtdoakplhalonfaaGreatObA2
import Derived.Test.YtdoakplhalonfaaGreatObA5
set_option linter.all false
namespace Go.Proofs.YtdoakplhalonfaaGreat
open Go.RowKit
def p_ref25_Light_l1 (z5:List MailEntry):Nat→Int→Option (Bool ⊕ Int)
 | 0,_=>none
 | n + 1,y6 =>
  bif (decide (y6 < (z5.length:Int))) then
   (at? z5 y6).bind fun x8 =>
   bif (decide ((100:Int) < (x8.Key.size:Int))) then
    some (.inl false)
   else
   p_ref25_Light_l1 z5 n (w64 (y6 + (1:Int)))
  else
  some (.inr y6)
def p_ref25_Light (a0:List MailEntry) (a1:Int):Option (Bool) :=
 bif (decide (a1 < (a0.length:Int))) then
  some false
 else
 (p_ref25_Light_l1 a0 fuel (0:Int)).bind fun o10=>match o10 with
 | .inl q11 =>
  some q11
 | .inr q12 =>
  some true
def p_law27_awake:Option (Bool) :=
 (p_book_Set (BookState.mk (0:Int) []) (⟨#[97,64,120]⟩ : ByteArray) (⟨#[]⟩ : ByteArray) (1:Int) (0:Int)).bind fun v1 =>
 (p_outq_Begin (Ref27State.mk [] (SnapState.mk false false (⟨#[]⟩ : ByteArray) (0:Int)) (0:Int) (0:Int))).bind fun v2 =>
 (p_outq_Add v2 (⟨#[97,64,120,32]⟩ : ByteArray) (PresPres.mk true (0:Int) (0:Int) (9:Int))).bind fun v3 =>
 (p_outq_Flush v3 (SnapEyes.mk [(⟨#[97,64,120]⟩ : ByteArray)] []) v1.1 (9:Int)).bind fun v4 =>
 (p_outq_Add v4.1 (⟨#[98,64,120,32]⟩ : ByteArray) (PresPres.mk false (0:Int) (0:Int) (4:Int))).bind fun v5 =>
 (p_outq_Next v5 (SnapEyes.mk [(⟨#[97,64,120]⟩ : ByteArray)] []) v1.1).bind fun v6 =>
 (p_outq_Forget v5 (⟨#[98,64,120]⟩ : ByteArray)).bind fun v7 =>
 (p_outq_Wants v3).bind fun v8 =>
 bif v8 then
  (p_outq_Len v3).bind fun v10 =>
  bif (v10 == (1:Int)) then
   bif ((v4.2.length:Int) == (3:Int)) then
    (at? v4.2 (0:Int)).bind fun x13 =>
    bif (x13.Kind == (36:Int)) then
     (at? v4.2 (1:Int)).bind fun x15 =>
     bif (x15.User.toList == (⟨#[97,64,120]⟩ : ByteArray).toList) then
      (at? v4.2 (2:Int)).bind fun x17 =>
      bif (x17.Kind == (37:Int)) then
       bif (v4.1.Sent == (3:Int)) then
        (p_outq_Wants v4.1).bind fun v20 =>
        bif v20 then
         some false
        else
        bif ((v6.2.1.Kind == (35:Int)) && ((v6.2.1.User.toList == (⟨#[98,64,120]⟩ : ByteArray).toList) && ((v6.2.1.Res.toList == (⟨#[]⟩ : ByteArray).toList) && ((v6.2.1.Name.toList == (⟨#[]⟩ : ByteArray).toList) && ((v6.2.1.Show == (0:Int)) && ((v6.2.1.Prio == (0:Int)) && ((v6.2.1.Code == (0:Int)) && ((v6.2.1.N == (4:Int)) && true)))))))) then
         bif v6.2.2 then
          bif (v6.1.Sent == (4:Int)) then
           (p_outq_Same v7 v4.1).bind fun v25 =>
           bif v25 then
            (p_outq_Same v5 v4.1).bind fun v27 =>
            bif v27 then
             some false
            else
            (p_outq_Check v6.1).bind fun v29 =>
            bif (v29 == (0:Int)) then
             (p_outq_Check (Ref27State.mk [] (SnapState.mk false false (⟨#[]⟩ : ByteArray) (0:Int)) (-1:Int) (0:Int))).bind fun v31 =>
             bif (v31 == (8:Int)) then
              some true
             else
             some false
            else
            some false
           else
           some false
          else
          some false
         else
         some false
        else
        some false
       else
       some false
      else
      some false
     else
     some false
    else
    some false
   else
   some false
  else
  some false
 else
 some false
def p_ref26_Light_l1 (z7:SnapEyes):Nat→Int→Option (Bool ⊕ Int)
 | 0,_=>none
 | n + 1,y6 =>
  bif (decide (y6 < (z7.Users.length:Int))) then
   (at? z7.Users y6).bind fun x9 =>
   bif (decide ((100:Int) < (x9.size:Int))) then
    some (.inl false)
   else
   p_ref26_Light_l1 z7 n (w64 (y6 + (1:Int)))
  else
  some (.inr y6)
def p_ref26_Light_l2 (z18:SnapEyes):Nat→Int→Option (Bool ⊕ Int)
 | 0,_=>none
 | n + 1,y17 =>
  bif (decide (y17 < (z18.Keys.length:Int))) then
   (at? z18.Keys y17).bind fun x20 =>
   bif (decide ((100:Int) < (x20.size:Int))) then
    some (.inl false)
   else
   p_ref26_Light_l2 z18 n (w64 (y17 + (1:Int)))
  else
  some (.inr y17)
def p_ref26_Light (a0:SnapEyes):Option (Bool) :=
 bif (decide ((20:Int) < (a0.Users.length:Int))) then
  some false
 else
 bif (decide ((20:Int) < (a0.Keys.length:Int))) then
  some false
 else
 (p_ref26_Light_l1 a0 fuel (0:Int)).bind fun o11=>match o11 with
 | .inl q12 =>
  some q12
 | .inr q13 =>
  (p_ref26_Light_l2 a0 fuel (0:Int)).bind fun o22=>match o22 with
  | .inl q23 =>
   some q23
  | .inr q24 =>
   some true
def p_ref24_Light_l1 (z6:BookState):Nat→Int→Option (Bool ⊕ Int)
 | 0,_=>none
 | n + 1,y5 =>
  bif (decide (y5 < (z6.Rows.length:Int))) then
   (at? z6.Rows y5).bind fun x8 =>
   bif (decide ((100:Int) < (x8.User.size:Int))) then
    some (.inl false)
   else
   (at? z6.Rows y5).bind fun x10 =>
   bif (decide ((100:Int) < (x10.Res.size:Int))) then
    some (.inl false)
   else
   p_ref24_Light_l1 z6 n (w64 (y5 + (1:Int)))
  else
  some (.inr y5)
def p_ref24_Light (a0:BookState):Option (Bool) :=
 bif (decide ((20:Int) < (a0.Rows.length:Int))) then
  some false
 else
 (p_ref24_Light_l1 a0 fuel (0:Int)).bind fun o12=>match o12 with
 | .inl q13 =>
  some q13
 | .inr q14 =>
  some true
def p_law25_Own_l1 (z5:List MailEntry):Nat→(List MailEntry)→Int→Option (((List MailEntry) × Int))
 | 0,_,_=>none
 | n + 1,y6,y7 =>
  bif (decide (y7 < (z5.length:Int))) then
   (at? z5 y7).bind fun x9 =>
   (at? z5 y7).bind fun x10 =>
   (app? y6 [(MailEntry.mk x9.Key x10.P)]).bind fun l11 =>
   p_law25_Own_l1 z5 n l11 (w64 (y7 + (1:Int)))
  else
  some (y6,y7)
def p_law25_Own (a0:List MailEntry):Option ((List MailEntry)) :=
 (p_law25_Own_l1 a0 fuel [] (0:Int)).bind fun q13 =>
 some q13.1
def p_law27_own (a0:Ref27State):Option (Ref27State) :=
 (p_law25_Own a0.Mail).bind fun v1 =>
 some (Ref27State.mk v1 a0.Snap a0.Sent a0.Lost)
def p_law26_Book_l1 (z6:BookState):Nat→Int→BookState→Option ((Int × BookState))
 | 0,_,_=>none
 | n + 1,y5,y8 =>
  bif (decide (y5 < (z6.Rows.length:Int))) then
   (at? z6.Rows y5).bind fun x10 =>
   (at? z6.Rows y5).bind fun x11 =>
   (at? z6.Rows y5).bind fun x12 =>
   (app? y8.Rows [(BookRow.mk x10.User x11.Res x12.P)]).bind fun l13 =>
   p_law26_Book_l1 z6 n (w64 (y5 + (1:Int))) (BookState.mk y8.Seq l13)
  else
  some (y5,y8)
def p_law26_Book (a0:BookState):Option (BookState) :=
 (p_law26_Book_l1 a0 fuel (0:Int) (BookState.mk a0.Seq [])).bind fun q15 =>
 some q15.2
def p_ref23_Split_l1 (z6:ByteArray):Nat→Int→Option (Int)
 | 0,_=>none
 | n + 1,y7 =>
  bif (decide (y7 < (z6.size:Int))) then
   (byte? z6 y7).bind fun c9 =>
   bif (c9 != (32:Int)) then
    p_ref23_Split_l1 z6 n (w64 (y7 + (1:Int)))
   else
   some y7
  else
  some y7
def p_ref23_Split (a0:ByteArray):Option (ByteArray × ByteArray × Int) :=
 (p_ref23_Split_l1 a0 fuel (0:Int)).bind fun q12 =>
 bif (q12 == (a0.size:Int)) then
  some ((⟨#[]⟩ : ByteArray),(⟨#[]⟩ : ByteArray),(4:Int))
 else
 (sub? a0 none (some q12)).bind fun s14 =>
 (sub? a0 (some (w64 (q12 + (1:Int)))) none).bind fun s15 =>
 (p_ref09_IsBare s14).bind fun v16 =>
 bif v16 then
  (p_ref09_Resource s15).bind fun v18 =>
  bif (v18 != (0:Int)) then
   (p_ref09_Resource s15).bind fun v20 =>
   some ((⟨#[]⟩ : ByteArray),(⟨#[]⟩ : ByteArray),v20)
  else
  some (s14,s15,(0:Int))
 else
 some ((⟨#[]⟩ : ByteArray),(⟨#[]⟩ : ByteArray),(11:Int))
def p_ref25_key (a0:ByteArray):Option (Bool) :=
 (p_ref23_Split a0).bind fun v1 =>
 some (v1.2.2 == (0:Int))
def p_ref23_Check (a0:PresPres):Option (Int) :=
 bif (decide (a0.Show < (0:Int))) then
  some (8:Int)
 else
 bif (decide ((4:Int) < a0.Show)) then
  some (8:Int)
 else
 bif (decide (a0.Prio < (-128:Int))) then
  some (8:Int)
 else
 bif (decide ((127:Int) < a0.Prio)) then
  some (8:Int)
 else
 bif (decide (a0.Seq < (0:Int))) then
  some (8:Int)
 else
 bif (decide ((1099511627776:Int) < a0.Seq)) then
  some (8:Int)
 else
 bif a0.On then
  some (0:Int)
 else
 bif (a0.Show != (0:Int)) then
  some (4:Int)
 else
 bif (a0.Prio != (0:Int)) then
  some (4:Int)
 else
 some (0:Int)
def p_ref25_Find_l1 (z5:List MailEntry) (z6:ByteArray):Nat→Int→Option (Int ⊕ Int)
 | 0,_=>none
 | n + 1,y7 =>
  bif (decide (y7 < (z5.length:Int))) then
   (at? z5 y7).bind fun x9 =>
   bif (x9.Key.toList == z6.toList) then
    some (.inl y7)
   else
   p_ref25_Find_l1 z5 z6 n (w64 (y7 + (1:Int)))
  else
  some (.inr y7)
def p_ref25_Find (a0:List MailEntry) (a1:ByteArray):Option (Int) :=
 (p_ref25_Find_l1 a0 a1 fuel (0:Int)).bind fun o11=>match o11 with
 | .inl q12 =>
  some q12
 | .inr q13 =>
  some (-1:Int)
def p_ref25_Check_l1 (z5:List MailEntry):Nat→Int→Option (Int ⊕ Int)
 | 0,_=>none
 | n + 1,y6 =>
  bif (decide (y6 < (z5.length:Int))) then
   (at? z5 y6).bind fun x8 =>
   (p_ref25_key x8.Key).bind fun v9 =>
   bif v9 then
    p_ref25_Check_l1 z5 n (w64 (y6 + (1:Int)))
   else
   some (.inl (11:Int))
  else
  some (.inr y6)
def p_ref25_Check_l2 (z17:List MailEntry):Nat→Int→Option (Int ⊕ Int)
 | 0,_=>none
 | n + 1,y18 =>
  bif (decide (y18 < (z17.length:Int))) then
   (at? z17 y18).bind fun x20 =>
   (p_ref23_Check x20.P).bind fun v21 =>
   bif (v21 != (0:Int)) then
    (at? z17 y18).bind fun x23 =>
    (p_ref23_Check x23.P).bind fun v24 =>
    some (.inl v24)
   else
   p_ref25_Check_l2 z17 n (w64 (y18 + (1:Int)))
  else
  some (.inr y18)
def p_ref25_Check_l3 (z31:List MailEntry):Nat→Int→Option (Int ⊕ Int)
 | 0,_=>none
 | n + 1,y32 =>
  bif (decide (y32 < (z31.length:Int))) then
   bif (decide ((0:Int) < y32)) then
    (at? z31 (w64 (y32 - (1:Int)))).bind fun x35 =>
    bif x35.P.On then
     (at? z31 y32).bind fun x37 =>
     bif x37.P.On then
      (at? z31 y32).bind fun x39 =>
      (p_ref25_Find z31 x39.Key).bind fun v40 =>
      bif (v40 != y32) then
       some (.inl (10:Int))
      else
      p_ref25_Check_l3 z31 n (w64 (y32 + (1:Int)))
     else
     some (.inl (10:Int))
    else
    (at? z31 y32).bind fun x42 =>
    (p_ref25_Find z31 x42.Key).bind fun v43 =>
    bif (v43 != y32) then
     some (.inl (10:Int))
    else
    p_ref25_Check_l3 z31 n (w64 (y32 + (1:Int)))
   else
   (at? z31 y32).bind fun x45 =>
   (p_ref25_Find z31 x45.Key).bind fun v46 =>
   bif (v46 != y32) then
    some (.inl (10:Int))
   else
   p_ref25_Check_l3 z31 n (w64 (y32 + (1:Int)))
  else
  some (.inr y32)
def p_ref25_Check (a0:List MailEntry):Option (Int) :=
 bif (decide ((16:Int) < (a0.length:Int))) then
  some (5:Int)
 else
 (p_ref25_Check_l1 a0 fuel (0:Int)).bind fun o11=>match o11 with
 | .inl q12 =>
  some q12
 | .inr q13 =>
  (p_ref25_Check_l2 a0 fuel (0:Int)).bind fun o25=>match o25 with
  | .inl q26 =>
   some q26
  | .inr q27 =>
   (p_ref25_Check_l3 a0 fuel (0:Int)).bind fun o48=>match o48 with
   | .inl q49 =>
    some q49
   | .inr q50 =>
    some (0:Int)
def p_ref26_Check (a0:SnapState):Option (Int) :=
 bif a0.On then
  bif a0.Begun then
   bif (decide (a0.Told < (0:Int))) then
    some (8:Int)
   else
   bif (decide ((1099511627776:Int) < a0.Told)) then
    some (8:Int)
   else
   some (0:Int)
  else
  bif (a0.After.toList == (⟨#[]⟩ : ByteArray).toList) then
   bif (a0.Told != (0:Int)) then
    some (4:Int)
   else
   bif (decide (a0.Told < (0:Int))) then
    some (8:Int)
   else
   bif (decide ((1099511627776:Int) < a0.Told)) then
    some (8:Int)
   else
   some (0:Int)
  else
  some (4:Int)
 else
 bif ((a0.On == false) && ((a0.Begun == false) && ((a0.After.toList == (⟨#[]⟩ : ByteArray).toList) && ((a0.Told == (0:Int)) && true)))) then
  bif a0.Begun then
   bif (decide (a0.Told < (0:Int))) then
    some (8:Int)
   else
   bif (decide ((1099511627776:Int) < a0.Told)) then
    some (8:Int)
   else
   some (0:Int)
  else
  bif (a0.After.toList == (⟨#[]⟩ : ByteArray).toList) then
   bif (a0.Told != (0:Int)) then
    some (4:Int)
   else
   bif (decide (a0.Told < (0:Int))) then
    some (8:Int)
   else
   bif (decide ((1099511627776:Int) < a0.Told)) then
    some (8:Int)
   else
   some (0:Int)
  else
  some (4:Int)
 else
 some (4:Int)
def p_ref27_Check (a0:Ref27State):Option (Int) :=
 (p_ref25_Check a0.Mail).bind fun v1 =>
 bif (v1 != (0:Int)) then
  (p_ref25_Check a0.Mail).bind fun v3 =>
  some v3
 else
 (p_ref26_Check a0.Snap).bind fun v4 =>
 bif (v4 != (0:Int)) then
  (p_ref26_Check a0.Snap).bind fun v6 =>
  some v6
 else
 bif (decide (a0.Sent < (0:Int))) then
  some (8:Int)
 else
 bif (decide ((1099511627776:Int) < a0.Sent)) then
  some (8:Int)
 else
 bif (decide (a0.Lost < (0:Int))) then
  some (8:Int)
 else
 bif (decide ((1099511627776:Int) < a0.Lost)) then
  some (8:Int)
 else
 some (0:Int)
def p_ref27_Wants (a0:Ref27State):Option (Bool) :=
 bif a0.Snap.On then
  some true
 else
 some (decide ((0:Int) < (a0.Mail.length:Int)))
def p_ref23_named (a0:ByteArray) (a1:ByteArray):Option (Bool) :=
 (p_ref09_IsBare a0).bind fun v1 =>
 bif v1 then
  (p_ref09_Resource a1).bind fun v3 =>
  some (v3 == (0:Int))
 else
 some false
def p_ref23_Key (a0:ByteArray) (a1:ByteArray):Option (ByteArray) :=
 (p_ref23_named a0 a1).bind fun v1 =>
 bif v1 then
  (cat? a0 (⟨#[32]⟩ : ByteArray)).bind fun s3 =>
  (cat? s3 a1).bind fun s4 =>
  some s4
 else
 some (⟨#[]⟩ : ByteArray)
def p_ref24_key (a0:BookRow):Option (ByteArray) :=
 (p_ref23_Key a0.User a0.Res).bind fun v1 =>
 some v1
def p_ref24_ordered_l2 (z30:Int) (z32:BookState) (z33:BookRow):Nat→Int→Option (Bool ⊕ Int)
 | 0,_=>none
 | n + 1,y31 =>
  bif (decide (y31 < z30)) then
   (at? z32.Rows y31).bind fun x35 =>
   bif (x35.P.Seq == z33.P.Seq) then
    some (.inl false)
   else
   p_ref24_ordered_l2 z30 z32 z33 n (w64 (y31 + (1:Int)))
  else
  some (.inr y31)
def p_ref24_ordered_l1 (z5:BookState):Nat→Int→Option (Bool ⊕ Int)
 | 0,_=>none
 | n + 1,y4 =>
  bif (decide (y4 < (z5.Rows.length:Int))) then
   (at? z5.Rows y4).bind fun x7 =>
   bif (decide (x7.P.Seq < (1:Int))) then
    some (.inl false)
   else
   bif (decide (z5.Seq < x7.P.Seq)) then
    some (.inl false)
   else
   bif (decide ((0:Int) < y4)) then
    (at? z5.Rows (w64 (y4 - (1:Int)))).bind fun x11 =>
    (p_ref24_key x11).bind fun v12 =>
    (p_ref24_key x7).bind fun v13 =>
    bif (Op.bytesLess v12.toList v13.toList) then
     (p_ref24_ordered_l2 y4 z5 x7 fuel (0:Int)).bind fun o27=>match o27 with
     | .inl q28 =>
      some (.inl q28)
     | .inr q29 =>
      p_ref24_ordered_l1 z5 n (w64 (y4 + (1:Int)))
    else
    some (.inl false)
   else
   (p_ref24_ordered_l2 y4 z5 x7 fuel (0:Int)).bind fun o37=>match o37 with
   | .inl q38 =>
    some (.inl q38)
   | .inr q39 =>
    p_ref24_ordered_l1 z5 n (w64 (y4 + (1:Int)))
  else
  some (.inr y4)
def p_ref24_ordered (a0:BookState):Option (Bool) :=
 (p_ref24_ordered_l1 a0 fuel (0:Int)).bind fun o40=>match o40 with
 | .inl q41 =>
  some q41
 | .inr q42 =>
  some true
def p_ref24_many_l1 (z6:ByteArray) (z9:BookState):Nat→Int→Int→Option ((Int × Int))
 | 0,_,_=>none
 | n + 1,y7,y8 =>
  bif (decide (y8 < (z9.Rows.length:Int))) then
   (at? z9.Rows y8).bind fun x11 =>
   bif (x11.User.toList == z6.toList) then
    p_ref24_many_l1 z6 z9 n (w64 (y7 + (1:Int))) (w64 (y8 + (1:Int)))
   else
   p_ref24_many_l1 z6 z9 n y7 (w64 (y8 + (1:Int)))
  else
  some (y7,y8)
def p_ref24_many (a0:BookState) (a1:ByteArray):Option (Int) :=
 (p_ref24_many_l1 a1 a0 fuel (0:Int) (0:Int)).bind fun q14 =>
 some q14.1
def p_ref24_Check_l1 (z8:BookState):Nat→Int→Option (Int ⊕ Int)
 | 0,_=>none
 | n + 1,y7 =>
  bif (decide (y7 < (z8.Rows.length:Int))) then
   (at? z8.Rows y7).bind fun x10 =>
   (p_ref24_key x10).bind fun v11 =>
   bif (v11.toList == (⟨#[]⟩ : ByteArray).toList) then
    some (.inl (11:Int))
   else
   p_ref24_Check_l1 z8 n (w64 (y7 + (1:Int)))
  else
  some (.inr y7)
def p_ref24_Check_l2 (z20:BookState):Nat→Int→Option (Int ⊕ Int)
 | 0,_=>none
 | n + 1,y19 =>
  bif (decide (y19 < (z20.Rows.length:Int))) then
   (at? z20.Rows y19).bind fun x22 =>
   (p_ref23_Check x22.P).bind fun v23 =>
   bif (v23 != (0:Int)) then
    some (.inl v23)
   else
   (at? z20.Rows y19).bind fun x25 =>
   bif x25.P.On then
    p_ref24_Check_l2 z20 n (w64 (y19 + (1:Int)))
   else
   some (.inl (4:Int))
  else
  some (.inr y19)
def p_ref24_Check_l3 (z36:BookState):Nat→Int→Option (Int ⊕ Int)
 | 0,_=>none
 | n + 1,y35 =>
  bif (decide (y35 < (z36.Rows.length:Int))) then
   (at? z36.Rows y35).bind fun x38 =>
   (p_ref24_many z36 x38.User).bind fun v39 =>
   bif (decide ((3:Int) < v39)) then
    some (.inl (7:Int))
   else
   p_ref24_Check_l3 z36 n (w64 (y35 + (1:Int)))
  else
  some (.inr y35)
def p_ref24_Check (a0:BookState):Option (Int) :=
 bif (decide ((16:Int) < (a0.Rows.length:Int))) then
  some (5:Int)
 else
 bif (decide (a0.Seq < (0:Int))) then
  some (8:Int)
 else
 bif (decide ((1099511627776:Int) < a0.Seq)) then
  some (8:Int)
 else
 (p_ref24_Check_l1 a0 fuel (0:Int)).bind fun o13=>match o13 with
 | .inl q14 =>
  some q14
 | .inr q15 =>
  (p_ref24_Check_l2 a0 fuel (0:Int)).bind fun o27=>match o27 with
  | .inl q28 =>
   some q28
  | .inr q29 =>
   (p_ref24_ordered a0).bind fun v30 =>
   bif v30 then
    (p_ref24_Check_l3 a0 fuel (0:Int)).bind fun o41=>match o41 with
    | .inl q42 =>
     some q42
    | .inr q43 =>
     some (0:Int)
   else
   some (10:Int)
def p_ref26_has_l1 (z5:List ByteArray) (z6:ByteArray):Nat→Int→Option (Bool ⊕ Int)
 | 0,_=>none
 | n + 1,y7 =>
  bif (decide (y7 < (z5.length:Int))) then
   (at? z5 y7).bind fun x9 =>
   bif (x9.toList == z6.toList) then
    some (.inl true)
   else
   p_ref26_has_l1 z5 z6 n (w64 (y7 + (1:Int)))
  else
  some (.inr y7)
def p_ref26_has (a0:List ByteArray) (a1:ByteArray):Option (Bool) :=
 (p_ref26_has_l1 a0 a1 fuel (0:Int)).bind fun o11=>match o11 with
 | .inl q12 =>
  some q12
 | .inr q13 =>
  some false
def p_ref26_Sees (a0:SnapEyes) (a1:BookRow):Option (Bool) :=
 (p_ref26_has a0.Users a1.User).bind fun v1 =>
 bif v1 then
  some true
 else
 (p_ref23_Key a1.User a1.Res).bind fun v3 =>
 (p_ref26_has a0.Keys v3).bind fun v4 =>
 some v4
def p_ref26_View_l1 (z8:SnapEyes) (z9:BookState):Nat→(List BookRow)→Int→Option (((List BookRow) × Int))
 | 0,_,_=>none
 | n + 1,y6,y7 =>
  bif (decide (y7 < (z9.Rows.length:Int))) then
   (p_ref24_Check z9).bind fun v11 =>
   bif (v11 == (0:Int)) then
    (at? z9.Rows y7).bind fun x13 =>
    (p_ref26_Sees z8 x13).bind fun v14 =>
    bif v14 then
     (at? z9.Rows y7).bind fun x16 =>
     (app? y6 [x16]).bind fun l17 =>
     p_ref26_View_l1 z8 z9 n l17 (w64 (y7 + (1:Int)))
    else
    p_ref26_View_l1 z8 z9 n y6 (w64 (y7 + (1:Int)))
   else
   some (y6,y7)
  else
  some (y6,y7)
def p_ref26_View (a0:SnapEyes) (a1:BookState):Option ((List BookRow)) :=
 (p_ref26_View_l1 a0 a1 fuel [] (0:Int)).bind fun q19 =>
 some q19.1
def p_ref23_Say (a0:ByteArray) (a1:ByteArray) (a2:PresPres):Option (StanzaStanza) :=
 (p_ref23_Check a2).bind fun v1 =>
 bif (v1 != (0:Int)) then
  some (StanzaStanza.mk (0:Int) (⟨#[]⟩ : ByteArray) (⟨#[]⟩ : ByteArray) (⟨#[]⟩ : ByteArray) (0:Int) (0:Int) (0:Int) (0:Int))
 else
 (p_ref23_named a0 a1).bind fun v3 =>
 bif v3 then
  bif a2.On then
   some (StanzaStanza.mk (34:Int) a0 a1 (⟨#[]⟩ : ByteArray) a2.Show a2.Prio (0:Int) a2.Seq)
  else
  some (StanzaStanza.mk (35:Int) a0 a1 (⟨#[]⟩ : ByteArray) (0:Int) (0:Int) (0:Int) a2.Seq)
 else
 some (StanzaStanza.mk (0:Int) (⟨#[]⟩ : ByteArray) (⟨#[]⟩ : ByteArray) (⟨#[]⟩ : ByteArray) (0:Int) (0:Int) (0:Int) (0:Int))
def p_ref26_Count (a0:SnapEyes) (a1:BookState):Option (Int) :=
 (p_ref26_View a0 a1).bind fun v1 =>
 some (v1.length:Int)
def p_ref26_Next_l1 (z14:List BookRow) (z16:SnapState):Nat→Int→Option ((SnapState × StanzaStanza × Bool) ⊕ Int)
 | 0,_=>none
 | n + 1,y15 =>
  bif (decide (y15 < (z14.length:Int))) then
   (at? z14 y15).bind fun x20 =>
   (at? z14 y15).bind fun x21 =>
   (p_ref23_Key x20.User x21.Res).bind fun v22 =>
   bif (Op.bytesLess v22.toList z16.After.toList || v22.toList == z16.After.toList) then
    p_ref26_Next_l1 z14 z16 n (w64 (y15 + (1:Int)))
   else
   (at? z14 y15).bind fun x24 =>
   (at? z14 y15).bind fun x25 =>
   (at? z14 y15).bind fun x26 =>
   (p_ref23_Say x24.User x25.Res x26.P).bind fun v27 =>
   some (.inl ((SnapState.mk true true v22 (if w64 (z16.Told + (1:Int)) < (1099511627776:Int) then w64 (z16.Told + (1:Int)) else (1099511627776:Int))),v27,true))
  else
  some (.inr y15)
def p_ref26_Next (a0:SnapState) (a1:SnapEyes) (a2:BookState):Option (SnapState × StanzaStanza × Bool) :=
 bif a0.On then
  (p_ref26_Check a0).bind fun v2 =>
  bif (v2 != (0:Int)) then
   some (a0,(StanzaStanza.mk (0:Int) (⟨#[]⟩ : ByteArray) (⟨#[]⟩ : ByteArray) (⟨#[]⟩ : ByteArray) (0:Int) (0:Int) (0:Int) (0:Int)),false)
  else
  (p_ref24_Check a2).bind fun v4 =>
  bif (v4 != (0:Int)) then
   some (a0,(StanzaStanza.mk (0:Int) (⟨#[]⟩ : ByteArray) (⟨#[]⟩ : ByteArray) (⟨#[]⟩ : ByteArray) (0:Int) (0:Int) (0:Int) (0:Int)),false)
  else
  bif a0.Begun then
   (p_ref26_View a1 a2).bind fun v7 =>
   (p_ref26_Next_l1 v7 a0 fuel (0:Int)).bind fun o28=>match o28 with
   | .inl q29 =>
    some q29
   | .inr q30 =>
    some ((SnapState.mk false false (⟨#[]⟩ : ByteArray) (0:Int)),(StanzaStanza.mk (37:Int) (⟨#[]⟩ : ByteArray) (⟨#[]⟩ : ByteArray) (⟨#[]⟩ : ByteArray) (0:Int) (0:Int) (0:Int) (0:Int)),true)
  else
  (p_ref26_Count a1 a2).bind fun v31 =>
  some ((SnapState.mk true true (⟨#[]⟩ : ByteArray) (0:Int)),(StanzaStanza.mk (36:Int) (⟨#[]⟩ : ByteArray) (⟨#[]⟩ : ByteArray) (⟨#[]⟩ : ByteArray) (0:Int) (0:Int) (0:Int) v31),true)
 else
 some (a0,(StanzaStanza.mk (0:Int) (⟨#[]⟩ : ByteArray) (⟨#[]⟩ : ByteArray) (⟨#[]⟩ : ByteArray) (0:Int) (0:Int) (0:Int) (0:Int)),false)
def p_ref25_Take (a0:List MailEntry):Option ((List MailEntry) × MailEntry × Bool) :=
 (p_ref25_Check a0).bind fun v1 =>
 bif (v1 != (0:Int)) then
  some (a0,(MailEntry.mk (⟨#[]⟩ : ByteArray) (PresPres.mk false (0:Int) (0:Int) (0:Int))),false)
 else
 bif ((a0.length:Int) == (0:Int)) then
  some (a0,(MailEntry.mk (⟨#[]⟩ : ByteArray) (PresPres.mk false (0:Int) (0:Int) (0:Int))),false)
 else
 (cut? a0 (some (1:Int)) none).bind fun x4 =>
 (at? a0 (0:Int)).bind fun x5 =>
 some (x4,x5,true)
def p_ref27_Next (a0:Ref27State) (a1:SnapEyes) (a2:BookState):Option (Ref27State × StanzaStanza × Bool) :=
 (p_ref27_Check a0).bind fun v1 =>
 bif (v1 != (0:Int)) then
  some (a0,(StanzaStanza.mk (0:Int) (⟨#[]⟩ : ByteArray) (⟨#[]⟩ : ByteArray) (⟨#[]⟩ : ByteArray) (0:Int) (0:Int) (0:Int) (0:Int)),false)
 else
 (p_ref27_Wants a0).bind fun v3 =>
 bif v3 then
  bif a0.Snap.On then
   (p_ref26_Next a0.Snap a1 a2).bind fun v6 =>
   bif v6.2.2 then
    some ((Ref27State.mk a0.Mail v6.1 (if w64 (a0.Sent + (1:Int)) < (1099511627776:Int) then w64 (a0.Sent + (1:Int)) else (1099511627776:Int)) a0.Lost),v6.2.1,true)
   else
   some (a0,(StanzaStanza.mk (0:Int) (⟨#[]⟩ : ByteArray) (⟨#[]⟩ : ByteArray) (⟨#[]⟩ : ByteArray) (0:Int) (0:Int) (0:Int) (0:Int)),false)
  else
  (p_ref25_Take a0.Mail).bind fun v8 =>
  (p_ref23_Split v8.2.1.Key).bind fun v9 =>
  (p_ref23_Say v9.1 v9.2.1 v8.2.1.P).bind fun v10 =>
  some ((Ref27State.mk v8.1 a0.Snap (if w64 (a0.Sent + (1:Int)) < (1099511627776:Int) then w64 (a0.Sent + (1:Int)) else (1099511627776:Int)) a0.Lost),v10,true)
 else
 some (a0,(StanzaStanza.mk (0:Int) (⟨#[]⟩ : ByteArray) (⟨#[]⟩ : ByteArray) (⟨#[]⟩ : ByteArray) (0:Int) (0:Int) (0:Int) (0:Int)),false)
def p_ref27_Flush_l1 (z9:Int) (z13:SnapEyes) (z14:BookState):Nat→(List StanzaStanza)→Bool→Ref27State→Option (((List StanzaStanza) × Bool × Ref27State))
 | 0,_,_,_=>none
 | n + 1,y10,y11,y12 =>
  bif y11 then
   bif (decide ((y10.length:Int) < (if (1000:Int) < z9 then (1000:Int) else z9))) then
    (p_ref27_Next y12 z13 z14).bind fun v18 =>
    bif v18.2.2 then
     (app? y10 [v18.2.1]).bind fun l20 =>
     p_ref27_Flush_l1 z9 z13 z14 n l20 v18.2.2 v18.1
    else
    p_ref27_Flush_l1 z9 z13 z14 n y10 v18.2.2 v18.1
   else
   some (y10,y11,y12)
  else
  some (y10,y11,y12)
def p_ref27_Flush (a0:Ref27State) (a1:SnapEyes) (a2:BookState) (a3:Int):Option (Ref27State × (List StanzaStanza)) :=
 (p_ref27_Flush_l1 a3 a1 a2 fuel [] true a0).bind fun q22 =>
 some (q22.2.2,q22.1)
def p_law25_Back_l1 (z5:List MailEntry):Nat→(List MailEntry)→Int→Option (((List MailEntry) × Int))
 | 0,_,_=>none
 | n + 1,y6,y7 =>
  bif (decide (y7 < (z5.length:Int))) then
   (at? z5 y7).bind fun x9 =>
   (at? z5 y7).bind fun x10 =>
   (app? y6 [(MailEntry.mk x9.Key x10.P)]).bind fun l11 =>
   p_law25_Back_l1 z5 n l11 (w64 (y7 + (1:Int)))
  else
  some (y6,y7)
def p_law25_Back (a0:List MailEntry):Option ((List MailEntry)) :=
 (p_law25_Back_l1 a0 fuel [] (0:Int)).bind fun q13 =>
 some q13.1
def p_law27_Back (a0:Ref27State):Option (Ref27State) :=
 (p_law25_Back a0.Mail).bind fun v1 =>
 some (Ref27State.mk v1 a0.Snap a0.Sent a0.Lost)
def p_ref25_Same_l1 (z6:List MailEntry) (z7:List MailEntry):Nat→Int→Option (Bool ⊕ Int)
 | 0,_=>none
 | n + 1,y8 =>
  bif (decide (y8 < (z6.length:Int))) then
   (at? z6 y8).bind fun x10 =>
   (at? z7 y8).bind fun x11 =>
   bif ((x10.Key.toList == x11.Key.toList) && ((x10.P.On == x11.P.On) && ((x10.P.Show == x11.P.Show) && ((x10.P.Prio == x11.P.Prio) && ((x10.P.Seq == x11.P.Seq) && true))))) then
    p_ref25_Same_l1 z6 z7 n (w64 (y8 + (1:Int)))
   else
   some (.inl false)
  else
  some (.inr y8)
def p_ref25_Same (a0:List MailEntry) (a1:List MailEntry):Option (Bool) :=
 bif ((a0.length:Int) != (a1.length:Int)) then
  some false
 else
 (p_ref25_Same_l1 a0 a1 fuel (0:Int)).bind fun o13=>match o13 with
 | .inl q14 =>
  some q14
 | .inr q15 =>
  some true
def p_ref27_Same (a0:Ref27State) (a1:Ref27State):Option (Bool) :=
 (p_ref25_Same a0.Mail a1.Mail).bind fun v1 =>
 bif v1 then
  bif ((a0.Snap.On == a1.Snap.On) && ((a0.Snap.Begun == a1.Snap.Begun) && ((a0.Snap.After.toList == a1.Snap.After.toList) && ((a0.Snap.Told == a1.Snap.Told) && true)))) then
   bif (a0.Sent == a1.Sent) then
    some (a0.Lost == a1.Lost)
   else
   some false
  else
  some false
 else
 some false
def p_law10_Back_l1 (z5:List StanzaStanza):Nat→(List StanzaStanza)→Int→Option (((List StanzaStanza) × Int))
 | 0,_,_=>none
 | n + 1,y6,y7 =>
  bif (decide (y7 < (z5.length:Int))) then
   (at? z5 y7).bind fun x9 =>
   (app? y6 [x9]).bind fun l10 =>
   p_law10_Back_l1 z5 n l10 (w64 (y7 + (1:Int)))
  else
  some (y6,y7)
def p_law10_Back (a0:List StanzaStanza):Option ((List StanzaStanza)) :=
 (p_law10_Back_l1 a0 fuel [] (0:Int)).bind fun q12 =>
 some q12.1
def p_ref10_SameAll_l1 (z6:List StanzaStanza) (z7:List StanzaStanza):Nat→Int→Option (Bool ⊕ Int)
 | 0,_=>none
 | n + 1,y8 =>
  bif (decide (y8 < (z6.length:Int))) then
   (at? z6 y8).bind fun x10 =>
   (at? z7 y8).bind fun x11 =>
   bif ((x10.Kind == x11.Kind) && ((x10.User.toList == x11.User.toList) && ((x10.Res.toList == x11.Res.toList) && ((x10.Name.toList == x11.Name.toList) && ((x10.Show == x11.Show) && ((x10.Prio == x11.Prio) && ((x10.Code == x11.Code) && ((x10.N == x11.N) && true)))))))) then
    p_ref10_SameAll_l1 z6 z7 n (w64 (y8 + (1:Int)))
   else
   some (.inl false)
  else
  some (.inr y8)
def p_ref10_SameAll (a0:List StanzaStanza) (a1:List StanzaStanza):Option (Bool) :=
 bif ((a0.length:Int) != (a1.length:Int)) then
  some false
 else
 (p_ref10_SameAll_l1 a0 a1 fuel (0:Int)).bind fun o13=>match o13 with
 | .inl q14 =>
  some q14
 | .inr q15 =>
  some true
def p_law27_OutqNext (a0:Ref27State) (a1:SnapEyes) (a2:BookState):Option (Bool) :=
 ((
  (p_ref25_Light a0.Mail (20:Int)).bind fun v1 =>
  bif v1 then
   bif (decide ((100:Int) < (a0.Snap.After.size:Int))) then
    (p_law27_awake).bind fun v4 =>
    some (.inl v4)
   else
   (p_ref26_Light a1).bind fun v5 =>
   bif v5 then
    (p_ref24_Light a2).bind fun v7 =>
    bif v7 then
     some (.inr ())
    else
    (p_law27_awake).bind fun v9 =>
    some (.inl v9)
   else
   (p_law27_awake).bind fun v10 =>
   some (.inl v10)
  else
  (p_law27_awake).bind fun v11 =>
  some (.inl v11)):Option (Bool ⊕ Unit)).bind fun o12=>match o12 with
 | .inl q13 =>
  some q13
 | .inr q14 =>
  (p_law27_own a0).bind fun v15 =>
  (p_law26_Book a2).bind fun v16 =>
  (p_outq_Next v15 a1 v16).bind fun v17 =>
  (p_ref27_Next a0 a1 a2).bind fun v18 =>
  (p_outq_Flush v15 a1 v16 (w64 ((a1.Users.length:Int) * (3:Int)))).bind fun v19 =>
  (p_ref27_Flush a0 a1 a2 (w64 ((a1.Users.length:Int) * (3:Int)))).bind fun v20 =>
  (p_law27_Back v17.1).bind fun v21 =>
  (p_ref27_Same v21 v18.1).bind fun v22 =>
  bif v22 then
   bif ((v17.2.1.Kind == v18.2.1.Kind) && ((v17.2.1.User.toList == v18.2.1.User.toList) && ((v17.2.1.Res.toList == v18.2.1.Res.toList) && ((v17.2.1.Name.toList == v18.2.1.Name.toList) && ((v17.2.1.Show == v18.2.1.Show) && ((v17.2.1.Prio == v18.2.1.Prio) && ((v17.2.1.Code == v18.2.1.Code) && ((v17.2.1.N == v18.2.1.N) && true)))))))) then
    bif (v17.2.2 == v18.2.2) then
     (p_law27_Back v19.1).bind fun v26 =>
     (p_ref27_Same v26 v20.1).bind fun v27 =>
     bif v27 then
      (p_law10_Back v19.2).bind fun v29 =>
      (p_ref10_SameAll v29 v20.2).bind fun v30 =>
      bif v30 then
       (p_outq_Same v15 v17.1).bind fun v32 =>
       (p_ref27_Same a0 v18.1).bind fun v33 =>
       bif (v32 == v33) then
        (p_law27_awake).bind fun v35 =>
        some v35
       else
       some false
      else
      some false
     else
     some false
    else
    some false
   else
   some false
  else
  some false
end Go.Proofs.YtdoakplhalonfaaGreat

namespace Go.Proofs.YtdoakplhalonfaaGreat
open Go.ChangeShapes Go.WideShapes Go.ChangeAt Go.RowKit Go.Joins Go.Deep
structure PresPres.Wf (x:PresPres):Prop where
 Show:(Lit.int .i64 x.Show).wf=true
 Prio:(Lit.int .i64 x.Prio).wf=true
 Seq:(Lit.int .i64 x.Seq).wf=true
set_option maxRecDepth 100000 in
theorem rd_T28 {H:Type} {enc:TypeId × Value→H} {W:World} {spare:Nat→Bool} {held:Bool} {fuel:Nat} {cs:List Value} {y:DataW H × List MemPlace} (h:DataW.trod enc Tryz.prog W 0 spare held fuel 28 cs=some y):∃ x:PresPres,PresPres.Wf x∧RepL (MW W) noBk cs [.b x.On,.i x.Show,.i x.Prio,.i x.Seq]:=by
 obtain ⟨xs,n,_,_,hl,hx,hall⟩:=DataW.trod_struct Tryz.underlying28 h
 have hce:Tryz.prog.cellsOf 28=4:=by kernel_rfl
 rw [hce] at hl
 match cs,hl,hall with
 | [c0,c1,c2,c3],_,hall =>
  obtain ⟨y0,hy0⟩:=get_some hx (show 0 < 4 by omega)
  have g0:DataW.trod enc Tryz.prog W 0 spare held n 4 [c0]=some y0:=by
   have hz:Tryz.prog.cellsOf 4=1:=by kernel_rfl
   have g:DataW.trod enc Tryz.prog W 0 spare held n 4 (([c0,c1,c2,c3].drop 0).take (Tryz.prog.cellsOf 4))=some y0:=(hall 0 _ rfl).trans hy0
   rw [hz] at g;exact g
  obtain ⟨x0,r0⟩:=rd_bool Tryz.underlying4 g0
  obtain ⟨y1,hy1⟩:=get_some hx (show 1 < 4 by omega)
  have g1:DataW.trod enc Tryz.prog W 0 spare held n 3 [c1]=some y1:=by
   have hz:Tryz.prog.cellsOf 3=1:=by kernel_rfl
   have g:DataW.trod enc Tryz.prog W 0 spare held n 3 (([c0,c1,c2,c3].drop 1).take (Tryz.prog.cellsOf 3))=some y1:=(hall 1 _ rfl).trans hy1
   rw [hz] at g;exact g
  obtain ⟨x1,w1,r1⟩:=rd_int Tryz.underlying3 g1
  obtain ⟨y2,hy2⟩:=get_some hx (show 2 < 4 by omega)
  have g2:DataW.trod enc Tryz.prog W 0 spare held n 3 [c2]=some y2:=by
   have hz:Tryz.prog.cellsOf 3=1:=by kernel_rfl
   have g:DataW.trod enc Tryz.prog W 0 spare held n 3 (([c0,c1,c2,c3].drop 2).take (Tryz.prog.cellsOf 3))=some y2:=(hall 2 _ rfl).trans hy2
   rw [hz] at g;exact g
  obtain ⟨x2,w2,r2⟩:=rd_int Tryz.underlying3 g2
  obtain ⟨y3,hy3⟩:=get_some hx (show 3 < 4 by omega)
  have g3:DataW.trod enc Tryz.prog W 0 spare held n 3 [c3]=some y3:=by
   have hz:Tryz.prog.cellsOf 3=1:=by kernel_rfl
   have g:DataW.trod enc Tryz.prog W 0 spare held n 3 (([c0,c1,c2,c3].drop 3).take (Tryz.prog.cellsOf 3))=some y3:=(hall 3 _ rfl).trans hy3
   rw [hz] at g;exact g
  obtain ⟨x3,w3,r3⟩:=rd_int Tryz.underlying3 g3
  exact ⟨⟨x0,x1,x2,x3⟩,⟨w1,w2,w3⟩,repL_app r0 (repL_app r1 (repL_app r2 (repL_app r3 (repL_nil))))⟩
structure MailEntry.Wf (x:MailEntry):Prop where
 P:PresPres.Wf x.P
set_option maxRecDepth 100000 in
theorem rd_T30 {H:Type} {enc:TypeId × Value→H} {W:World} {spare:Nat→Bool} {held:Bool} {fuel:Nat} {cs:List Value} {y:DataW H × List MemPlace} (h:DataW.trod enc Tryz.prog W 0 spare held fuel 30 cs=some y):∃ x:MailEntry,MailEntry.Wf x∧RepL (MW W) noBk cs [.s x.Key,.b x.P.On,.i x.P.Show,.i x.P.Prio,.i x.P.Seq]:=by
 obtain ⟨xs,n,_,_,hl,hx,hall⟩:=DataW.trod_struct Tryz.underlying30 h
 have hce:Tryz.prog.cellsOf 30=5:=by kernel_rfl
 rw [hce] at hl
 match cs,hl,hall with
 | [c0,c1,c2,c3,c4],_,hall =>
  obtain ⟨y0,hy0⟩:=get_some hx (show 0 < 2 by omega)
  have g0:DataW.trod enc Tryz.prog W 0 spare held n 9 [c0]=some y0:=by
   have hz:Tryz.prog.cellsOf 9=1:=by kernel_rfl
   have g:DataW.trod enc Tryz.prog W 0 spare held n 9 (([c0,c1,c2,c3,c4].drop 0).take (Tryz.prog.cellsOf 9))=some y0:=(hall 0 _ rfl).trans hy0
   rw [hz] at g;exact g
  obtain ⟨x0,r0⟩:=rd_string Tryz.underlying9 g0
  obtain ⟨y1,hy1⟩:=get_some hx (show 1 < 2 by omega)
  have g1:DataW.trod enc Tryz.prog W 0 spare held n 28 [c1,c2,c3,c4]=some y1:=by
   have hz:Tryz.prog.cellsOf 28=4:=by kernel_rfl
   have g:DataW.trod enc Tryz.prog W 0 spare held n 28 (([c0,c1,c2,c3,c4].drop 1).take (Tryz.prog.cellsOf 28))=some y1:=(hall 1 _ rfl).trans hy1
   rw [hz] at g;exact g
  obtain ⟨x1,w1,r1⟩:=rd_T28 g1
  exact ⟨⟨x0,x1⟩,⟨w1⟩,repL_app r0 (repL_app r1 (repL_nil))⟩
theorem rd_T22 {H:Type} {enc:TypeId × Value→H} {W:World} {spare:Nat→Bool} {held:Bool} {fuel:Nat} {cs:List Value} {y:DataW H × List MemPlace} (h:DataW.trod enc Tryz.prog W 0 spare held fuel 22 cs=some y):∃ x:List MailEntry,(∀ z ∈ x,MailEntry.Wf z)∧RepL (MW W) noBk cs [(fun l:List MailEntry=>V.sl (l.map MailEntry.v) false) x] :=
 rd_slice (f:=MailEntry.v) (es:=5) (wf:=MailEntry.Wf) Tryz.underlying22 (fun _=>rfl) (by intro a v hv;simp [V.cells] at hv;first | (subst hv;rfl) | (rcases hv with rfl | rfl | rfl | rfl | rfl <;> rfl)) (by omega) (by kernel_rfl) (fun n cs y h=>rd_T30 h) h
structure SnapState.Wf (x:SnapState):Prop where
 Told:(Lit.int .i64 x.Told).wf=true
set_option maxRecDepth 100000 in
theorem rd_T24 {H:Type} {enc:TypeId × Value→H} {W:World} {spare:Nat→Bool} {held:Bool} {fuel:Nat} {cs:List Value} {y:DataW H × List MemPlace} (h:DataW.trod enc Tryz.prog W 0 spare held fuel 24 cs=some y):∃ x:SnapState,SnapState.Wf x∧RepL (MW W) noBk cs [.b x.On,.b x.Begun,.s x.After,.i x.Told]:=by
 obtain ⟨xs,n,_,_,hl,hx,hall⟩:=DataW.trod_struct Tryz.underlying24 h
 have hce:Tryz.prog.cellsOf 24=4:=by kernel_rfl
 rw [hce] at hl
 match cs,hl,hall with
 | [c0,c1,c2,c3],_,hall =>
  obtain ⟨y0,hy0⟩:=get_some hx (show 0 < 4 by omega)
  have g0:DataW.trod enc Tryz.prog W 0 spare held n 4 [c0]=some y0:=by
   have hz:Tryz.prog.cellsOf 4=1:=by kernel_rfl
   have g:DataW.trod enc Tryz.prog W 0 spare held n 4 (([c0,c1,c2,c3].drop 0).take (Tryz.prog.cellsOf 4))=some y0:=(hall 0 _ rfl).trans hy0
   rw [hz] at g;exact g
  obtain ⟨x0,r0⟩:=rd_bool Tryz.underlying4 g0
  obtain ⟨y1,hy1⟩:=get_some hx (show 1 < 4 by omega)
  have g1:DataW.trod enc Tryz.prog W 0 spare held n 4 [c1]=some y1:=by
   have hz:Tryz.prog.cellsOf 4=1:=by kernel_rfl
   have g:DataW.trod enc Tryz.prog W 0 spare held n 4 (([c0,c1,c2,c3].drop 1).take (Tryz.prog.cellsOf 4))=some y1:=(hall 1 _ rfl).trans hy1
   rw [hz] at g;exact g
  obtain ⟨x1,r1⟩:=rd_bool Tryz.underlying4 g1
  obtain ⟨y2,hy2⟩:=get_some hx (show 2 < 4 by omega)
  have g2:DataW.trod enc Tryz.prog W 0 spare held n 9 [c2]=some y2:=by
   have hz:Tryz.prog.cellsOf 9=1:=by kernel_rfl
   have g:DataW.trod enc Tryz.prog W 0 spare held n 9 (([c0,c1,c2,c3].drop 2).take (Tryz.prog.cellsOf 9))=some y2:=(hall 2 _ rfl).trans hy2
   rw [hz] at g;exact g
  obtain ⟨x2,r2⟩:=rd_string Tryz.underlying9 g2
  obtain ⟨y3,hy3⟩:=get_some hx (show 3 < 4 by omega)
  have g3:DataW.trod enc Tryz.prog W 0 spare held n 3 [c3]=some y3:=by
   have hz:Tryz.prog.cellsOf 3=1:=by kernel_rfl
   have g:DataW.trod enc Tryz.prog W 0 spare held n 3 (([c0,c1,c2,c3].drop 3).take (Tryz.prog.cellsOf 3))=some y3:=(hall 3 _ rfl).trans hy3
   rw [hz] at g;exact g
  obtain ⟨x3,w3,r3⟩:=rd_int Tryz.underlying3 g3
  exact ⟨⟨x0,x1,x2,x3⟩,⟨w3⟩,repL_app r0 (repL_app r1 (repL_app r2 (repL_app r3 (repL_nil))))⟩
structure Ref27State.Wf (x:Ref27State):Prop where
 Mail:∀ z ∈ x.Mail,MailEntry.Wf z
 Snap:SnapState.Wf x.Snap
 Sent:(Lit.int .i64 x.Sent).wf=true
 Lost:(Lit.int .i64 x.Lost).wf=true
set_option maxRecDepth 100000 in
theorem rd_T26 {H:Type} {enc:TypeId × Value→H} {W:World} {spare:Nat→Bool} {held:Bool} {fuel:Nat} {cs:List Value} {y:DataW H × List MemPlace} (h:DataW.trod enc Tryz.prog W 0 spare held fuel 26 cs=some y):∃ x:Ref27State,Ref27State.Wf x∧RepL (MW W) noBk cs [.sl (List.map MailEntry.v x.Mail) false,.b x.Snap.On,.b x.Snap.Begun,.s x.Snap.After,.i x.Snap.Told,.i x.Sent,.i x.Lost]:=by
 obtain ⟨xs,n,_,_,hl,hx,hall⟩:=DataW.trod_struct Tryz.underlying26 h
 have hce:Tryz.prog.cellsOf 26=7:=by kernel_rfl
 rw [hce] at hl
 match cs,hl,hall with
 | [c0,c1,c2,c3,c4,c5,c6],_,hall =>
  obtain ⟨y0,hy0⟩:=get_some hx (show 0 < 4 by omega)
  have g0:DataW.trod enc Tryz.prog W 0 spare held n 22 [c0]=some y0:=by
   have hz:Tryz.prog.cellsOf 22=1:=by kernel_rfl
   have g:DataW.trod enc Tryz.prog W 0 spare held n 22 (([c0,c1,c2,c3,c4,c5,c6].drop 0).take (Tryz.prog.cellsOf 22))=some y0:=(hall 0 _ rfl).trans hy0
   rw [hz] at g;exact g
  obtain ⟨x0,w0,r0⟩:=rd_T22 g0
  obtain ⟨y1,hy1⟩:=get_some hx (show 1 < 4 by omega)
  have g1:DataW.trod enc Tryz.prog W 0 spare held n 24 [c1,c2,c3,c4]=some y1:=by
   have hz:Tryz.prog.cellsOf 24=4:=by kernel_rfl
   have g:DataW.trod enc Tryz.prog W 0 spare held n 24 (([c0,c1,c2,c3,c4,c5,c6].drop 1).take (Tryz.prog.cellsOf 24))=some y1:=(hall 1 _ rfl).trans hy1
   rw [hz] at g;exact g
  obtain ⟨x1,w1,r1⟩:=rd_T24 g1
  obtain ⟨y2,hy2⟩:=get_some hx (show 2 < 4 by omega)
  have g2:DataW.trod enc Tryz.prog W 0 spare held n 3 [c5]=some y2:=by
   have hz:Tryz.prog.cellsOf 3=1:=by kernel_rfl
   have g:DataW.trod enc Tryz.prog W 0 spare held n 3 (([c0,c1,c2,c3,c4,c5,c6].drop 5).take (Tryz.prog.cellsOf 3))=some y2:=(hall 2 _ rfl).trans hy2
   rw [hz] at g;exact g
  obtain ⟨x2,w2,r2⟩:=rd_int Tryz.underlying3 g2
  obtain ⟨y3,hy3⟩:=get_some hx (show 3 < 4 by omega)
  have g3:DataW.trod enc Tryz.prog W 0 spare held n 3 [c6]=some y3:=by
   have hz:Tryz.prog.cellsOf 3=1:=by kernel_rfl
   have g:DataW.trod enc Tryz.prog W 0 spare held n 3 (([c0,c1,c2,c3,c4,c5,c6].drop 6).take (Tryz.prog.cellsOf 3))=some y3:=(hall 3 _ rfl).trans hy3
   rw [hz] at g;exact g
  obtain ⟨x3,w3,r3⟩:=rd_int Tryz.underlying3 g3
  exact ⟨⟨x0,x1,x2,x3⟩,⟨w0,w1,w2,w3⟩,repL_app r0 (repL_app r1 (repL_app r2 (repL_app r3 (repL_nil))))⟩
theorem rd_T55 {H:Type} {enc:TypeId × Value→H} {W:World} {spare:Nat→Bool} {held:Bool} {fuel:Nat} {cs:List Value} {y:DataW H × List MemPlace} (h:DataW.trod enc Tryz.prog W 0 spare held fuel 55 cs=some y):∃ x:List ByteArray,RepL (MW W) noBk cs [(fun l:List ByteArray=>V.sl (l.map V.s) false) x] :=
 by obtain ⟨l,_,hr⟩:=rd_slice (f:=V.s) (es:=1) (wf:=(fun _:ByteArray=>True)) Tryz.underlying55 (fun _=>rfl) (by intro a v hv;simp [V.cells] at hv;first | (subst hv;rfl) | (rcases hv with rfl <;> rfl)) (by omega) (by kernel_rfl) (fun n cs y h=>by obtain ⟨x,hr⟩:=rd_string Tryz.underlying9 h;exact ⟨x,trivial,hr⟩) h;exact ⟨l,hr⟩
set_option maxRecDepth 100000 in
theorem rd_T57 {H:Type} {enc:TypeId × Value→H} {W:World} {spare:Nat→Bool} {held:Bool} {fuel:Nat} {cs:List Value} {y:DataW H × List MemPlace} (h:DataW.trod enc Tryz.prog W 0 spare held fuel 57 cs=some y):∃ x:SnapEyes,RepL (MW W) noBk cs [.sl (List.map V.s x.Users) false,.sl (List.map V.s x.Keys) false]:=by
 obtain ⟨xs,n,_,_,hl,hx,hall⟩:=DataW.trod_struct Tryz.underlying57 h
 have hce:Tryz.prog.cellsOf 57=2:=by kernel_rfl
 rw [hce] at hl
 match cs,hl,hall with
 | [c0,c1],_,hall =>
  obtain ⟨y0,hy0⟩:=get_some hx (show 0 < 2 by omega)
  have g0:DataW.trod enc Tryz.prog W 0 spare held n 55 [c0]=some y0:=by
   have hz:Tryz.prog.cellsOf 55=1:=by kernel_rfl
   have g:DataW.trod enc Tryz.prog W 0 spare held n 55 (([c0,c1].drop 0).take (Tryz.prog.cellsOf 55))=some y0:=(hall 0 _ rfl).trans hy0
   rw [hz] at g;exact g
  obtain ⟨x0,r0⟩:=rd_T55 g0
  obtain ⟨y1,hy1⟩:=get_some hx (show 1 < 2 by omega)
  have g1:DataW.trod enc Tryz.prog W 0 spare held n 55 [c1]=some y1:=by
   have hz:Tryz.prog.cellsOf 55=1:=by kernel_rfl
   have g:DataW.trod enc Tryz.prog W 0 spare held n 55 (([c0,c1].drop 1).take (Tryz.prog.cellsOf 55))=some y1:=(hall 1 _ rfl).trans hy1
   rw [hz] at g;exact g
  obtain ⟨x1,r1⟩:=rd_T55 g1
  exact ⟨⟨x0,x1⟩,repL_app r0 (repL_app r1 (repL_nil))⟩
structure BookRow.Wf (x:BookRow):Prop where
 P:PresPres.Wf x.P
set_option maxRecDepth 100000 in
theorem rd_T126 {H:Type} {enc:TypeId × Value→H} {W:World} {spare:Nat→Bool} {held:Bool} {fuel:Nat} {cs:List Value} {y:DataW H × List MemPlace} (h:DataW.trod enc Tryz.prog W 0 spare held fuel 126 cs=some y):∃ x:BookRow,BookRow.Wf x∧RepL (MW W) noBk cs [.s x.User,.s x.Res,.b x.P.On,.i x.P.Show,.i x.P.Prio,.i x.P.Seq]:=by
 obtain ⟨xs,n,_,_,hl,hx,hall⟩:=DataW.trod_struct Tryz.underlying126 h
 have hce:Tryz.prog.cellsOf 126=6:=by kernel_rfl
 rw [hce] at hl
 match cs,hl,hall with
 | [c0,c1,c2,c3,c4,c5],_,hall =>
  obtain ⟨y0,hy0⟩:=get_some hx (show 0 < 3 by omega)
  have g0:DataW.trod enc Tryz.prog W 0 spare held n 9 [c0]=some y0:=by
   have hz:Tryz.prog.cellsOf 9=1:=by kernel_rfl
   have g:DataW.trod enc Tryz.prog W 0 spare held n 9 (([c0,c1,c2,c3,c4,c5].drop 0).take (Tryz.prog.cellsOf 9))=some y0:=(hall 0 _ rfl).trans hy0
   rw [hz] at g;exact g
  obtain ⟨x0,r0⟩:=rd_string Tryz.underlying9 g0
  obtain ⟨y1,hy1⟩:=get_some hx (show 1 < 3 by omega)
  have g1:DataW.trod enc Tryz.prog W 0 spare held n 9 [c1]=some y1:=by
   have hz:Tryz.prog.cellsOf 9=1:=by kernel_rfl
   have g:DataW.trod enc Tryz.prog W 0 spare held n 9 (([c0,c1,c2,c3,c4,c5].drop 1).take (Tryz.prog.cellsOf 9))=some y1:=(hall 1 _ rfl).trans hy1
   rw [hz] at g;exact g
  obtain ⟨x1,r1⟩:=rd_string Tryz.underlying9 g1
  obtain ⟨y2,hy2⟩:=get_some hx (show 2 < 3 by omega)
  have g2:DataW.trod enc Tryz.prog W 0 spare held n 28 [c2,c3,c4,c5]=some y2:=by
   have hz:Tryz.prog.cellsOf 28=4:=by kernel_rfl
   have g:DataW.trod enc Tryz.prog W 0 spare held n 28 (([c0,c1,c2,c3,c4,c5].drop 2).take (Tryz.prog.cellsOf 28))=some y2:=(hall 2 _ rfl).trans hy2
   rw [hz] at g;exact g
  obtain ⟨x2,w2,r2⟩:=rd_T28 g2
  exact ⟨⟨x0,x1,x2⟩,⟨w2⟩,repL_app r0 (repL_app r1 (repL_app r2 (repL_nil)))⟩
theorem rd_T58 {H:Type} {enc:TypeId × Value→H} {W:World} {spare:Nat→Bool} {held:Bool} {fuel:Nat} {cs:List Value} {y:DataW H × List MemPlace} (h:DataW.trod enc Tryz.prog W 0 spare held fuel 58 cs=some y):∃ x:List BookRow,(∀ z ∈ x,BookRow.Wf z)∧RepL (MW W) noBk cs [(fun l:List BookRow=>V.sl (l.map BookRow.v) false) x] :=
 rd_slice (f:=BookRow.v) (es:=6) (wf:=BookRow.Wf) Tryz.underlying58 (fun _=>rfl) (by intro a v hv;simp [V.cells] at hv;first | (subst hv;rfl) | (rcases hv with rfl | rfl | rfl | rfl | rfl | rfl <;> rfl)) (by omega) (by kernel_rfl) (fun n cs y h=>rd_T126 h) h
structure BookState.Wf (x:BookState):Prop where
 Seq:(Lit.int .i64 x.Seq).wf=true
 Rows:∀ z ∈ x.Rows,BookRow.Wf z
set_option maxRecDepth 100000 in
theorem rd_T60 {H:Type} {enc:TypeId × Value→H} {W:World} {spare:Nat→Bool} {held:Bool} {fuel:Nat} {cs:List Value} {y:DataW H × List MemPlace} (h:DataW.trod enc Tryz.prog W 0 spare held fuel 60 cs=some y):∃ x:BookState,BookState.Wf x∧RepL (MW W) noBk cs [.i x.Seq,.sl (List.map BookRow.v x.Rows) false]:=by
 obtain ⟨xs,n,_,_,hl,hx,hall⟩:=DataW.trod_struct Tryz.underlying60 h
 have hce:Tryz.prog.cellsOf 60=2:=by kernel_rfl
 rw [hce] at hl
 match cs,hl,hall with
 | [c0,c1],_,hall =>
  obtain ⟨y0,hy0⟩:=get_some hx (show 0 < 2 by omega)
  have g0:DataW.trod enc Tryz.prog W 0 spare held n 3 [c0]=some y0:=by
   have hz:Tryz.prog.cellsOf 3=1:=by kernel_rfl
   have g:DataW.trod enc Tryz.prog W 0 spare held n 3 (([c0,c1].drop 0).take (Tryz.prog.cellsOf 3))=some y0:=(hall 0 _ rfl).trans hy0
   rw [hz] at g;exact g
  obtain ⟨x0,w0,r0⟩:=rd_int Tryz.underlying3 g0
  obtain ⟨y1,hy1⟩:=get_some hx (show 1 < 2 by omega)
  have g1:DataW.trod enc Tryz.prog W 0 spare held n 58 [c1]=some y1:=by
   have hz:Tryz.prog.cellsOf 58=1:=by kernel_rfl
   have g:DataW.trod enc Tryz.prog W 0 spare held n 58 (([c0,c1].drop 1).take (Tryz.prog.cellsOf 58))=some y1:=(hall 1 _ rfl).trans hy1
   rw [hz] at g;exact g
  obtain ⟨x1,w1,r1⟩:=rd_T58 g1
  exact ⟨⟨x0,x1⟩,⟨w0,w1⟩,repL_app r0 (repL_app r1 (repL_nil))⟩
end Go.Proofs.YtdoakplhalonfaaGreat

namespace Go.Proofs.YtdoakplhalonfaaGreat
open Go.RowKit
def presCheckL (p:PresPres):Int :=
 if p.Show < 0∨4 < p.Show∨p.Prio < -128∨127 < p.Prio∨p.Seq < 0∨1099511627776 < p.Seq then 8
 else if p.On=false∧(p.Show≠0∨p.Prio≠0) then 4 else 0
def namedL (u r:ByteArray):Bool:=decide (resL r.data.toList=0) && isBareL u.data.toList
def keyL (u r:ByteArray):ByteArray:=if namedL u r=true then u++⟨#[32]⟩++r else ⟨#[]⟩
theorem cat_sz (u r:ByteArray) (hu:u.size≤100000) (hr:r.size≤100000):u.size + (⟨#[32]⟩ : ByteArray).size≤4611686018427387904∧(u++(⟨#[32]⟩ : ByteArray)).size + r.size≤4611686018427387904:=by
 rw [ByteArray.size_append]
 have:(⟨#[32]⟩ : ByteArray).size=1:=rfl
 omega
instance:Inhabited BookRow:=⟨⟨⟨#[]⟩,⟨#[]⟩,⟨false,0,0,0⟩⟩⟩
instance:Inhabited PresPres:=⟨⟨false,0,0,0⟩⟩
def keyR (r:BookRow):ByteArray:=keyL r.User r.Res
def smallR (r:BookRow):Prop:=r.User.size≤100000∧r.Res.size≤100000
def manyL (rows:List BookRow) (u:ByteArray):Nat:=rows.countP fun r=>r.User.toList == u.toList
def errL:List BookRow→Int
 | []=>0
 | r :: l=>if presCheckL r.P≠0 then presCheckL r.P else if r.P.On=false then 4 else errL l
theorem err_at (rows:List BookRow) (k:Nat) (h:k < rows.length):errL (rows.drop k)=if presCheckL rows[k].P≠0 then presCheckL rows[k].P else if rows[k].P.On=false then 4 else errL (rows.drop (k + 1)):=by
 rw [List.drop_eq_getElem_cons h];rfl
def idxL (p:BookRow→Bool) (rows:List BookRow):Int:=if rows.any p=true then (rows.findIdx p:Nat) else -1
def lessR (a b:BookRow):Bool:=Op.bytesLess (keyR a).toList (keyR b).toList
def okAt (seq:Int) (rows:List BookRow) (i:Nat):Bool :=
 match rows[i]? with
 | none=>true
 | some x=>decide (1≤x.P.Seq) && decide (x.P.Seq≤seq) && (match i with | 0=>true | j + 1=>match rows[j]? with | some y=>lessR y x | none=>true) && !(rows.take i).any (fun o=>o.P.Seq == x.P.Seq)
def ordL (seq:Int) (rows:List BookRow):Bool:=(List.range rows.length).all (okAt seq rows)
theorem okAt_0 {seq:Int} {rows:List BookRow} (h:0 < rows.length):okAt seq rows 0=(decide ((1:Int)≤rows[0].P.Seq) && decide (rows[0].P.Seq≤seq) && true && !(rows.take 0).any (fun o=>o.P.Seq == rows[0].P.Seq)):=by
 simp only [okAt,List.getElem?_eq_getElem h]
theorem okAt_s {seq:Int} {rows:List BookRow} (j:Nat) (h:j + 1 < rows.length):okAt seq rows (j + 1)=(decide (1≤rows[j + 1].P.Seq) && decide (rows[j + 1].P.Seq≤seq) && lessR rows[j] rows[j + 1] && !(rows.take (j + 1)).any (fun o=>o.P.Seq == rows[j + 1].P.Seq)):=by
 simp only [okAt,List.getElem?_eq_getElem h,List.getElem?_eq_getElem (show j < rows.length by omega)]
def fullL (rows:List BookRow):Bool:=rows.any fun r=>decide (3 < manyL rows r.User)
def emptyL (rows:List BookRow):Bool:=rows.any fun r=>(keyR r).toList == (⟨#[]⟩ : ByteArray).toList
def bookCheck (seq:Int) (rows:List BookRow):Int :=
 if 16 < rows.length then 5 else if seq < 0∨1099511627776 < seq then 8 else if emptyL rows=true then 11 else if errL rows≠0 then errL rows else if ordL seq rows=false then 10 else if fullL rows=true then 7 else 0
def smallB (rows:List BookRow):Prop:=∀ r ∈ rows,smallR r
def cmpR (r:BookRow) (k:ByteArray):Int:=Lib.compareBytes (keyR r).data.toList k.data.toList
structure StandsAt (rows:List BookRow) (k:ByteArray) (pos:Nat):Prop where
 le:pos≤rows.length
 lt:∀ i (h:i < rows.length),i < pos→cmpR rows[i] k < 0
 ge:∀ i (h:i < rows.length),pos≤i→0≤cmpR rows[i] k
def foundB (rows:List BookRow) (k:ByteArray) (pos:Nat):Bool:=match rows[pos]? with
 | some r=>cmpR r k == 0
 | none=>false
end Go.Proofs.YtdoakplhalonfaaGreat

namespace Go.Proofs.YtdoakplhalonfaaGreat
open Go.RowKit
def sortedR (rows:List BookRow):Prop:=∀ i j (hj:j < rows.length) (hi:i < j),cmpR rows[i] (keyR rows[j]) < 0
theorem sorted_next {rows:List BookRow} (h:∀ i (hj:i + 1 < rows.length),lessR rows[i] rows[i + 1]=true):sortedR rows:=by
 intro i j hj hi
 induction j with
 | zero=>omega
 | succ j ih =>
  have h1:=h j hj
  unfold lessR at h1
  rw [cmp_less,decide_eq_true_eq,ByteArray.toList_eq,ByteArray.toList_eq] at h1
  rcases Nat.lt_or_ge i j with h2 | h2
  ·exact cmp_trans (ih (by omega) h2) h1
  ·have:i=j:=by omega
   subst this;exact h1
theorem okAt_all {seq:Int} {rows:List BookRow} (h:ordL seq rows=true) (i:Nat) (hi:i < rows.length):okAt seq rows i=true:=by
 unfold ordL at h
 rw [List.all_eq_true] at h
 exact h i (List.mem_range.2 hi)
theorem ord_sorted {seq:Int} {rows:List BookRow} (h:ordL seq rows=true):sortedR rows:=by
 refine sorted_next fun i hj=>?_
 have:=okAt_all h (i + 1) hj
 rw [okAt_s i hj] at this
 simp only [Bool.and_eq_true] at this
 exact this.1.2
theorem check_ord {seq:Int} {rows:List BookRow} (h:bookCheck seq rows=0):ordL seq rows=true:=by
 unfold bookCheck at h
 by_cases h0:ordL seq rows=true
 ·exact h0
 ·exfalso
  have h1:ordL seq rows=false:=by simpa using h0
  repeat' split at h
  all_goals first | omega | contradiction
def posL (rows:List BookRow) (k:ByteArray):Nat:=rows.findIdx fun r=>decide (0≤cmpR r k)
theorem stands {rows:List BookRow} (hs:sortedR rows) (k:ByteArray):StandsAt rows k (posL rows k):=by
 refine ⟨List.findIdx_le_length,fun i h hi=>?_,fun i h hi=>?_⟩
 ·have:=List.not_of_lt_findIdx hi
  simpa using this
 ·have hx:=List.findIdx_getElem (p:=fun r=>decide (0≤cmpR r k)) (xs:=rows) (w:=Nat.lt_of_le_of_lt hi h)
  rw [decide_eq_true_eq] at hx
  rcases Nat.lt_or_ge (posL rows k) i with h2 | h2
  ·have h3:=hs (posL rows k) i h h2
   have h4:=cmp_anti k.data.toList (keyR rows[posL rows k]).data.toList
   have hx' : 0≤Lib.compareBytes (keyR rows[posL rows k]).data.toList k.data.toList:=hx
   rcases Int.lt_or_le (Lib.compareBytes (keyR rows[i]).data.toList k.data.toList) 0 with h5 | h5
   ·have:=cmp_trans h3 h5;omega
   ·exact h5
  ·have e:i=posL rows k:=by unfold posL at *;omega
   subst e;exact hx
def rowAt (rows:List BookRow) (i:Nat):BookRow × Bool:=match rows[i]? with
 | some x=>(x,true)
 | none=>(⟨⟨#[]⟩,⟨#[]⟩,⟨false,0,0,0⟩⟩,false)
theorem rowAt_lt {rows:List BookRow} {i:Nat} (h:i < rows.length):rowAt rows i=(rows[i],true):=by unfold rowAt;rw [List.getElem?_eq_getElem h]
theorem rowAt_ge {rows:List BookRow} {i:Nat} (h:rows.length≤i):rowAt rows i=(⟨⟨#[]⟩,⟨#[]⟩,⟨false,0,0,0⟩⟩,false):=by unfold rowAt;rw [List.getElem?_eq_none h]
def nxtL (seq:Int) (rows:List BookRow) (k:ByteArray):BookRow × Bool :=
 if bookCheck seq rows≠0 then (⟨⟨#[]⟩,⟨#[]⟩,⟨false,0,0,0⟩⟩,false)
 else rowAt rows (if foundB rows k (posL rows k)=true then posL rows k + 1 else posL rows k)
theorem found_lt {rows:List BookRow} {k:ByteArray} {pos:Nat} (h:foundB rows k pos=true):pos < rows.length:=by
 unfold foundB at h
 rcases Nat.lt_or_ge pos rows.length with h2 | h2
 ·exact h2
 ·rw [List.getElem?_eq_none h2] at h;simp at h
end Go.Proofs.YtdoakplhalonfaaGreat

namespace Go.Proofs.YtdoakplhalonfaaGreat
open Go.RowKit
structure Good (seq:Int) (rows:List BookRow):Prop where
 len:rows.length≤16
 seq0:0≤seq
 seqM:seq≤1099511627776
 key:∀ r ∈ rows,((keyR r).toList == (⟨#[]⟩ : ByteArray).toList)=false
 pres:∀ r ∈ rows,presCheckL r.P=0∧r.P.On=true
 rng:∀ r ∈ rows,1≤r.P.Seq∧r.P.Seq≤seq
 ord:rows.Pairwise fun a b=>cmpR a (keyR b) < 0
 diff:rows.Pairwise fun a b=>a.P.Seq≠b.P.Seq
 many:∀ r ∈ rows,manyL rows r.User≤3
theorem pos_of {rows:List BookRow} {k:ByteArray} {p:Nat} (h:StandsAt rows k p):posL rows k=p:=by
 rcases Nat.lt_trichotomy (posL rows k) p with h1 | h1 | h1
 ·have hl:posL rows k < rows.length:=Nat.lt_of_lt_of_le h1 h.le
  have hx:=List.findIdx_getElem (p:=fun r=>decide (0≤cmpR r k)) (xs:=rows) (w:=hl)
  rw [decide_eq_true_eq] at hx
  have h2:=h.lt (posL rows k) hl h1
  have hx' : 0≤cmpR rows[posL rows k] k:=hx
  omega
 ·exact h1
 ·have hl:p < rows.length:=Nat.lt_of_lt_of_le h1 List.findIdx_le_length
  have h2:=List.not_of_lt_findIdx h1
  have h3:=h.ge p hl (Nat.le_refl _)
  simp at h2;omega
structure Cut3 (K:ByteArray) (A M B:List BookRow):Prop where
 a:∀ x ∈ A,cmpR x K < 0
 m:∀ x ∈ M,cmpR x K=0
 b:∀ x ∈ B,0 < cmpR x K
end Go.Proofs.YtdoakplhalonfaaGreat

namespace Go.Proofs.YtdoakplhalonfaaGreat
open Go.RowKit
structure Fam where
 n:Nat
 u:Nat→ByteArray
 r:Nat→ByteArray
 ok:∀ m,m < n→((keyL (u m) (r m)).toList == (⟨#[]⟩ : ByteArray).toList)=false∧(u m).size≤100∧(r m).size≤100
 mono:∀ i j,i < j→j < n→Lib.compareBytes (keyL (u i) (r i)).data.toList (keyL (u j) (r j)).data.toList < 0
def Fam.key (F:Fam) (m:Nat):ByteArray:=keyL (F.u m) (F.r m)
def preT (has:List PresPres) (m:Nat):PresPres:=has.getD m ⟨false,0,0,0⟩
def onF (has:List PresPres) (m:Nat):Bool:=(preT has m).On
def rowT (F:Fam) (has:List PresPres) (m:Nat):BookRow:=⟨F.u m,F.r m,preT has m⟩
def tabA (F:Fam) (has:List PresPres) (l:List Nat):List BookRow:=(l.filter (onF has)).map (rowT F has)
def tabR (F:Fam) (has:List PresPres):List BookRow:=tabA F has (List.range F.n)
structure TabOK (F:Fam) (seq:Int) (has:List PresPres):Prop where
 len:has.length=F.n
 seq0:0≤seq
 pres:∀ m,m < F.n→onF has m=true→presCheckL (preT has m)=0
 rng:∀ m,m < F.n→onF has m=true→1≤(preT has m).Seq∧(preT has m).Seq≤seq
 diff:∀ i j,i < j→j < F.n→onF has i=true→onF has j=true→(preT has i).Seq≠(preT has j).Seq
 cnt:(tabR F has).length≤16
 many:∀ m,m < F.n→onF has m=true→manyL (tabR F has) (F.u m)≤3
end Go.Proofs.YtdoakplhalonfaaGreat

namespace Go.Proofs.YtdoakplhalonfaaGreat
open Go.RowKit
end Go.Proofs.YtdoakplhalonfaaGreat

