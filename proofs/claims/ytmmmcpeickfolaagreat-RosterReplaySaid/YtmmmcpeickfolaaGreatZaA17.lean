/- A part of the proof: 1 texts joined. -/
import Derived.Test.YtmmmcpeickfolaaGreatZaA16
import Derived.Test.YtmmmcpeickfolaaGreatZaA12
import Derived.Test.YtmmmcpeickfolaaGreatZaA14
import Derived.KernelRfl
set_option linter.all false
namespace Go.Proofs.YtmmmcpeickfolaaGreat
open Go.RowKit
structure Ref19Four where
 to:Bool
 from_:Bool
 ask:Bool
 wait:Bool
def p_ref19_of (a0:Int):Option (Ref19Four) :=
 some (Ref19Four.mk ((Int.tmod a0 (2:Int)) == (1:Int)) ((Int.tmod (w64 (Int.tdiv a0 (2:Int))) (2:Int)) == (1:Int)) ((Int.tmod (w64 (Int.tdiv a0 (4:Int))) (2:Int)) == (1:Int)) ((Int.tmod (w64 (Int.tdiv a0 (8:Int))) (2:Int)) == (1:Int)))
def p_ref19_Check (a0:Int):Option (Int) :=
 bif (decide (a0 < (0:Int))) then
  some (8:Int)
 else
 bif (decide ((15:Int) < a0)) then
  some (8:Int)
 else
 (p_ref19_of a0).bind fun v3 =>
 bif v3.to then
  bif v3.ask then
   some (4:Int)
  else
  bif v3.from_ then
   bif v3.wait then
    some (4:Int)
   else
   some (0:Int)
  else
  some (0:Int)
 else
 bif v3.from_ then
  bif v3.wait then
   some (4:Int)
  else
  some (0:Int)
 else
 some (0:Int)
def p_ref20_Check (a0:ItemItem):Option (Int) :=
 (p_ref09_IsBare a0.Contact).bind fun v1 =>
 bif v1 then
  bif (decide ((24:Int) < (a0.Name.size:Int))) then
   some (5:Int)
  else
  (p_ref02_Plain a0.Name).bind fun v4 =>
  bif v4 then
   (p_ref19_Check a0.Sub).bind fun v6 =>
   bif (v6 != (0:Int)) then
    (p_ref19_Check a0.Sub).bind fun v8 =>
    some v8
   else
   bif (decide (a0.Ver < (0:Int))) then
    some (8:Int)
   else
   bif (decide ((1099511627776:Int) < a0.Ver)) then
    some (8:Int)
   else
   bif (a0.Name.toList == (⟨#[]⟩ : ByteArray).toList) then
    some (0:Int)
   else
   bif a0.Own then
    some (0:Int)
   else
   some (4:Int)
  else
  some (11:Int)
 else
 some (11:Int)
def p_ref20_has (a0:ItemItem) (a1:Int):Option (Bool) :=
 (p_ref19_Check a0.Sub).bind fun v1 =>
 bif (v1 == (0:Int)) then
  (ne0? a1).bind fun x3 =>
  some ((Int.tmod (w64 (Int.tdiv a0.Sub a1)) (2:Int)) == (1:Int))
 else
 some false
def p_ref20_Listed (a0:ItemItem):Option (Bool) :=
 bif a0.Own then
  some true
 else
 (p_ref20_has a0 (1:Int)).bind fun v2 =>
 bif v2 then
  some true
 else
 (p_ref20_has a0 (2:Int)).bind fun v4 =>
 bif v4 then
  some true
 else
 (p_ref20_has a0 (4:Int)).bind fun v6 =>
 some v6
def p_ref20_Idle (a0:ItemItem):Option (Bool) :=
 bif a0.Own then
  some false
 else
 some (a0.Sub == (0:Int))
def p_ref21_items_l1 (z5:RosterState):Nat→Int→Option (Int ⊕ Int)
 | 0,_=>none
 | n + 1,y4 =>
  bif (decide (y4 < (z5.Items.length:Int))) then
   (at? z5.Items y4).bind fun x7 =>
   (p_ref20_Check x7).bind fun v8 =>
   bif (v8 != (0:Int)) then
    some (.inl v8)
   else
   (at? z5.Items y4).bind fun x10 =>
   (p_ref20_Idle x10).bind fun v11 =>
   bif v11 then
    some (.inl (4:Int))
   else
   p_ref21_items_l1 z5 n (w64 (y4 + (1:Int)))
  else
  some (.inr y4)
def p_ref21_items (a0:RosterState):Option (Int) :=
 (p_ref21_items_l1 a0 fuel (0:Int)).bind fun o13=>match o13 with
 | .inl q14 =>
  some q14
 | .inr q15 =>
  some (0:Int)
def p_ref21_rises_l2 (z28:Int) (z30:RosterState) (z31:ItemItem):Nat→Int→Option (Bool ⊕ Int)
 | 0,_=>none
 | n + 1,y29 =>
  bif (decide (y29 < z28)) then
   (at? z30.Items y29).bind fun x33 =>
   bif (x33.Ver == z31.Ver) then
    some (.inl false)
   else
   p_ref21_rises_l2 z28 z30 z31 n (w64 (y29 + (1:Int)))
  else
  some (.inr y29)
def p_ref21_rises_l1 (z5:RosterState):Nat→Int→Option (Bool ⊕ Int)
 | 0,_=>none
 | n + 1,y4 =>
  bif (decide (y4 < (z5.Items.length:Int))) then
   (at? z5.Items y4).bind fun x7 =>
   bif (decide (x7.Ver < (1:Int))) then
    some (.inl false)
   else
   bif (decide (z5.Ver < x7.Ver)) then
    some (.inl false)
   else
   bif (decide ((0:Int) < y4)) then
    (at? z5.Items (w64 (y4 - (1:Int)))).bind fun x11 =>
    bif (Op.bytesLess x11.Contact.toList x7.Contact.toList) then
     (p_ref21_rises_l2 y4 z5 x7 fuel (0:Int)).bind fun o25=>match o25 with
     | .inl q26 =>
      some (.inl q26)
     | .inr q27 =>
      p_ref21_rises_l1 z5 n (w64 (y4 + (1:Int)))
    else
    some (.inl false)
   else
   (p_ref21_rises_l2 y4 z5 x7 fuel (0:Int)).bind fun o35=>match o35 with
   | .inl q36 =>
    some (.inl q36)
   | .inr q37 =>
    p_ref21_rises_l1 z5 n (w64 (y4 + (1:Int)))
  else
  some (.inr y4)
def p_ref21_rises_l4 (z59:Int) (z61:RosterState) (z62:RosterGone):Nat→Int→Option (Bool ⊕ Int)
 | 0,_=>none
 | n + 1,y60 =>
  bif (decide (y60 < z59)) then
   (at? z61.Gone y60).bind fun x64 =>
   bif (x64.Contact.toList == z62.Contact.toList) then
    some (.inl false)
   else
   p_ref21_rises_l4 z59 z61 z62 n (w64 (y60 + (1:Int)))
  else
  some (.inr y60)
def p_ref21_rises_l5 (z78:RosterState) (z79:RosterGone):Nat→Int→Option (Bool ⊕ Int)
 | 0,_=>none
 | n + 1,y77 =>
  bif (decide (y77 < (z78.Items.length:Int))) then
   (at? z78.Items y77).bind fun x81 =>
   bif (x81.Ver == z79.Ver) then
    bif (x81.Contact.toList == z79.Contact.toList) then
     (p_ref20_Listed x81).bind fun v84 =>
     bif v84 then
      some (.inl false)
     else
     (p_ref20_Listed x81).bind fun v86 =>
     bif v86 then
      some (.inl false)
     else
     p_ref21_rises_l5 z78 z79 n (w64 (y77 + (1:Int)))
    else
    some (.inl false)
   else
   bif (x81.Contact.toList == z79.Contact.toList) then
    (p_ref20_Listed x81).bind fun v89 =>
    bif v89 then
     some (.inl false)
    else
    p_ref21_rises_l5 z78 z79 n (w64 (y77 + (1:Int)))
   else
   p_ref21_rises_l5 z78 z79 n (w64 (y77 + (1:Int)))
  else
  some (.inr y77)
def p_ref21_rises_l3 (z47:RosterState):Nat→Int→Int→Option (Bool ⊕ (Int × Int))
 | 0,_,_=>none
 | n + 1,y45,y46 =>
  bif (decide (y46 < (z47.Gone.length:Int))) then
   (at? z47.Gone y46).bind fun x49 =>
   bif (decide (x49.Ver≤y45)) then
    some (.inl false)
   else
   bif (decide (z47.Ver < x49.Ver)) then
    some (.inl false)
   else
   (p_ref21_rises_l4 y46 z47 x49 fuel (0:Int)).bind fun o66=>match o66 with
   | .inl q67 =>
    some (.inl q67)
   | .inr q68 =>
    (p_ref21_rises_l5 z47 x49 fuel (0:Int)).bind fun o91=>match o91 with
    | .inl q92 =>
     some (.inl q92)
    | .inr q93 =>
     p_ref21_rises_l3 z47 n x49.Ver (w64 (y46 + (1:Int)))
  else
  some (.inr (y45,y46))
def p_ref21_rises (a0:RosterState):Option (Bool) :=
 (p_ref21_rises_l1 a0 fuel (0:Int)).bind fun o38=>match o38 with
 | .inl q39 =>
  some q39
 | .inr q40 =>
  (p_ref21_rises_l3 a0 fuel a0.Floor (0:Int)).bind fun o94=>match o94 with
  | .inl q95 =>
   some q95
  | .inr q96 =>
   some true
def p_ref21_Check_l1 (z14:RosterState):Nat→Int→Option (Int ⊕ Int)
 | 0,_=>none
 | n + 1,y13 =>
  bif (decide (y13 < (z14.Gone.length:Int))) then
   (at? z14.Gone y13).bind fun x16 =>
   (p_ref09_IsBare x16.Contact).bind fun v17 =>
   bif v17 then
    p_ref21_Check_l1 z14 n (w64 (y13 + (1:Int)))
   else
   some (.inl (11:Int))
  else
  some (.inr y13)
def p_ref21_Check (a0:RosterState):Option (Int) :=
 bif (decide ((12:Int) < (a0.Items.length:Int))) then
  some (5:Int)
 else
 bif (decide ((8:Int) < (a0.Gone.length:Int))) then
  some (5:Int)
 else
 bif (decide (a0.Ver < (0:Int))) then
  some (8:Int)
 else
 bif (decide ((1099511627776:Int) < a0.Ver)) then
  some (8:Int)
 else
 bif (decide (a0.Floor < (0:Int))) then
  some (8:Int)
 else
 bif (decide (a0.Ver < a0.Floor)) then
  some (8:Int)
 else
 (p_ref21_items a0).bind fun v7 =>
 bif (v7 != (0:Int)) then
  (p_ref21_items a0).bind fun v9 =>
  some v9
 else
 (p_ref21_Check_l1 a0 fuel (0:Int)).bind fun o19=>match o19 with
 | .inl q20 =>
  some q20
 | .inr q21 =>
  (p_ref21_rises a0).bind fun v22 =>
  bif v22 then
   some (0:Int)
  else
  some (10:Int)
end Go.Proofs.YtmmmcpeickfolaaGreat

namespace Go.Proofs.YtmmmcpeickfolaaGreat
open Go.RowKit
theorem some_bif {α:Type} (b:Bool) (x y:α):(bif b then some x else some y)=some (bif b then x else y):=by cases b <;> rfl
def subC (s:Int):Int:=if s < 0∨15 < s then 8 else if s=5∨s=7∨s=13∨s=15∨s=10∨s=11∨s=14 then 4 else 0
theorem sub16 {s:Int} (h:¬ (s < 0∨15 < s)):s=0∨s=1∨s=2∨s=3∨s=4∨s=5∨s=6∨s=7∨s=8∨s=9∨s=10∨s=11∨s=12∨s=13∨s=14∨s=15:=by omega
theorem subs_p (s:Int):p_subs_Check s=some (subC s):=by
 by_cases h:s < 0∨15 < s
 ·unfold p_subs_Check subC
  rw [if_pos h]
  by_cases h1:s < 0
  ·rw [show decide (s < 0)=true by simpa using h1];rfl
  ·rw [show decide (s < 0)=false by simpa using h1,show decide (15 < s)=true by simp;omega];rfl
 ·rcases sub16 h with rfl | rfl | rfl | rfl | rfl | rfl | rfl | rfl | rfl | rfl | rfl | rfl | rfl | rfl | rfl | rfl <;> kernel_rfl
theorem rsub_p (s:Int):p_ref19_Check s=some (subC s):=by
 by_cases h:s < 0∨15 < s
 ·unfold p_ref19_Check subC
  rw [if_pos h]
  by_cases h1:s < 0
  ·rw [show decide (s < 0)=true by simpa using h1];rfl
  ·rw [show decide (s < 0)=false by simpa using h1,show decide (15 < s)=true by simp;omega];rfl
 ·rcases sub16 h with rfl | rfl | rfl | rfl | rfl | rfl | rfl | rfl | rfl | rfl | rfl | rfl | rfl | rfl | rfl | rfl <;> kernel_rfl
theorem subC_in {s:Int} (h:subC s=0):¬ (s < 0∨15 < s):=fun g=>by unfold subC at h;rw [if_pos g] at h;omega
def hasB (s p:Int):Bool:=bif subC s == 0 then andI .i64 s p != 0 else false
theorem has_p (x:ItemItem) (p:Int):p_item_Item_has x p=some (hasB x.Sub p):=by
 unfold p_item_Item_has hasB
 rw [subs_p]
 simp only [Option.bind_some,some_bif]
theorem rhas_p (x:ItemItem) (p:Int) (hp:p=1∨p=2∨p=4):p_ref20_has x p=some (hasB x.Sub p):=by
 unfold p_ref20_has hasB
 rw [rsub_p]
 have e:ne0? p=some ():=by rcases hp with rfl | rfl | rfl <;> rfl
 simp only [Option.bind_some,e,some_bif]
 refine congrArg some ?_
 by_cases h:subC x.Sub=0
 ·rcases sub16 (subC_in h) with g | g | g | g | g | g | g | g | g | g | g | g | g | g | g | g <;> rw [g] <;> rcases hp with rfl | rfl | rfl <;> kernel_rfl
 ·rw [show (subC x.Sub == 0)=false by simpa using h];rfl
def listedI (x:ItemItem):Bool:=x.Own || hasB x.Sub 7
theorem has7 (s:Int):hasB s 7=(hasB s 1 || (hasB s 2 || hasB s 4)):=by
 by_cases h:subC s=0
 ·rcases sub16 (subC_in h) with rfl | rfl | rfl | rfl | rfl | rfl | rfl | rfl | rfl | rfl | rfl | rfl | rfl | rfl | rfl | rfl <;> kernel_rfl
 ·unfold hasB;rw [show (subC s == 0)=false by simpa using h];rfl
theorem listed_p (x:ItemItem):p_item_Listed x=some (listedI x):=by
 unfold p_item_Listed listedI
 rw [has_p]
 cases x.Own <;> rfl
theorem rlisted_p (x:ItemItem):p_ref20_Listed x=some (listedI x):=by
 unfold p_ref20_Listed listedI
 rw [rhas_p x 1 (.inl rfl),rhas_p x 2 (.inr (.inl rfl)),rhas_p x 4 (.inr (.inr rfl)),has7]
 cases x.Own <;> cases hasB x.Sub 1 <;> cases hasB x.Sub 2 <;> rfl
def idleI (x:ItemItem):Bool:=x.Sub == 0 && !x.Own
theorem idle_p (x:ItemItem):p_item_Idle x=some (idleI x):=by
 unfold p_item_Idle idleI
 cases x.Sub == 0 <;> rfl
theorem ridle_p (x:ItemItem):p_ref20_Idle x=some (idleI x):=by
 unfold p_ref20_Idle idleI
 cases x.Sub == 0 <;> cases x.Own <;> rfl
def chkI (x:ItemItem):Int :=
 bif isBareL x.Contact.data.toList then bif decide ((24:Int) < (x.Name.size:Int)) then 5 else bif plainL x.Name.data.toList then bif subC x.Sub != 0 then subC x.Sub else bif decide (x.Ver < 0) then 8 else bif decide ((1099511627776:Int) < x.Ver) then 8 else bif x.Name.toList == (⟨#[]⟩ : ByteArray).toList then 0 else bif x.Own then 0 else 4 else 11 else 11
theorem check_p {x:ItemItem} (h:x.Contact.size≤100000) (hn:x.Name.size≤100000):p_item_Check x=some (chkI x):=by
 unfold p_item_Check p_addr_IsBare p_utf_Plain chkI
 rw [if_pos h,if_pos hn,subs_p]
 simp only [Option.bind_some,some_bif]
theorem rcheck_p {x:ItemItem} (h:x.Contact.size≤100000) (hn:x.Name.size≤100000):p_ref20_Check x=some (chkI x):=by
 unfold p_ref20_Check p_ref09_IsBare p_ref02_Plain chkI
 rw [if_pos h,if_pos hn,rsub_p]
 simp only [Option.bind_some,some_bif]
structure FineI (x:ItemItem):Prop where
 bare:isBareL x.Contact.data.toList=true
 name:x.Name.size≤24
 plain:plainL x.Name.data.toList=true
 sub:subC x.Sub=0
 ver:0≤x.Ver∧x.Ver≤1099511627776
 own:x.Own=true∨x.Name=⟨#[]⟩
theorem fine_of {x:ItemItem} (h:chkI x=0):FineI x:=by
 unfold chkI at h
 by_cases h1:isBareL x.Contact.data.toList=true
 case neg=>rw [Bool.not_eq_true] at h1;rw [h1,cond_false] at h;omega
 rw [h1,cond_true] at h
 by_cases h2:decide ((24:Int) < (x.Name.size:Int))=true
 ·rw [h2,cond_true] at h;omega
 rw [Bool.not_eq_true] at h2
 rw [h2,cond_false] at h
 by_cases h3:plainL x.Name.data.toList=true
 case neg=>rw [Bool.not_eq_true] at h3;rw [h3,cond_false] at h;omega
 rw [h3,cond_true] at h
 by_cases h4:(subC x.Sub != 0)=true
 ·rw [h4,cond_true] at h;rw [h] at h4;cases h4
 rw [Bool.not_eq_true] at h4
 rw [h4,cond_false] at h
 by_cases h5:decide (x.Ver < 0)=true
 ·rw [h5,cond_true] at h;omega
 rw [Bool.not_eq_true] at h5
 rw [h5,cond_false] at h
 by_cases h6:decide ((1099511627776:Int) < x.Ver)=true
 ·rw [h6,cond_true] at h;omega
 rw [Bool.not_eq_true] at h6
 rw [h6,cond_false] at h
 simp at h2 h4 h5 h6
 refine ⟨h1,by omega,h3,h4,⟨h5,h6⟩,?_⟩
 by_cases h7:(x.Name.toList == (⟨#[]⟩ : ByteArray).toList)=true
 ·exact .inr (eqT_iff.1 h7)
 ·rw [Bool.not_eq_true] at h7
  rw [h7,cond_false] at h
  cases h8:x.Own with
  | true=>exact .inl rfl
  | false=>rw [h8,cond_false] at h;omega
theorem fine_to {x:ItemItem} (h:FineI x):chkI x=0:=by
 have h2:decide ((24:Int) < (x.Name.size:Int))=false:=by have:=h.name;simp;omega
 have h5:decide (x.Ver < 0)=false:=by have:=h.ver;simp;omega
 have h6:decide ((1099511627776:Int) < x.Ver)=false:=by have:=h.ver;simp;omega
 unfold chkI
 rw [h.bare,h2,h.plain,h.sub,h5,h6]
 rcases h.own with e | e
 ·rw [e];cases (x.Name.toList == (⟨#[]⟩ : ByteArray).toList) <;> rfl
 ·rw [e,eqT_refl];rfl
def lessI (x y:ItemItem):Bool:=decide (Lib.compareBytes x.Contact.data.toList y.Contact.data.toList < 0) || (Lib.compareBytes x.Contact.data.toList y.Contact.data.toList == 0 && decide (x.Ver < y.Ver))
theorem eq_cmp0 (a b:ByteArray):(a.toList == b.toList)=(Lib.compareBytes a.data.toList b.data.toList == 0):=by
 rw [tl_data,tl_data]
 by_cases h:a.data.toList=b.data.toList
 ·rw [h,cmp_refl];simp
 ·have h2:¬ Lib.compareBytes a.data.toList b.data.toList=0:=fun g=>h (cmp_eq0 g)
  rw [show (a.data.toList == b.data.toList)=false by simpa using h,show (Lib.compareBytes a.data.toList b.data.toList == 0)=false by simpa using h2]
theorem or_p (a b:Int):p_cmp_Or_int_ [a,b]=some (if a≠0 then a else b):=by
 unfold p_cmp_Or_int_
 have key:∀ F,p_cmp_Or_int__l1 [a,b] 2 (F + 3) 0=some (if a≠0 then .inl a else if b≠0 then .inl b else .inr 2):=fun F=>by
  rw [p_cmp_Or_int__l1]
  show (bif (a != 0) then some (.inl a) else p_cmp_Or_int__l1 [a,b] 2 (F + 2) 1)=_
  by_cases ha:a=0
  ·rw [show (a != 0)=false by simpa using ha,cond_false,if_neg (by simpa using ha),p_cmp_Or_int__l1]
   show (bif (b != 0) then some (.inl b) else p_cmp_Or_int__l1 [a,b] 2 (F + 1) 2)=_
   by_cases hb:b=0
   ·rw [show (b != 0)=false by simpa using hb,cond_false,if_neg (by simpa using hb),p_cmp_Or_int__l1];rfl
   ·rw [show (b != 0)=true by simpa using hb,cond_true,if_pos hb]
  ·rw [show (a != 0)=true by simpa using ha,cond_true,if_pos ha]
 have:=key (fuel - 3)
 rw [show fuel - 3 + 3=fuel from rfl] at this
 show ((p_cmp_Or_int__l1 [a,b] 2 fuel 0).bind _)=_
 rw [this]
 by_cases ha:a=0
 ·by_cases hb:b=0
  ·subst ha hb;rfl
  ·rw [if_neg (by simpa using ha),if_pos hb,if_neg (by simpa using ha)];rfl
 ·rw [if_pos ha,if_pos ha];rfl
theorem cmpc_p (a b:Int):p_cmp_Compare_int_ a b=some (if a < b then -1 else if b < a then 1 else 0):=by
 unfold p_cmp_Compare_int_ p_cmp_isNaN_int_
 simp only [Option.bind_some,bne_self_eq_false,cond_false]
 by_cases h:a < b
 ·rw [show decide (a < b)=true by simpa using h,if_pos h];rfl
 ·rw [show decide (a < b)=false by simpa using h,if_neg h]
  by_cases h2:b < a
  ·rw [show decide (b < a)=true by simpa using h2,if_pos h2];rfl
  ·rw [show decide (b < a)=false by simpa using h2,if_neg h2];rfl
theorem order_p (x y:ItemItem):∃ v,p_item_Item_order x y=some v∧decide (v < 0)=lessI x y:=by
 unfold p_item_Item_order p_strings_Compare
 simp only [Option.bind_some,cmpc_p,or_p]
 refine ⟨_,rfl,?_⟩
 unfold lessI
 generalize Lib.compareBytes x.Contact.data.toList y.Contact.data.toList=c
 by_cases hc:c=0
 ·rw [if_neg (by simpa using hc),hc]
  by_cases h:x.Ver < y.Ver
  ·simp [h]
  ·by_cases h2:y.Ver < x.Ver <;> simp [h,h2]
 ·rw [if_pos hc,show (c == 0)=false by simpa using hc];simp
end Go.Proofs.YtmmmcpeickfolaaGreat

namespace Go.Proofs.YtmmmcpeickfolaaGreat
open Go.RowKit
theorem loop_first {β γ:Type} {N:Nat} (hN:N≤1000) (L:Nat→Int→Option (β ⊕ γ)) (e:γ) (step:Nat→Option β) (h1:∀ n k,k < N→(∀ r,step k=some r→L (n + 1) (k:Int)=some (.inl r))∧(step k=none→L (n + 1) (k:Int)=L n ((k + 1:Nat):Int))) (h2:∀ n,L (n + 1) (N:Int)=some (.inr e)) :
  (∃ k,k < N∧∃ r,step k=some r∧(∀ j,j < k→step j=none)∧L fuel 0=some (.inl r))∨((∀ k,k < N→step k=none)∧L fuel 0=some (.inr e)):=by
 have key:∀ m k F,k + m=N→m < F→(∀ j,j < k→step j=none)→(∃ q,q < N∧∃ r,step q=some r∧(∀ j,j < q→step j=none)∧L F (k:Int)=some (.inl r))∨((∀ q,q < N→step q=none)∧L F (k:Int)=some (.inr e)):=by
  intro m
  induction m with
  | zero =>
   intro k F hk hF hj
   obtain ⟨F,rfl⟩ : ∃ G,F=G + 1:=⟨F - 1,by omega⟩
   have:k=N:=by omega
   subst this
   exact .inr ⟨hj,h2 F⟩
  | succ m ih =>
   intro k F hk hF hj
   obtain ⟨F,rfl⟩ : ∃ G,F=G + 1:=⟨F - 1,by omega⟩
   have hkn:k < N:=by omega
   cases hs:step k with
   | some r=>exact .inl ⟨k,hkn,r,hs,hj,(h1 F k hkn).1 r hs⟩
   | none =>
    rw [(h1 F k hkn).2 hs]
    refine ih (k + 1) F (by omega) (by omega) fun j hjk=>?_
    rcases Nat.lt_or_ge j k with h | h
    ·exact hj j h
    ·have:j=k:=by omega
     subst this;exact hs
 exact key N 0 fuel (by omega) (by have:=fuel_pos;omega) (fun j h=>absurd h (Nat.not_lt_zero j))
theorem loop_all {γ:Type} {N:Nat} (hN:N≤1000) (L:Nat→Int→Option (Bool ⊕ γ)) (e:γ) (ok:Nat→Prop) (h1:∀ n k,k < N→(ok k→L (n + 1) (k:Int)=L n ((k + 1:Nat):Int))∧(¬ ok k→L (n + 1) (k:Int)=some (.inl false))) (h2:∀ n,L (n + 1) (N:Int)=some (.inr e)) :
  ((∀ k,k < N→ok k)∧L fuel 0=some (.inr e))∨(¬ (∀ k,k < N→ok k)∧L fuel 0=some (.inl false)):=by
 classical
 have:=loop_first hN L e (fun k=>if ok k then none else some false) (fun n k hk=>⟨fun r hr=>?_,fun hr=>?_⟩) h2
 ·rcases this with ⟨k,hk,r,hr,_,h⟩ | ⟨ha,h⟩
  ·refine .inr ⟨fun g=>?_,?_⟩
   ·rw [if_pos (g k hk)] at hr;cases hr
   ·by_cases g:ok k
    ·rw [if_pos g] at hr;cases hr
    ·rw [if_neg g] at hr;cases hr;exact h
  ·refine .inl ⟨fun k hk=>?_,h⟩
   have:=ha k hk
   by_cases g:ok k
   ·exact g
   ·rw [if_neg g] at this;cases this
 ·by_cases g:ok k
  ·rw [if_pos g] at hr;cases hr
  ·rw [if_neg g] at hr;cases hr;exact (h1 n k hk).2 g
 ·by_cases g:ok k
  ·exact (h1 n k hk).1 g
  ·rw [if_neg g] at hr;cases hr
theorem at_mem {α:Type} {l:List α} {y:Int} {x:α} (h:at? l y=some x):x ∈ l:=by
 unfold at? at h
 split at h
 ·exact List.mem_of_getElem? h
 ·cases h
structure LightS (s:RosterState):Prop where
 items:s.Items.length≤20
 gone:s.Gone.length≤20
 item:∀ x ∈ s.Items,x.Contact.size≤100∧x.Name.size≤100
 went:∀ g ∈ s.Gone,g.Contact.size≤100
theorem errs_l {s:RosterState} (h:LightS s):∀ n y,p_roster_State_errors_l1 s.Items (s.Items.length:Int) n y=p_ref21_items_l1 s n y
 | 0,y=>rfl
 | n + 1,y=>by
  rw [p_roster_State_errors_l1,p_ref21_items_l1]
  cases hx:at? s.Items y with
  | none=>rfl
  | some x =>
   obtain ⟨a,b⟩:=h.item x (at_mem hx)
   simp only [Option.bind_some,check_p (x:=x) (by omega) (by omega),rcheck_p (x:=x) (by omega) (by omega),idle_p,ridle_p,errs_l h n]
theorem errs_p {s:RosterState} (h:LightS s):∃ e,p_roster_State_errors s=some e∧p_ref21_items s=some e∧(e=0→∀ x ∈ s.Items,chkI x=0):=by
 have hi:=h.items
 unfold p_roster_State_errors p_ref21_items
 have l1:=loop_first (N:=s.Items.length) (by omega) (p_ref21_items_l1 s) (s.Items.length:Int) (fun k=>match s.Items[k]? with | some x=>if chkI x≠0 then some (chkI x) else if idleI x then some 4 else none | none=>none) (fun n k hk=>by
  obtain ⟨a,b⟩:=h.item _ (List.getElem_mem hk)
  rw [p_ref21_items_l1,lt_tt hk,cond_true,at_lt hk,Option.bind_some,rcheck_p (by omega) (by omega),Option.bind_some,Option.bind_some,ridle_p,Option.bind_some,w64_succ (by omega),List.getElem?_eq_getElem hk]
  by_cases g:chkI s.Items[k]=0
  ·simp only [g,ne_eq,not_true_eq_false,if_false,bne_self_eq_false,cond_false]
   cases idleI s.Items[k] <;> simp
  ·simp only [g,ne_eq,not_false_eq_true,if_true,show (chkI s.Items[k] != 0)=true by simpa using g,cond_true]
   simp) (fun n=>by rw [p_ref21_items_l1,lt_ff (Nat.le_refl _)];rfl)
 rw [errs_l h]
 rcases l1 with ⟨k,hk,r,hr,_,e⟩ | ⟨ha,e⟩
 ·rw [e]
  refine ⟨r,rfl,rfl,fun h0=>?_⟩
  rw [List.getElem?_eq_getElem hk] at hr
  dsimp only at hr
  by_cases g:chkI s.Items[k]=0
  ·rw [if_neg (by simpa using g)] at hr
   split at hr
   ·cases hr;cases h0
   ·cases hr
  ·rw [if_pos g] at hr;cases hr;exact absurd h0 g
 ·rw [e]
  refine ⟨0,rfl,rfl,fun _ x hx=>?_⟩
  obtain ⟨k,hk,rfl⟩:=List.getElem_of_mem hx
  have:=ha k hk
  rw [List.getElem?_eq_getElem hk] at this
  dsimp only at this
  by_cases g:chkI s.Items[k]=0
  ·exact g
  ·rw [if_pos g] at this;cases this
def Idx {α:Type} (p:α→Bool) (l:List α) (v:Int):Prop :=
 (∃ k:Nat,v=k∧∃ x,l[k]?=some x∧p x=true∧∀ j,j < k→∀ y,l[j]?=some y→p y=false)∨(v=-1∧∀ x ∈ l,p x=false)
theorem idxG_p (p:RosterGone→Bool) (l:List RosterGone) (hl:l.length≤1000):∃ v,p_slices_IndexFunc_roster_Gone l (fun x=>some (p x))=some v∧Idx p l v:=by
 have l1:=loop_first (N:=l.length) hl (p_slices_IndexFunc_roster_Gone_l1 (fun x=>some (p x)) l (l.length:Int)) (l.length:Int) (fun k=>match l[k]? with | some x=>if p x then some (k:Int) else none | none=>none) (fun n k hk=>by
  rw [p_slices_IndexFunc_roster_Gone_l1,lt_tt hk,cond_true,at_lt hk,Option.bind_some,Option.bind_some,w64_succ (by omega),List.getElem?_eq_getElem hk]
  dsimp only
  cases p l[k] <;> simp) (fun n=>by rw [p_slices_IndexFunc_roster_Gone_l1,lt_ff (Nat.le_refl _)];rfl)
 unfold p_slices_IndexFunc_roster_Gone
 rcases l1 with ⟨k,hk,r,hr,hj,e⟩ | ⟨ha,e⟩
 ·rw [e]
  rw [List.getElem?_eq_getElem hk] at hr
  dsimp only at hr
  split at hr
  case isFalse=>cases hr
  rename_i hp
  cases hr
  refine ⟨_,rfl,.inl ⟨k,rfl,_,List.getElem?_eq_getElem hk,hp,fun j hjk y hy=>?_⟩⟩
  have:=hj j hjk
  rw [hy] at this
  dsimp only at this
  split at this
  ·cases this
  ·rename_i g;simpa using g
 ·rw [e]
  refine ⟨_,rfl,.inr ⟨rfl,fun x hx=>?_⟩⟩
  obtain ⟨k,hk,rfl⟩:=List.getElem_of_mem hx
  have:=ha k hk
  rw [List.getElem?_eq_getElem hk] at this
  dsimp only at this
  split at this
  ·cases this
  ·rename_i g;simpa using g
theorem idxI_p (p:ItemItem→Bool) (l:List ItemItem) (hl:l.length≤1000):∃ v,p_slices_IndexFunc_item_Item l (fun x=>some (p x))=some v∧Idx p l v:=by
 have l1:=loop_first (N:=l.length) hl (p_slices_IndexFunc_item_Item_l1 (fun x=>some (p x)) l (l.length:Int)) (l.length:Int) (fun k=>match l[k]? with | some x=>if p x then some (k:Int) else none | none=>none) (fun n k hk=>by
  rw [p_slices_IndexFunc_item_Item_l1,lt_tt hk,cond_true,at_lt hk,Option.bind_some,Option.bind_some,w64_succ (by omega),List.getElem?_eq_getElem hk]
  dsimp only
  cases p l[k] <;> simp) (fun n=>by rw [p_slices_IndexFunc_item_Item_l1,lt_ff (Nat.le_refl _)];rfl)
 unfold p_slices_IndexFunc_item_Item
 rcases l1 with ⟨k,hk,r,hr,hj,e⟩ | ⟨ha,e⟩
 ·rw [e]
  rw [List.getElem?_eq_getElem hk] at hr
  dsimp only at hr
  split at hr
  case isFalse=>cases hr
  rename_i hp
  cases hr
  refine ⟨_,rfl,.inl ⟨k,rfl,_,List.getElem?_eq_getElem hk,hp,fun j hjk y hy=>?_⟩⟩
  have:=hj j hjk
  rw [hy] at this
  dsimp only at this
  split at this
  ·cases this
  ·rename_i g;simpa using g
 ·rw [e]
  refine ⟨_,rfl,.inr ⟨rfl,fun x hx=>?_⟩⟩
  obtain ⟨k,hk,rfl⟩:=List.getElem_of_mem hx
  have:=ha k hk
  rw [List.getElem?_eq_getElem hk] at this
  dsimp only at this
  split at this
  ·cases this
  ·rename_i g;simpa using g
theorem Idx.has {α:Type} {p:α→Bool} {l:List α} {v:Int} (h:Idx p l v):decide ((0:Int)≤v)=l.any p:=by
 rcases h with ⟨k,rfl,x,hx,hp,_⟩ | ⟨rfl,h⟩
 ·rw [show decide ((0:Int)≤(k:Int))=true by simp]
  symm;rw [List.any_eq_true];exact ⟨x,List.mem_of_getElem? hx,hp⟩
 ·symm
  show l.any p=false
  rw [List.any_eq_false];intro x hx;rw [h x hx];simp
theorem gone_p {s:RosterState} (h:LightS s):p_slices_ContainsFunc_roster_Gone s.Gone (fun x=>p_roster_Check_1 x)=some (s.Gone.any fun g=>!isBareL g.Contact.data.toList) ∧
  ((s.Gone.any fun g=>!isBareL g.Contact.data.toList)=true∧p_ref21_Check_l1 s fuel 0=some (.inl 11)∨(s.Gone.any fun g=>!isBareL g.Contact.data.toList)=false∧p_ref21_Check_l1 s fuel 0=some (.inr (s.Gone.length:Int))):=by
 have hg:=h.gone
 constructor
 ·unfold p_slices_ContainsFunc_roster_Gone
  have e:p_slices_IndexFunc_roster_Gone s.Gone (fun x=>p_roster_Check_1 x)=p_slices_IndexFunc_roster_Gone s.Gone (fun x=>some (!isBareL x.Contact.data.toList)):=by
   unfold p_slices_IndexFunc_roster_Gone
   have:∀ n y,p_slices_IndexFunc_roster_Gone_l1 (fun x=>p_roster_Check_1 x) s.Gone (s.Gone.length:Int) n y=p_slices_IndexFunc_roster_Gone_l1 (fun x=>some (!isBareL x.Contact.data.toList)) s.Gone (s.Gone.length:Int) n y:=by
    intro n
    induction n with
    | zero=>intro y;rfl
    | succ n ih =>
     intro y
     rw [p_slices_IndexFunc_roster_Gone_l1,p_slices_IndexFunc_roster_Gone_l1]
     cases hx:at? s.Gone y with
     | none=>rfl
     | some g =>
      have:=h.went g (at_mem hx)
      have e:p_roster_Check_1 g=some (!isBareL g.Contact.data.toList):=by unfold p_roster_Check_1 p_addr_IsBare;rw [if_pos (by omega)];rfl
      simp only [Option.bind_some,e,ih]
   rw [this]
  obtain ⟨v,hv,hi⟩:=idxG_p (fun x=>!isBareL x.Contact.data.toList) s.Gone (by omega)
  rw [e,hv,Option.bind_some,hi.has]
 ·have l1:=loop_first (N:=s.Gone.length) (by omega) (p_ref21_Check_l1 s) (s.Gone.length:Int) (fun k=>match s.Gone[k]? with | some g=>if isBareL g.Contact.data.toList then none else some 11 | none=>none) (fun n k hk=>by
   have:=h.went _ (List.getElem_mem hk)
   rw [p_ref21_Check_l1,lt_tt hk,cond_true,at_lt hk,Option.bind_some,p_ref09_IsBare,if_pos (by omega),Option.bind_some,w64_succ (by omega),List.getElem?_eq_getElem hk]
   dsimp only
   cases isBareL s.Gone[k].Contact.data.toList <;> simp) (fun n=>by rw [p_ref21_Check_l1,lt_ff (Nat.le_refl _)];rfl)
  rcases l1 with ⟨k,hk,r,hr,_,e⟩ | ⟨ha,e⟩
  ·rw [List.getElem?_eq_getElem hk] at hr
   dsimp only at hr
   split at hr
   ·cases hr
   ·rename_i g
    cases hr
    refine .inl ⟨?_,e⟩
    rw [List.any_eq_true]
    exact ⟨_,List.getElem_mem hk,by simpa using g⟩
  ·refine .inr ⟨?_,e⟩
   rw [List.any_eq_false]
   intro x hx
   obtain ⟨k,hk,rfl⟩:=List.getElem_of_mem hx
   have:=ha k hk
   rw [List.getElem?_eq_getElem hk] at this
   dsimp only at this
   split at this
   ·rename_i g;simpa using g
   ·cases this
end Go.Proofs.YtmmmcpeickfolaaGreat

namespace Go.Proofs.YtmmmcpeickfolaaGreat
open Go.RowKit
def RiseAt (s:RosterState) (k:Nat):Prop:=∀ x,s.Items[k]?=some x→1≤x.Ver∧x.Ver≤s.Ver∧(∀ j,j < k→∀ y,s.Items[j]?=some y→y.Ver≠x.Ver)∧(0 < k→∀ y,s.Items[k - 1]?=some y→Op.bytesLess y.Contact.toList x.Contact.toList=true)
def Rise (s:RosterState):Prop:=∀ k,k < s.Items.length→RiseAt s k
theorem of_p {s:RosterState} (h:LightS s) (v:Int):∃ i,p_roster_State_of s v=some i∧Idx (fun x=>x.Ver == v) s.Items i:=by
 have hi:=h.items
 obtain ⟨i,h1,h2⟩:=idxI_p (fun x=>x.Ver == v) s.Items (by omega)
 exact ⟨i,by unfold p_roster_State_of p_roster_State_of_1;rw [h1];rfl,h2⟩
theorem rise_p {s:RosterState} (h:LightS s):∃ b,p_roster_State_rise s=some b∧(b=true ↔ Rise s):=by
 have hi:=h.items
 unfold p_roster_State_rise
 have l1:=loop_all (N:=s.Items.length) (by omega) (p_roster_State_rise_l1 s.Items (s.Items.length:Int) s) (s.Items.length:Int) (RiseAt s) (fun n k hk=>by
  obtain ⟨i,h1,h2⟩:=of_p h s.Items[k].Ver
  rw [p_roster_State_rise_l1,lt_tt hk,cond_true,at_lt hk,Option.bind_some,h1,w64_succ (by omega)]
  by_cases g1:s.Items[k].Ver < 1
  ·rw [decide_eq_true g1]
   exact ⟨fun g=>by have:=(g _ (List.getElem?_eq_getElem hk)).1;omega,fun _=>rfl⟩
  rw [decide_eq_false g1,cond_false]
  by_cases g2:s.Ver < s.Items[k].Ver
  ·rw [decide_eq_true g2]
   exact ⟨fun g=>by have:=(g _ (List.getElem?_eq_getElem hk)).2.1;omega,fun _=>rfl⟩
  rw [decide_eq_false g2,cond_false,Option.bind_some]
  by_cases g3:i=(k:Int)
  case neg =>
   rw [show (i != (k:Int))=true by simpa using g3]
   refine ⟨fun g=>absurd ?_ g3,fun _=>rfl⟩
   rcases h2 with ⟨q,rfl,x,hx,hp,hj⟩ | ⟨_,hn⟩
   ·rcases Nat.lt_trichotomy q k with c | c | c
    ·exact absurd (by simpa using hp) ((g _ (List.getElem?_eq_getElem hk)).2.2.1 q c x hx)
    ·rw [c]
    ·have:=hj k c _ (List.getElem?_eq_getElem hk);simp at this
   ·have:=hn _ (List.getElem_mem hk);simp at this
  have g3' : ∀ j,j < k→∀ y,s.Items[j]?=some y→y.Ver≠s.Items[k].Ver:=by
   rcases h2 with ⟨q,rfl,x,hx,hp,hj⟩ | ⟨e,_⟩
   ·have:q=k:=by omega
    subst this
    intro j hjk y hy;have:=hj j hjk y hy;simpa using this
   ·omega
  rw [show (i != (k:Int))=false by simpa using g3,cond_false]
  by_cases g4:0 < k
  ·have e1:w64 ((k:Int) - 1)=((k - 1:Nat):Int):=by rw [w64_id (by omega)];omega
   have hk1:k - 1 < s.Items.length:=by omega
   rw [show decide ((0:Int) < (k:Int))=true by simp;omega,cond_true,e1,at_lt hk1,Option.bind_some]
   cases g5:Op.bytesLess s.Items[k - 1].Contact.toList s.Items[k].Contact.toList with
   | true =>
    rw [cond_true]
    exact ⟨fun _=>rfl,fun g=>absurd (fun x hx=>by rw [List.getElem?_eq_getElem hk] at hx;cases hx;exact ⟨by omega,by omega,g3',fun _ y hy=>by rw [List.getElem?_eq_getElem hk1] at hy;cases hy;exact g5⟩) g⟩
   | false =>
    rw [cond_false]
    exact ⟨fun g=>(by have:=(g _ (List.getElem?_eq_getElem hk)).2.2.2 g4 _ (List.getElem?_eq_getElem hk1);rw [g5] at this;cases this),fun _=>rfl⟩
  ·rw [show decide ((0:Int) < (k:Int))=false by simp;omega,cond_false]
   exact ⟨fun _=>rfl,fun g=>absurd (fun x hx=>by rw [List.getElem?_eq_getElem hk] at hx;cases hx;exact ⟨by omega,by omega,g3',fun h=>absurd h g4⟩) g⟩) (fun n=>by rw [p_roster_State_rise_l1,lt_ff (Nat.le_refl _)];rfl)
 rcases l1 with ⟨a,e⟩ | ⟨a,e⟩
 ·rw [e];exact ⟨true,rfl,fun _=>a,fun _=>rfl⟩
 ·rw [e];exact ⟨false,rfl,fun h=>(by cases h),fun h=>absurd h a⟩
theorem rrise2_p {s:RosterState} (hi:s.Items.length≤20) {k:Nat} (hk:k≤s.Items.length) (x:ItemItem):((∀ j,j < k→∀ y,s.Items[j]?=some y→y.Ver≠x.Ver)∧p_ref21_rises_l2 (k:Int) s x fuel 0=some (.inr (k:Int)))∨(¬ (∀ j,j < k→∀ y,s.Items[j]?=some y→y.Ver≠x.Ver)∧p_ref21_rises_l2 (k:Int) s x fuel 0=some (.inl false)) :=
 loop_all (N:=k) (by omega) (p_ref21_rises_l2 (k:Int) s x) (k:Int) (fun j=>∀ y,s.Items[j]?=some y→y.Ver≠x.Ver) (fun n j hj=>by
  have hl:j < s.Items.length:=by omega
  rw [p_ref21_rises_l2,lt_tt hj,cond_true,at_lt hl,Option.bind_some,w64_succ (by omega),List.getElem?_eq_getElem hl]
  by_cases g:s.Items[j].Ver=x.Ver
  ·rw [show (s.Items[j].Ver == x.Ver)=true by simpa using g]
   exact ⟨fun h=>absurd g (h _ rfl),fun _=>rfl⟩
  ·rw [show (s.Items[j].Ver == x.Ver)=false by simpa using g]
   exact ⟨fun _=>rfl,fun h=>absurd (fun y hy=>by cases hy;exact g) h⟩) (fun n=>by rw [p_ref21_rises_l2,lt_ff (Nat.le_refl _)];rfl)
theorem rrise1_p {s:RosterState} (hi:s.Items.length≤20):(Rise s∧p_ref21_rises_l1 s fuel 0=some (.inr (s.Items.length:Int)))∨(¬ Rise s∧p_ref21_rises_l1 s fuel 0=some (.inl false)) :=
 loop_all (N:=s.Items.length) (by omega) (p_ref21_rises_l1 s) (s.Items.length:Int) (RiseAt s) (fun n k hk=>by
  have l2:=rrise2_p hi (Nat.le_of_lt hk) s.Items[k]
  rw [p_ref21_rises_l1,lt_tt hk,cond_true,at_lt hk,Option.bind_some,w64_succ (by omega)]
  by_cases g1:s.Items[k].Ver < 1
  ·rw [decide_eq_true g1]
   exact ⟨fun g=>by have:=(g _ (List.getElem?_eq_getElem hk)).1;omega,fun _=>rfl⟩
  rw [decide_eq_false g1,cond_false]
  by_cases g2:s.Ver < s.Items[k].Ver
  ·rw [decide_eq_true g2]
   exact ⟨fun g=>by have:=(g _ (List.getElem?_eq_getElem hk)).2.1;omega,fun _=>rfl⟩
  rw [decide_eq_false g2,cond_false]
  by_cases g4:0 < k
  ·have e1:w64 ((k:Int) - 1)=((k - 1:Nat):Int):=by rw [w64_id (by omega)];omega
   have hk1:k - 1 < s.Items.length:=by omega
   rw [show decide ((0:Int) < (k:Int))=true by simp;omega,cond_true,e1,at_lt hk1,Option.bind_some]
   cases g5:Op.bytesLess s.Items[k - 1].Contact.toList s.Items[k].Contact.toList with
   | true =>
    rw [cond_true]
    rcases l2 with ⟨a,e⟩ | ⟨a,e⟩
    ·rw [e]
     exact ⟨fun _=>rfl,fun g=>absurd (fun x hx=>by rw [List.getElem?_eq_getElem hk] at hx;cases hx;exact ⟨by omega,by omega,a,fun _ y hy=>by rw [List.getElem?_eq_getElem hk1] at hy;cases hy;exact g5⟩) g⟩
    ·rw [e]
     exact ⟨fun g=>absurd ((g _ (List.getElem?_eq_getElem hk)).2.2.1) a,fun _=>rfl⟩
   | false =>
    rw [cond_false]
    exact ⟨fun g=>(by have:=(g _ (List.getElem?_eq_getElem hk)).2.2.2 g4 _ (List.getElem?_eq_getElem hk1);rw [g5] at this;cases this),fun _=>rfl⟩
  ·rw [show decide ((0:Int) < (k:Int))=false by simp;omega,cond_false]
   rcases l2 with ⟨a,e⟩ | ⟨a,e⟩
   ·rw [e]
    exact ⟨fun _=>rfl,fun g=>absurd (fun x hx=>by rw [List.getElem?_eq_getElem hk] at hx;cases hx;exact ⟨by omega,by omega,a,fun h=>absurd h g4⟩) g⟩
   ·rw [e]
    exact ⟨fun g=>absurd ((g _ (List.getElem?_eq_getElem hk)).2.2.1) a,fun _=>rfl⟩) (fun n=>by rw [p_ref21_rises_l1,lt_ff (Nat.le_refl _)];rfl)
def SortedC (l:List ItemItem):Prop:=∀ i j:Nat,i < j→∀ x y:ItemItem,l[i]?=some x→l[j]?=some y→Lib.compareBytes x.Contact.data.toList y.Contact.data.toList < 0
theorem Rise.sorted {s:RosterState} (h:Rise s):SortedC s.Items:=by
 have key:∀ d i,∀ x y,s.Items[i]?=some x→s.Items[i + (d + 1)]?=some y→Lib.compareBytes x.Contact.data.toList y.Contact.data.toList < 0:=by
  intro d
  induction d with
  | zero =>
   intro i x y hx hy
   have hl:=(List.getElem?_eq_some_iff.1 hy).1
   have:=(h (i + 1) hl y hy).2.2.2 (by omega) x hx
   rw [tl_data,tl_data,cmp_less] at this
   simpa using this
  | succ d ih =>
   intro i x y hx hy
   have hl:=(List.getElem?_eq_some_iff.1 hy).1
   have h2:=ih i x s.Items[i + (d + 1)] hx (List.getElem?_eq_getElem (by omega))
   have:=(h (i + (d + 1 + 1)) hl y hy).2.2.2 (by omega) s.Items[i + (d + 1)] (by rw [show i + (d + 1 + 1) - 1=i + (d + 1) by omega];exact List.getElem?_eq_getElem (by omega))
   rw [tl_data,tl_data,cmp_less] at this
   exact cmp_trans h2 (by simpa using this)
 intro i j hij x y hx hy
 exact key (j - i - 1) i x y hx (by rw [show i + (j - i - 1 + 1)=j by omega];exact hy)
def posC (l:List ItemItem) (c:ByteArray):Nat:=l.findIdx fun x=>!Op.bytesLess x.Contact.toList c.toList
def fndC (l:List ItemItem) (c:ByteArray):Bool:=match l[posC l c]? with | some x=>x.Contact.toList == c.toList | none=>false
theorem posC_le (l:List ItemItem) (c:ByteArray):posC l c≤l.length:=List.findIdx_le_length
theorem posC_lt {l:List ItemItem} {c:ByteArray} {k:Nat} (h:k < posC l c) {x:ItemItem} (hx:l[k]?=some x):Lib.compareBytes x.Contact.data.toList c.data.toList < 0:=by
 have hl:=(List.getElem?_eq_some_iff.1 hx).1
 have:(!Op.bytesLess (l[k]'hl).Contact.toList c.toList)=false:=by simpa using List.not_of_lt_findIdx (p:=fun x:ItemItem=>!Op.bytesLess x.Contact.toList c.toList) (xs:=l) h
 rw [List.getElem?_eq_getElem hl] at hx
 cases hx
 rw [tl_data,tl_data,cmp_less] at this
 simpa using this
theorem posC_at {l:List ItemItem} {c:ByteArray} {x:ItemItem} (hx:l[posC l c]?=some x):0≤Lib.compareBytes x.Contact.data.toList c.data.toList:=by
 have hl:=(List.getElem?_eq_some_iff.1 hx).1
 have this:(!Op.bytesLess (l[posC l c]'hl).Contact.toList c.toList)=true:=List.findIdx_getElem (p:=fun x:ItemItem=>!Op.bytesLess x.Contact.toList c.toList) (xs:=l) (w:=hl)
 rw [List.getElem?_eq_getElem hl] at hx
 have e:l[posC l c]=x:=Option.some.inj hx
 rw [e,tl_data,tl_data,cmp_less] at this
 simpa using this
theorem posC_ge {l:List ItemItem} {c:ByteArray} (hs:SortedC l) {k:Nat} (h:posC l c≤k) {x:ItemItem} (hx:l[k]?=some x):0≤Lib.compareBytes x.Contact.data.toList c.data.toList:=by
 have hl:=(List.getElem?_eq_some_iff.1 hx).1
 rcases Nat.lt_or_ge (posC l c) k with g | g
 ·have h1:=hs _ _ g l[posC l c] x (List.getElem?_eq_getElem (by omega)) hx
  have h2:=posC_at (List.getElem?_eq_getElem (show posC l c < l.length by omega))
  rcases Int.lt_or_le (Lib.compareBytes x.Contact.data.toList c.data.toList) 0 with q | q
  ·have:=cmp_trans h1 q;omega
  ·exact q
 ·have:k=posC l c:=by omega
  subst this;exact posC_at hx
theorem searchI_l {l:List ItemItem} {c:ByteArray} (hn:l.length≤1000) (hs:SortedC l):∀ (d i j F:Nat),i + d=j→j≤l.length→i≤posC l c→posC l c≤j→d < F →
  p_slices_BinarySearchFunc_item_Item_l1 (fun x0 x1=>p_roster_State_find_1 x0 x1) l c F i j=some ((posC l c:Int),(posC l c:Int)):=by
 intro d
 induction d using Nat.strongRecOn with
 | ind d ih =>
  intro i j F hd hj h1 h2 hF
  obtain ⟨F,rfl⟩ : ∃ G,F=G + 1:=⟨F - 1,by omega⟩
  rw [p_slices_BinarySearchFunc_item_Item_l1]
  rcases Nat.lt_or_ge i j with hij | hij
  ·rw [lt_tt hij,half_p (by omega),w64_succ (show (i + j) / 2≤1000000 by omega)]
   have hm:(i + j) / 2 < l.length:=by omega
   simp only [cond_true,at_lt hm,Option.bind_some,p_roster_State_find_1,p_strings_Compare]
   rcases Nat.lt_or_ge ((i + j) / 2) (posC l c) with hlt | hge
   ·rw [decide_eq_true (posC_lt hlt (List.getElem?_eq_getElem hm)),cond_true]
    exact ih (j - ((i + j) / 2 + 1)) (by omega) _ _ F (by omega) hj (by omega) h2 (by omega)
   ·have:=posC_ge hs hge (List.getElem?_eq_getElem hm)
    rw [decide_eq_false (by omega),cond_false]
    exact ih ((i + j) / 2 - i) (by omega) _ _ F (by omega) (by omega) h1 hge (by omega)
  ·rw [lt_ff hij]
   have e1:i=posC l c:=by omega
   have e2:j=posC l c:=by omega
   rw [cond_false,e1,e2]
theorem findC_p {s:RosterState} (hn:s.Items.length≤1000) (hs:SortedC s.Items) (c:ByteArray):p_roster_State_find s c=some (((posC s.Items c:Nat):Int),fndC s.Items c):=by
 have hl:=searchI_l (c:=c) hn hs s.Items.length 0 s.Items.length fuel (by omega) (Nat.le_refl _) (Nat.zero_le _) (posC_le _ _) (by have:=fuel_pos;omega)
 unfold p_roster_State_find p_slices_BinarySearchFunc_item_Item
 rw [show ((0:Int))=((0:Nat):Int) from rfl,hl]
 simp only [Option.bind_some]
 unfold fndC
 rcases Nat.lt_or_ge (posC s.Items c) s.Items.length with h | h
 ·rw [lt_tt h,at_lt h,List.getElem?_eq_getElem h]
  simp only [cond_true,Option.bind_some,p_roster_State_find_1,p_strings_Compare,eq_cmp0];rfl
 ·rw [lt_ff h,List.getElem?_eq_none h];rfl
theorem fndC_some {l:List ItemItem} {c:ByteArray} (h:fndC l c=true):∃ hl:posC l c < l.length,l[posC l c].Contact=c:=by
 unfold fndC at h
 rcases Nat.lt_or_ge (posC l c) l.length with g | g
 ·rw [List.getElem?_eq_getElem g] at h
  exact ⟨g,eqT_iff.1 h⟩
 ·rw [List.getElem?_eq_none g] at h;cases h
theorem fndC_of {l:List ItemItem} {c:ByteArray} (hs:SortedC l) {k:Nat} {x:ItemItem} (hx:l[k]?=some x) (hc:x.Contact=c):fndC l c=true∧posC l c=k:=by
 have e:Lib.compareBytes x.Contact.data.toList c.data.toList=0:=by rw [hc];exact cmp_refl _
 have hp:posC l c=k:=by
  rcases Nat.lt_trichotomy k (posC l c) with g | g | g
  ·have:=posC_lt g hx;omega
  ·exact g.symm
  ·have hl:=(List.getElem?_eq_some_iff.1 hx).1
   have h1:=hs _ _ g l[posC l c] x (List.getElem?_eq_getElem (by omega)) hx
   have h2:=posC_at (List.getElem?_eq_getElem (show posC l c < l.length by omega))
   rw [hc] at h1;omega
 refine ⟨?_,hp⟩
 unfold fndC
 rw [hp,hx]
 exact eqT_iff.2 hc
end Go.Proofs.YtmmmcpeickfolaaGreat

namespace Go.Proofs.YtmmmcpeickfolaaGreat
open Go.RowKit
def accG (s:RosterState):Nat→Int
 | 0=>s.Floor
 | k + 1=>match s.Gone[k]? with | some g=>g.Ver | none=>0
theorem accG_succ {s:RosterState} {k:Nat} (hk:k < s.Gone.length):accG s (k + 1)=s.Gone[k].Ver:=by
 show (match s.Gone[k]? with | some g=>g.Ver | none=>0)=_
 rw [List.getElem?_eq_getElem hk]
def WentOk (s:RosterState) (g:RosterGone):Prop:=∀ x ∈ s.Items,(x.Ver=g.Ver→x.Contact=g.Contact)∧(x.Contact=g.Contact→listedI x=false)
def LeftAt (s:RosterState) (k:Nat):Prop:=∀ g,s.Gone[k]?=some g→accG s k < g.Ver∧g.Ver≤s.Ver∧(∀ j,j < k→∀ h,s.Gone[j]?=some h→h.Contact≠g.Contact)∧WentOk s g
def Left (s:RosterState):Prop:=∀ k,k < s.Gone.length→LeftAt s k
theorem containsG_p (p:RosterGone→Bool) (l:List RosterGone) (hl:l.length≤1000):p_slices_ContainsFunc_roster_Gone l (fun x=>some (p x))=some (l.any p):=by
 obtain ⟨v,hv,hi⟩:=idxG_p p l hl
 unfold p_slices_ContainsFunc_roster_Gone
 rw [hv,Option.bind_some,hi.has]
theorem findpart {α:Type} {s:RosterState} (hn:s.Items.length≤20) (hs:SortedC s.Items) (c:ByteArray) (A K:Option α) :
  ∃ b:Bool,((p_roster_State_find s c).bind fun v=>bif v.2 then (at? s.Items v.1).bind fun x=>(p_item_Listed x).bind fun w=>bif w then A else K else K)=(bif b then A else K)∧(b=true ↔ ∃ x ∈ s.Items,x.Contact=c∧listedI x=true):=by
 rw [findC_p (by omega) hs,Option.bind_some]
 dsimp only
 cases hf:fndC s.Items c with
 | false =>
  refine ⟨false,rfl,fun h=>(by cases h),fun ⟨x,hx,hc,_⟩=>?_⟩
  obtain ⟨k,hk,rfl⟩:=List.getElem_of_mem hx
  have:=(fndC_of hs (List.getElem?_eq_getElem hk) hc).1
  rw [hf] at this;exact this
 | true =>
  obtain ⟨hl,hc⟩:=fndC_some hf
  refine ⟨listedI s.Items[posC s.Items c],?_,fun h=>⟨_,List.getElem_mem hl,hc,h⟩,fun ⟨x,hx,hc2,h2⟩=>?_⟩
  ·rw [cond_true,at_lt hl,Option.bind_some,listed_p,Option.bind_some]
  ·obtain ⟨k,hk,rfl⟩:=List.getElem_of_mem hx
   have:=(fndC_of hs (List.getElem?_eq_getElem hk) hc2).2
   subst this
   exact h2
theorem ofpart {α:Type} {s:RosterState} (h:LightS s) (hr:Rise s) (v:Int) (c:ByteArray) (A K:Option α) :
  ∃ b:Bool,((p_roster_State_of s v).bind fun i=>bif decide ((0:Int)≤i) then (at? s.Items i).bind fun x=>bif (x.Contact.toList == c.toList) then K else A else K)=(bif b then A else K)∧(b=true ↔ ∃ x ∈ s.Items,x.Ver=v∧x.Contact≠c):=by
 obtain ⟨i,h1,h2⟩:=of_p h v
 rw [h1,Option.bind_some]
 rcases h2 with ⟨q,rfl,x,hx,hp,hj⟩ | ⟨rfl,hn⟩
 ·have hq:=(List.getElem?_eq_some_iff.1 hx).1
  have ex:s.Items[q]=x:=(List.getElem?_eq_some_iff.1 hx).2
  rw [show decide ((0:Int)≤(q:Int))=true by simp,cond_true,at_lt hq,Option.bind_some,ex]
  refine ⟨!(x.Contact.toList == c.toList),by cases (x.Contact.toList == c.toList) <;> rfl,fun hb=>⟨x,List.mem_of_getElem? hx,by simpa using hp,fun e=>?_⟩,fun ⟨y,hy,hyv,hyc⟩=>?_⟩
  ·rw [eqT_iff.2 e] at hb;cases hb
  ·obtain ⟨m,hm,rfl⟩:=List.getElem_of_mem hy
   have:m=q:=by
    rcases Nat.lt_trichotomy m q with g | g | g
    ·have:=hj m g _ (List.getElem?_eq_getElem hm);simp [hyv] at this
    ·exact g
    ·have:=(hr m hm _ (List.getElem?_eq_getElem hm)).2.2.1 q g x hx
     exact absurd (by rw [hyv];simpa using hp) this
   subst this
   rw [ex] at hyc
   rw [Bool.not_eq_true',Bool.eq_false_iff]
   exact fun g=>hyc (eqT_iff.1 g)
 ·rw [show decide ((0:Int)≤-1)=false from rfl,cond_false]
  refine ⟨false,rfl,fun h=>(by cases h),fun ⟨y,hy,hyv,_⟩=>?_⟩
  have:=hn y hy
  simp [hyv] at this
theorem wentOk_iff {s:RosterState} {g:RosterGone}:WentOk s g ↔ (¬ ∃ x ∈ s.Items,x.Ver=g.Ver∧x.Contact≠g.Contact)∧¬ ∃ x ∈ s.Items,x.Contact=g.Contact∧listedI x=true:=by
 constructor
 ·exact fun h=>⟨fun ⟨x,hx,a,b⟩=>b ((h x hx).1 a),fun ⟨x,hx,a,b⟩=>by rw [(h x hx).2 a] at b;cases b⟩
 ·refine fun ⟨h1,h2⟩ x hx=>⟨fun a=>?_,fun a=>?_⟩
  ·exact Classical.byContradiction fun g=>h1 ⟨x,hx,a,g⟩
  ·cases hb:listedI x with
   | false=>rfl
   | true=>exact absurd ⟨x,hx,a,hb⟩ h2
theorem left_p {s:RosterState} (h:LightS s) (hr:Rise s):∃ b,p_roster_State_left s=some b∧(b=true ↔ Left s):=by
 have hi:=h.items
 have hg:=h.gone
 unfold p_roster_State_left
 have l1:=loop_all (N:=s.Gone.length) (by omega) (fun n y=>p_roster_State_left_l1 s.Gone (s.Gone.length:Int) s n (accG s y.toNat) y) (accG s s.Gone.length,(s.Gone.length:Int)) (LeftAt s) (fun n k hk=>by
  show (LeftAt s k→p_roster_State_left_l1 s.Gone (s.Gone.length:Int) s (n + 1) (accG s k) (k:Int)=p_roster_State_left_l1 s.Gone (s.Gone.length:Int) s n (accG s (k + 1)) ((k + 1:Nat):Int))∧(¬ LeftAt s k→p_roster_State_left_l1 s.Gone (s.Gone.length:Int) s (n + 1) (accG s k) (k:Int)=some (.inl false))
  obtain ⟨b1,e1,i1⟩:=findpart (α:=Bool ⊕ (Int × Int)) hi hr.sorted s.Gone[k].Contact (some (.inl false)) (p_roster_State_left_l1 s.Gone (s.Gone.length:Int) s n s.Gone[k].Ver ((k + 1:Nat):Int))
  obtain ⟨b2,e2,i2⟩:=ofpart (α:=Bool ⊕ (Int × Int)) h hr s.Gone[k].Ver s.Gone[k].Contact (some (.inl false)) (bif b1 then some (.inl false) else p_roster_State_left_l1 s.Gone (s.Gone.length:Int) s n s.Gone[k].Ver ((k + 1:Nat):Int))
  rw [p_roster_State_left_l1,lt_tt hk,cond_true,at_lt hk,Option.bind_some,accG_succ hk,w64_succ (by omega),cutTo (by omega),Option.bind_some,e1,e2]
  by_cases g1:s.Gone[k].Ver≤accG s k
  ·rw [decide_eq_true g1]
   exact ⟨fun g=>by have:=(g _ (List.getElem?_eq_getElem hk)).1;omega,fun _=>rfl⟩
  rw [decide_eq_false g1,cond_false]
  by_cases g2:s.Ver < s.Gone[k].Ver
  ·rw [decide_eq_true g2]
   exact ⟨fun g=>by have:=(g _ (List.getElem?_eq_getElem hk)).2.1;omega,fun _=>rfl⟩
  rw [decide_eq_false g2,cond_false]
  have ec:=containsG_p (fun x=>x.Contact.toList == s.Gone[k].Contact.toList) (s.Gone.take k) (by simp;omega)
  unfold p_roster_State_left_1
  rw [ec,Option.bind_some]
  cases g3:(s.Gone.take k).any fun x=>x.Contact.toList == s.Gone[k].Contact.toList with
  | true =>
   refine ⟨fun g=>?_,fun _=>rfl⟩
   obtain ⟨x,hx,hc⟩:=List.any_eq_true.1 g3
   obtain ⟨j,hj,rfl⟩:=List.getElem_of_mem hx
   rw [List.length_take] at hj
   have:=(g _ (List.getElem?_eq_getElem hk)).2.2.1 j (by omega) s.Gone[j] (List.getElem?_eq_getElem (by omega))
   rw [List.getElem_take] at hc
   exact absurd (eqT_iff.1 hc) this
  | false =>
   have g3' : ∀ j,j < k→∀ h,s.Gone[j]?=some h→h.Contact≠s.Gone[k].Contact:=fun j hj h hh e=>by
    have:=List.any_eq_false.1 g3 h (by
     have:(s.Gone.take k)[j]?=some h:=by rw [List.getElem?_take_of_lt hj];exact hh
     exact List.mem_of_getElem? this)
    exact this (eqT_iff.2 e)
   rw [cond_false]
   cases b2 with
   | true =>
    refine ⟨fun g=>?_,fun _=>rfl⟩
    exact absurd (i2.1 rfl) (wentOk_iff.1 (g _ (List.getElem?_eq_getElem hk)).2.2.2).1
   | false =>
    cases b1 with
    | true =>
     refine ⟨fun g=>?_,fun _=>rfl⟩
     exact absurd (i1.1 rfl) (wentOk_iff.1 (g _ (List.getElem?_eq_getElem hk)).2.2.2).2
    | false =>
     refine ⟨fun _=>rfl,fun g=>absurd (fun x hx=>?_) g⟩
     rw [List.getElem?_eq_getElem hk] at hx
     cases hx
     exact ⟨by omega,by omega,g3',wentOk_iff.2 ⟨fun q=>(by have:=i2.2 q;cases this),fun q=>(by have:=i1.2 q;cases this)⟩⟩) (fun n=>by
  show p_roster_State_left_l1 s.Gone (s.Gone.length:Int) s (n + 1) (accG s s.Gone.length) (s.Gone.length:Int)=_
  rw [p_roster_State_left_l1,lt_ff (Nat.le_refl _)];rfl)
 have l1' : p_roster_State_left_l1 s.Gone (s.Gone.length:Int) s fuel s.Floor 0=p_roster_State_left_l1 s.Gone (s.Gone.length:Int) s fuel (accG s (0:Int).toNat) 0:=rfl
 rw [l1']
 rcases l1 with ⟨a,e⟩ | ⟨a,e⟩
 ·rw [e];exact ⟨true,rfl,fun _=>a,fun _=>rfl⟩
 ·rw [e];exact ⟨false,rfl,fun h=>(by cases h),fun h=>absurd h a⟩
theorem rleft4_p {s:RosterState} (hg:s.Gone.length≤20) {k:Nat} (hk:k≤s.Gone.length) (g:RosterGone):((∀ j,j < k→∀ h,s.Gone[j]?=some h→h.Contact≠g.Contact)∧p_ref21_rises_l4 (k:Int) s g fuel 0=some (.inr (k:Int)))∨(¬ (∀ j,j < k→∀ h,s.Gone[j]?=some h→h.Contact≠g.Contact)∧p_ref21_rises_l4 (k:Int) s g fuel 0=some (.inl false)) :=
 loop_all (N:=k) (by omega) (p_ref21_rises_l4 (k:Int) s g) (k:Int) (fun j=>∀ h,s.Gone[j]?=some h→h.Contact≠g.Contact) (fun n j hj=>by
  have hl:j < s.Gone.length:=by omega
  rw [p_ref21_rises_l4,lt_tt hj,cond_true,at_lt hl,Option.bind_some,w64_succ (by omega),List.getElem?_eq_getElem hl]
  by_cases q:s.Gone[j].Contact=g.Contact
  ·rw [eqT_iff.2 q]
   exact ⟨fun h=>absurd q (h _ rfl),fun _=>rfl⟩
  ·rw [show (s.Gone[j].Contact.toList == g.Contact.toList)=false by rw [Bool.eq_false_iff];exact fun e=>q (eqT_iff.1 e)]
   exact ⟨fun _=>rfl,fun h=>absurd (fun y hy=>by cases hy;exact q) h⟩) (fun n=>by rw [p_ref21_rises_l4,lt_ff (Nat.le_refl _)];rfl)
theorem rleft5_p {s:RosterState} (hi:s.Items.length≤20) (g:RosterGone):(WentOk s g∧p_ref21_rises_l5 s g fuel 0=some (.inr (s.Items.length:Int)))∨(¬ WentOk s g∧p_ref21_rises_l5 s g fuel 0=some (.inl false)):=by
 have l:=loop_all (N:=s.Items.length) (by omega) (p_ref21_rises_l5 s g) (s.Items.length:Int) (fun j=>∀ x,s.Items[j]?=some x→(x.Ver=g.Ver→x.Contact=g.Contact)∧(x.Contact=g.Contact→listedI x=false)) (fun n j hj=>by
  rw [p_ref21_rises_l5,lt_tt hj,cond_true,at_lt hj,Option.bind_some,w64_succ (by omega),List.getElem?_eq_getElem hj,rlisted_p]
  generalize s.Items[j]=x
  by_cases q:x.Contact=g.Contact
  ·rw [eqT_iff.2 q]
   cases hb:listedI x with
   | true =>
    refine ⟨fun h=>?_,fun _=>by cases (x.Ver == g.Ver) <;> rfl⟩
    have:=(h _ rfl).2 q
    rw [hb] at this;cases this
   | false=>exact ⟨fun _=>by cases (x.Ver == g.Ver) <;> rfl,fun h=>absurd (fun y hy=>by cases hy;exact ⟨fun _=>q,fun _=>hb⟩) h⟩
  ·rw [show (x.Contact.toList == g.Contact.toList)=false by rw [Bool.eq_false_iff];exact fun e=>q (eqT_iff.1 e)]
   by_cases w:x.Ver=g.Ver
   ·rw [show (x.Ver == g.Ver)=true by simpa using w]
    exact ⟨fun h=>absurd ((h _ rfl).1 w) q,fun _=>rfl⟩
   ·rw [show (x.Ver == g.Ver)=false by simpa using w]
    exact ⟨fun _=>rfl,fun h=>absurd (fun y hy=>by cases hy;exact ⟨fun e=>absurd e w,fun e=>absurd e q⟩) h⟩) (fun n=>by rw [p_ref21_rises_l5,lt_ff (Nat.le_refl _)];rfl)
 have e:(∀ k,k < s.Items.length→∀ x,s.Items[k]?=some x→(x.Ver=g.Ver→x.Contact=g.Contact)∧(x.Contact=g.Contact→listedI x=false)) ↔ WentOk s g:=by
  refine ⟨fun h x hx=>?_,fun h k hk x hx=>h x (List.mem_of_getElem? hx)⟩
  obtain ⟨k,hk,rfl⟩:=List.getElem_of_mem hx
  exact h k hk _ (List.getElem?_eq_getElem hk)
 rw [e] at l
 exact l
theorem rleft3_p {s:RosterState} (h:LightS s):(Left s∧p_ref21_rises_l3 s fuel s.Floor 0=some (.inr (accG s s.Gone.length,(s.Gone.length:Int))))∨(¬ Left s∧p_ref21_rises_l3 s fuel s.Floor 0=some (.inl false)):=by
 have hi:=h.items
 have hg:=h.gone
 exact loop_all (N:=s.Gone.length) (by omega) (fun n y=>p_ref21_rises_l3 s n (accG s y.toNat) y) (accG s s.Gone.length,(s.Gone.length:Int)) (LeftAt s) (fun n k hk=>by
  show (LeftAt s k→p_ref21_rises_l3 s (n + 1) (accG s k) (k:Int)=p_ref21_rises_l3 s n (accG s (k + 1)) ((k + 1:Nat):Int))∧(¬ LeftAt s k→p_ref21_rises_l3 s (n + 1) (accG s k) (k:Int)=some (.inl false))
  have l4:=rleft4_p hg (Nat.le_of_lt hk) s.Gone[k]
  have l5:=rleft5_p hi s.Gone[k]
  rw [p_ref21_rises_l3,lt_tt hk,cond_true,at_lt hk,Option.bind_some,accG_succ hk,w64_succ (by omega)]
  by_cases g1:s.Gone[k].Ver≤accG s k
  ·rw [decide_eq_true g1]
   exact ⟨fun g=>by have:=(g _ (List.getElem?_eq_getElem hk)).1;omega,fun _=>rfl⟩
  rw [decide_eq_false g1,cond_false]
  by_cases g2:s.Ver < s.Gone[k].Ver
  ·rw [decide_eq_true g2]
   exact ⟨fun g=>by have:=(g _ (List.getElem?_eq_getElem hk)).2.1;omega,fun _=>rfl⟩
  rw [decide_eq_false g2,cond_false]
  rcases l4 with ⟨a4,e4⟩ | ⟨a4,e4⟩
  ·rcases l5 with ⟨a5,e5⟩ | ⟨a5,e5⟩
   ·rw [e4,e5]
    exact ⟨fun _=>rfl,fun g=>absurd (fun x hx=>by rw [List.getElem?_eq_getElem hk] at hx;cases hx;exact ⟨by omega,by omega,a4,a5⟩) g⟩
   ·rw [e4,e5]
    exact ⟨fun g=>absurd (g _ (List.getElem?_eq_getElem hk)).2.2.2 a5,fun _=>rfl⟩
  ·rw [e4]
   exact ⟨fun g=>absurd (g _ (List.getElem?_eq_getElem hk)).2.2.1 a4,fun _=>rfl⟩) (fun n=>by
  show p_ref21_rises_l3 s (n + 1) (accG s s.Gone.length) (s.Gone.length:Int)=_
  rw [p_ref21_rises_l3,lt_ff (Nat.le_refl _)];rfl)
structure FineS (s:RosterState):Prop where
 items:s.Items.length≤12
 gone:s.Gone.length≤8
 ver:0≤s.Ver∧s.Ver≤1099511627776
 rise:Rise s
 left:Left s
 fine:∀ x ∈ s.Items,chkI x=0
theorem checkS_p {s:RosterState} (h:LightS s):∃ c,p_roster_Check s=some c∧p_ref21_Check s=some c∧(c=0→FineS s):=by
 unfold p_roster_Check p_ref21_Check
 by_cases g1:(12:Int) < (s.Items.length:Int)
 ·rw [decide_eq_true g1];exact ⟨5,rfl,rfl,fun h=>by cases h⟩
 rw [decide_eq_false g1,cond_false,cond_false]
 by_cases g2:(8:Int) < (s.Gone.length:Int)
 ·rw [decide_eq_true g2];exact ⟨5,rfl,rfl,fun h=>by cases h⟩
 rw [decide_eq_false g2,cond_false,cond_false]
 by_cases g3:s.Ver < 0
 ·rw [decide_eq_true g3];exact ⟨8,rfl,rfl,fun h=>by cases h⟩
 rw [decide_eq_false g3,cond_false,cond_false]
 by_cases g4:(1099511627776:Int) < s.Ver
 ·rw [decide_eq_true g4];exact ⟨8,rfl,rfl,fun h=>by cases h⟩
 rw [decide_eq_false g4,cond_false,cond_false]
 by_cases g5:s.Floor < 0
 ·rw [decide_eq_true g5];exact ⟨8,rfl,rfl,fun h=>by cases h⟩
 rw [decide_eq_false g5,cond_false,cond_false]
 by_cases g6:s.Ver < s.Floor
 ·rw [decide_eq_true g6];exact ⟨8,rfl,rfl,fun h=>by cases h⟩
 rw [decide_eq_false g6,cond_false,cond_false]
 obtain ⟨e,h1,h2,h3⟩:=errs_p h
 rw [h1,h2,Option.bind_some,Option.bind_some]
 by_cases g7:e=0
 case neg =>
  rw [show (e != 0)=true by simpa using g7]
  exact ⟨e,rfl,rfl,fun h=>absurd h g7⟩
 rw [show (e != 0)=false by simpa using g7,cond_false,cond_false]
 obtain ⟨c1,c2⟩:=gone_p h
 rw [c1,Option.bind_some]
 rcases c2 with ⟨ce,cl⟩ | ⟨ce,cl⟩
 ·rw [ce,cl];exact ⟨11,rfl,rfl,fun h=>by cases h⟩
 rw [ce,cl,cond_false]
 obtain ⟨b,hb,hb2⟩:=rise_p h
 rw [hb,Option.bind_some]
 unfold p_ref21_rises
 rcases rrise1_p (s:=s) h.items with ⟨a,er⟩ | ⟨a,er⟩
 ·rw [er,hb2.2 a,cond_true]
  obtain ⟨b2,hl,hl2⟩:=left_p h a
  rw [hl,Option.bind_some]
  rcases rleft3_p h with ⟨q,el⟩ | ⟨q,el⟩
  ·rw [hl2.2 q]
   refine ⟨0,rfl,?_,fun _=>⟨by omega,by omega,⟨by omega,by omega⟩,a,q,h3 g7⟩⟩
   simp only [Option.bind_some,el,cond_true]
  ·have:b2=false:=by cases b2 with | false=>rfl | true=>exact absurd (hl2.1 rfl) q
   rw [this]
   refine ⟨10,rfl,?_,fun h=>by cases h⟩
   simp only [Option.bind_some,el,cond_false]
 ·have:b=false:=by cases b with | false=>rfl | true=>exact absurd (hb2.1 rfl) a
  rw [this,er]
  refine ⟨10,rfl,?_,fun h=>by cases h⟩
  simp only [Option.bind_some,cond_false]
end Go.Proofs.YtmmmcpeickfolaaGreat

namespace Go.Proofs.YtmmmcpeickfolaaGreat
open Go.RowKit
def trimR (v fl:Int) (l:List ItemItem) (g:List RosterGone):RosterState :=
 match g with
 | a :: r=>if 8≤r.length then RosterState.mk v a.Ver l r else RosterState.mk v fl l (a :: r)
 | []=>RosterState.mk v fl l []
theorem trim_p (v fl:Int) (l:List ItemItem) {g:List RosterGone} (hg:g.length≤1000):(bif decide ((8:Int) < (g.length:Int)) then (at? g (0:Int)).bind fun x=>(del? g (0:Int) (1:Int)).bind fun w=>some (RosterState.mk v x.Ver l w) else some (RosterState.mk v fl l g))=some (trimR v fl l g):=by
 unfold trimR
 cases g with
 | nil=>rfl
 | cons a r =>
  dsimp only
  by_cases h:8≤r.length
  ·rw [show decide ((8:Int) < ((a :: r).length:Int))=true by simp;omega,cond_true,if_pos h]
   have e:del? (a :: r) 0 1=some r:=by
    unfold del?
    rw [if_pos (by simp at hg ⊢;omega)];rfl
   rw [e];rfl
  ·rw [show decide ((8:Int) < ((a :: r).length:Int))=false by simp;omega,cond_false,if_neg h]
def verI (x:ItemItem) (v:Int):ItemItem:=ItemItem.mk x.Contact x.Name x.Sub v x.Own
def itemsR (s:RosterState) (x:ItemItem) (v:Int):List ItemItem :=
 s.Items.take (posC s.Items x.Contact)++((if idleI (verI x v) then [] else [verI x v])++s.Items.drop (if fndC s.Items x.Contact then posC s.Items x.Contact + 1 else posC s.Items x.Contact))
def wasR (s:RosterState) (x:ItemItem):Bool:=match s.Items[posC s.Items x.Contact]? with | some y=>fndC s.Items x.Contact && listedI y | none=>false
def goneR (s:RosterState) (x:ItemItem) (v:Int):List RosterGone :=
 s.Gone.filter (fun g=>!(g.Contact.toList == x.Contact.toList) || !(listedI x || wasR s x))++(if wasR s x && !listedI x then [RosterGone.mk x.Contact v] else [])
def changeR (s:RosterState) (x:ItemItem):RosterState:=trimR (w64 (s.Ver + 1)) s.Floor (itemsR s x (w64 (s.Ver + 1))) (goneR s x (w64 (s.Ver + 1)))
theorem delF_y {s:RosterState} (hg:s.Gone.length≤1000) (y:ItemItem):delF? (fun x0=>p_roster_State_change_1 x0 y) s.Gone=some (s.Gone.filter fun g=>!(g.Contact.toList == y.Contact.toList)):=by
 unfold delF? p_roster_State_change_1
 rw [if_pos ⟨by omega,by simp⟩]
 simp
theorem filt_t {l:List RosterGone}:(l.filter fun _=>true)=l:=by simp
theorem keep_all {l:List RosterGone} {c:ByteArray}:(l.filter fun g=>!(g.Contact.toList == c.toList) || !false)=l:=by simp
theorem keep_some {l:List RosterGone} {c:ByteArray}:(l.filter fun g=>!(g.Contact.toList == c.toList) || !true)=l.filter fun g=>!(g.Contact.toList == c.toList):=by simp
theorem change_p {s:RosterState} (hi:s.Items.length≤20) (hg:s.Gone.length≤20) (hs:SortedC s.Items) (x:ItemItem):p_roster_State_change s x=some (changeR s x):=by
 have hle:=posC_le s.Items x.Contact
 unfold p_roster_State_change
 rw [findC_p (by omega) hs,Option.bind_some]
 simp only [listed_p,idle_p,Option.bind_some,delF_y (s:=s) (by omega)]
 unfold changeR itemsR goneR verI
 cases hf:fndC s.Items x.Contact with
 | true =>
  obtain ⟨hl,hc⟩:=fndC_some hf
  have hw:wasR s x=listedI s.Items[posC s.Items x.Contact]:=by unfold wasR;rw [List.getElem?_eq_getElem hl,hf];rfl
  have hd:del? s.Items (posC s.Items x.Contact:Int) ((posC s.Items x.Contact + 1:Nat):Int)=some (s.Items.take (posC s.Items x.Contact)++s.Items.drop (posC s.Items x.Contact + 1)):=by
   unfold del?
   rw [if_pos (by omega)];rfl
  have hset:∀ y,List.set s.Items (Int.toNat ((posC s.Items x.Contact:Nat):Int)) y=s.Items.take (posC s.Items x.Contact)++([y]++s.Items.drop (posC s.Items x.Contact + 1)):=fun y=>by
   rw [Int.toNat_natCast,List.set_eq_take_append_cons_drop,if_pos hl];rfl
  rw [hw]
  simp only [cond_true,at_lt hl,Option.bind_some,w64_succ (show posC s.Items x.Contact≤1000000 by omega),hd,hset,if_true]
  have hfl:∀ c:ByteArray,(s.Gone.filter fun g=>!(g.Contact.toList == c.toList)).length≤20:=fun c=>Nat.le_trans (List.length_filter_le _ _) hg
  have happ:∀ (c:ByteArray) (z:RosterGone),app? (s.Gone.filter fun g=>!(g.Contact.toList == c.toList)) [z]=some ((s.Gone.filter fun g=>!(g.Contact.toList == c.toList))++[z]):=fun c z=>app_ok (by have:=hfl c;simp;omega)
  have t1:∀ (c:ByteArray) (l:List ItemItem),_:=fun c l=>trim_p (w64 (s.Ver + 1)) s.Floor l (g:=s.Gone.filter fun g=>!(g.Contact.toList == c.toList)) (by have:=hfl c;omega)
  have t2:∀ (c:ByteArray) (z:RosterGone) (l:List ItemItem),_:=fun c z l=>trim_p (w64 (s.Ver + 1)) s.Floor l (g:=(s.Gone.filter fun g=>!(g.Contact.toList == c.toList))++[z]) (by have:=hfl c;simp;omega)
  have t3:∀ l:List ItemItem,_:=fun l=>trim_p (w64 (s.Ver + 1)) s.Floor l (g:=s.Gone) (by omega)
  cases hid:idleI (ItemItem.mk x.Contact x.Name x.Sub (w64 (s.Ver + 1)) x.Own) <;> cases hl1:listedI s.Items[posC s.Items x.Contact] <;> cases hl2:listedI x <;>
   simp only [cond_true,cond_false,if_true,if_false,Bool.false_eq_true,happ,t1,t2,t3,Option.bind_some,List.nil_append,Bool.or_true,Bool.or_false,Bool.true_or,Bool.false_or,Bool.and_true,Bool.and_false,Bool.true_and,Bool.false_and,Bool.not_true,Bool.not_false,keep_all,keep_some,List.append_nil,filt_t]
 | false =>
  have hw:wasR s x=false:=by unfold wasR;rw [hf];split <;> rfl
  have hins:∀ y,insAt? s.Items (posC s.Items x.Contact:Int) y=some (s.Items.take (posC s.Items x.Contact)++([y]++s.Items.drop (posC s.Items x.Contact))):=fun y=>by
   unfold insAt?
   rw [if_pos (by omega)];rfl
  rw [hw]
  have hfl:∀ c:ByteArray,(s.Gone.filter fun g=>!(g.Contact.toList == c.toList)).length≤20:=fun c=>Nat.le_trans (List.length_filter_le _ _) hg
  have t1:∀ (c:ByteArray) (l:List ItemItem),_:=fun c l=>trim_p (w64 (s.Ver + 1)) s.Floor l (g:=s.Gone.filter fun g=>!(g.Contact.toList == c.toList)) (by have:=hfl c;omega)
  have t3:∀ l:List ItemItem,_:=fun l=>trim_p (w64 (s.Ver + 1)) s.Floor l (g:=s.Gone) (by omega)
  have htd:s.Items.take (posC s.Items x.Contact)++s.Items.drop (posC s.Items x.Contact)=s.Items:=List.take_append_drop _ _
  cases hid:idleI (ItemItem.mk x.Contact x.Name x.Sub (w64 (s.Ver + 1)) x.Own) <;> cases hl2:listedI x <;>
   simp only [cond_true,cond_false,if_true,if_false,Bool.false_eq_true,hins,t1,t3,Option.bind_some,List.nil_append,Bool.or_true,Bool.or_false,Bool.true_or,Bool.false_or,Bool.and_true,Bool.and_false,Bool.true_and,Bool.false_and,Bool.not_true,Bool.not_false,keep_all,keep_some,List.append_nil,filt_t,htd]
end Go.Proofs.YtmmmcpeickfolaaGreat

namespace Go.Proofs.YtmmmcpeickfolaaGreat
open Go.RowKit
def insR (x:ItemItem):List ItemItem→List ItemItem
 | []=>[x]
 | y :: ys=>if lessI x y then y :: insR x ys else x :: y :: ys
def sortR:List ItemItem→List ItemItem→List ItemItem
 | acc,[]=>acc
 | acc,x :: l=>sortR (insR x acc) l
def sortI (l:List ItemItem):List ItemItem:=(sortR [] l).reverse
theorem insR_len (x:ItemItem):∀ l,(insR x l).length=l.length + 1
 | []=>rfl
 | y :: ys=>by
  unfold insR
  split
  ·rw [List.length_cons,insR_len x ys,List.length_cons]
  ·rfl
theorem sortR_len:∀ (l acc:List ItemItem),(sortR acc l).length=acc.length + l.length
 | [],acc=>rfl
 | x :: l,acc=>by rw [sortR,sortR_len l,insR_len,List.length_cons];omega
theorem sortI_len (l:List ItemItem):(sortI l).length=l.length:=by unfold sortI;rw [List.length_reverse,sortR_len];simp
theorem set_mid {α:Type} (a:List α) (x y:α) (b:List α):(a++x :: b).set a.length y=a++y :: b:=by
 induction a with
 | nil=>rfl
 | cons c a ih=>simp [ih]
theorem get_mid {α:Type} (a:List α) (x:α) (b:List α):(a++x :: b)[a.length]?=some x:=by simp
theorem arr_mid {n:Nat} {a:List ItemItem} {x:ItemItem} {b:List ItemItem} (h:(a++x :: b).length=n):arr? n (a++x :: b) ((a.length:Nat):Int)=some x:=by
 unfold arr?
 rw [if_pos h,at_nat,get_mid]
theorem ins_l2 (a0:List ItemItem) (f:ItemItem→ItemItem→Option Int) (hf:∀ x y,∃ v,f x y=some v∧decide (v < 0)=lessI x y):∀ (ys:List ItemItem) (x:ItemItem) (post:List ItemItem) (F:Nat),ys.length < F→(ys.reverse++x :: post).length=a0.length→a0.length≤1000000 →
  ∃ k,p_slices_insertionSortCmpFunc_item_Item__l2 a0 f 0 F (ys.length:Int) (ys.reverse++x :: post)=some (k,(insR x ys).reverse++post)
 | [],x,post,F + 1,hF,hl,hn=>⟨0,by
  rw [p_slices_insertionSortCmpFunc_item_Item__l2];rfl⟩
 | y :: ys,x,post,F + 1,hF,hl,hn=>by
  have e1:(y :: ys).reverse++x :: post=ys.reverse++y :: (x :: post):=by simp
  have e2:((y :: ys).length:Int)=((ys.length + 1:Nat):Int):=by simp
  have hlen:(ys.reverse++y :: x :: post).length=a0.length:=by rw [← e1];exact hl
  have hlen' : (ys.reverse++[y]++x :: post).length=a0.length:=by rw [← hlen];simp
  have hyl:ys.length≤1000000:=by rw [List.length_append,List.length_reverse] at hlen;omega
  have hj:w64 (((ys.length + 1:Nat):Int) - 1)=((ys.reverse.length:Nat):Int):=by rw [w64_id (by omega),List.length_reverse];omega
  have a1:arr? a0.length (ys.reverse++y :: x :: post) ((ys.length + 1:Nat):Int)=some x:=by
   have:=arr_mid (a:=ys.reverse++[y]) (x:=x) (b:=post) hlen'
   rw [List.append_assoc] at this
   simpa using this
  have a2:arr? a0.length (ys.reverse++y :: x :: post) ((ys.reverse.length:Nat):Int)=some y:=arr_mid hlen
  obtain ⟨v,hv,hlt⟩:=hf x y
  rw [p_slices_insertionSortCmpFunc_item_Item__l2,e1,e2,show decide ((0:Int) < ((ys.length + 1:Nat):Int))=true by simp <;> omega,cond_true,hj,a1,a2]
  simp only [Option.bind_some,hv,hlt]
  unfold insR
  cases hb:lessI x y with
  | false =>
   simp only [cond_false,Bool.false_eq_true,if_false]
   exact ⟨((ys.length + 1:Nat):Int),by simp⟩
  | true =>
   simp only [cond_true,if_true]
   have t1:(((ys.length + 1:Nat):Int)).toNat=(ys.reverse++[y]).length:=by simp
   have s1:(ys.reverse++y :: x :: post).set (((ys.length + 1:Nat):Int)).toNat y=ys.reverse++y :: (y :: post):=by
    have:=set_mid (ys.reverse++[y]) x y post
    rw [List.append_assoc,List.append_assoc] at this
    rw [t1];exact this
   have hlen2:(ys.reverse++y :: y :: post).length=a0.length:=by rw [← hlen];simp
   rw [s1,arr_mid hlen2,Option.bind_some,Int.toNat_natCast,set_mid,List.length_reverse]
   obtain ⟨k,hk⟩:=ins_l2 a0 f hf ys x (y :: post) F (by simp at hF;omega) (by rw [← hlen];simp) hn
   exact ⟨k,by rw [hk];simp⟩
theorem ins_l1 (a0:List ItemItem) (f:ItemItem→ItemItem→Option Int) (hf:∀ x y,∃ v,f x y=some v∧decide (v < 0)=lessI x y) (hn:a0.length≤1000000):∀ (post acc:List ItemItem) (F:Nat),post.length < F→acc.length + post.length=a0.length →
  ∃ k,p_slices_insertionSortCmpFunc_item_Item__l1 a0 f 0 (a0.length:Int) F (acc.length:Int) (acc.reverse++post)=some (k,(sortR acc post).reverse)
 | [],acc,F + 1,hF,hl=>⟨(acc.length:Int),by
  rw [p_slices_insertionSortCmpFunc_item_Item__l1,lt_ff (by simp at hl;omega)]
  simp [sortR]⟩
 | x :: post,acc,F + 1,hF,hl=>by
  have hlt:acc.length < a0.length:=by simp at hl;omega
  obtain ⟨k,hk⟩:=ins_l2 a0 f hf acc x post fuel (by have:=fuel_pos;omega) (by simp at hl ⊢;omega) hn
  rw [p_slices_insertionSortCmpFunc_item_Item__l1,lt_tt hlt,cond_true,hk,Option.bind_some,w64_succ (by omega)]
  have:=ins_l1 a0 f hf hn post (insR x acc) F (by simp at hF;omega) (by rw [insR_len];simp at hl;omega)
  rw [insR_len] at this
  rw [sortR];exact this
theorem ins_p (l:List ItemItem) (f:ItemItem→ItemItem→Option Int) (hf:∀ x y,∃ v,f x y=some v∧decide (v < 0)=lessI x y) (hn:l.length≤1000000) (hl:l≠[]):p_slices_insertionSortCmpFunc_item_Item_ l 0 (l.length:Int) f=some (sortI l):=by
 obtain ⟨x,r,rfl⟩:=List.exists_cons_of_ne_nil hl
 obtain ⟨k,hk⟩:=ins_l1 (x :: r) f hf hn r [x] fuel (by have:=fuel_pos;simp at hn;omega) (by simp;omega)
 unfold p_slices_insertionSortCmpFunc_item_Item_
 show (p_slices_insertionSortCmpFunc_item_Item__l1 (x :: r) f 0 ((x :: r).length:Int) fuel 1 (x :: r)).bind _=_
 have hk2:p_slices_insertionSortCmpFunc_item_Item__l1 (x :: r) f 0 ((x :: r).length:Int) fuel 1 (x :: r)=some (k,(sortR [x] r).reverse):=hk
 rw [hk2];rfl
theorem ins_e (l:List ItemItem) (a b:Int) (f:ItemItem→ItemItem→Option Int) (h:b≤w64 (a + 1)):p_slices_insertionSortCmpFunc_item_Item_ l a b f=some l:=by
 unfold p_slices_insertionSortCmpFunc_item_Item_
 rw [show fuel=(fuel - 1) + 1 from rfl,p_slices_insertionSortCmpFunc_item_Item__l1,show decide (w64 (a + 1) < b)=false by simpa using h];rfl
theorem inG_ok {α β:Type} {n:Nat} {l:List α} {m:Option (List β)} {L:List β} (h1:l.length=n) (h2:m=some L) (h3:n=L.length):inG? n l m=some L:=by
 unfold inG?
 rw [if_pos h1,h2,Option.bind_some,if_pos h3]
theorem stable_p (l:List ItemItem) (f:ItemItem→ItemItem→Option Int) (hf:∀ x y,∃ v,f x y=some v∧decide (v < 0)=lessI x y) (hn:l.length≤20):p_slices_stableCmpFunc_item_Item_ l (l.length:Int) f=some (sortI l):=by
 unfold p_slices_stableCmpFunc_item_Item_
 have hl2:p_slices_stableCmpFunc_item_Item__l2 (l.length:Int) fuel 20=some 20:=by
  rw [show fuel=(fuel - 1) + 1 from rfl,p_slices_stableCmpFunc_item_Item__l2,show decide ((20:Int) < (l.length:Int))=false by simp;omega];rfl
 have hs:∀ m:List ItemItem,m.length≤20→p_slices_insertionSortCmpFunc_item_Item_ m 0 (m.length:Int) f=some (sortI m):=fun m hm=>by
  by_cases e:m=[]
  ·subst e;exact ins_e [] 0 0 f (by decide)
  ·exact ins_p m f hf (by omega) e
 by_cases h:l.length=20
 ·have h1:p_slices_stableCmpFunc_item_Item__l1 l f (l.length:Int) fuel 0 20 l=some (20,40,sortI l):=by
   rw [show fuel=(fuel - 2) + 2 from rfl,p_slices_stableCmpFunc_item_Item__l1,h,show decide ((20:Int)≤((20:Nat):Int))=true from rfl,cond_true]
   have:p_slices_insertionSortCmpFunc_item_Item_ l 0 20 f=some (sortI l):=by have:=hs l hn;rw [h] at this;exact this
   rw [inG_ok h this (by rw [sortI_len];exact h.symm),Option.bind_some,p_slices_stableCmpFunc_item_Item__l1];rfl
  rw [h1,Option.bind_some]
  have:p_slices_insertionSortCmpFunc_item_Item_ (sortI l) 20 (l.length:Int) f=some (sortI l):=ins_e _ _ _ _ (by rw [h];decide)
  rw [inG_ok (sortI_len l) this (sortI_len l).symm,Option.bind_some,hl2];rfl
 ·have h1:p_slices_stableCmpFunc_item_Item__l1 l f (l.length:Int) fuel 0 20 l=some (0,20,l):=by
   rw [show fuel=(fuel - 1) + 1 from rfl,p_slices_stableCmpFunc_item_Item__l1,show decide ((20:Int)≤(l.length:Int))=false by simp;omega];rfl
  rw [h1,Option.bind_some,inG_ok rfl (hs l hn) (sortI_len l).symm,Option.bind_some,hl2];rfl
theorem sort_p (l:List ItemItem) (hn:l.length≤20):p_item_Sort l=some (sortI l):=by
 unfold p_item_Sort p_slices_SortStableFunc_item_Item
 have hc:clone? l=some l:=if_pos (by omega)
 have:=stable_p l (fun x0 x1=>p_item_Item_order x0 x1) order_p hn
 rw [hc,Option.bind_some,inG_ok rfl (show ((inG? l.length l (p_slices_stableCmpFunc_item_Item_ l (l.length:Int) fun x0 x1=>p_item_Item_order x0 x1)).bind fun l2=>some l2)=some (sortI l) by rw [inG_ok rfl this (sortI_len l).symm];rfl) (sortI_len l).symm]
 rfl
end Go.Proofs.YtmmmcpeickfolaaGreat

namespace Go.Proofs.YtmmmcpeickfolaaGreat
open Go.RowKit
theorem ownS_p {s:RosterState} (h:s.Items.length≤100∧s.Gone.length≤100):p_roster_State_own s=some s:=by
 unfold p_roster_State_own clone?
 rw [if_pos (by omega),Option.bind_some,if_pos (by omega)];rfl
theorem FindS_p {s:RosterState} (hc0:p_roster_Check s=some 0) (f:FineS s) (c:ByteArray):p_roster_Find s c=some (if hl:posC s.Items c < s.Items.length then (if fndC s.Items c then (s.Items[posC s.Items c],true) else (ItemItem.mk ⟨#[]⟩ ⟨#[]⟩ 0 0 false,false)) else (ItemItem.mk ⟨#[]⟩ ⟨#[]⟩ 0 0 false,false)):=by
 have:=f.items
 unfold p_roster_Find
 rw [hc0,Option.bind_some,findC_p (by omega) f.rise.sorted]
 simp only [bne_self_eq_false,cond_false,Option.bind_some]
 cases hf:fndC s.Items c with
 | true =>
  obtain ⟨hl,_⟩:=fndC_some hf
  rw [cond_true,at_lt hl,dif_pos hl];rfl
 | false=>rw [cond_false];split <;> rfl
def SmallS (s:RosterState):Prop:=s.Items.length≤100∧s.Gone.length≤100
theorem LightS.small {s:RosterState} (h:LightS s):SmallS s:=⟨by have:=h.items;omega,by have:=h.gone;omega⟩
theorem light_change {s:RosterState} (h:LightS s) (f:FineS s) {x:ItemItem} (hc:x.Contact.size≤100) (hn:x.Name.size≤100):LightS (changeR s x):=by
 have hfi:=f.items
 have hfg:=f.gone
 have h1:(itemsR s x (w64 (s.Ver + 1))).length≤20:=by
  unfold itemsR
  have:(if idleI (verI x (w64 (s.Ver + 1))) then ([]:List ItemItem) else [verI x (w64 (s.Ver + 1))]).length≤1:=by split <;> simp
  have h2:posC s.Items x.Contact≤(if fndC s.Items x.Contact then posC s.Items x.Contact + 1 else posC s.Items x.Contact):=by split <;> omega
  simp only [List.length_append,List.length_take,List.length_drop]
  generalize (if fndC s.Items x.Contact then posC s.Items x.Contact + 1 else posC s.Items x.Contact)=q at *
  generalize (if idleI (verI x (w64 (s.Ver + 1))) then ([]:List ItemItem) else [verI x (w64 (s.Ver + 1))]).length=z at *
  omega
 have h2:(goneR s x (w64 (s.Ver + 1))).length≤20:=by
  unfold goneR
  rw [List.length_append]
  have a:=List.length_filter_le (fun g:RosterGone=>!(g.Contact.toList == x.Contact.toList) || !(listedI x || wasR s x)) s.Gone
  have:(if wasR s x && !listedI x then [RosterGone.mk x.Contact (w64 (s.Ver + 1))] else []).length≤1:=by split <;> simp
  omega
 have h3:∀ y ∈ itemsR s x (w64 (s.Ver + 1)),y.Contact.size≤100∧y.Name.size≤100:=fun y hy=>by
  unfold itemsR at hy
  rcases List.mem_append.1 hy with g | g
  ·exact h.item y (List.mem_of_mem_take g)
  ·rcases List.mem_append.1 g with g | g
   ·split at g
    ·cases g
    ·rw [List.mem_singleton.1 g];exact ⟨hc,hn⟩
   ·exact h.item y (List.mem_of_mem_drop g)
 have h4:∀ g ∈ goneR s x (w64 (s.Ver + 1)),g.Contact.size≤100:=fun y hy=>by
  unfold goneR at hy
  rcases List.mem_append.1 hy with g | g
  ·exact h.went y (List.mem_filter.1 g).1
  ·split at g
   ·rw [List.mem_singleton.1 g];exact hc
   ·cases g
 unfold changeR trimR
 split
 ·rename_i a r e
  rw [e] at h2 h4
  rw [List.length_cons] at h2
  split
  ·exact ⟨h1,by show r.length≤20;omega,h3,fun g hg=>h4 g (List.mem_cons_of_mem _ hg)⟩
  ·exact ⟨h1,h2,h3,h4⟩
 ·exact ⟨h1,by simp,h3,fun g hg=>by cases hg⟩
end Go.Proofs.YtmmmcpeickfolaaGreat

namespace Go.Proofs.YtmmmcpeickfolaaGreat
open Go.RowKit
structure FullN (n:Nat) (s:RosterState):Prop where
 items:s.Items.length≤12
 gone:s.Gone.length≤n
 ver:0≤s.Ver∧s.Ver≤1099511627776
 floor:0≤s.Floor∧s.Floor≤s.Ver
 fine:∀ x ∈ s.Items,chkI x=0∧idleI x=false
 bare:∀ g ∈ s.Gone,isBareL g.Contact.data.toList=true
 low:∀ x ∈ s.Items,1≤x.Ver∧x.Ver≤s.Ver
 vers:s.Items.Pairwise fun a b=>a.Ver≠b.Ver
 cont:s.Items.Pairwise fun a b=>Lib.compareBytes a.Contact.data.toList b.Contact.data.toList < 0
 glow:∀ g ∈ s.Gone,s.Floor < g.Ver∧g.Ver≤s.Ver
 gver:s.Gone.Pairwise fun a b=>a.Ver < b.Ver
 gcont:s.Gone.Pairwise fun a b=>a.Contact≠b.Contact
 went:∀ g ∈ s.Gone,WentOk s g
theorem pw_get {α:Type} {R:α→α→Prop} {l:List α} (h:l.Pairwise R) {i j:Nat} (hij:i < j) {x y:α} (hx:l[i]?=some x) (hy:l[j]?=some y):R x y:=by
 have hi:=(List.getElem?_eq_some_iff.1 hx)
 have hj:=(List.getElem?_eq_some_iff.1 hy)
 have:=List.pairwise_iff_getElem.1 h i j hi.1 hj.1 hij
 rw [hi.2,hj.2] at this;exact this
theorem FullN.sorted {n:Nat} {s:RosterState} (h:FullN n s):SortedC s.Items:=fun _ _ hij _ _ hx hy=>pw_get h.cont hij hx hy
theorem FullN.rise {n:Nat} {s:RosterState} (h:FullN n s):Rise s:=fun k _ x hx=>by
 have hl:=h.low x (List.mem_of_getElem? hx)
 refine ⟨hl.1,hl.2,fun j hj y hy=>pw_get h.vers hj hy hx,fun hk y hy=>?_⟩
 have:=pw_get h.cont (show k - 1 < k by omega) hy hx
 rw [tl_data,tl_data,cmp_less]
 exact decide_eq_true this
theorem FullN.left {n:Nat} {s:RosterState} (h:FullN n s):Left s:=fun k hk g hg=>by
 have hl:=h.glow g (List.mem_of_getElem? hg)
 refine ⟨?_,hl.2,fun j hj y hy=>pw_get h.gcont hj hy hg,h.went g (List.mem_of_getElem? hg)⟩
 cases k with
 | zero=>exact hl.1
 | succ k =>
  rw [accG_succ (by omega)]
  exact pw_get h.gver (Nat.lt_succ_self k) (List.getElem?_eq_getElem (by omega)) hg
theorem FullN.small {n:Nat} (hn:n≤20) {s:RosterState} (h:FullN n s):s.Items.length≤20∧s.Gone.length≤20:=⟨by have:=h.items;omega,by have:=h.gone;omega⟩
theorem check_full {s:RosterState} (hl:LightS s) (h:FullN 8 s):p_roster_Check s=some 0:=by
 obtain ⟨c,h1,h2,h3⟩:=checkS_p hl
 have hi:=h.items
 have e1:p_ref21_items_l1 s fuel 0=some (.inr (s.Items.length:Int)):=by
  have l1:=loop_all (N:=s.Items.length) (by omega) (fun n y=>(p_ref21_items_l1 s n y).map fun r=>match r with | .inl _=>.inl false | .inr z=>.inr z) (s.Items.length:Int) (fun k=>True) (fun n k hk=>by
   obtain ⟨a,b⟩:=hl.item _ (List.getElem_mem hk)
   obtain ⟨q1,q2⟩:=h.fine _ (List.getElem_mem hk)
   refine ⟨fun _=>?_,fun g=>absurd trivial g⟩
   show Option.map _ (p_ref21_items_l1 s (n + 1) (k:Int))=Option.map _ (p_ref21_items_l1 s n ((k + 1:Nat):Int))
   rw [p_ref21_items_l1,lt_tt hk,cond_true,at_lt hk,Option.bind_some,rcheck_p (by omega) (by omega),Option.bind_some,Option.bind_some,ridle_p,Option.bind_some,w64_succ (by omega),q1,q2]
   rfl) (fun n=>by
   show Option.map _ (p_ref21_items_l1 s (n + 1) (s.Items.length:Int))=_
   rw [p_ref21_items_l1,lt_ff (Nat.le_refl _)];rfl)
  rcases l1 with ⟨_,e⟩ | ⟨g,_⟩
  ·cases hr:p_ref21_items_l1 s fuel 0 with
   | none=>rw [hr] at e;cases e
   | some r =>
    rw [hr] at e
    cases r with
    | inl v=>cases e
    | inr z=>exact congrArg some (by have:=Option.some.inj e;injection this with this;rw [this])
  ·exact absurd (fun _ _=>trivial) g
 have e2:p_ref21_items s=some 0:=by unfold p_ref21_items;rw [e1];rfl
 obtain ⟨c1,c2⟩:=gone_p hl
 have hb:(s.Gone.any fun g=>!isBareL g.Contact.data.toList)=false:=by
  rw [List.any_eq_false];intro g hg;rw [h.bare g hg];simp
 have e3:p_ref21_Check_l1 s fuel 0=some (.inr (s.Gone.length:Int)):=by
  rcases c2 with ⟨g,_⟩ | ⟨_,e⟩
  ·rw [hb] at g;cases g
  ·exact e
 have e4:p_ref21_rises s=some true:=by
  unfold p_ref21_rises
  rcases rrise1_p (s:=s) hl.items with ⟨_,er⟩ | ⟨a,_⟩
  ·rcases rleft3_p hl with ⟨_,el⟩ | ⟨a,_⟩
   ·rw [er];simp only [Option.bind_some,el]
   ·exact absurd h.left a
  ·exact absurd h.rise a
 have:p_ref21_Check s=some 0:=by
  unfold p_ref21_Check
  have hv:=h.ver
  have hf:=h.floor
  have hg:=h.gone
  rw [show decide ((12:Int) < (s.Items.length:Int))=false by simp;omega,show decide ((8:Int) < (s.Gone.length:Int))=false by simp;omega,decide_eq_false (show ¬ s.Ver < 0 by omega),decide_eq_false (show ¬ (1099511627776:Int) < s.Ver by omega),decide_eq_false (show ¬ s.Floor < 0 by omega),decide_eq_false (show ¬ s.Ver < s.Floor by omega),e2,e3,e4]
  rfl
 rw [h1];rw [h2] at this;exact this
theorem pw_ins {α:Type} {R:α→α→Prop} {A m B:List α} (h:(A++B).Pairwise R) (hm:m.Pairwise R) (h1:∀ a ∈ A,∀ y ∈ m,R a y) (h2:∀ y ∈ m,∀ b ∈ B,R y b):(A++(m++B)).Pairwise R:=by
 rw [List.pairwise_append] at h ⊢
 refine ⟨h.1,List.pairwise_append.2 ⟨hm,h.2.1,h2⟩,fun a ha b hb=>?_⟩
 rcases List.mem_append.1 hb with g | g
 ·exact h1 a ha b g
 ·exact h.2.2 a ha b g
theorem cmp_swap {a b:List UInt8} (h:0 < Lib.compareBytes a b):Lib.compareBytes b a < 0:=by rw [cmp_anti a b];omega
theorem split_c {l:List ItemItem} (hs:SortedC l) (c:ByteArray) :
  (∀ a ∈ l.take (posC l c),Lib.compareBytes a.Contact.data.toList c.data.toList < 0)∧(∀ b ∈ l.drop (if fndC l c then posC l c + 1 else posC l c),Lib.compareBytes c.data.toList b.Contact.data.toList < 0)∧(l.take (posC l c)++l.drop (if fndC l c then posC l c + 1 else posC l c)).Sublist l:=by
 refine ⟨fun a ha=>?_,fun b hb=>?_,?_⟩
 ·obtain ⟨k,hk,rfl⟩:=List.getElem_of_mem ha
  rw [List.length_take] at hk
  rw [List.getElem_take]
  exact posC_lt (c:=c) (k:=k) (by omega) (List.getElem?_eq_getElem (by omega))
 ·obtain ⟨k,hk,rfl⟩:=List.getElem_of_mem hb
  rw [List.length_drop] at hk
  rw [List.getElem_drop]
  have hge:posC l c≤(if fndC l c then posC l c + 1 else posC l c):=by split <;> omega
  have hl:(if fndC l c then posC l c + 1 else posC l c) + k < l.length:=by omega
  have h0:=posC_ge (c:=c) hs (k:=(if fndC l c then posC l c + 1 else posC l c) + k) (by omega) (List.getElem?_eq_getElem hl)
  refine cmp_swap ?_
  rcases Int.lt_or_eq_of_le h0 with g | g
  ·exact g
  ·exfalso
   have he:=fndC_of (c:=c) hs (List.getElem?_eq_getElem hl) (eqT_iff.1 (by rw [eq_cmp0,← g];rfl))
   have h1:=he.2
   rw [he.1,if_pos rfl] at h1
   omega
 ·have h2:(l.drop (if fndC l c then posC l c + 1 else posC l c)).Sublist (l.drop (posC l c)):=by
   split
   ·rw [← List.drop_drop];exact List.drop_sublist _ _
   ·exact List.Sublist.refl _
  have:=(List.Sublist.refl (l.take (posC l c))).append h2
  rwa [List.take_append_drop] at this
theorem full_trim {v fl:Int} {l:List ItemItem} {g:List RosterGone} (h:FullN 9 (RosterState.mk v fl l g)):FullN 8 (trimR v fl l g):=by
 unfold trimR
 split
 ·rename_i a r
  split
  ·have hg:=h.glow a (List.mem_cons_self ..)
   have hv:=List.pairwise_cons.1 h.gver
   have hc:=List.pairwise_cons.1 h.gcont
   have hlen:r.length + 1≤9:=h.gone
   have hf:=h.floor
   exact ⟨h.items,by show r.length≤8;omega,h.ver,⟨by have:fl < a.Ver:=hg.1;have:0≤fl:=hf.1;show 0≤a.Ver;omega,hg.2⟩,h.fine,fun x hx=>h.bare x (List.mem_cons_of_mem _ hx),h.low,h.vers,h.cont,fun x hx=>⟨hv.1 x hx,(h.glow x (List.mem_cons_of_mem _ hx)).2⟩,hv.2,hc.2,fun x hx=>h.went x (List.mem_cons_of_mem _ hx)⟩
  ·rename_i hr
   exact ⟨h.items,by show (a :: r).length≤8;rw [List.length_cons];omega,h.ver,h.floor,h.fine,h.bare,h.low,h.vers,h.cont,h.glow,h.gver,h.gcont,h.went⟩
 ·exact ⟨h.items,Nat.zero_le _,h.ver,h.floor,h.fine,h.bare,h.low,h.vers,h.cont,h.glow,h.gver,h.gcont,h.went⟩
theorem idle_ver (x:ItemItem) (v:Int):idleI (verI x v)=idleI x:=rfl
theorem full_change {s:RosterState} (h:FullN 8 s) {x:ItemItem} (hv:s.Ver < 1099511627776) (hb:isBareL x.Contact.data.toList=true) (hx:idleI x=false→chkI (verI x (s.Ver + 1))=0) (hroom:fndC s.Items x.Contact=false→idleI x=false→s.Items.length < 12):FullN 8 (changeR s x):=by
 have hver:=h.ver
 have hfl:=h.floor
 have hw:w64 (s.Ver + 1)=s.Ver + 1:=w64_id (by omega)
 unfold changeR
 rw [hw]
 obtain ⟨hA,hB,hsub⟩:=split_c h.sorted x.Contact
 have hwas:∀ it ∈ s.Items,it.Contact=x.Contact→wasR s x=listedI it:=fun it hit he=>by
  obtain ⟨k,hk,rfl⟩:=List.getElem_of_mem hit
  obtain ⟨h1,h2⟩:=fndC_of h.sorted (List.getElem?_eq_getElem hk) he
  unfold wasR
  rw [h2,List.getElem?_eq_getElem hk,h1];rfl
 have hnot:wasR s x=true→∃ it ∈ s.Items,it.Contact=x.Contact:=fun hh=>by
  unfold wasR at hh
  split at hh
  ·rename_i y hy
   simp only [Bool.and_eq_true] at hh
   obtain ⟨hl,hc⟩:=fndC_some hh.1
   exact ⟨_,List.getElem_mem hl,hc⟩
  ·cases hh
 have hlen:(s.Items.take (posC s.Items x.Contact)++s.Items.drop (if fndC s.Items x.Contact then posC s.Items x.Contact + 1 else posC s.Items x.Contact)).length + (if fndC s.Items x.Contact then 1 else 0)=s.Items.length:=by
  have hle:=posC_le s.Items x.Contact
  cases hf:fndC s.Items x.Contact with
  | true=>obtain ⟨hl,_⟩:=fndC_some hf;simp only [if_true,List.length_append,List.length_take,List.length_drop];omega
  | false=>simp only [if_false,Bool.false_eq_true,List.length_append,List.length_take,List.length_drop];omega
 generalize hAe:s.Items.take (posC s.Items x.Contact)=A at *
 generalize hBe:s.Items.drop (if fndC s.Items x.Contact then posC s.Items x.Contact + 1 else posC s.Items x.Contact)=B at *
 have hmem:∀ it,it ∈ A∨it ∈ B→it ∈ s.Items∧it.Contact≠x.Contact:=fun it hit=>by
  refine ⟨hsub.subset (List.mem_append.2 hit),fun e=>?_⟩
  rcases hit with g | g
  ·have:=hA it g;rw [e,cmp_refl] at this;omega
  ·have:=hB it g;rw [e,cmp_refl] at this;omega
 have hI:itemsR s x (s.Ver + 1)=A++((if idleI x then [] else [verI x (s.Ver + 1)])++B):=by unfold itemsR;rw [hAe,hBe,idle_ver]
 have hm:∀ it ∈ itemsR s x (s.Ver + 1),(it ∈ s.Items∧it.Contact≠x.Contact)∨(idleI x=false∧it=verI x (s.Ver + 1)):=fun it hit=>by
  rw [hI] at hit
  rcases List.mem_append.1 hit with g | g
  ·exact .inl (hmem it (.inl g))
  ·rcases List.mem_append.1 g with g | g
   ·cases hid:idleI x with
    | true=>rw [hid] at g;cases g
    | false=>rw [hid] at g;exact .inr ⟨rfl,List.mem_singleton.1 g⟩
   ·exact .inl (hmem it (.inr g))
 have hmid:∀ y ∈ (if idleI x then [] else [verI x (s.Ver + 1)]),y=verI x (s.Ver + 1):=fun y hy=>by
  split at hy
  ·cases hy
  ·exact List.mem_singleton.1 hy
 have hmidp:∀ {R:ItemItem→ItemItem→Prop},(if idleI x then [] else [verI x (s.Ver + 1)]).Pairwise R:=fun {R}=>by
  split
  ·exact .nil
  ·exact List.pairwise_singleton _ _
 have hg:∀ g ∈ goneR s x (s.Ver + 1),(g ∈ s.Gone∧(listedI x=true∨wasR s x=true→g.Contact≠x.Contact))∨(g=RosterGone.mk x.Contact (s.Ver + 1)∧wasR s x=true∧listedI x=false):=fun g hgm=>by
  unfold goneR at hgm
  rcases List.mem_append.1 hgm with q | q
  ·obtain ⟨q1,q2⟩:=List.mem_filter.1 q
   refine .inl ⟨q1,fun hh e=>?_⟩
   rw [show (g.Contact.toList == x.Contact.toList)=true from eqT_iff.2 e] at q2
   rcases hh with hh | hh <;> rw [hh] at q2 <;> simp at q2
  ·split at q
   ·rename_i hh
    simp only [Bool.and_eq_true,Bool.not_eq_true'] at hh
    exact .inr ⟨List.mem_singleton.1 q,hh.1,hh.2⟩
   ·cases q
 refine full_trim ⟨?_,?_,?_,?_,?_,?_,?_,?_,?_,?_,?_,?_,?_⟩
 ·show (itemsR s x (s.Ver + 1)).length≤12
  have hi:=h.items
  rw [hI]
  rw [List.length_append] at hlen
  rw [List.length_append,List.length_append]
  cases hid:idleI x with
  | true=>simp only [if_true,List.length_nil];omega
  | false =>
   simp only [if_false,Bool.false_eq_true,List.length_singleton]
   cases hf:fndC s.Items x.Contact with
   | true=>rw [hf] at hlen;simp only [if_true] at hlen;omega
   | false=>rw [hf] at hlen;have:=hroom hf hid;simp only [if_false,Bool.false_eq_true] at hlen;omega
 ·show (goneR s x (s.Ver + 1)).length≤9
  have hgl:=h.gone
  unfold goneR
  rw [List.length_append]
  have a:=List.length_filter_le (fun g:RosterGone=>!(g.Contact.toList == x.Contact.toList) || !(listedI x || wasR s x)) s.Gone
  have:(if wasR s x && !listedI x then [RosterGone.mk x.Contact (s.Ver + 1)] else []).length≤1:=by split <;> simp
  omega
 ·exact ⟨by show 0≤s.Ver + 1;omega,by show s.Ver + 1≤_;omega⟩
 ·exact ⟨hfl.1,by show s.Floor≤s.Ver + 1;omega⟩
 ·intro it hit
  rcases hm it hit with ⟨q,_⟩ | ⟨q,rfl⟩
  ·exact h.fine it q
  ·exact ⟨hx q,q⟩
 ·intro g hgm
  rcases hg g hgm with ⟨q,_⟩ | ⟨rfl,_,_⟩
  ·exact h.bare g q
  ·exact hb
 ·intro it hit
  rcases hm it hit with ⟨q,_⟩ | ⟨q,rfl⟩
  ·have:=h.low it q;exact ⟨this.1,by show it.Ver≤s.Ver + 1;omega⟩
  ·exact ⟨by show 1≤s.Ver + 1;omega,Int.le_refl _⟩
 ·show (itemsR s x (s.Ver + 1)).Pairwise _
  rw [hI]
  refine pw_ins (h.vers.sublist hsub) hmidp (fun a ha y hy=>?_) (fun y hy b hb2=>?_)
  ·rw [hmid y hy];have:=(h.low a (hmem a (.inl ha)).1).2;show a.Ver≠s.Ver + 1;omega
  ·rw [hmid y hy];have:=(h.low b (hmem b (.inr hb2)).1).2;show s.Ver + 1≠b.Ver;omega
 ·show (itemsR s x (s.Ver + 1)).Pairwise _
  rw [hI]
  refine pw_ins (h.cont.sublist hsub) hmidp (fun a ha y hy=>?_) (fun y hy b hb2=>?_)
  ·rw [hmid y hy];exact hA a ha
  ·rw [hmid y hy];exact hB b hb2
 ·intro g hgm
  rcases hg g hgm with ⟨q,_⟩ | ⟨rfl,_,_⟩
  ·have:=h.glow g q;exact ⟨this.1,by show g.Ver≤s.Ver + 1;omega⟩
  ·exact ⟨by show s.Floor < s.Ver + 1;omega,Int.le_refl _⟩
 ·show (goneR s x (s.Ver + 1)).Pairwise _
  unfold goneR
  refine List.pairwise_append.2 ⟨h.gver.sublist List.filter_sublist,by split <;> simp,fun a ha b hb2=>?_⟩
  split at hb2
  ·rw [List.mem_singleton.1 hb2];have:=(h.glow a (List.mem_filter.1 ha).1).2;show a.Ver < s.Ver + 1;omega
  ·cases hb2
 ·show (goneR s x (s.Ver + 1)).Pairwise _
  unfold goneR
  refine List.pairwise_append.2 ⟨h.gcont.sublist List.filter_sublist,by split <;> simp,fun a ha b hb2=>?_⟩
  split at hb2
  ·rename_i hh
   simp only [Bool.and_eq_true] at hh
   rw [List.mem_singleton.1 hb2]
   intro e
   have q2:=(List.mem_filter.1 ha).2
   rw [show (a.Contact.toList == x.Contact.toList)=true from eqT_iff.2 e,hh.1] at q2
   simp at q2
  ·cases hb2
 ·intro g hgm it hit
  have hit2:it ∈ itemsR s x (s.Ver + 1):=hit
  rcases hg g hgm with ⟨q,qc⟩ | ⟨rfl,qw,ql⟩
  ·rcases hm it hit2 with ⟨r,_⟩ | ⟨r,rfl⟩
   ·exact h.went g q it r
   ·refine ⟨fun e=>?_,fun e=>?_⟩
    ·have:=(h.glow g q).2;have e2:s.Ver + 1=g.Ver:=e;omega
    ·cases hl:listedI x with
     | false=>exact hl
     | true=>exact absurd (show g.Contact=x.Contact from e.symm) (qc (.inl hl))
  ·rcases hm it hit2 with ⟨r,rc⟩ | ⟨r,rfl⟩
   ·refine ⟨fun e=>?_,fun e=>absurd e rc⟩
    have:=(h.low it r).2;have e2:it.Ver=s.Ver + 1:=e;omega
   ·exact ⟨fun _=>rfl,fun _=>ql⟩
end Go.Proofs.YtmmmcpeickfolaaGreat

namespace Go.Proofs.YtmmmcpeickfolaaGreat
open Go.RowKit
theorem mem_items {s:RosterState} (hs:SortedC s.Items) (x:ItemItem) (v:Int) (it:ItemItem):it ∈ itemsR s x v ↔ (it ∈ s.Items∧it.Contact≠x.Contact)∨(idleI x=false∧it=verI x v):=by
 obtain ⟨hA,hB,hsub⟩:=split_c hs x.Contact
 unfold itemsR
 rw [idle_ver]
 simp only [List.mem_append]
 constructor
 ·rintro (g | g | g)
  ·refine .inl ⟨List.mem_of_mem_take g,fun e=>?_⟩
   have:=hA it g;rw [e,cmp_refl] at this;omega
  ·cases hid:idleI x with
   | true=>rw [hid] at g;cases g
   | false=>rw [hid] at g;exact .inr ⟨rfl,List.mem_singleton.1 g⟩
  ·refine .inl ⟨List.mem_of_mem_drop g,fun e=>?_⟩
   have:=hB it g;rw [e,cmp_refl] at this;omega
 ·rintro (⟨h1,h2⟩ | ⟨h1,h2⟩)
  ·obtain ⟨k,hk,rfl⟩:=List.getElem_of_mem h1
   rcases Nat.lt_trichotomy k (posC s.Items x.Contact) with g | g | g
   ·refine .inl ?_
    have:(s.Items.take (posC s.Items x.Contact))[k]?=some s.Items[k]:=by rw [List.getElem?_take_of_lt g];exact List.getElem?_eq_getElem hk
    exact List.mem_of_getElem? this
   ·cases hf:fndC s.Items x.Contact with
    | true =>
     obtain ⟨hl,hc⟩:=fndC_some hf
     subst g
     exact absurd hc h2
    | false =>
     refine .inr (.inr ?_)
     simp only [if_false,Bool.false_eq_true]
     rw [← g,drop_at hk];exact List.mem_cons_self ..
   ·refine .inr (.inr ?_)
    have hq:(if fndC s.Items x.Contact then posC s.Items x.Contact + 1 else posC s.Items x.Contact)≤k:=by split <;> omega
    generalize (if fndC s.Items x.Contact then posC s.Items x.Contact + 1 else posC s.Items x.Contact)=q at hq
    have:(s.Items.drop q)[k - q]?=some s.Items[k]:=by rw [List.getElem?_drop,show q + (k - q)=k by omega];exact List.getElem?_eq_getElem hk
    exact List.mem_of_getElem? this
  ·rw [h1,h2];exact .inr (.inl (List.mem_singleton.2 rfl))
theorem items_change (s:RosterState) (x:ItemItem):(changeR s x).Items=itemsR s x (w64 (s.Ver + 1)):=by
 unfold changeR trimR
 split
 ·split <;> rfl
 ·rfl
theorem ver_change (s:RosterState) (x:ItemItem):(changeR s x).Ver=w64 (s.Ver + 1):=by
 unfold changeR trimR
 split
 ·split <;> rfl
 ·rfl
theorem fnd_iff {l:List ItemItem} (hs:SortedC l) (c:ByteArray):fndC l c=true ↔ ∃ it ∈ l,it.Contact=c:=by
 constructor
 ·intro h
  obtain ⟨hl,hc⟩:=fndC_some h
  exact ⟨_,List.getElem_mem hl,hc⟩
 ·rintro ⟨it,hit,hc⟩
  obtain ⟨k,hk,rfl⟩:=List.getElem_of_mem hit
  exact (fndC_of hs (List.getElem?_eq_getElem hk) hc).1
def HasR (s:RosterState) (c:ByteArray) (x:ItemItem × Bool):Prop:=(x.2=true∧x.1 ∈ s.Items∧x.1.Contact=c)∨(x=(ItemItem.mk ⟨#[]⟩ ⟨#[]⟩ 0 0 false,false)∧∀ it ∈ s.Items,it.Contact≠c)
structure OkR (s:RosterState):Prop where
 full:FullN 8 s
 light:LightS s
theorem findR {s:RosterState} (h:OkR s) (c:ByteArray):∃ x,p_roster_Find s c=some x∧HasR s c x∧x.2=fndC s.Items c:=by
 have hc:=check_full h.light h.full
 obtain ⟨e,h1,_,h3⟩:=checkS_p h.light
 rw [hc] at h1
 cases h1
 have hso:=h.full.sorted
 refine ⟨_,FindS_p hc (h3 rfl) c,?_⟩
 cases hf:fndC s.Items c with
 | true =>
  obtain ⟨hl,hcc⟩:=fndC_some hf
  rw [dif_pos hl,if_pos rfl]
  exact ⟨.inl ⟨rfl,List.getElem_mem hl,hcc⟩,rfl⟩
 | false =>
  simp only [if_false,Bool.false_eq_true,dite_eq_ite,ite_self]
  refine ⟨.inr ⟨rfl,fun it hit e=>?_⟩,trivial⟩
  have:=(fnd_iff hso c).2 ⟨it,hit,e⟩
  rw [hf] at this;cases this
theorem hasR_uniq {s:RosterState} (hs:FullN 8 s) {c:ByteArray} {x y:ItemItem × Bool} (h1:HasR s c x) (h2:HasR s c y):x=y:=by
 rcases h1 with ⟨a,b,d⟩ | ⟨a,b⟩ <;> rcases h2 with ⟨a',b',d'⟩ | ⟨a',b'⟩
 ·obtain ⟨k,hk,e⟩:=List.getElem_of_mem b
  obtain ⟨j,hj,e'⟩:=List.getElem_of_mem b'
  have p:=(fndC_of hs.sorted (List.getElem?_eq_getElem hk) (c:=c) (by rw [e];exact d)).2
  have q:=(fndC_of hs.sorted (List.getElem?_eq_getElem hj) (c:=c) (by rw [e'];exact d')).2
  have:k=j:=by omega
  subst this
  exact Prod.ext (e.symm.trans e') (a.trans a'.symm)
 ·exact absurd d (b' _ b)
 ·exact absurd d' (b _ b')
 ·rw [a,a']
theorem ok_change {s:RosterState} (h:OkR s) {x:ItemItem} (hv:s.Ver < 1099511627776) (hb:isBareL x.Contact.data.toList=true) (hsz:x.Contact.size≤100) (hn:x.Name.size≤100) (hx:idleI x=false→chkI (verI x (s.Ver + 1))=0) (hroom:fndC s.Items x.Contact=false→idleI x=false→s.Items.length < 12):OkR (changeR s x):=by
 have hc:=check_full h.light h.full
 obtain ⟨e,h1,_,h3⟩:=checkS_p h.light
 rw [hc] at h1
 cases h1
 exact ⟨full_change h.full hv hb hx hroom,light_change h.light (h3 rfl) hsz hn⟩
theorem subR {s:RosterState} (h:OkR s) (hv:s.Ver < 1099511627776) {c:ByteArray} (hb:isBareL c.data.toList=true) (hsz:c.size≤100) {q:Int} (hq:subC q=0) {x:ItemItem × Bool} (hx:HasR s c x) :
  p_roster_Sub s c q=some (if x.2=false∧q≠0∧12≤s.Items.length then (s,7) else if x.1.Sub=q then (s,0) else (changeR s (ItemItem.mk c x.1.Name q x.1.Ver x.1.Own),0)):=by
 have hc:=check_full h.light h.full
 obtain ⟨y,hf,hy,_⟩:=findR h c
 have e:=hasR_uniq h.full hx hy
 subst e
 unfold p_roster_Sub p_roster_State_may
 have k1:p_addr_IsBare c=some true:=by unfold p_addr_IsBare;rw [if_pos (by omega),hb]
 have k3:=change_p h.light.items h.light.gone h.full.sorted
 rw [ownS_p h.light.small,hc,k1,hf]
 simp only [Option.bind_some,bne_self_eq_false,cond_false,cond_true,subs_p,hq,k3]
 rw [decide_eq_false (show ¬ (1099511627776:Int)≤s.Ver by omega)]
 by_cases z:q=0
 ·rw [show (q != 0)=false by simpa using z]
  simp only [cond_false,Option.bind_some,bne_self_eq_false]
  rw [if_neg (fun g=>g.2.1 z)]
  by_cases w:x.1.Sub=q
  ·rw [show (x.1.Sub == q)=true by simpa using w,if_pos w];rfl
  ·rw [show (x.1.Sub == q)=false by simpa using w,if_neg w];rfl
 ·rw [show (q != 0)=true by simpa using z]
  have tail:((bif (x.1.Sub == q) then some (s,(0:Int)) else some (changeR s (ItemItem.mk c x.1.Name q x.1.Ver x.1.Own),(0:Int))):Option (RosterState × Int))=some (if x.1.Sub=q then (s,0) else (changeR s (ItemItem.mk c x.1.Name q x.1.Ver x.1.Own),0)):=by
   by_cases w:x.1.Sub=q
   ·rw [show (x.1.Sub == q)=true by simpa using w,if_pos w];rfl
   ·rw [show (x.1.Sub == q)=false by simpa using w,if_neg w];rfl
  cases hx2:x.2 with
  | true =>
   simp only [cond_true,cond_false,Option.bind_some,bne_self_eq_false]
   rw [if_neg (fun g=>by cases g.1)]
   exact tail
  | false =>
   simp only [cond_true,cond_false]
   by_cases u:(12:Int)≤(s.Items.length:Int)
   ·rw [decide_eq_true u,if_pos ⟨trivial,z,by omega⟩];rfl
   ·rw [decide_eq_false u,if_neg (fun g=>u (by omega))]
    exact tail
end Go.Proofs.YtmmmcpeickfolaaGreat

namespace Go.Proofs.YtmmmcpeickfolaaGreat
open Go.RowKit
abbrev noneI:ItemItem × Bool:=(ItemItem.mk ⟨#[]⟩ ⟨#[]⟩ 0 0 false,false)
theorem hasR_idle {s:RosterState} (hs:SortedC s.Items) {x:ItemItem} (hi:idleI x=true):HasR (changeR s x) x.Contact noneI:=by
 refine .inr ⟨rfl,fun it h1 e=>?_⟩
 rw [items_change] at h1
 rcases (mem_items hs x _ it).1 h1 with ⟨_,g⟩ | ⟨g,_⟩
 ·exact g e
 ·rw [hi] at g;cases g
theorem hasR_put {s:RosterState} (hs:SortedC s.Items) {x:ItemItem} (hi:idleI x=false):HasR (changeR s x) x.Contact (verI x (w64 (s.Ver + 1)),true) :=
 .inl ⟨rfl,by rw [items_change];exact (mem_items hs x _ _).2 (.inr ⟨hi,rfl⟩),rfl⟩
theorem hasR_sub {s:RosterState} (hs:SortedC s.Items) (x:ItemItem):∃ y,HasR (changeR s x) x.Contact y∧y.1.Sub=x.Sub:=by
 cases hi:idleI x with
 | true=>exact ⟨_,hasR_idle hs hi,by simp only [idleI,Bool.and_eq_true,beq_iff_eq] at hi;exact hi.1.symm⟩
 | false=>exact ⟨_,hasR_put hs hi,rfl⟩
structure Chg (s:RosterState) (x:ItemItem):Prop where
 ok:OkR (changeR s x)
 bare:isBareL x.Contact.data.toList=true
theorem hasR_fine {s:RosterState} (h:OkR s) {c:ByteArray} {x:ItemItem × Bool} (hx:HasR s c x):subC x.1.Sub=0∧x.1.Name.size≤100∧plainL x.1.Name.data.toList=true∧(x.1.Own=true∨x.1.Name=⟨#[]⟩)∧x.1.Name.size≤24:=by
 rcases hx with ⟨_,q,_⟩ | ⟨q,_⟩
 ·have f:=fine_of (h.full.fine _ q).1
  exact ⟨f.sub,by have:=f.name;omega,f.plain,f.own,f.name⟩
 ·rw [q];exact ⟨rfl,Nat.zero_le _,rfl,.inr rfl,Nat.zero_le _⟩
theorem hasR_fnd {s:RosterState} (h:OkR s) {c:ByteArray} {x:ItemItem × Bool} (hx:HasR s c x):x.2=fndC s.Items c:=by
 obtain ⟨y,_,hy,e⟩:=findR h c
 rw [hasR_uniq h.full hx hy];exact e
theorem chg_of {s:RosterState} (h:OkR s) (hv:s.Ver < 1099511627776) {x:ItemItem} (hb:isBareL x.Contact.data.toList=true) (hsz:x.Contact.size≤100) (hn:x.Name.size≤24) (hp:plainL x.Name.data.toList=true) (hq:subC x.Sub=0) (ho:x.Own=true∨x.Name=⟨#[]⟩)
  (hroom:fndC s.Items x.Contact=false→idleI x=false→s.Items.length < 12):Chg s x:=by
 have hver:=h.full.ver
 refine ⟨ok_change h hv hb hsz (by omega) (fun _=>fine_to ⟨hb,hn,hp,hq,⟨by show 0≤s.Ver + 1;omega,by show s.Ver + 1≤_;omega⟩,ho⟩) hroom,hb⟩
theorem subBad {s:RosterState} (h:OkR s) {c:ByteArray} (hb:isBareL c.data.toList=true) (hsz:c.size≤100) {q:Int} (hq:subC q≠0):p_roster_Sub s c q=some (s,subC q):=by
 have hc:=check_full h.light h.full
 unfold p_roster_Sub
 have k1:p_addr_IsBare c=some true:=by unfold p_addr_IsBare;rw [if_pos (by omega),hb]
 rw [ownS_p h.light.small,hc,k1]
 simp only [Option.bind_some,bne_self_eq_false,cond_false,cond_true,subs_p,show (subC q != 0)=true by simpa using hq]
theorem subG {s:RosterState} (h:OkR s) (hv:s.Ver < 1099511627776) {c:ByteArray} (hb:isBareL c.data.toList=true) (hsz:c.size≤100) (q:Int) {x:ItemItem × Bool} (hx:HasR s c x) :
  (∃ e,e≠0∧(subC q=0→e=7)∧p_roster_Sub s c q=some (s,e))∨(subC q=0∧x.1.Sub=q∧p_roster_Sub s c q=some (s,0)) ∨
  (subC q=0∧Chg s (ItemItem.mk c x.1.Name q x.1.Ver x.1.Own)∧p_roster_Sub s c q=some (changeR s (ItemItem.mk c x.1.Name q x.1.Ver x.1.Own),0)):=by
 by_cases hq:subC q=0
 case neg=>exact .inl ⟨_,hq,fun g=>absurd g hq,subBad h hb hsz hq⟩
 have e:=subR h hv hb hsz hq hx
 by_cases g:x.2=false∧q≠0∧12≤s.Items.length
 ·rw [if_pos g] at e;exact .inl ⟨7,by decide,fun _=>rfl,e⟩
 rw [if_neg g] at e
 by_cases w:x.1.Sub=q
 ·rw [if_pos w] at e;exact .inr (.inl ⟨hq,w,e⟩)
 rw [if_neg w] at e
 obtain ⟨_,_,f3,f4,f5⟩:=hasR_fine h hx
 refine .inr (.inr ⟨hq,chg_of h hv hb hsz f5 f3 hq f4 fun hf hi=>?_,e⟩)
 rw [← hasR_fnd h hx] at hf
 rcases Nat.lt_or_ge s.Items.length 12 with l | l
 ·exact l
 ·exfalso
  by_cases z:q=0
  ·rcases hx with ⟨t,_⟩ | ⟨t,_⟩
   ·rw [t] at hf;cases hf
   ·rw [t] at hi;subst z;cases hi
  ·exact g ⟨hf,z,l⟩
theorem setG {s:RosterState} (h:OkR s) (hv:s.Ver < 1099511627776) {c n:ByteArray} (hb:isBareL c.data.toList=true) (hsz:c.size≤100) (hn:n.size≤24) (hp:plainL n.data.toList=true) {x:ItemItem × Bool} (hx:HasR s c x) :
  (∃ e,p_roster_Set s c n=some (s,e))∨(Chg s (ItemItem.mk c n x.1.Sub 0 true)∧p_roster_Set s c n=some (changeR s (ItemItem.mk c n x.1.Sub 0 true),0)):=by
 have hc:=check_full h.light h.full
 obtain ⟨y,hf,hy,_⟩:=findR h c
 have e:=hasR_uniq h.full hx hy
 subst e
 obtain ⟨f1,_⟩:=hasR_fine h hx
 have hck:p_item_Check (ItemItem.mk c n x.1.Sub 0 true)=some 0:=by
  rw [check_p (by show c.size≤100000;omega) (by show n.size≤100000;omega)]
  exact congrArg some (fine_to ⟨hb,hn,hp,f1,⟨by show (0:Int)≤0;omega,by show (0:Int)≤_;omega⟩,.inl rfl⟩)
 have k3:=change_p h.light.items h.light.gone h.full.sorted
 have main:p_roster_Set s c n=(if x.2=false∧12≤s.Items.length then some (s,7) else if x.1.Own=true∧x.1.Name=n then some (s,0) else some (changeR s (ItemItem.mk c n x.1.Sub 0 true),0)):=by
  unfold p_roster_Set p_roster_State_may
  rw [ownS_p h.light.small,hc,hf]
  simp only [Option.bind_some,bne_self_eq_false,cond_false,cond_true,hck,k3]
  rw [decide_eq_false (show ¬ (1099511627776:Int)≤s.Ver by omega)]
  by_cases w1:x.1.Own=true
  ·by_cases w2:x.1.Name=n
   ·rw [if_pos (And.intro w1 w2),w1,eqT_iff.2 w2]
    cases hx2:x.2 with
    | true=>rfl
    | false =>
     by_cases u:(12:Int)≤(s.Items.length:Int)
     ·rw [decide_eq_true u,if_pos ⟨rfl,by omega⟩];rfl
     ·rw [decide_eq_false u,if_neg (fun g=>u (by omega))];rfl
   ·have e:(x.1.Name.toList == n.toList)=false:=by rw [Bool.eq_false_iff];exact fun g=>w2 (eqT_iff.1 g)
    rw [if_neg (fun g:x.1.Own=true∧x.1.Name=n=>w2 g.2),w1,e]
    cases hx2:x.2 with
    | true=>rfl
    | false =>
     by_cases u:(12:Int)≤(s.Items.length:Int)
     ·rw [decide_eq_true u,if_pos ⟨rfl,by omega⟩];rfl
     ·rw [decide_eq_false u,if_neg (fun g=>u (by omega))];rfl
  ·have e:x.1.Own=false:=by rw [Bool.eq_false_iff];exact w1
   rw [if_neg (fun g:x.1.Own=true∧x.1.Name=n=>w1 g.1),e]
   cases hx2:x.2 with
   | true=>rfl
   | false =>
    by_cases u:(12:Int)≤(s.Items.length:Int)
    ·rw [decide_eq_true u,if_pos ⟨rfl,by omega⟩];rfl
    ·rw [decide_eq_false u,if_neg (fun g=>u (by omega))];rfl
 by_cases g:x.2=false∧12≤s.Items.length
 ·rw [if_pos g] at main;exact .inl ⟨_,main⟩
 rw [if_neg g] at main
 by_cases w:x.1.Own=true∧x.1.Name=n
 ·rw [if_pos w] at main;exact .inl ⟨_,main⟩
 rw [if_neg w] at main
 refine .inr ⟨chg_of h hv hb hsz hn hp f1 (.inl rfl) fun hf hi=>?_,main⟩
 rw [← hasR_fnd h hx] at hf
 rcases Nat.lt_or_ge s.Items.length 12 with l | l
 ·exact l
 ·exact absurd ⟨hf,l⟩ g
theorem dropG {s:RosterState} (h:OkR s) (hv:s.Ver < 1099511627776) {c:ByteArray} (hb:isBareL c.data.toList=true) (hsz:c.size≤100) {x:ItemItem × Bool} (hx:HasR s c x) :
  (x.2=false∧p_roster_Drop s c=some (s,6))∨(x.2=true∧Chg s (ItemItem.mk c ⟨#[]⟩ 0 0 false)∧p_roster_Drop s c=some (changeR s (ItemItem.mk c ⟨#[]⟩ 0 0 false),0)):=by
 have hc:=check_full h.light h.full
 have hfn:=hasR_fnd h hx
 have k3:=change_p h.light.items h.light.gone h.full.sorted
 have hl:=h.light.items
 have k4:=findC_p (s:=s) (by omega) h.full.sorted c
 have main:p_roster_Drop s c=if x.2=false then some (s,6) else some (changeR s (ItemItem.mk c ⟨#[]⟩ 0 0 false),0):=by
  unfold p_roster_Drop p_roster_State_may
  rw [ownS_p h.light.small,hc]
  simp only [Option.bind_some,bne_self_eq_false,cond_false,cond_true,k4,← hfn,k3]
  rw [decide_eq_false (show ¬ (1099511627776:Int)≤s.Ver by omega)]
  cases x.2 <;> rfl
 cases hx2:x.2 with
 | false=>rw [if_pos hx2] at main;exact .inl ⟨rfl,main⟩
 | true =>
  rw [if_neg (by rw [hx2];simp)] at main
  exact .inr ⟨rfl,chg_of h hv hb hsz (Nat.zero_le _) rfl rfl (.inr rfl) (fun hf hi=>by cases hi),main⟩
theorem chg_ver {s:RosterState} (h:OkR s) (hv:s.Ver < 1099511627776) (x:ItemItem):(changeR s x).Ver=s.Ver + 1:=by
 have:=h.full.ver
 rw [ver_change,w64_id (by omega)]
end Go.Proofs.YtmmmcpeickfolaaGreat

namespace Go.Proofs.YtmmmcpeickfolaaGreat
open Go.RowKit
def whoC (i:Nat):ByteArray:=⟨#[UInt8.ofNat (97 + i),64,104,111,109,101]⟩
theorem lt14 {i:Nat} (h:i < 14):i=0∨i=1∨i=2∨i=3∨i=4∨i=5∨i=6∨i=7∨i=8∨i=9∨i=10∨i=11∨i=12∨i=13:=by omega
theorem who_p {i:Nat} (h:i < 14) {K:Int} (hK:Int.tmod K 14=(i:Int)):p_law21_who K=some (whoC i):=by
 unfold p_law21_who
 rw [hK]
 rcases lt14 h with rfl | rfl | rfl | rfl | rfl | rfl | rfl | rfl | rfl | rfl | rfl | rfl | rfl | rfl <;> kernel_rfl
theorem who_bare {i:Nat} (h:i < 14):isBareL (whoC i).data.toList=true:=by
 rcases lt14 h with rfl | rfl | rfl | rfl | rfl | rfl | rfl | rfl | rfl | rfl | rfl | rfl | rfl | rfl <;> kernel_rfl
theorem who_sz (i:Nat):(whoC i).size≤100:=by show 6≤100;omega
theorem tmod_nat {K:Int} (h:0≤K) (n:Nat) (hn:0 < n):∃ i:Nat,i < n∧Int.tmod K n=(i:Int):=by
 obtain ⟨k,rfl⟩ : ∃ k:Nat,K=k:=⟨K.toNat,by omega⟩
 exact ⟨k % n,Nat.mod_lt _ hn,rfl⟩
theorem aaa_p {K:Int} (h:0≤K):∃ s:ByteArray,sub? (⟨#[65,97,97]⟩ : ByteArray) none (some (Int.tmod K (4:Int)))=some s∧s.size≤24∧plainL s.data.toList=true:=by
 obtain ⟨i,hi,e⟩:=tmod_nat h 4 (by decide)
 have e' : Int.tmod K 4=(i:Int):=e
 rw [e']
 have:i=0∨i=1∨i=2∨i=3:=by omega
 rcases this with rfl | rfl | rfl | rfl
 ·exact ⟨⟨#[]⟩,by kernel_rfl,by decide,by kernel_rfl⟩
 ·exact ⟨⟨#[65]⟩,by kernel_rfl,by decide,by kernel_rfl⟩
 ·exact ⟨⟨#[65,97]⟩,by kernel_rfl,by decide,by kernel_rfl⟩
 ·exact ⟨⟨#[65,97,97]⟩,by kernel_rfl,by decide,by kernel_rfl⟩
structure DeedOk (d:Law21Deed):Prop where
 kind:0≤d.Kind
 who:0≤d.Who
 name:0≤d.Name
structure Left1 (s s' : RosterState) (c:ByteArray):Prop where
 out:s'=s∨∃ x:ItemItem,x.Contact=c∧Chg s x∧s'=changeR s x
theorem Left1.ok {s s' : RosterState} {c:ByteArray} (h:Left1 s s' c) (hs:OkR s):OkR s':=by
 rcases h.out with e | ⟨x,_,hc,e⟩
 ·rw [e];exact hs
 ·rw [e];exact hc.ok
theorem Left1.ver {s s' : RosterState} {c:ByteArray} (h:Left1 s s' c) (hs:OkR s) (hv:s.Ver < 1099511627776):s.Ver≤s'.Ver∧s'.Ver≤s.Ver + 1:=by
 rcases h.out with e | ⟨x,_,hc,e⟩
 ·rw [e];omega
 ·rw [e,chg_ver hs hv x];omega
theorem Left1.items {s s' : RosterState} {c:ByteArray} (h:Left1 s s' c) (hs:OkR s):∀ it ∈ s'.Items,it ∈ s.Items∨it.Contact=c:=by
 rcases h.out with e | ⟨x,hx,_,e⟩
 ·rw [e];exact fun it h=>.inl h
 ·rw [e]
  intro it hit
  rw [items_change] at hit
  rcases (mem_items hs.full.sorted x _ it).1 hit with ⟨g,_⟩ | ⟨_,g⟩
  ·exact .inl g
  ·exact .inr (by rw [g];exact hx)
theorem sub14 {s:RosterState} (h:OkR s) (hv:s.Ver < 1099511627776) {i:Nat} (hi:i < 14) (q:Int) {x:ItemItem × Bool} (hx:HasR s (whoC i) x) :
  ∃ s' e,p_roster_Sub s (whoC i) q=some (s',e)∧Left1 s s' (whoC i)∧(e≠0→s'=s)∧(e≠0→subC q=0→e=7)∧(e=0→subC q=0∧∃ y,HasR s' (whoC i) y∧y.1.Sub=q):=by
 rcases subG h hv (who_bare hi) (who_sz i) q hx with ⟨e,e0,e1,e2⟩ | ⟨e0,e1,e2⟩ | ⟨e0,e1,e2⟩
 ·exact ⟨_,_,e2,⟨.inl rfl⟩,fun _=>rfl,fun _=>e1,fun g=>absurd g e0⟩
 ·exact ⟨_,_,e2,⟨.inl rfl⟩,fun _=>rfl,fun g=>absurd rfl g,fun _=>⟨e0,x,hx,e1⟩⟩
 ·refine ⟨_,_,e2,⟨.inr ⟨_,rfl,e1,rfl⟩⟩,fun g=>absurd rfl g,fun g=>absurd rfl g,fun _=>⟨e0,?_⟩⟩
  obtain ⟨y,y1,y2⟩:=hasR_sub h.full.sorted (ItemItem.mk (whoC i) x.1.Name q x.1.Ver x.1.Own)
  exact ⟨y,y1,y2⟩
theorem drop14 {s:RosterState} (h:OkR s) (hv:s.Ver < 1099511627776) {i:Nat} (hi:i < 14) {x:ItemItem × Bool} (hx:HasR s (whoC i) x) :
  ∃ s' e,p_roster_Drop s (whoC i)=some (s',e)∧Left1 s s' (whoC i)∧(e≠0→s'=s)∧(e=0→HasR s' (whoC i) noneI):=by
 rcases dropG h hv (who_bare hi) (who_sz i) hx with ⟨_,e2⟩ | ⟨_,e1,e2⟩
 ·exact ⟨_,_,e2,⟨.inl rfl⟩,fun _=>rfl,fun g=>(by cases g)⟩
 ·exact ⟨_,_,e2,⟨.inr ⟨_,rfl,e1,rfl⟩⟩,fun g=>absurd rfl g,fun _=>hasR_idle h.full.sorted (x:=ItemItem.mk (whoC i) ⟨#[]⟩ 0 0 false) rfl⟩
theorem set14 {s:RosterState} (h:OkR s) (hv:s.Ver < 1099511627776) {i:Nat} (hi:i < 14) {n:ByteArray} (hn:n.size≤24) (hp:plainL n.data.toList=true) {x:ItemItem × Bool} (hx:HasR s (whoC i) x) :
  ∃ s' e,p_roster_Set s (whoC i) n=some (s',e)∧Left1 s s' (whoC i)∧∃ y,HasR s' (whoC i) y∧y.1.Sub=x.1.Sub:=by
 rcases setG h hv (who_bare hi) (who_sz i) hn hp hx with ⟨e,e2⟩ | ⟨e1,e2⟩
 ·exact ⟨_,_,e2,⟨.inl rfl⟩,x,hx,rfl⟩
 ·refine ⟨_,_,e2,⟨.inr ⟨_,rfl,e1,rfl⟩⟩,?_⟩
  obtain ⟨y,y1,y2⟩:=hasR_sub h.full.sorted (ItemItem.mk (whoC i) n x.1.Sub 0 true)
  exact ⟨y,y1,y2⟩
theorem done14 {s:RosterState} (h:OkR s) (hv:s.Ver < 1099511627776) {d:Law21Deed} (hd:DeedOk d) {i:Nat} (hi:i < 14) (hw:Int.tmod d.Who 14=(i:Int)) {x:ItemItem × Bool} (hx:HasR s (whoC i) x) :
  ∃ s',p_law21_done s d=some s'∧Left1 s s' (whoC i)∧((Int.tmod d.Kind 4 == 2)=false→(Int.tmod d.Kind 4 == 3)=false→∃ y,HasR s' (whoC i) y∧y.1.Sub=x.1.Sub):=by
 unfold p_law21_done
 rw [who_p hi hw]
 simp only [Option.bind_some]
 cases h2:(Int.tmod d.Kind 4 == 2) with
 | true =>
  obtain ⟨s',e,e1,e2,_⟩:=sub14 h hv hi (w64 (Int.tmod d.Name 16)) hx
  exact ⟨s',by rw [e1];rfl,e2,fun g=>(by cases g)⟩
 | false =>
  cases h3:(Int.tmod d.Kind 4 == 3) with
  | true =>
   obtain ⟨s',e,e1,e2,_⟩:=drop14 h hv hi hx
   exact ⟨s',by rw [e1];rfl,e2,fun _ g=>(by cases g)⟩
  | false =>
   obtain ⟨n,n1,n2,n3⟩:=aaa_p hd.name
   obtain ⟨s',e,e1,e2,e3⟩:=set14 h hv hi n2 n3 hx
   exact ⟨s',by rw [n1,Option.bind_some,e1];rfl,e2,fun _ _=>e3⟩
theorem some_l (l:List ItemItem) (hn:l.length≤1000) (q:ItemItem→Bool) (f:ItemItem→Option Bool) (hf:∀ x ∈ l,f x=some (q x)):∀ (n k F:Nat) (acc:List ItemItem),k + n=l.length→n < F→acc.length≤k →
  p_roster_State_some_l1 f l (l.length:Int) F acc (k:Int)=some (acc++(l.drop k).filter q,(l.length:Int))
 | 0,k,F + 1,acc,hk,hF,ha=>by
  rw [p_roster_State_some_l1,lt_ff (by omega),show k=l.length by omega,List.drop_length];simp
 | n + 1,k,F + 1,acc,hk,hF,ha=>by
  have hlt:k < l.length:=by omega
  rw [p_roster_State_some_l1,lt_tt hlt,cond_true,at_lt hlt,Option.bind_some,hf _ (List.getElem_mem hlt),Option.bind_some,w64_succ (by omega),drop_at hlt,List.filter_cons]
  cases q l[k] with
  | true =>
   rw [cond_true,app_ok (by simp;omega),Option.bind_some,some_l l hn q f hf n (k + 1) F _ (by omega) (by omega) (by simp;omega)]
   simp
  | false =>
   rw [cond_false,some_l l hn q f hf n (k + 1) F _ (by omega) (by omega) (by omega)]
   simp
theorem some_p {s:RosterState} (h:OkR s) (q:ItemItem→Bool) (f:ItemItem→Option Bool) (hf:∀ x ∈ s.Items,f x=some (q x)):p_roster_State_some s f=some (s.Items.filter q):=by
 have hi:=h.full.items
 unfold p_roster_State_some
 rw [check_full h.light h.full]
 have e:=some_l s.Items (by omega) q f hf s.Items.length 0 fuel [] (by omega) (by have:=fuel_pos;omega) (Nat.zero_le _)
 rw [List.drop_zero,List.nil_append] at e
 have e' : p_roster_State_some_l1 f s.Items (s.Items.length:Int) fuel [] (0:Int)=_:=e
 simp only [Option.bind_some,bne_self_eq_false,cond_false]
 rw [e'];rfl
end Go.Proofs.YtmmmcpeickfolaaGreat

namespace Go.Proofs.YtmmmcpeickfolaaGreat
open Go.RowKit
abbrev cmpI (x y:ItemItem):Int:=Lib.compareBytes x.Contact.data.toList y.Contact.data.toList
theorem lessI_iff (x y:ItemItem):lessI x y=true ↔ cmpI x y < 0∨(cmpI x y=0∧x.Ver < y.Ver):=by
 unfold lessI
 simp
theorem cmpI_eq {x y:ItemItem} (h:cmpI x y=0):x.Contact.data.toList=y.Contact.data.toList:=cmp_eq0 h
theorem lessI_asymm {x y:ItemItem} (h:lessI x y=true):lessI y x=false:=by
 rw [← Bool.not_eq_true]
 intro h2
 rw [lessI_iff] at h h2
 have e:cmpI y x=- cmpI x y:=cmp_anti _ _
 rw [e] at h2
 omega
theorem lessI_neg {x y z:ItemItem} (h1:lessI x y=false) (h2:lessI y z=false):lessI x z=false:=by
 rw [← Bool.not_eq_true] at h1 h2 ⊢
 intro h
 rw [lessI_iff] at h1 h2 h
 have e1:cmpI y x=- cmpI x y:=cmp_anti _ _
 have e3:cmpI z x=- cmpI x z:=cmp_anti _ _
 rcases Int.lt_trichotomy (cmpI x y) 0 with c | c | c
 ·exact h1 (.inl c)
 ·have hc:=cmpI_eq c
  have e:cmpI y z=cmpI x z:=by show Lib.compareBytes _ _=Lib.compareBytes _ _;rw [hc]
  rw [e] at h2
  rcases h with h | ⟨h,hv⟩
  ·exact h2 (.inl h)
  ·rcases Int.lt_or_le x.Ver y.Ver with k | k
   ·exact h1 (.inr ⟨c,k⟩)
   ·exact h2 (.inr ⟨h,by omega⟩)
 ·have c' : cmpI y x < 0:=by omega
  rcases h with h | ⟨h,hv⟩
  ·exact h2 (.inl (cmp_trans c' h))
  ·have hc:=cmpI_eq h
   have e:cmpI y z=cmpI y x:=by show Lib.compareBytes _ _=Lib.compareBytes _ _;rw [hc]
   exact h2 (.inl (by rw [e];exact c'))
theorem insR_perm (x:ItemItem):∀ l,(insR x l).Perm (x :: l)
 | []=>.refl _
 | y :: ys=>by
  unfold insR
  split
  ·exact ((insR_perm x ys).cons y).trans (.swap _ _ _)
  ·exact .refl _
theorem insR_srt {x:ItemItem}:∀ {l:List ItemItem},l.Pairwise (fun a b=>lessI a b=false)→(insR x l).Pairwise (fun a b=>lessI a b=false)
 | [],_=>by unfold insR;simp
 | y :: ys,h=>by
  obtain ⟨h1,h2⟩:=List.pairwise_cons.1 h
  unfold insR
  split
  ·rename_i hl
   refine List.pairwise_cons.2 ⟨fun z hz=>?_,insR_srt h2⟩
   rcases List.mem_cons.1 ((insR_perm x ys).mem_iff.1 hz) with rfl | hz
   ·exact lessI_asymm hl
   ·exact h1 z hz
  ·rename_i hl
   rw [Bool.not_eq_true] at hl
   refine List.pairwise_cons.2 ⟨fun z hz=>?_,h⟩
   rcases List.mem_cons.1 hz with rfl | hz
   ·exact hl
   ·exact lessI_neg hl (h1 z hz)
theorem sortR_perm:∀ (l acc:List ItemItem),(sortR acc l).Perm (acc++l)
 | [],acc=>by rw [sortR,List.append_nil]
 | x :: l,acc=>by
  rw [sortR]
  refine (sortR_perm l _).trans ?_
  refine ((insR_perm x acc).append_right l).trans ?_
  exact List.perm_middle.symm
theorem sortR_srt:∀ (l:List ItemItem) {acc:List ItemItem},acc.Pairwise (fun a b=>lessI a b=false)→(sortR acc l).Pairwise (fun a b=>lessI a b=false)
 | [],_,h=>h
 | _ :: l,_,h=>sortR_srt l (insR_srt h)
theorem sortI_perm (l:List ItemItem):(sortI l).Perm l:=(List.reverse_perm _).trans (by have:=sortR_perm l [];rwa [List.nil_append] at this)
theorem sortI_srt (l:List ItemItem):(sortI l).Pairwise (fun a b=>lessI b a=false):=by
 unfold sortI
 rw [List.pairwise_reverse]
 exact sortR_srt l .nil
end Go.Proofs.YtmmmcpeickfolaaGreat

namespace Go.Proofs.YtmmmcpeickfolaaGreat
open Go.RowKit
theorem trim_facts (v fl:Int) (l:List ItemItem) (g:List RosterGone):(∀ y ∈ g,y ∈ (trimR v fl l g).Gone∨(trimR v fl l g).Floor=y.Ver)∧((trimR v fl l g).Floor=fl∨∃ y ∈ g,(trimR v fl l g).Floor=y.Ver):=by
 unfold trimR
 cases g with
 | nil=>exact ⟨fun y hy=>.inl hy,.inl rfl⟩
 | cons a r =>
  dsimp only
  split
  ·refine ⟨fun y hy=>?_,.inr ⟨a,List.mem_cons_self ..,rfl⟩⟩
   rcases List.mem_cons.1 hy with e | e
   ·exact .inr (by rw [e])
   ·exact .inl e
  ·exact ⟨fun y hy=>.inl hy,.inl rfl⟩
theorem gone_in {s:RosterState} {x:ItemItem} {v:Int} {g:RosterGone} (h:g ∈ goneR s x v):g ∈ s.Gone∨g=RosterGone.mk x.Contact v:=by
 unfold goneR at h
 rcases List.mem_append.1 h with q | q
 ·exact .inl (List.mem_filter.1 q).1
 ·split at q
  ·exact .inr (List.mem_singleton.1 q)
  ·cases q
theorem floor_change {s:RosterState} (h:OkR s) (hv:s.Ver < 1099511627776) (x:ItemItem):s.Floor≤(changeR s x).Floor:=by
 have hver:=h.full.ver
 have hfl:=h.full.floor
 have w:w64 (s.Ver + 1)=s.Ver + 1:=w64_id (by omega)
 unfold changeR
 rw [w]
 rcases (trim_facts (s.Ver + 1) s.Floor (itemsR s x (s.Ver + 1)) (goneR s x (s.Ver + 1))).2 with e | ⟨y,hy,e⟩
 ·rw [e];exact Int.le_refl _
 ·rw [e]
  rcases gone_in hy with q | q
  ·have:=(h.full.glow y q).1;omega
  ·rw [q];show s.Floor≤s.Ver + 1;omega
theorem gone_change {s:RosterState} (hver:0≤s.Ver∧s.Ver < 1099511627776) (x:ItemItem):∀ g ∈ goneR s x (s.Ver + 1),g ∈ (changeR s x).Gone∨(changeR s x).Floor=g.Ver:=by
 have w:w64 (s.Ver + 1)=s.Ver + 1:=w64_id (by omega)
 unfold changeR
 rw [w]
 exact (trim_facts _ _ _ _).1
theorem Left1.floor {s s' : RosterState} {c:ByteArray} (h:Left1 s s' c) (hs:OkR s) (hv:s.Ver < 1099511627776):s.Floor≤s'.Floor:=by
 rcases h.out with e | ⟨x,_,_,e⟩
 ·rw [e];exact Int.le_refl _
 ·rw [e];exact floor_change hs hv x
theorem was_of {s:RosterState} (hs:SortedC s.Items) {x jt:ItemItem} (hj:jt ∈ s.Items) (hc:jt.Contact=x.Contact) (hl:listedI jt=true):wasR s x=true:=by
 obtain ⟨k,hk,e⟩:=List.getElem_of_mem hj
 have hg:s.Items[k]?=some jt:=by rw [List.getElem?_eq_getElem hk,e]
 obtain ⟨f1,f2⟩:=fndC_of hs hg hc
 unfold wasR
 rw [f2,hg,f1]
 show (true && listedI jt)=true
 rw [hl];rfl
theorem listed_idle {x:ItemItem} (h:listedI x=true):idleI x=false:=by
 cases hi:idleI x with
 | false=>rfl
 | true =>
  simp only [idleI,Bool.and_eq_true,beq_iff_eq,Bool.not_eq_true'] at hi
  unfold listedI at h
  rw [hi.1,hi.2] at h
  cases h
structure Ev (S T:RosterState):Prop where
 s:OkR S
 t:OkR T
 ver:S.Ver≤T.Ver
 old:∀ it ∈ T.Items,it.Ver≤S.Ver→it ∈ S.Items
 keep:T.Floor≤S.Ver→∀ it ∈ S.Items,listedI it=true→it ∈ T.Items∨(∃ jt ∈ T.Items,jt.Contact=it.Contact∧S.Ver < jt.Ver∧listedI jt=true)∨(∃ g ∈ T.Gone,g.Contact=it.Contact∧S.Ver < g.Ver)
theorem Ev.refl {S:RosterState} (h:OkR S):Ev S S:=⟨h,h,Int.le_refl _,fun _ h _=>h,fun _ _ h _=>.inl h⟩
theorem Ev.step {S T T' : RosterState} (h:Ev S T) (hv:T.Ver < 1099511627776) {c:ByteArray} (hl:Left1 T T' c):Ev S T':=by
 rcases hl.out with e | ⟨x,_,hc,e⟩
 ·rw [e];exact h
 subst e
 have hso:=h.t.full.sorted
 have hver:=h.t.full.ver
 have hsv:=h.ver
 have w:w64 (T.Ver + 1)=T.Ver + 1:=w64_id (by omega)
 have hm:=fun it=>mem_items hso x (T.Ver + 1) it
 have hit:(changeR T x).Items=itemsR T x (T.Ver + 1):=by rw [items_change,w]
 have hvr:=chg_ver h.t hv x
 refine ⟨h.s,hc.ok,by rw [hvr];omega,fun it h1 h2=>?_,fun hF it h1 h2=>?_⟩
 ·rw [hit] at h1
  rcases (hm it).1 h1 with ⟨q,_⟩ | ⟨_,q⟩
  ·exact h.old it q h2
  ·rw [q] at h2
   have:T.Ver + 1≤S.Ver:=h2
   omega
 have hF2:T.Floor≤S.Ver:=Int.le_trans (floor_change h.t hv x) hF
 have gc:=gone_change (s:=T) ⟨hver.1,hv⟩ x
 have new:listedI x=true→x.Contact=it.Contact→∃ jt ∈ (changeR T x).Items,jt.Contact=it.Contact∧S.Ver < jt.Ver∧listedI jt=true:=fun q1 q2 =>
  ⟨verI x (T.Ver + 1),by rw [hit];exact (hm _).2 (.inr ⟨listed_idle q1,rfl⟩),q2,by show S.Ver < T.Ver + 1;omega,q1⟩
 have out:wasR T x=true→listedI x=false→x.Contact=it.Contact→∃ g ∈ (changeR T x).Gone,g.Contact=it.Contact∧S.Ver < g.Ver:=fun q1 q2 q3=>by
  have hg:RosterGone.mk x.Contact (T.Ver + 1) ∈ goneR T x (T.Ver + 1):=by
   unfold goneR
   rw [q1,q2]
   exact List.mem_append.2 (.inr (List.mem_singleton.2 rfl))
  rcases gc _ hg with r | r
  ·exact ⟨_,r,q3,by show S.Ver < T.Ver + 1;omega⟩
  ·have r' : (changeR T x).Floor=T.Ver + 1:=r
   omega
 have main:∀ jt ∈ T.Items,jt.Contact=it.Contact→listedI jt=true→jt.Contact=x.Contact→(∃ jt ∈ (changeR T x).Items,jt.Contact=it.Contact∧S.Ver < jt.Ver∧listedI jt=true)∨(∃ g ∈ (changeR T x).Gone,g.Contact=it.Contact∧S.Ver < g.Ver):=fun jt q1 q2 q3 q4=>by
  have hw:=was_of hso q1 q4 q3
  cases hx:listedI x with
  | true=>exact .inl (new hx (q4.symm.trans q2))
  | false=>exact .inr (out hw hx (q4.symm.trans q2))
 rcases h.keep hF2 it h1 h2 with q | ⟨jt,q1,q2,q3,q4⟩ | ⟨g,q1,q2,q3⟩
 ·by_cases e:it.Contact=x.Contact
  ·exact .inr (main it q rfl h2 e)
  ·exact .inl (by rw [hit];exact (hm _).2 (.inl ⟨q,e⟩))
 ·by_cases e:jt.Contact=x.Contact
  ·exact .inr (main jt q1 q2 q4 e)
  ·exact .inr (.inl ⟨jt,by rw [hit];exact (hm _).2 (.inl ⟨q1,e⟩),q2,q3,q4⟩)
 ·cases hk:(!(g.Contact.toList == x.Contact.toList) || !(listedI x || wasR T x)) with
  | true =>
   have hg:g ∈ goneR T x (T.Ver + 1):=by
    unfold goneR
    exact List.mem_append.2 (.inl (List.mem_filter.2 ⟨q1,hk⟩))
   rcases gc _ hg with r | r
   ·exact .inr (.inr ⟨g,r,q2,q3⟩)
   ·omega
  | false =>
   simp only [Bool.or_eq_false_iff,Bool.not_eq_false'] at hk
   have e:g.Contact=x.Contact:=eqT_iff.1 hk.1
   cases hx:listedI x with
   | true=>exact .inr (.inl (new hx (e.symm.trans q2)))
   | false =>
    rw [hx,Bool.false_or] at hk
    exact .inr (.inr (out hk.2 hx (e.symm.trans q2)))
theorem listed_pp (x:ItemItem):p_item_Listed x=some (listedI x):=by
 unfold p_item_Listed listedI
 rw [has_p]
 cases x.Own <;> rfl
theorem listedR {s:RosterState} (h:OkR s):p_roster_Listed s=some (s.Items.filter listedI):=by
 unfold p_roster_Listed
 rw [some_p h listedI _ fun x _=>listed_pp x];rfl
theorem since_l (l:List RosterGone) (hn:l.length≤1000) (v:Int):∀ (n k F:Nat) (acc:List RosterGone),k + n=l.length→n < F→acc.length≤k →
  p_roster_Since_l1 l (l.length:Int) v F acc (k:Int)=some (acc++(l.drop k).filter (fun g=>decide (v < g.Ver)),(l.length:Int))
 | 0,k,F + 1,acc,hk,hF,ha=>by
  rw [p_roster_Since_l1,lt_ff (by omega),show k=l.length by omega,List.drop_length];simp
 | n + 1,k,F + 1,acc,hk,hF,ha=>by
  have hlt:k < l.length:=by omega
  rw [p_roster_Since_l1,lt_tt hlt,cond_true,at_lt hlt,Option.bind_some,w64_succ (by omega),drop_at hlt,List.filter_cons]
  unfold p_roster_Gone_newer
  rw [Option.bind_some]
  cases decide (v < l[k].Ver) with
  | true =>
   rw [cond_true,app_ok (by simp;omega),Option.bind_some,since_l l hn v n (k + 1) F _ (by omega) (by omega) (by simp;omega)]
   simp
  | false =>
   rw [cond_false,since_l l hn v n (k + 1) F _ (by omega) (by omega) (by omega)]
   simp
theorem sinceR {s:RosterState} (h:OkR s) (v:Int) (hv:v≤s.Ver):p_roster_Since s v=some (if v < s.Floor then (s.Items.filter listedI,[],true) else (s.Items.filter (fun x=>decide (v < x.Ver) && listedI x),s.Gone.filter (fun g=>decide (v < g.Ver)),false)):=by
 have hg:=h.full.gone
 unfold p_roster_Since
 rw [decide_eq_false (show ¬ s.Ver < v by omega),listedR h,check_full h.light h.full]
 by_cases q:v < s.Floor
 ·rw [decide_eq_true q,if_pos q];rfl
 ·rw [decide_eq_false q,if_neg q]
  have e:=since_l s.Gone (by omega) v s.Gone.length 0 fuel [] (by omega) (by have:=fuel_pos;omega) (Nat.zero_le _)
  rw [List.drop_zero,List.nil_append] at e
  have e' : p_roster_Since_l1 s.Gone (s.Gone.length:Int) v fuel [] (0:Int)=_:=e
  have e2:=some_p h (fun x=>decide (v < x.Ver) && listedI x) (fun x0=>p_roster_Since_1 x0 v) fun x _=>by
   show p_roster_Since_1 x v=_
   unfold p_roster_Since_1
   rw [listed_pp]
   cases decide (v < x.Ver) <;> rfl
  simp only [cond_false,Option.bind_some,bne_self_eq_false]
  rw [e',e2];rfl
theorem pw_same {α:Type} {R:α→α→Prop} (hi:∀ x,¬ R x x) (ha:∀ x y,R x y→¬ R y x):∀ {l m:List α},l.Pairwise R→m.Pairwise R→(∀ x,x ∈ l ↔ x ∈ m)→l=m
 | [],[],_,_,_=>rfl
 | [],y :: m,_,_,h=>absurd ((h y).2 (List.mem_cons_self ..)) (by simp)
 | x :: l,[],_,_,h=>absurd ((h x).1 (List.mem_cons_self ..)) (by simp)
 | x :: l,y :: m,h1,h2,h=>by
  obtain ⟨a1,a2⟩:=List.pairwise_cons.1 h1
  obtain ⟨b1,b2⟩:=List.pairwise_cons.1 h2
  have e:x=y:=by
   rcases List.mem_cons.1 ((h x).1 (List.mem_cons_self ..)) with e | e
   ·exact e
   rcases List.mem_cons.1 ((h y).2 (List.mem_cons_self ..)) with f | f
   ·exact f.symm
   ·exact absurd (b1 x e) (ha x y (a1 y f))
  subst e
  refine congrArg (x :: ·) (pw_same hi ha a2 b2 fun z=>⟨fun hz=>?_,fun hz=>?_⟩)
  ·rcases List.mem_cons.1 ((h z).1 (List.mem_cons_of_mem _ hz)) with e | e
   ·rw [e] at hz;exact absurd (a1 x hz) (hi x)
   ·exact e
  ·rcases List.mem_cons.1 ((h z).2 (List.mem_cons_of_mem _ hz)) with e | e
   ·rw [e] at hz;exact absurd (b1 x hz) (hi x)
   ·exact e
abbrev cmpC (a b:ItemItem):Prop:=Lib.compareBytes a.Contact.data.toList b.Contact.data.toList < 0
theorem cmpC_i (x:ItemItem):¬ cmpC x x:=by show ¬ Lib.compareBytes _ _ < 0;rw [cmp_refl];omega
theorem cmpC_a (x y:ItemItem) (h:cmpC x y):¬ cmpC y x:=by
 show ¬ Lib.compareBytes _ _ < 0
 rw [cmp_anti x.Contact.data.toList y.Contact.data.toList]
 have:Lib.compareBytes x.Contact.data.toList y.Contact.data.toList < 0:=h
 omega
theorem cont_eq {x y:ItemItem} (h:x.Contact.data.toList=y.Contact.data.toList):x.Contact=y.Contact:=eqT_iff.1 (by rw [tl_data,tl_data,h];simp)
theorem sort_is {now want:List ItemItem} (h1:now.Pairwise fun a b=>a.Contact≠b.Contact) (h2:want.Pairwise cmpC) (h:∀ x,x ∈ now ↔ x ∈ want):sortI now=want:=by
 have hp:=sortI_perm now
 refine pw_same cmpC_i cmpC_a ?_ h2 fun x=>(hp.mem_iff).trans (h x)
 have a1:=sortI_srt now
 have a2:(sortI now).Pairwise fun a b=>a.Contact≠b.Contact:=(hp.pairwise_iff (fun {x y} (g:x.Contact≠y.Contact) e=>g e.symm)).2 h1
 refine (a1.and a2).imp fun {a b} hab=>?_
 obtain ⟨q1,q2⟩:=hab
 have n1:¬ Lib.compareBytes b.Contact.data.toList a.Contact.data.toList < 0:=fun g=>by
  unfold lessI at q1
  rw [decide_eq_true g] at q1;cases q1
 have n2:¬ Lib.compareBytes b.Contact.data.toList a.Contact.data.toList=0:=fun g=>q2 (cont_eq (cmp_eq0 g)).symm
 exact cmp_swap (by omega)
def staysB (ch:List ItemItem) (lf:List RosterGone) (it:ItemItem):Bool:=(lf.all fun g=>!(g.Contact.toList == it.Contact.toList)) && (ch.all fun x=>!(x.Contact.toList == it.Contact.toList))
theorem stays_iff {ch:List ItemItem} {lf:List RosterGone} {it:ItemItem}:staysB ch lf it=true ↔ (∀ g ∈ lf,g.Contact≠it.Contact)∧∀ x ∈ ch,x.Contact≠it.Contact:=by
 have e:∀ (a b:ByteArray),((!(a.toList == b.toList))=true) ↔ a≠b:=fun a b=>by
  constructor
  ·intro h g
   rw [eqT_iff.2 g] at h;cases h
  ·intro h
   cases hb:(a.toList == b.toList) with
   | false=>rfl
   | true=>exact absurd (eqT_iff.1 hb) h
 unfold staysB
 simp only [Bool.and_eq_true,List.all_eq_true,e]
theorem replay_set {S T:RosterState} (h:Ev S T) (hF:T.Floor≤S.Ver):sortI ((S.Items.filter listedI).filter (staysB (T.Items.filter fun x=>decide (S.Ver < x.Ver) && listedI x) (T.Gone.filter fun g=>decide (S.Ver < g.Ver)))++(T.Items.filter fun x=>decide (S.Ver < x.Ver) && listedI x))=T.Items.filter listedI:=by
 refine sort_is ?_ (h.t.full.cont.sublist List.filter_sublist) fun x=>?_
 ·have d:∀ {l:List ItemItem},l.Pairwise cmpC→l.Pairwise fun a b=>a.Contact≠b.Contact:=fun hl=>hl.imp fun {a b} hab e=>by
   have:Lib.compareBytes a.Contact.data.toList b.Contact.data.toList < 0:=hab
   rw [e,cmp_refl] at this;omega
  refine List.pairwise_append.2 ⟨d (h.s.full.cont.sublist (List.filter_sublist.trans List.filter_sublist)),d (h.t.full.cont.sublist List.filter_sublist),fun a ha b hb e=>?_⟩
  exact (stays_iff.1 (List.mem_filter.1 ha).2).2 b hb e.symm
 ·simp only [List.mem_append,List.mem_filter,stays_iff,Bool.and_eq_true,decide_eq_true_eq]
  constructor
  ·rintro (⟨⟨q1,q2⟩,q3,q4⟩ | ⟨q1,_,q2⟩)
   ·rcases h.keep hF x q1 q2 with r | ⟨jt,r1,r2,r3,r4⟩ | ⟨g,r1,r2,r3⟩
    ·exact ⟨r,q2⟩
    ·exact absurd r2 (q4 jt ⟨r1,r3,r4⟩)
    ·exact absurd r2 (q3 g ⟨r1,r3⟩)
   ·exact ⟨q1,q2⟩
  ·rintro ⟨q1,q2⟩
   by_cases hx:S.Ver < x.Ver
   ·exact .inr ⟨q1,hx,q2⟩
   ·refine .inl ⟨⟨h.old x q1 (by omega),q2⟩,fun g hg e=>?_,fun jt hj e=>hx ?_⟩
    ·have:=(h.t.full.went g hg.1 x q1).2 e.symm
     rw [q2] at this;cases this
    ·have:=hasR_uniq h.t.full (c:=x.Contact) (x:=(jt,true)) (y:=(x,true)) (.inl ⟨rfl,hj.1,e⟩) (.inl ⟨rfl,q1,rfl⟩)
     have e2:jt=x:=congrArg Prod.fst this
     rw [← e2];exact hj.2.1
theorem replay_full {T:RosterState} (h:OkR T):sortI ((T.Items.filter listedI).filter (staysB (T.Items.filter listedI) [])++T.Items.filter listedI)=T.Items.filter listedI:=by
 have e:(T.Items.filter listedI).filter (staysB (T.Items.filter listedI) [])=[]:=by
  rw [List.filter_eq_nil_iff]
  intro x hx hs
  exact (stays_iff.1 hs).2 x hx rfl
 rw [e,List.nil_append]
 refine sort_is ?_ (h.full.cont.sublist List.filter_sublist) fun _=>Iff.rfl
 exact (h.full.cont.sublist List.filter_sublist).imp fun {a b} hab e=>by
  have:Lib.compareBytes a.Contact.data.toList b.Contact.data.toList < 0:=hab
  rw [e,cmp_refl] at this;omega
theorem stays_l3 (kp:List ItemItem) (lf:List RosterGone) (k:Nat) (hk:k < kp.length) (hn:lf.length≤1000):∀ (n j F:Nat) (b:Bool),j + n=lf.length→n < F→p_law21_RosterReplay_l3 kp lf (k:Int) F b (j:Int)=some (b && (lf.drop j).all (fun g=>!(g.Contact.toList == kp[k].Contact.toList)),(lf.length:Int))
 | 0,j,F + 1,b,hj,hF=>by
  rw [p_law21_RosterReplay_l3,lt_ff (by omega),show j=lf.length by omega,List.drop_length];simp
 | n + 1,j,F + 1,b,hj,hF=>by
  have hlt:j < lf.length:=by omega
  rw [p_law21_RosterReplay_l3,lt_tt hlt,cond_true,at_lt hlt,at_lt hk]
  simp only [Option.bind_some]
  rw [w64_succ (by omega),stays_l3 kp lf k hk hn n (j + 1) F _ (by omega) (by omega),stays_l3 kp lf k hk hn n (j + 1) F _ (by omega) (by omega),drop_at hlt,List.all_cons]
  cases b <;> rfl
theorem stays_l4 (kp ch:List ItemItem) (k:Nat) (hk:k < kp.length) (hn:ch.length≤1000):∀ (n j F:Nat) (b:Bool),j + n=ch.length→n < F→p_law21_RosterReplay_l4 kp ch (k:Int) F b (j:Int)=some (b && (ch.drop j).all (fun g=>!(g.Contact.toList == kp[k].Contact.toList)),(ch.length:Int))
 | 0,j,F + 1,b,hj,hF=>by
  rw [p_law21_RosterReplay_l4,lt_ff (by omega),show j=ch.length by omega,List.drop_length];simp
 | n + 1,j,F + 1,b,hj,hF=>by
  have hlt:j < ch.length:=by omega
  rw [p_law21_RosterReplay_l4,lt_tt hlt,cond_true,at_lt hlt,at_lt hk]
  simp only [Option.bind_some]
  rw [w64_succ (by omega),stays_l4 kp ch k hk hn n (j + 1) F _ (by omega) (by omega),stays_l4 kp ch k hk hn n (j + 1) F _ (by omega) (by omega),drop_at hlt,List.all_cons]
  cases b <;> rfl
theorem stays_l2 (kp ch:List ItemItem) (lf:List RosterGone) (hk0:kp.length≤1000) (hc:ch.length≤1000) (hl:lf.length≤1000):∀ (n k F:Nat) (acc:List ItemItem),k + n=kp.length→n < F→acc.length≤k→p_law21_RosterReplay_l2 kp ch lf F acc (k:Int)=some (acc++(kp.drop k).filter (staysB ch lf),(kp.length:Int))
 | 0,k,F + 1,acc,hk,hF,ha=>by
  rw [p_law21_RosterReplay_l2,lt_ff (by omega),show k=kp.length by omega,List.drop_length];simp
 | n + 1,k,F + 1,acc,hk,hF,ha=>by
  have hlt:k < kp.length:=by omega
  have e3:=stays_l3 kp lf k hlt hl lf.length 0 fuel true (by omega) (by have:=fuel_pos;omega)
  have e3' : p_law21_RosterReplay_l3 kp lf (k:Int) fuel true (0:Int)=_:=e3
  have e4:=fun b=>stays_l4 kp ch k hlt hc ch.length 0 fuel b (by omega) (by have:=fuel_pos;omega)
  have e4' : ∀ b,p_law21_RosterReplay_l4 kp ch (k:Int) fuel b (0:Int)=_:=e4
  rw [p_law21_RosterReplay_l2,lt_tt hlt,cond_true,e3',Option.bind_some,e4',Option.bind_some,at_lt hlt,w64_succ (by omega),drop_at hlt,List.filter_cons]
  simp only [List.drop_zero,Bool.true_and]
  have es:((lf.all fun g=>!(g.Contact.toList == kp[k].Contact.toList)) && (ch.all fun x=>!(x.Contact.toList == kp[k].Contact.toList)))=staysB ch lf kp[k]:=rfl
  rw [es]
  cases staysB ch lf kp[k] with
  | true =>
   simp only [cond_true,Option.bind_some]
   rw [app_ok (by simp;omega),Option.bind_some,stays_l2 kp ch lf hk0 hc hl n (k + 1) F _ (by omega) (by omega) (by simp;omega)]
   simp
  | false =>
   simp only [cond_false]
   rw [stays_l2 kp ch lf hk0 hc hl n (k + 1) F _ (by omega) (by omega) (by omega)]
   simp
theorem same_l5 (z:List ItemItem) (hn:z.length≤1000):∀ (n k F:Nat),k + n=z.length→n < F→p_law21_RosterReplay_l5 z z F (k:Int)=some (.inr (z.length:Int))
 | 0,k,F + 1,hk,hF=>by
  rw [p_law21_RosterReplay_l5,lt_ff (by omega),show k=z.length by omega];rfl
 | n + 1,k,F + 1,hk,hF=>by
  have hlt:k < z.length:=by omega
  rw [p_law21_RosterReplay_l5,lt_tt hlt,cond_true,at_lt hlt]
  simp only [Option.bind_some,eqT_refl,beq_self_eq_true,Bool.and_self,Bool.and_true,cond_true]
  rw [w64_succ (by omega),same_l5 z hn n (k + 1) F (by omega) (by omega)]
theorem replay_l1 {l:List Law21Deed} (hl:l.length≤60) (hd:∀ d ∈ l,DeedOk d) {m:Nat} (hm:m≤l.length):∀ (n k F:Nat) (kept:List ItemItem) (ver:Int) (st:RosterState),k + n=l.length→n < F→OkR st→st.Ver≤k→(m < k→∃ S,kept=S.Items.filter listedI∧ver=S.Ver∧Ev S st) →
  ∃ S T,p_law21_RosterReplay_l1 l (m:Int) F kept ver (k:Int) st=some (.inl (S.Items.filter listedI,S.Ver,(l.length:Int),T))∧Ev S T:=by
 intro n
 induction n with
 | zero =>
  intro k F kept ver st hk hF hs hv hin
  obtain ⟨F,rfl⟩ : ∃ G,F=G + 1:=⟨F - 1,by omega⟩
  have e:k=l.length:=by omega
  subst e
  rw [p_law21_RosterReplay_l1,decide_eq_true (Int.le_refl _),cond_true]
  by_cases q:l.length=m
  ·subst q
   refine ⟨st,st,?_,.refl hs⟩
   simp only [beq_self_eq_true,cond_true,listedR hs,Option.bind_some]
  ·obtain ⟨S,e1,e2,e3⟩:=hin (by omega)
   refine ⟨S,st,?_,e3⟩
   rw [show ((l.length:Int) == (m:Int))=false by simpa using fun h:(l.length:Int)=m=>q (by omega)]
   simp only [beq_self_eq_true,cond_true,cond_false,Option.bind_some,e1,e2]
 | succ n ih =>
  intro k F kept ver st hk hF hs hv hin
  obtain ⟨F,rfl⟩ : ∃ G,F=G + 1:=⟨F - 1,by omega⟩
  have hlt:k < l.length:=by omega
  have hdk:=hd _ (List.getElem_mem hlt)
  obtain ⟨i,hi,hw⟩:=tmod_nat hdk.who 14 (by decide)
  obtain ⟨x,_,hx,_⟩:=findR hs (whoC i)
  have hv2:st.Ver < 1099511627776:=by omega
  obtain ⟨s',e1,e2,_⟩:=done14 hs hv2 hdk hi hw hx
  have ok':=e2.ok hs
  have hvr:=e2.ver hs hv2
  have hfl:=e2.floor hs hv2
  have hver:=hs.full.ver
  have hit:=ok'.full.items
  have tail:∀ (kp:List ItemItem) (vr:Int),(m < k + 1→∃ S,kp=S.Items.filter listedI∧vr=S.Ver∧Ev S s')→∃ S T,p_law21_RosterReplay_l1 l (m:Int) F kp vr ((k + 1:Nat):Int) s'=some (.inl (S.Items.filter listedI,S.Ver,(l.length:Int),T))∧Ev S T:=fun kp vr h=>ih (k + 1) F kp vr s' (by omega) (by omega) ok' (by omega) h
  have key:∃ kp vr,(m < k + 1→∃ S,kp=S.Items.filter listedI∧vr=S.Ver∧Ev S s')∧p_law21_RosterReplay_l1 l (m:Int) (F + 1) kept ver (k:Int) st=p_law21_RosterReplay_l1 l (m:Int) F kp vr ((k + 1:Nat):Int) s':=by
   rw [p_law21_RosterReplay_l1,decide_eq_true (show (k:Int)≤(l.length:Int) by omega),cond_true]
   have rest:∀ (kp:List ItemItem) (vr:Int),(bif ((k:Int) == (l.length:Int)) then some (.inl (kp,vr,(k:Int),st)) else
     (at? l (k:Int)).bind fun x23=>(p_law21_done st x23).bind fun v24=>(p_roster_Check v24).bind fun v25 =>
     bif (v25 != (0:Int)) then some (.inr false) else
     bif (decide (v24.Ver < st.Ver)) then some (.inr false) else
     bif (decide (w64 (st.Ver + (1:Int)) < v24.Ver)) then some (.inr false) else
     bif (decide (v24.Floor < st.Floor)) then some (.inr false) else
     bif (decide ((12:Int) < (v24.Items.length:Int))) then some (.inr false) else
     p_law21_RosterReplay_l1 l (m:Int) F kp vr (w64 ((k:Int) + (1:Int))) v24)=p_law21_RosterReplay_l1 l (m:Int) F kp vr ((k + 1:Nat):Int) s':=fun kp vr=>by
    rw [show ((k:Int) == (l.length:Int))=false by simpa using fun h:(k:Int)=l.length=>absurd h (by omega),cond_false,at_lt hlt,Option.bind_some,e1,Option.bind_some,check_full ok'.light ok'.full,Option.bind_some,w64_id (show -9223372036854775808≤st.Ver + 1∧st.Ver + 1≤9223372036854775807 by omega),decide_eq_false (show ¬ s'.Ver < st.Ver by omega),decide_eq_false (show ¬ st.Ver + 1 < s'.Ver by omega),decide_eq_false (show ¬ s'.Floor < st.Floor by omega),decide_eq_false (show ¬ (12:Int) < (s'.Items.length:Int) by omega),w64_succ (by omega)]
    rfl
   by_cases q:k=m
   ·refine ⟨st.Items.filter listedI,st.Ver,fun _=>⟨st,rfl,rfl,(Ev.refl hs).step hv2 e2⟩,?_⟩
    rw [show ((k:Int) == (m:Int))=true by rw [q];simp,cond_true,listedR hs]
    exact rest _ _
   ·refine ⟨kept,ver,fun h=>?_,?_⟩
    ·obtain ⟨S,g1,g2,g3⟩:=hin (by omega)
     exact ⟨S,g1,g2,g3.step hv2 e2⟩
    ·rw [show ((k:Int) == (m:Int))=false by simpa using fun h:(k:Int)=m=>q (by omega),cond_false]
     exact rest _ _
  obtain ⟨kp,vr,g1,g2⟩:=key
  rw [g2]
  exact tail kp vr g1
theorem rosterReplay_pure (haw:p_law21_awake=some true) (l:List Law21Deed) (a1:Int) (h1:0≤a1∧a1≤255) (hd:∀ d ∈ l,DeedOk d):p_law21_RosterReplay l a1=some true:=by
 unfold p_law21_RosterReplay
 by_cases h:(60:Int) < (l.length:Int)
 ·rw [decide_eq_true h,haw];rfl
 rw [decide_eq_false h,cond_false]
 have hl:l.length≤60:=by omega
 have w1:w64 ((l.length:Int) + 1)=((l.length + 1:Nat):Int):=w64_succ (by omega)
 have w2:w64 a1=a1:=w64_id (by omega)
 have n0:ne0? ((l.length + 1:Nat):Int)=some ():=by unfold ne0?;rw [if_pos (by omega)]
 obtain ⟨m,hm,em⟩:=tmod_nat h1.1 (l.length + 1) (by omega)
 have ok0:OkR (RosterState.mk 0 0 [] []):=⟨⟨Nat.zero_le _,Nat.zero_le _,⟨by decide,by decide⟩,⟨by decide,by decide⟩,(by simp),(by simp),(by simp),.nil,.nil,(by simp),.nil,.nil,(by simp)⟩,⟨Nat.zero_le _,Nat.zero_le _,(by simp),(by simp)⟩⟩
 obtain ⟨S,T,e,hE⟩:=replay_l1 hl hd (m:=m) (by omega) l.length 0 fuel [] 0 (RosterState.mk 0 0 [] []) (by omega) (by have:=fuel_pos;omega) ok0 (Int.le_refl _) (fun h=>absurd h (Nat.not_lt_zero _))
 have e' : p_law21_RosterReplay_l1 l (m:Int) fuel [] (0:Int) (0:Int) (RosterState.mk 0 0 [] [])=_:=e
 rw [w1,w2,n0,em]
 simp only [Option.bind_some]
 rw [e']
 simp only [Option.bind_some]
 have hTi:=hE.t.full.items
 have hTg:=hE.t.full.gone
 have hSi:=hE.s.full.items
 have fin:∀ (kp ch:List ItemItem) (lf:List RosterGone),kp.length≤12→ch.length≤12→lf.length≤12→sortI (kp.filter (staysB ch lf)++ch)=T.Items.filter listedI→((p_law21_RosterReplay_l2 kp ch lf fuel [] (0:Int)).bind fun q104 =>
   (app? q104.1 ch).bind fun l105 =>
   (p_item_Sort l105).bind fun v106 =>
   (p_roster_Listed T).bind fun v107 =>
   bif ((v106.length:Int) != (v107.length:Int)) then some false else
   (p_law21_RosterReplay_l5 v106 v107 fuel (0:Int)).bind fun o120=>match o120 with
   | .inl q121=>some q121
   | .inr q122=>(p_law21_awake).bind fun v123=>some v123)=some true:=fun kp ch lf k1 k2 k3 hs=>by
  have e2:=stays_l2 kp ch lf (by omega) (by omega) (by omega) kp.length 0 fuel [] (by omega) (by have:=fuel_pos;omega) (Nat.zero_le _)
  rw [List.drop_zero,List.nil_append] at e2
  have e2' : p_law21_RosterReplay_l2 kp ch lf fuel [] (0:Int)=_:=e2
  have f1:=List.length_filter_le (staysB ch lf) kp
  have f2:=List.length_filter_le listedI T.Items
  have hlen:(kp.filter (staysB ch lf)++ch).length≤20:=by
   rw [← sortI_len,hs];omega
  have e5:=same_l5 (T.Items.filter listedI) (by omega) (T.Items.filter listedI).length 0 fuel (by omega) (by have:=fuel_pos;omega)
  have e5' : p_law21_RosterReplay_l5 (T.Items.filter listedI) (T.Items.filter listedI) fuel (0:Int)=_:=e5
  rw [e2']
  simp only [Option.bind_some]
  rw [app_ok (by rw [List.length_append] at hlen;omega),Option.bind_some,sort_p _ hlen,Option.bind_some,listedR hE.t,Option.bind_some,hs,bne_self_eq_false,cond_false,e5',haw]
  rfl
 have g1:=List.length_filter_le listedI S.Items
 have g2:=List.length_filter_le listedI T.Items
 have g3:=List.length_filter_le (fun x:ItemItem=>decide (S.Ver < x.Ver) && listedI x) T.Items
 have g4:=List.length_filter_le (fun g:RosterGone=>decide (S.Ver < g.Ver)) T.Gone
 rw [sinceR hE.t S.Ver hE.ver]
 by_cases q:S.Ver < T.Floor
 ·rw [if_pos q]
  simp only [Option.bind_some,cond_true]
  exact fin _ _ _ (by omega) (by omega) (Nat.zero_le _) (replay_full hE.t)
 ·rw [if_neg q]
  simp only [Option.bind_some,cond_false]
  exact fin _ _ _ (by omega) (by omega) (by omega) (replay_set hE (by omega))
end Go.Proofs.YtmmmcpeickfolaaGreat


