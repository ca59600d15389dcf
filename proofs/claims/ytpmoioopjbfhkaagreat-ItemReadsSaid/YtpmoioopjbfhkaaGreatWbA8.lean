/- A part of the proof: 6 texts joined. -/
import Derived.Test.YtpmoioopjbfhkaaGreatWbA7
import Derived.KernelRfl
import Derived.Test.YtpmoioopjbfhkaaGreatWbA6
import Derived.Lib.AppendZerosOnto
import Derived.Lib.SliceRun
set_option linter.all false
/- Parts of an own list: l[a:], l[:a]. -/
namespace Go.Proofs.YtpmoioopjbfhkaaGreat
open Go.RowKit
theorem slE_c {α β:Type} {r:β} {l:List α} {i es n:Nat} {lo:Int} {X:List α→Option β} {k:V→Prop} (H:(cut? l (some lo) none).bind X=some r) (hn:n=l.length)
  (h1:∀ x a,x=l.drop a→a < l.length→X x=some r→k (.osl i (0 + a * es) (l.length - a) es false)) (h2:X []=some r→k (.sl [] false)):SlO i 0 n es (some lo) none k:=by
 subst hn
 obtain ⟨x,hx,H⟩:=bind_c H
 unfold cut? at hx
 split at hx
 ·rename_i h0
  simp only [Option.some.injEq,Option.getD_some,Option.getD_none] at hx h0
  have e:(l.drop lo.toNat).take ((l.length:Int).toNat - lo.toNat)=l.drop lo.toNat:=List.take_of_length_le (by simp)
  rw [e] at hx
  rcases Int.lt_or_le lo l.length with h | h
  ·have:=h1 x lo.toNat hx.symm (by omega) H
   refine ⟨by simpa using h0.1,by simpa using h0.2.1,by simp,.inl ⟨.inl (by simpa using h),?_⟩⟩
   simpa using this
  ·have hl:lo.toNat=l.length:=by omega
   rw [hl,List.drop_length] at hx
   subst hx
   exact ⟨by simpa using h0.1,by simpa using h0.2.1,by simp,.inr ⟨by simp;omega,h2 H⟩⟩
 ·cases hx
theorem slP_c {α β:Type} {r:β} {l:List α} {i es n:Nat} {hi:Int} {X:List α→Option β} {k:V→Prop} (H:(cut? l none (some hi)).bind X=some r) (hn:n=l.length)
  (h1:∀ x a,x=l.take a→a≤l.length→X x=some r→k (.osl i 0 a es false)):SlO i 0 n es none (some hi) k:=by
 subst hn
 obtain ⟨x,hx,H⟩:=bind_c H
 unfold cut? at hx
 split at hx
 ·rename_i h0
  simp only [Option.some.injEq,Option.getD_some,Option.getD_none] at hx h0
  have e:(l.drop (0:Int).toNat).take (hi.toNat - (0:Int).toNat)=l.take hi.toNat:=by simp
  rw [e] at hx
  have:=h1 x hi.toNat hx.symm (by omega) H
  refine ⟨by simp,by simpa using h0.2.1,by simpa using h0.2.2,.inl ⟨.inr rfl,?_⟩⟩
  simpa using this
 ·cases hx
theorem cells_cut {α:Type} {f:α→V} {es:Nat} (hes:∀ a,(f a).cells.length=es) (l:List α) (i:Nat) (hi:i≤l.length):cellsM f (l.take i)=(cellsM f l).take (i * es)∧cellsM f (l.drop i)=(cellsM f l).drop (i * es) :=
 cellsM_take hes l i hi
theorem srcDrop {α:Type} {f:α→V} {st:List Slot} {es i fz:Nat} (hes:∀ a,(f a).cells.length=es) {l x:List α} {cs:List V} {fu:Bool} {a:Nat} (hi:st[i]?=some (.live cs fz)) (hc:cs=cellsM f l) (hx:x=l.drop a) (ha:a < l.length) :
  SrcV st es (.osl i (0 + a * es) (l.length - a) es fu) x.length (cellsM f x) [i]:=by
 subst hc hx
 have hl:=cellsM_len hes l
 have hm:(l.length - a) * es=l.length * es - a * es:=Nat.sub_mul _ _ _
 have hle:a * es≤l.length * es:=Nat.mul_le_mul_right _ (by omega)
 have:=SrcV.osl (off:=0 + a * es) (n:=l.length - a) (es:=es) (f:=fu) hi (by rw [hl];omega)
 have e:((cellsM f l).drop (0 + a * es)).take ((l.length - a) * es)=cellsM f (l.drop a):=by
  rw [(cells_cut hes l a (by omega)).2,Nat.zero_add]
  exact List.take_of_length_le (by rw [List.length_drop,hl];omega)
 rw [e] at this
 rwa [List.length_drop]
theorem srcTake {α:Type} {f:α→V} {st:List Slot} {es i fz:Nat} (hes:∀ a,(f a).cells.length=es) {l x:List α} {cs:List V} {fu:Bool} {a:Nat} (hi:st[i]?=some (.live cs fz)) (hc:cs=cellsM f l) (hx:x=l.take a) (ha:a≤l.length) :
  SrcV st es (.osl i 0 a es fu) x.length (cellsM f x) [i]:=by
 subst hc hx
 have hl:=cellsM_len hes l
 have hle:a * es≤l.length * es:=Nat.mul_le_mul_right _ ha
 have:=SrcV.osl (off:=0) (n:=a) (es:=es) (f:=fu) hi (by rw [hl];omega)
 rw [List.drop_zero,← (cells_cut hes l a ha).1] at this
 rwa [List.length_take,Nat.min_eq_left ha]
end Go.Proofs.YtpmoioopjbfhkaaGreat

/- Plain functions (written by a program of mine). -/
namespace Go.Proofs.YtpmoioopjbfhkaaGreat
open Go.RowKit
def p_ref20_Light (a0:ItemItem):Option (Bool) :=
 bif (decide ((a0.Contact.size:Int)≤(100:Int))) then
  some (decide ((a0.Name.size:Int)≤(100:Int)))
 else
 some false
def p_subs_Check (a0:Int):Option (Int) :=
 bif (decide (a0 < (0:Int))) then
  some (8:Int)
 else
 bif (decide ((15:Int) < a0)) then
  some (8:Int)
 else
 bif ((andI .i64 a0 (5:Int)) == (5:Int)) then
  some (4:Int)
 else
 bif ((andI .i64 a0 (10:Int)) == (10:Int)) then
  some (4:Int)
 else
 some (0:Int)
def p_item_Check (a0:ItemItem):Option (Int) :=
 (p_addr_IsBare a0.Contact).bind fun v1 =>
 bif v1 then
  bif (decide ((24:Int) < (a0.Name.size:Int))) then
   some (5:Int)
  else
  (p_utf_Plain a0.Name).bind fun v4 =>
  bif v4 then
   (p_subs_Check a0.Sub).bind fun v6 =>
   bif (v6 != (0:Int)) then
    some v6
   else
   bif (decide (a0.Ver < (0:Int))) then
    some (8:Int)
   else
   bif (decide ((1099511627776:Int) < a0.Ver)) then
    some (8:Int)
   else
   bif (a0.Name.toList == (⟨#[]⟩ : ByteArray).toList) then
    some (0:Int)
   else
   bif a0.Own then
    some (0:Int)
   else
   some (4:Int)
  else
  some (11:Int)
 else
 some (11:Int)
def p_octet_Say (a0:ByteArray) (a1:Int):Option ((List Int) × Int) :=
 bif (decide ((if (255:Int) < a1 then (255:Int) else a1) < (a0.size:Int))) then
  some ([],(5:Int))
 else
 (app? [IntKind.wrap .u8 (a0.size:Int)] (bytesI a0)).bind fun l2 =>
 some (l2,(0:Int))
def p_octet_wide (a0:Int):Option (Bool) :=
 bif (a0 == (1:Int)) then
  some true
 else
 bif (a0 == (2:Int)) then
  some true
 else
 bif (a0 == (4:Int)) then
  some true
 else
 bif (a0 == (6:Int)) then
  some true
 else
 some false
def p_octet_Lay_l1 (a1:Int) (z15:Int) (z16:Int) (z18:Int):Nat→Int→(List Int)→Option ((Int × (List Int)))
 | 0,_,_=>none
 | n + 1,y19,y20 =>
  bif (decide (y19 < z18)) then
   (pos? (w64 ((8:Int) * y19))).bind fun x22 =>
   (arr? (Int.toNat a1) y20 (w64 (w64 (z16 - (1:Int)) - y19))).bind fun x23 =>
   p_octet_Lay_l1 a1 z15 z16 z18 n (w64 (y19 + (1:Int))) (List.set y20 (Int.toNat (w64 (w64 (z16 - (1:Int)) - y19))) (IntKind.wrap .u8 (shrI .i64 z15 (w64 ((8:Int) * y19)))))
  else
  some (y19,y20)
def p_octet_Lay (a0:Int) (a1:Int):Option ((List Int) × Int) :=
 (p_octet_wide a1).bind fun v1 =>
 bif v1 then
  bif (decide (a0 < (0:Int))) then
   some ([],(8:Int))
  else
  (pos? (w64 ((8:Int) * a1))).bind fun x4 =>
  bif ((shrI .i64 a0 (w64 ((8:Int) * a1))) != (0:Int)) then
   some ([],(8:Int))
  else
  (mk? a1 (0:Int)).bind fun l6 =>
  (p_octet_Lay_l1 a1 a0 a1 a1 fuel (0:Int) l6).bind fun q26 =>
  (lenG? (Int.toNat a1) q26.2).bind fun _ =>
  some (q26.2,(0:Int))
 else
 some ([],(2:Int))
def p_slices_Concat_byte_l1 (z9:List (List Int)) (z10:Int):Nat→Int→Int→Option ((Int × Int))
 | 0,_,_=>none
 | n + 1,y8,y11 =>
  bif (decide (y11 < z10)) then
   (at? z9 y11).bind fun x13 =>
   bif (decide (w64 (y8 + (x13.length:Int)) < (0:Int))) then
    none
   else
   p_slices_Concat_byte_l1 z9 z10 n (w64 (y8 + (x13.length:Int))) (w64 (y11 + (1:Int)))
  else
  some (y8,y11)
def p_slices_Concat_byte_l2 (z23:List (List Int)) (z24:Int):Nat→(List Int)→Int→Option (((List Int) × Int))
 | 0,_,_=>none
 | n + 1,y22,y25 =>
  bif (decide (y25 < z24)) then
   (at? z23 y25).bind fun x27 =>
   (app? y22 x27).bind fun l28 =>
   p_slices_Concat_byte_l2 z23 z24 n l28 (w64 (y25 + (1:Int)))
  else
  some (y22,y25)
def p_slices_Concat_byte (a0:List (List Int)):Option ((List Int)) :=
 (p_slices_Concat_byte_l1 a0 (a0.length:Int) fuel (0:Int) (0:Int)).bind fun q16 =>
 (grow? q16.1).bind fun _ =>
 (p_slices_Concat_byte_l2 a0 (a0.length:Int) fuel ([]:List Int) (0:Int)).bind fun q30 =>
 some q30.1
def p_item_Put (a0:ItemItem):Option (ByteArray × Int) :=
 (p_item_Check a0).bind fun v1 =>
 bif (v1 != (0:Int)) then
  some ((⟨#[]⟩ : ByteArray),v1)
 else
 bif a0.Own then
  (p_octet_Say a0.Contact (33:Int)).bind fun v4 =>
  (p_octet_Say a0.Name (24:Int)).bind fun v5 =>
  (p_octet_Lay a0.Ver (6:Int)).bind fun v6 =>
  (p_slices_Concat_byte [v4.1,v5.1,[IntKind.wrap .u8 (orI .i64 a0.Sub (16:Int))],v6.1]).bind fun v7 =>
  (text? v7).bind fun s8 =>
  some (s8,(0:Int))
 else
 (p_octet_Say a0.Contact (33:Int)).bind fun v9 =>
 (p_octet_Say a0.Name (24:Int)).bind fun v10 =>
 (p_octet_Lay a0.Ver (6:Int)).bind fun v11 =>
 (p_slices_Concat_byte [v9.1,v10.1,[IntKind.wrap .u8 a0.Sub],v11.1]).bind fun v12 =>
 (text? v12).bind fun s13 =>
 some (s13,(0:Int))
def p_ref19_of (a0:Int):Option (Ref19Four) :=
 some (Ref19Four.mk ((Int.tmod a0 (2:Int)) == (1:Int)) ((Int.tmod (w64 (Int.tdiv a0 (2:Int))) (2:Int)) == (1:Int)) ((Int.tmod (w64 (Int.tdiv a0 (4:Int))) (2:Int)) == (1:Int)) ((Int.tmod (w64 (Int.tdiv a0 (8:Int))) (2:Int)) == (1:Int)))
def p_ref19_Check (a0:Int):Option (Int) :=
 bif (decide (a0 < (0:Int))) then
  some (8:Int)
 else
 bif (decide ((15:Int) < a0)) then
  some (8:Int)
 else
 (p_ref19_of a0).bind fun v3 =>
 bif v3.to then
  bif v3.ask then
   some (4:Int)
  else
  bif v3.from_ then
   bif v3.wait then
    some (4:Int)
   else
   some (0:Int)
  else
  some (0:Int)
 else
 bif v3.from_ then
  bif v3.wait then
   some (4:Int)
  else
  some (0:Int)
 else
 some (0:Int)
def p_ref20_Check (a0:ItemItem):Option (Int) :=
 (p_ref09_IsBare a0.Contact).bind fun v1 =>
 bif v1 then
  bif (decide ((24:Int) < (a0.Name.size:Int))) then
   some (5:Int)
  else
  (p_ref02_Plain a0.Name).bind fun v4 =>
  bif v4 then
   (p_ref19_Check a0.Sub).bind fun v6 =>
   bif (v6 != (0:Int)) then
    (p_ref19_Check a0.Sub).bind fun v8 =>
    some v8
   else
   bif (decide (a0.Ver < (0:Int))) then
    some (8:Int)
   else
   bif (decide ((1099511627776:Int) < a0.Ver)) then
    some (8:Int)
   else
   bif (a0.Name.toList == (⟨#[]⟩ : ByteArray).toList) then
    some (0:Int)
   else
   bif a0.Own then
    some (0:Int)
   else
   some (4:Int)
  else
  some (11:Int)
 else
 some (11:Int)
def p_ref01_Say (a0:ByteArray) (a1:Int):Option ((List Int) × Int) :=
 bif (decide (a1 < (a0.size:Int))) then
  some ([],(5:Int))
 else
 bif (decide ((255:Int) < (a0.size:Int))) then
  some ([],(5:Int))
 else
 (app? [IntKind.wrap .u8 (a0.size:Int)] (bytesI a0)).bind fun l3 =>
 some (l3,(0:Int))
def p_ref01_wide (a0:Int):Option (Bool) :=
 bif (a0 == (1:Int)) then
  some true
 else
 bif (a0 == (2:Int)) then
  some true
 else
 bif (a0 == (4:Int)) then
  some true
 else
 some (a0 == (6:Int))
def p_ref01_Lay_l1 (z11:Int):Nat→Int→(List Int)→Int→Option ((Int × (List Int) × Int))
 | 0,_,_,_=>none
 | n + 1,y10,y12,y13 =>
  bif (decide (y13 < z11)) then
   (app? [IntKind.wrap .u8 (Int.tmod y10 (256:Int))] y12).bind fun l15 =>
   p_ref01_Lay_l1 z11 n (w64 (Int.tdiv y10 (256:Int))) l15 (w64 (y13 + (1:Int)))
  else
  some (y10,y12,y13)
def p_ref01_Lay (a0:Int) (a1:Int):Option ((List Int) × Int) :=
 (p_ref01_wide a1).bind fun v1 =>
 bif v1 then
  bif (decide (a0 < (0:Int))) then
   some ([],(8:Int))
  else
  (p_ref01_Lay_l1 a1 fuel a0 [] (0:Int)).bind fun q17 =>
  bif (decide ((0:Int) < q17.1)) then
   some ([],(8:Int))
  else
  some (q17.2.1,(0:Int))
 else
 some ([],(2:Int))
def p_ref20_Put (a0:ItemItem):Option (ByteArray × Int) :=
 (p_ref20_Check a0).bind fun v1 =>
 bif (v1 != (0:Int)) then
  (p_ref20_Check a0).bind fun v3 =>
  some ((⟨#[]⟩ : ByteArray),v3)
 else
 (p_ref01_Say a0.Contact (33:Int)).bind fun v4 =>
 (p_ref01_Say a0.Name (24:Int)).bind fun v5 =>
 bif a0.Own then
  (p_ref01_Lay a0.Ver (6:Int)).bind fun v7 =>
  (text? v4.1).bind fun s8 =>
  (text? v5.1).bind fun s9 =>
  (cat? s8 s9).bind fun s10 =>
  (text? [IntKind.wrap .u8 (w64 (a0.Sub + (16:Int)))]).bind fun s11 =>
  (cat? s10 s11).bind fun s12 =>
  (text? v7.1).bind fun s13 =>
  (cat? s12 s13).bind fun s14 =>
  some (s14,(0:Int))
 else
 (p_ref01_Lay a0.Ver (6:Int)).bind fun v15 =>
 (text? v4.1).bind fun s16 =>
 (text? v5.1).bind fun s17 =>
 (cat? s16 s17).bind fun s18 =>
 (text? [IntKind.wrap .u8 a0.Sub]).bind fun s19 =>
 (cat? s18 s19).bind fun s20 =>
 (text? v15.1).bind fun s21 =>
 (cat? s20 s21).bind fun s22 =>
 some (s22,(0:Int))
def p_item_Item_has (a0:ItemItem) (a1:Int):Option (Bool) :=
 (p_subs_Check a0.Sub).bind fun v1 =>
 bif (v1 == (0:Int)) then
  some ((andI .i64 a0.Sub a1) != (0:Int))
 else
 some false
def p_item_Listed (a0:ItemItem):Option (Bool) :=
 bif a0.Own then
  some true
 else
 (p_item_Item_has a0 (7:Int)).bind fun v2 =>
 some v2
def p_ref20_has (a0:ItemItem) (a1:Int):Option (Bool) :=
 (p_ref19_Check a0.Sub).bind fun v1 =>
 bif (v1 == (0:Int)) then
  (ne0? a1).bind fun x3 =>
  some ((Int.tmod (w64 (Int.tdiv a0.Sub a1)) (2:Int)) == (1:Int))
 else
 some false
def p_ref20_Listed (a0:ItemItem):Option (Bool) :=
 bif a0.Own then
  some true
 else
 (p_ref20_has a0 (1:Int)).bind fun v2 =>
 bif v2 then
  some true
 else
 (p_ref20_has a0 (2:Int)).bind fun v4 =>
 bif v4 then
  some true
 else
 (p_ref20_has a0 (4:Int)).bind fun v6 =>
 some v6
def p_item_Idle (a0:ItemItem):Option (Bool) :=
 bif (a0.Sub == (0:Int)) then
  some (!a0.Own)
 else
 some false
def p_ref20_Idle (a0:ItemItem):Option (Bool) :=
 bif a0.Own then
  some false
 else
 some (a0.Sub == (0:Int))
def p_item_Sees (a0:ItemItem):Option (Bool) :=
 (p_item_Item_has a0 (1:Int)).bind fun v1 =>
 some v1
def p_ref20_Sees (a0:ItemItem):Option (Bool) :=
 (p_ref20_has a0 (1:Int)).bind fun v1 =>
 some v1
def p_item_Seen (a0:ItemItem):Option (Bool) :=
 (p_item_Item_has a0 (2:Int)).bind fun v1 =>
 some v1
def p_ref20_Seen (a0:ItemItem):Option (Bool) :=
 (p_ref20_has a0 (2:Int)).bind fun v1 =>
 some v1
def p_item_Push (a0:ItemItem):Option (StanzaStanza) :=
 (p_item_Check a0).bind fun v1 =>
 bif (v1 != (0:Int)) then
  some (StanzaStanza.mk (0:Int) (⟨#[]⟩ : ByteArray) (⟨#[]⟩ : ByteArray) (⟨#[]⟩ : ByteArray) (0:Int) (0:Int) (0:Int) (0:Int))
 else
 (p_item_Listed a0).bind fun v3 =>
 bif v3 then
  some (StanzaStanza.mk (38:Int) a0.Contact (⟨#[]⟩ : ByteArray) a0.Name (andNotI .i64 a0.Sub (8:Int)) (0:Int) (0:Int) a0.Ver)
 else
 some (StanzaStanza.mk (39:Int) a0.Contact (⟨#[]⟩ : ByteArray) (⟨#[]⟩ : ByteArray) (0:Int) (0:Int) (0:Int) a0.Ver)
def p_ref20_Push (a0:ItemItem):Option (StanzaStanza) :=
 (p_ref20_Check a0).bind fun v1 =>
 bif (v1 != (0:Int)) then
  some (StanzaStanza.mk (0:Int) (⟨#[]⟩ : ByteArray) (⟨#[]⟩ : ByteArray) (⟨#[]⟩ : ByteArray) (0:Int) (0:Int) (0:Int) (0:Int))
 else
 (p_ref20_Listed a0).bind fun v3 =>
 bif v3 then
  some (StanzaStanza.mk (38:Int) a0.Contact (⟨#[]⟩ : ByteArray) a0.Name (Int.tmod a0.Sub (8:Int)) (0:Int) (0:Int) a0.Ver)
 else
 some (StanzaStanza.mk (39:Int) a0.Contact (⟨#[]⟩ : ByteArray) (⟨#[]⟩ : ByteArray) (0:Int) (0:Int) (0:Int) a0.Ver)
def p_cmp_isNaN_int_ (a0:Int):Option (Bool) :=
 some (a0 != a0)
def p_cmp_Compare_int_ (a0:Int) (a1:Int):Option (Int) :=
 (p_cmp_isNaN_int_ a0).bind fun v1 =>
 (p_cmp_isNaN_int_ a1).bind fun v2 =>
 bif v1 then
  bif v2 then
   some (0:Int)
  else
  some (-1:Int)
 else
 bif v2 then
  some (1:Int)
 else
 bif (decide (a0 < a1)) then
  some (-1:Int)
 else
 bif (decide (a1 < a0)) then
  some (1:Int)
 else
 some (0:Int)
def p_cmp_Or_int__l1 (z6:List Int) (z7:Int):Nat→Int→Option (Int ⊕ Int)
 | 0,_=>none
 | n + 1,y8 =>
  bif (decide (y8 < z7)) then
   (at? z6 y8).bind fun x10 =>
   bif (x10 != (0:Int)) then
    some (.inl x10)
   else
   p_cmp_Or_int__l1 z6 z7 n (w64 (y8 + (1:Int)))
  else
  some (.inr y8)
def p_cmp_Or_int_ (a0:List Int):Option (Int) :=
 (p_cmp_Or_int__l1 a0 (a0.length:Int) fuel (0:Int)).bind fun o12=>match o12 with
 | .inl q13 =>
  some q13
 | .inr q14 =>
  some (0:Int)
def p_item_Item_order (a0:ItemItem) (a1:ItemItem):Option (Int) :=
 (p_strings_Compare a0.Contact a1.Contact).bind fun v1 =>
 (p_cmp_Compare_int_ a0.Ver a1.Ver).bind fun v2 =>
 (p_cmp_Or_int_ [v1,v2]).bind fun v3 =>
 some v3
def p_item_Less (a0:ItemItem) (a1:ItemItem):Option (Bool) :=
 (p_item_Item_order a0 a1).bind fun v1 =>
 some (decide (v1 < (0:Int)))
def p_ref20_Less (a0:ItemItem) (a1:ItemItem):Option (Bool) :=
 bif (Op.bytesLess a0.Contact.toList a1.Contact.toList) then
  some true
 else
 bif (a0.Contact.toList == a1.Contact.toList) then
  some (decide (a0.Ver < a1.Ver))
 else
 some false
def p_octet_Open (a0:ByteArray):Option (OctetRead) :=
 some (OctetRead.mk a0 (0:Int) (0:Int))
def p_octet_Read_fault (a0:OctetRead):Option (Int) :=
 bif (a0.Bad == (0:Int)) then
  bif (decide (a0.At < (0:Int))) then
   some (2:Int)
  else
  bif (decide ((a0.S.size:Int) < a0.At)) then
   some (2:Int)
  else
  some a0.Bad
 else
 some a0.Bad
def p_octet_Read_fail (a0:OctetRead) (a1:Int):Option (OctetRead) :=
 some (OctetRead.mk a0.S a0.At a1)
def p_octet_Left (a0:OctetRead):Option (Int) :=
 (p_octet_Read_fault a0).bind fun v1 =>
 bif (v1 != (0:Int)) then
  some (0:Int)
 else
 some (w64 ((a0.S.size:Int) - a0.At))
def p_octet_Num_l1 (z20:List Int) (z21:Int):Nat→Int→Int→Option ((Int × Int))
 | 0,_,_=>none
 | n + 1,y19,y22 =>
  bif (decide (y22 < z21)) then
   (at? z20 y22).bind fun x26 =>
   p_octet_Num_l1 z20 z21 n (orI .i64 (shlI .i64 y19 (8:Int)) (w64 x26)) (w64 (y22 + (1:Int)))
  else
  some (y19,y22)
def p_octet_Num (a0:OctetRead) (a1:Int):Option (OctetRead × Int) :=
 (p_octet_Read_fault a0).bind fun v1 =>
 bif (v1 != (0:Int)) then
  (p_octet_Read_fail a0 v1).bind fun v3 =>
  some (v3,(0:Int))
 else
 (p_octet_wide a1).bind fun v4 =>
 bif v4 then
  (p_octet_Left a0).bind fun v6 =>
  bif (decide (v6 < a1)) then
   (p_octet_Read_fail a0 (3:Int)).bind fun v8 =>
   some (v8,(0:Int))
  else
  (sub? a0.S (some a0.At) (some (w64 (a0.At + a1)))).bind fun s9 =>
  (p_octet_Num_l1 (bytesI s9) ((bytesI s9).length:Int) fuel (0:Int) (0:Int)).bind fun q28 =>
  some ((OctetRead.mk a0.S (w64 (a0.At + a1)) a0.Bad),q28.1)
 else
 (p_octet_Read_fail a0 (2:Int)).bind fun v29 =>
 some (v29,(0:Int))
def p_octet_Text (a0:OctetRead) (a1:Int):Option (OctetRead × ByteArray) :=
 (p_octet_Num a0 (1:Int)).bind fun v1 =>
 bif (v1.1.Bad != (0:Int)) then
  some (v1.1,(⟨#[]⟩ : ByteArray))
 else
 bif (decide (a1 < v1.2)) then
  (p_octet_Read_fail a0 (5:Int)).bind fun v4 =>
  some (v4,(⟨#[]⟩ : ByteArray))
 else
 (p_octet_Left v1.1).bind fun v5 =>
 bif (decide (v5 < v1.2)) then
  (p_octet_Read_fail a0 (3:Int)).bind fun v7 =>
  some (v7,(⟨#[]⟩ : ByteArray))
 else
 (sub? a0.S (some v1.1.At) (some (w64 (v1.1.At + v1.2)))).bind fun s8 =>
 some ((OctetRead.mk v1.1.S (w64 (v1.1.At + v1.2)) v1.1.Bad),s8)
def p_octet_Done (a0:OctetRead):Option (Int) :=
 (p_octet_Read_fault a0).bind fun v1 =>
 bif (v1 != (0:Int)) then
  some v1
 else
 bif (decide (a0.At < (a0.S.size:Int))) then
  some (4:Int)
 else
 some (0:Int)
def p_item_Get (a0:ByteArray):Option (ItemItem × Int) :=
 (p_octet_Open a0).bind fun v1 =>
 (p_octet_Text v1 (33:Int)).bind fun v2 =>
 (p_octet_Text v2.1 (24:Int)).bind fun v3 =>
 (p_octet_Num v3.1 (1:Int)).bind fun v4 =>
 (p_octet_Num v4.1 (6:Int)).bind fun v5 =>
 (p_octet_Done v5.1).bind fun v6 =>
 bif (v6 != (0:Int)) then
  some ((ItemItem.mk (⟨#[]⟩ : ByteArray) (⟨#[]⟩ : ByteArray) (0:Int) (0:Int) false),v6)
 else
 bif (decide ((31:Int) < v4.2)) then
  some ((ItemItem.mk (⟨#[]⟩ : ByteArray) (⟨#[]⟩ : ByteArray) (0:Int) (0:Int) false),(4:Int))
 else
 (p_item_Check (ItemItem.mk v2.2 v3.2 (andNotI .i64 v4.2 (16:Int)) v5.2 ((andI .i64 v4.2 (16:Int)) != (0:Int)))).bind fun v9 =>
 bif (v9 != (0:Int)) then
  some ((ItemItem.mk (⟨#[]⟩ : ByteArray) (⟨#[]⟩ : ByteArray) (0:Int) (0:Int) false),v9)
 else
 some ((ItemItem.mk v2.2 v3.2 (andNotI .i64 v4.2 (16:Int)) v5.2 ((andI .i64 v4.2 (16:Int)) != (0:Int))),(0:Int))
def p_slices_insertionSortCmpFunc_item_Item__l2 (a0:List ItemItem) (a3:ItemItem→ItemItem→Option Int) (z19:Int):Nat→Int→(List ItemItem)→Option ((Int × (List ItemItem)))
 | 0,_,_=>none
 | n + 1,y22,y23 =>
  bif (decide (z19 < y22)) then
   (arr? (List.length a0) y23 y22).bind fun x25 =>
   (arr? (List.length a0) y23 (w64 (y22 - (1:Int)))).bind fun x27 =>
   (a3 x25 x27).bind fun v29 =>
   bif (decide (v29 < (0:Int))) then
    (arr? (List.length a0) y23 (w64 (y22 - (1:Int)))).bind fun x31 =>
    (arr? (List.length a0) y23 y22).bind fun x33 =>
    (arr? (List.length a0) y23 y22).bind fun x35 =>
    (arr? (List.length a0) (List.set y23 (Int.toNat y22) x31) (w64 (y22 - (1:Int)))).bind fun x37 =>
    p_slices_insertionSortCmpFunc_item_Item__l2 a0 a3 z19 n (w64 (y22 - (1:Int))) (List.set (List.set y23 (Int.toNat y22) x31) (Int.toNat (w64 (y22 - (1:Int)))) x33)
   else
   some (y22,y23)
  else
  some (y22,y23)
def p_slices_insertionSortCmpFunc_item_Item__l1 (a0:List ItemItem) (a3:ItemItem→ItemItem→Option Int) (z7:Int) (z8:Int):Nat→Int→(List ItemItem)→Option ((Int × (List ItemItem)))
 | 0,_,_=>none
 | n + 1,y9,y10 =>
  bif (decide (y9 < z8)) then
   (p_slices_insertionSortCmpFunc_item_Item__l2 a0 a3 z7 fuel y9 y10).bind fun q40 =>
   p_slices_insertionSortCmpFunc_item_Item__l1 a0 a3 z7 z8 n (w64 (y9 + (1:Int))) q40.2
  else
  some (y9,y10)
def p_slices_insertionSortCmpFunc_item_Item_ (a0:List ItemItem) (a1:Int) (a2:Int) (a3:ItemItem→ItemItem→Option Int):Option (List ItemItem) :=
 (p_slices_insertionSortCmpFunc_item_Item__l1 a0 a3 a1 a2 fuel (w64 (a1 + (1:Int))) a0).bind fun q42 =>
 some q42.2
def p_slices_stableCmpFunc_item_Item__l1 (a0:List ItemItem) (a2:ItemItem→ItemItem→Option Int) (z8:Int):Nat→Int→Int→(List ItemItem)→Option ((Int × Int × (List ItemItem)))
 | 0,_,_,_=>none
 | n + 1,y9,y10,y11 =>
  bif (decide (y10≤z8)) then
   (inG? (List.length a0) y11 (p_slices_insertionSortCmpFunc_item_Item_ y11 y9 y10 a2)).bind fun l14 =>
   p_slices_stableCmpFunc_item_Item__l1 a0 a2 z8 n y10 (w64 (y10 + (20:Int))) l14
  else
  some (y9,y10,y11)
def p_slices_stableCmpFunc_item_Item__l3 (z35:Int) (z37:Int):Nat→Option (Unit)
 | 0=>none
 | n + 1 =>
  bif (decide (z37≤z35)) then
   none
  else
  some ()
def p_slices_stableCmpFunc_item_Item__l2 (z24:Int):Nat→Int→Option (Int)
 | 0,_=>none
 | n + 1,y25 =>
  bif (decide (y25 < z24)) then
   (p_slices_stableCmpFunc_item_Item__l3 z24 (w64 ((2:Int) * y25)) fuel).bind fun q41 =>
   bif (decide (w64 ((0:Int) + y25) < z24)) then
    none
   else
   p_slices_stableCmpFunc_item_Item__l2 z24 n (w64 (y25 * (2:Int)))
  else
  some y25
def p_slices_stableCmpFunc_item_Item_ (a0:List ItemItem) (a1:Int) (a2:ItemItem→ItemItem→Option Int):Option (List ItemItem) :=
 (p_slices_stableCmpFunc_item_Item__l1 a0 a2 a1 fuel (0:Int) (20:Int) a0).bind fun q16 =>
 (inG? (List.length a0) q16.2.2 (p_slices_insertionSortCmpFunc_item_Item_ q16.2.2 q16.1 a1 a2)).bind fun l18 =>
 (p_slices_stableCmpFunc_item_Item__l2 a1 fuel (20:Int)).bind fun q44 =>
 some l18
def p_slices_SortStableFunc_item_Item (a0:List ItemItem) (a1:ItemItem→ItemItem→Option Int):Option (List ItemItem) :=
 (inG? (List.length a0) a0 (p_slices_stableCmpFunc_item_Item_ a0 ((List.length a0):Int) a1)).bind fun l2 =>
 some l2
def p_item_Sort (a0:List ItemItem):Option ((List ItemItem)) :=
 (clone? a0).bind fun l1 =>
 (inG? (List.length l1) l1 (p_slices_SortStableFunc_item_Item l1 (fun x0 x1=>p_item_Item_order x0 x1))).bind fun l3 =>
 some l3
def p_law20_awake:Option (Bool) :=
 (p_item_Put (ItemItem.mk (⟨#[97,64,98]⟩ : ByteArray) (⟨#[65,110,110]⟩ : ByteArray) (1:Int) (3:Int) true)).bind fun v1 =>
 (p_item_Get v1.1).bind fun v2 =>
 (cat? v1.1 (⟨#[120]⟩ : ByteArray)).bind fun s3 =>
 (p_item_Get s3).bind fun v4 =>
 (p_item_Put (ItemItem.mk (⟨#[97,64,98]⟩ : ByteArray) (⟨#[120]⟩ : ByteArray) (0:Int) (0:Int) false)).bind fun v5 =>
 (p_item_Sort [(ItemItem.mk (⟨#[99,64,100]⟩ : ByteArray) (⟨#[]⟩ : ByteArray) (8:Int) (0:Int) false),(ItemItem.mk (⟨#[97,64,98]⟩ : ByteArray) (⟨#[65,110,110]⟩ : ByteArray) (1:Int) (3:Int) true),(ItemItem.mk (⟨#[97,64,98]⟩ : ByteArray) (⟨#[]⟩ : ByteArray) (0:Int) (1:Int) false)]).bind fun v6 =>
 bif (v1.1.toList == (⟨#[3,97,64,98,3,65,110,110,17,0,0,0,0,0,3]⟩ : ByteArray).toList) then
  bif (v1.2 == (0:Int)) then
   bif ((v2.1.Contact.toList == (⟨#[97,64,98]⟩ : ByteArray).toList) && ((v2.1.Name.toList == (⟨#[65,110,110]⟩ : ByteArray).toList) && ((v2.1.Sub == (1:Int)) && ((v2.1.Ver == (3:Int)) && ((v2.1.Own == true) && true))))) then
    bif (v2.2 == (0:Int)) then
     bif (v4.2 == (4:Int)) then
      bif (v5.2 == (4:Int)) then
       (p_item_Listed (ItemItem.mk (⟨#[97,64,98]⟩ : ByteArray) (⟨#[65,110,110]⟩ : ByteArray) (1:Int) (3:Int) true)).bind fun v13 =>
       bif v13 then
        (p_item_Listed (ItemItem.mk (⟨#[99,64,100]⟩ : ByteArray) (⟨#[]⟩ : ByteArray) (8:Int) (0:Int) false)).bind fun v15 =>
        bif v15 then
         some false
        else
        (p_item_Idle (ItemItem.mk (⟨#[99,64,100]⟩ : ByteArray) (⟨#[]⟩ : ByteArray) (8:Int) (0:Int) false)).bind fun v17 =>
        bif v17 then
         some false
        else
        (p_item_Idle (ItemItem.mk (⟨#[99,64,100]⟩ : ByteArray) (⟨#[]⟩ : ByteArray) (0:Int) (0:Int) false)).bind fun v19 =>
        bif v19 then
         (p_item_Sees (ItemItem.mk (⟨#[97,64,98]⟩ : ByteArray) (⟨#[65,110,110]⟩ : ByteArray) (1:Int) (3:Int) true)).bind fun v21 =>
         bif v21 then
          (p_item_Seen (ItemItem.mk (⟨#[97,64,98]⟩ : ByteArray) (⟨#[65,110,110]⟩ : ByteArray) (1:Int) (3:Int) true)).bind fun v23 =>
          bif v23 then
           some false
          else
          (p_item_Push (ItemItem.mk (⟨#[97,64,98]⟩ : ByteArray) (⟨#[65,110,110]⟩ : ByteArray) (1:Int) (3:Int) true)).bind fun v25 =>
          bif ((v25.Kind == (38:Int)) && ((v25.User.toList == (⟨#[97,64,98]⟩ : ByteArray).toList) && ((v25.Res.toList == (⟨#[]⟩ : ByteArray).toList) && ((v25.Name.toList == (⟨#[65,110,110]⟩ : ByteArray).toList) && ((v25.Show == (1:Int)) && ((v25.Prio == (0:Int)) && ((v25.Code == (0:Int)) && ((v25.N == (3:Int)) && true)))))))) then
           (p_item_Push (ItemItem.mk (⟨#[99,64,100]⟩ : ByteArray) (⟨#[]⟩ : ByteArray) (8:Int) (0:Int) false)).bind fun v27 =>
           bif ((v27.Kind == (39:Int)) && ((v27.User.toList == (⟨#[99,64,100]⟩ : ByteArray).toList) && ((v27.Res.toList == (⟨#[]⟩ : ByteArray).toList) && ((v27.Name.toList == (⟨#[]⟩ : ByteArray).toList) && ((v27.Show == (0:Int)) && ((v27.Prio == (0:Int)) && ((v27.Code == (0:Int)) && ((v27.N == (0:Int)) && true)))))))) then
            bif ((v6.length:Int) == (3:Int)) then
             (at? v6 (0:Int)).bind fun x30 =>
             bif (x30.Ver == (1:Int)) then
              (at? v6 (1:Int)).bind fun x32 =>
              bif ((x32.Contact.toList == (⟨#[97,64,98]⟩ : ByteArray).toList) && ((x32.Name.toList == (⟨#[65,110,110]⟩ : ByteArray).toList) && ((x32.Sub == (1:Int)) && ((x32.Ver == (3:Int)) && ((x32.Own == true) && true))))) then
               (p_item_Less (ItemItem.mk (⟨#[97,64,98]⟩ : ByteArray) (⟨#[65,110,110]⟩ : ByteArray) (1:Int) (3:Int) true) (ItemItem.mk (⟨#[99,64,100]⟩ : ByteArray) (⟨#[]⟩ : ByteArray) (8:Int) (0:Int) false)).bind fun v34 =>
               bif v34 then
                (p_item_Check (ItemItem.mk (⟨#[97,64,98]⟩ : ByteArray) (⟨#[65,110,110]⟩ : ByteArray) (1:Int) (3:Int) true)).bind fun v36 =>
                bif (v36 == (0:Int)) then
                 (p_item_Check (ItemItem.mk (⟨#[]⟩ : ByteArray) (⟨#[]⟩ : ByteArray) (0:Int) (0:Int) false)).bind fun v38 =>
                 bif (v38 == (11:Int)) then
                  some true
                 else
                 some false
                else
                some false
               else
               some false
              else
              some false
             else
             some false
            else
            some false
           else
           some false
          else
          some false
         else
         some false
        else
        some false
       else
       some false
      else
      some false
     else
     some false
    else
    some false
   else
   some false
  else
  some false
 else
 some false
def p_law20_ItemTells (a0:ItemItem) (a1:ItemItem):Option (Bool) :=
 (p_ref20_Light a0).bind fun v1 =>
 bif v1 then
  (p_ref20_Light a1).bind fun v3 =>
  bif v3 then
   (p_item_Put a0).bind fun v5 =>
   (p_ref20_Put a0).bind fun v6 =>
   (p_item_Check a0).bind fun v7 =>
   (p_ref20_Check a0).bind fun v8 =>
   bif (v7 == v8) then
    (p_item_Listed a0).bind fun v10 =>
    (p_ref20_Listed a0).bind fun v11 =>
    bif (v10 == v11) then
     (p_item_Idle a0).bind fun v13 =>
     (p_ref20_Idle a0).bind fun v14 =>
     bif (v13 == v14) then
      (p_item_Sees a0).bind fun v16 =>
      (p_ref20_Sees a0).bind fun v17 =>
      bif (v16 == v17) then
       (p_item_Seen a0).bind fun v19 =>
       (p_ref20_Seen a0).bind fun v20 =>
       bif (v19 == v20) then
        bif (v5.1.toList == v6.1.toList) then
         bif (v5.2 == v6.2) then
          (p_item_Push a0).bind fun v24 =>
          (p_ref20_Push a0).bind fun v25 =>
          bif ((v24.Kind == v25.Kind) && ((v24.User.toList == v25.User.toList) && ((v24.Res.toList == v25.Res.toList) && ((v24.Name.toList == v25.Name.toList) && ((v24.Show == v25.Show) && ((v24.Prio == v25.Prio) && ((v24.Code == v25.Code) && ((v24.N == v25.N) && true)))))))) then
           (p_item_Less a0 a1).bind fun v27 =>
           (p_ref20_Less a0 a1).bind fun v28 =>
           bif (v27 == v28) then
            (p_law20_awake).bind fun v30 =>
            some v30
           else
           some false
          else
          some false
         else
         some false
        else
        some false
       else
       some false
      else
      some false
     else
     some false
    else
    some false
   else
   some false
  else
  (p_law20_awake).bind fun v31 =>
  some v31
 else
 (p_law20_awake).bind fun v32 =>
 some v32
def p_ref01_Open (a0:ByteArray):Option (OctetRead) :=
 some (OctetRead.mk a0 (0:Int) (0:Int))
def p_ref01_bad (a0:OctetRead):Option (Int) :=
 bif (a0.Bad == (0:Int)) then
  bif (decide (a0.At < (0:Int))) then
   some (2:Int)
  else
  bif (decide ((a0.S.size:Int) < a0.At)) then
   some (2:Int)
  else
  some a0.Bad
 else
 some a0.Bad
def p_ref01_with (a0:OctetRead) (a1:Int):Option (OctetRead) :=
 some (OctetRead.mk a0.S a0.At a1)
def p_ref01_Left (a0:OctetRead):Option (Int) :=
 (p_ref01_bad a0).bind fun v1 =>
 bif (v1 != (0:Int)) then
  some (0:Int)
 else
 some (w64 ((a0.S.size:Int) - a0.At))
def p_ref01_Num_l1 (z16:Int):Nat→Int→Int→OctetRead→Option ((Int × Int × OctetRead))
 | 0,_,_,_=>none
 | n + 1,y17,y18,y19 =>
  bif (decide (y18 < z16)) then
   (byte? y19.S y19.At).bind fun c22 =>
   p_ref01_Num_l1 z16 n (w64 (w64 ((256:Int) * y17) + w64 c22)) (w64 (y18 + (1:Int))) (OctetRead.mk y19.S (w64 (y19.At + (1:Int))) y19.Bad)
  else
  some (y17,y18,y19)
def p_ref01_Num (a0:OctetRead) (a1:Int):Option (OctetRead × Int) :=
 (p_ref01_bad a0).bind fun v1 =>
 bif (v1 != (0:Int)) then
  (p_ref01_bad a0).bind fun v3 =>
  (p_ref01_with a0 v3).bind fun v4 =>
  some (v4,(0:Int))
 else
 (p_ref01_wide a1).bind fun v5 =>
 bif v5 then
  (p_ref01_Left a0).bind fun v7 =>
  bif (decide (v7 < a1)) then
   (p_ref01_with a0 (3:Int)).bind fun v9 =>
   some (v9,(0:Int))
  else
  (p_ref01_Num_l1 a1 fuel (0:Int) (0:Int) a0).bind fun q24 =>
  some (q24.2.2,q24.1)
 else
 (p_ref01_with a0 (2:Int)).bind fun v25 =>
 some (v25,(0:Int))
def p_ref01_Text (a0:OctetRead) (a1:Int):Option (OctetRead × ByteArray) :=
 (p_ref01_Num a0 (1:Int)).bind fun v1 =>
 bif (v1.1.Bad != (0:Int)) then
  some (v1.1,(⟨#[]⟩ : ByteArray))
 else
 bif (decide (a1 < v1.2)) then
  (p_ref01_with a0 (5:Int)).bind fun v4 =>
  some (v4,(⟨#[]⟩ : ByteArray))
 else
 (p_ref01_Left v1.1).bind fun v5 =>
 bif (decide (v5 < v1.2)) then
  (p_ref01_with a0 (3:Int)).bind fun v7 =>
  some (v7,(⟨#[]⟩ : ByteArray))
 else
 (sub? v1.1.S (some v1.1.At) (some (w64 (v1.1.At + v1.2)))).bind fun s8 =>
 some ((OctetRead.mk v1.1.S (w64 (v1.1.At + v1.2)) v1.1.Bad),s8)
def p_ref01_Done (a0:OctetRead):Option (Int) :=
 (p_ref01_bad a0).bind fun v1 =>
 bif (v1 == (0:Int)) then
  (p_ref01_Left a0).bind fun v3 =>
  bif (decide ((0:Int) < v3)) then
   some (4:Int)
  else
  (p_ref01_bad a0).bind fun v5 =>
  some v5
 else
 (p_ref01_bad a0).bind fun v6 =>
 some v6
def p_ref20_Get (a0:ByteArray):Option (ItemItem × Int) :=
 (p_ref01_Open a0).bind fun v1 =>
 (p_ref01_Text v1 (33:Int)).bind fun v2 =>
 (p_ref01_Text v2.1 (24:Int)).bind fun v3 =>
 (p_ref01_Num v3.1 (1:Int)).bind fun v4 =>
 (p_ref01_Num v4.1 (6:Int)).bind fun v5 =>
 (p_ref01_Done v5.1).bind fun v6 =>
 bif (v6 != (0:Int)) then
  (p_ref01_Done v5.1).bind fun v8 =>
  some ((ItemItem.mk (⟨#[]⟩ : ByteArray) (⟨#[]⟩ : ByteArray) (0:Int) (0:Int) false),v8)
 else
 bif (decide ((31:Int) < v4.2)) then
  some ((ItemItem.mk (⟨#[]⟩ : ByteArray) (⟨#[]⟩ : ByteArray) (0:Int) (0:Int) false),(4:Int))
 else
 (p_ref20_Check (ItemItem.mk v2.2 v3.2 (Int.tmod v4.2 (16:Int)) v5.2 (decide ((16:Int)≤v4.2)))).bind fun v10 =>
 bif (v10 != (0:Int)) then
  (p_ref20_Check (ItemItem.mk v2.2 v3.2 (Int.tmod v4.2 (16:Int)) v5.2 (decide ((16:Int)≤v4.2)))).bind fun v12 =>
  some ((ItemItem.mk (⟨#[]⟩ : ByteArray) (⟨#[]⟩ : ByteArray) (0:Int) (0:Int) false),v12)
 else
 some ((ItemItem.mk v2.2 v3.2 (Int.tmod v4.2 (16:Int)) v5.2 (decide ((16:Int)≤v4.2))),(0:Int))
def p_law20_Own_l1 (z5:List ItemItem):Nat→(List ItemItem)→Int→Option (((List ItemItem) × Int))
 | 0,_,_=>none
 | n + 1,y6,y7 =>
  bif (decide (y7 < (z5.length:Int))) then
   (at? z5 y7).bind fun x9 =>
   (app? y6 [x9]).bind fun l10 =>
   p_law20_Own_l1 z5 n l10 (w64 (y7 + (1:Int)))
  else
  some (y6,y7)
def p_law20_Own (a0:List ItemItem):Option ((List ItemItem)) :=
 (p_law20_Own_l1 a0 fuel [] (0:Int)).bind fun q12 =>
 some q12.1
def p_law20_Back_l1 (z5:List ItemItem):Nat→(List ItemItem)→Int→Option (((List ItemItem) × Int))
 | 0,_,_=>none
 | n + 1,y6,y7 =>
  bif (decide (y7 < (z5.length:Int))) then
   (at? z5 y7).bind fun x9 =>
   (app? y6 [x9]).bind fun l10 =>
   p_law20_Back_l1 z5 n l10 (w64 (y7 + (1:Int)))
  else
  some (y6,y7)
def p_law20_Back (a0:List ItemItem):Option ((List ItemItem)) :=
 (p_law20_Back_l1 a0 fuel [] (0:Int)).bind fun q12 =>
 some q12.1
def p_ref20_Sort_l2 (z14:List ItemItem) (z15:List ItemItem) (z16:Int):Nat→Int→Option (Int)
 | 0,_=>none
 | n + 1,y17 =>
  bif (decide ((0:Int) < y17)) then
   (at? z14 z16).bind fun x19 =>
   (at? z15 (w64 (y17 - (1:Int)))).bind fun x20 =>
   (p_ref20_Less x19 x20).bind fun v21 =>
   bif v21 then
    p_ref20_Sort_l2 z14 z15 z16 n (w64 (y17 - (1:Int)))
   else
   some y17
  else
  some y17
def p_ref20_Sort_l1 (z5:List ItemItem):Nat→(List ItemItem)→Int→Option (((List ItemItem) × Int))
 | 0,_,_=>none
 | n + 1,y6,y7 =>
  bif (decide (y7 < (z5.length:Int))) then
   (p_ref20_Sort_l2 z5 y6 y7 fuel (y6.length:Int)).bind fun q24 =>
   (cut? y6 none (some q24)).bind fun x25 =>
   (app? ([]:List ItemItem) x25).bind fun l26 =>
   (at? z5 y7).bind fun x27 =>
   (app? l26 [x27]).bind fun l28 =>
   (cut? y6 (some q24) none).bind fun x29 =>
   (app? l28 x29).bind fun l30 =>
   p_ref20_Sort_l1 z5 n l30 (w64 (y7 + (1:Int)))
  else
  some (y6,y7)
def p_ref20_Sort (a0:List ItemItem):Option ((List ItemItem)) :=
 (p_ref20_Sort_l1 a0 fuel [] (0:Int)).bind fun q32 =>
 some q32.1
def p_ref20_SameItems_l1 (z6:List ItemItem) (z7:List ItemItem):Nat→Int→Option (Bool ⊕ Int)
 | 0,_=>none
 | n + 1,y8 =>
  bif (decide (y8 < (z6.length:Int))) then
   (at? z6 y8).bind fun x10 =>
   (at? z7 y8).bind fun x11 =>
   bif ((x10.Contact.toList == x11.Contact.toList) && ((x10.Name.toList == x11.Name.toList) && ((x10.Sub == x11.Sub) && ((x10.Ver == x11.Ver) && ((x10.Own == x11.Own) && true))))) then
    p_ref20_SameItems_l1 z6 z7 n (w64 (y8 + (1:Int)))
   else
   some (.inl false)
  else
  some (.inr y8)
def p_ref20_SameItems (a0:List ItemItem) (a1:List ItemItem):Option (Bool) :=
 bif ((a0.length:Int) != (a1.length:Int)) then
  some false
 else
 (p_ref20_SameItems_l1 a0 a1 fuel (0:Int)).bind fun o13=>match o13 with
 | .inl q14 =>
  some q14
 | .inr q15 =>
  some true
def p_law20_ItemReads_l1 (z10:List ItemItem):Nat→Int→Option (Bool ⊕ Int)
 | 0,_=>none
 | n + 1,y11 =>
  bif (decide (y11 < (z10.length:Int))) then
   (at? z10 y11).bind fun x13 =>
   (p_ref20_Light x13).bind fun v14 =>
   bif v14 then
    p_law20_ItemReads_l1 z10 n (w64 (y11 + (1:Int)))
   else
   (p_law20_awake).bind fun v16 =>
   some (.inl v16)
  else
  some (.inr y11)
def p_law20_ItemReads (a0:ByteArray) (a1:List ItemItem):Option (Bool) :=
 bif (decide ((150:Int) < (a0.size:Int))) then
  (p_law20_awake).bind fun v2 =>
  some v2
 else
 bif (decide ((20:Int) < (a1.length:Int))) then
  (p_law20_awake).bind fun v4 =>
  some v4
 else
 (p_law20_ItemReads_l1 a1 fuel (0:Int)).bind fun o17=>match o17 with
 | .inl q18 =>
  some q18
 | .inr q19 =>
  (p_item_Get a0).bind fun v20 =>
  (p_ref20_Get a0).bind fun v21 =>
  (p_law20_Own a1).bind fun v22 =>
  bif ((v20.1.Contact.toList == v21.1.Contact.toList) && ((v20.1.Name.toList == v21.1.Name.toList) && ((v20.1.Sub == v21.1.Sub) && ((v20.1.Ver == v21.1.Ver) && ((v20.1.Own == v21.1.Own) && true))))) then
   bif (v20.2 == v21.2) then
    (p_item_Sort v22).bind fun v25 =>
    (p_law20_Back v25).bind fun v26 =>
    (p_ref20_Sort a1).bind fun v27 =>
    (p_ref20_SameItems v26 v27).bind fun v28 =>
    bif v28 then
     (p_law20_Back v22).bind fun v30 =>
     (p_ref20_SameItems v30 a1).bind fun v31 =>
     bif v31 then
      (p_law20_awake).bind fun v33 =>
      some v33
     else
     some false
    else
    some false
   else
   some false
  else
  some false
end Go.Proofs.YtpmoioopjbfhkaaGreat

/- Plain laws of no program: what loops and questions come to. -/
namespace Go.Proofs.YtpmoioopjbfhkaaGreat
open Go.RowKit
theorem at_nat {α:Type} (l:List α) (k:Nat):at? l (k:Int)=l[k]?:=by
 unfold at?;rw [if_pos (Int.natCast_nonneg k)];rfl
theorem at_lt {α:Type} {l:List α} {k:Nat} (h:k < l.length):at? l (k:Int)=some l[k]:=by rw [at_nat,List.getElem?_eq_getElem h]
theorem w64_id {r:Int} (h:-9223372036854775808≤r∧r≤9223372036854775807):w64 r=r:=wrap_ok h
theorem w64_succ {k:Nat} (h:k≤1000000):w64 ((k:Int) + 1)=((k + 1:Nat):Int):=by rw [w64_id (by omega)];rfl
theorem lt_tt {a b:Nat} (h:a < b):decide ((a:Int) < (b:Int))=true:=by simpa using h
theorem lt_ff {a b:Nat} (h:b≤a):decide ((a:Int) < (b:Int))=false:=by simpa using h
theorem drop_at {α:Type} {l:List α} {k:Nat} (h:k < l.length):l.drop k=l[k] :: l.drop (k + 1):=List.drop_eq_getElem_cons h
theorem fuel_pos:(1000000:Nat) < fuel:=by decide
theorem cutTo {α:Type} {l:List α} {k:Nat} (h:k≤l.length):cut? l none (some (k:Int))=some (l.take k):=by
 unfold cut?
 simp only [Option.getD_none,Option.getD_some]
 rw [if_pos (by omega)]
 simp
theorem cutFrom {α:Type} {l:List α} {k:Nat} (h:k≤l.length):cut? l (some (k:Int)) none=some (l.drop k):=by
 unfold cut?
 simp only [Option.getD_none,Option.getD_some]
 rw [if_pos (by omega)]
 rw [List.take_of_length_le (by simp)];rfl
theorem fdivN (m p:Nat):(m:Int).fdiv (2 ^ p)=((m / 2 ^ p:Nat):Int):=by
 rw [show ((2:Int) ^ p)=((2 ^ p:Nat):Int) by simp,Int.fdiv_eq_ediv_of_nonneg _ (Int.natCast_nonneg _)];rfl
theorem app_ok {α:Type} {a b:List α} (h:a.length + b.length≤1000000):app? a b=some (a++b):=if_pos h
theorem byte_at {s:ByteArray} {k:Nat} (h:k < s.size):byte? s (k:Int)=some (s[k].toNat:Int):=by
 unfold byte?
 rw [dif_pos ⟨Int.natCast_nonneg k,h⟩];rfl
theorem tl_data (s:ByteArray):s.toList=s.data.toList:=by rw [ByteArray.toList_eq]
theorem eqT_refl (a:ByteArray):(a.toList == a.toList)=true:=by simp
theorem eqT_iff {a b:ByteArray}:(a.toList == b.toList)=true ↔ a=b:=by
 rw [beq_iff_eq,tl_data,tl_data]
 exact ⟨fun h=>by cases a;cases b;congr 1;exact Array.ext' h,fun h=>by rw [h]⟩
theorem cmp_less:∀ (a b:List UInt8),Op.bytesLess a b=decide (Lib.compareBytes a b < 0)
 | [],[]=>by simp [Op.bytesLess,Lib.compareBytes]
 | [],_ :: _=>by simp [Op.bytesLess,Lib.compareBytes]
 | _ :: _,[]=>by simp [Op.bytesLess,Lib.compareBytes]
 | a :: xs,b :: ys=>by
  unfold Op.bytesLess Lib.compareBytes
  rw [cmp_less xs ys]
  by_cases h:a < b
  ·simp [h]
  ·by_cases h2:b < a
   ·have hne:a≠b:=fun e=>by subst e;exact UInt8.lt_irrefl _ h2
    simp [h,h2,hne]
   ·have e:a=b:=by
     apply UInt8.toNat_inj.1
     rw [UInt8.lt_iff_toNat_lt] at h h2;omega
    subst e;simp [h]
theorem cmp_refl:∀ a:List UInt8,Lib.compareBytes a a=0
 | []=>by simp [Lib.compareBytes]
 | a :: xs=>by unfold Lib.compareBytes;rw [if_neg (UInt8.lt_irrefl _),if_neg (UInt8.lt_irrefl _)];exact cmp_refl xs
theorem cmp_eq0:∀ {a b:List UInt8},Lib.compareBytes a b=0→a=b
 | [],[],_=>rfl
 | [],_ :: _,h=>by simp [Lib.compareBytes] at h
 | _ :: _,[],h=>by simp [Lib.compareBytes] at h
 | a :: xs,b :: ys,h=>by
  unfold Lib.compareBytes at h
  split at h
  ·omega
  ·split at h
   ·omega
   ·rename_i h1 h2
    have e:a=b:=by
     apply UInt8.toNat_inj.1
     rw [UInt8.lt_iff_toNat_lt] at h1 h2;omega
    rw [e,cmp_eq0 h]
end Go.Proofs.YtpmoioopjbfhkaaGreat

/- Items in plain words: subscriptions, whether an item may be, what is listed, the order. -/
namespace Go.Proofs.YtpmoioopjbfhkaaGreat
open Go.RowKit
theorem some_bif {α:Type} (b:Bool) (x y:α):(bif b then some x else some y)=some (bif b then x else y):=by cases b <;> rfl
def subC (s:Int):Int:=if s < 0∨15 < s then 8 else if s=5∨s=7∨s=13∨s=15∨s=10∨s=11∨s=14 then 4 else 0
theorem sub16 {s:Int} (h:¬ (s < 0∨15 < s)):s=0∨s=1∨s=2∨s=3∨s=4∨s=5∨s=6∨s=7∨s=8∨s=9∨s=10∨s=11∨s=12∨s=13∨s=14∨s=15:=by omega
theorem subs_p (s:Int):p_subs_Check s=some (subC s):=by
 by_cases h:s < 0∨15 < s
 ·unfold p_subs_Check subC
  rw [if_pos h]
  by_cases h1:s < 0
  ·rw [show decide (s < 0)=true by simpa using h1];rfl
  ·rw [show decide (s < 0)=false by simpa using h1,show decide (15 < s)=true by simp;omega];rfl
 ·rcases sub16 h with rfl | rfl | rfl | rfl | rfl | rfl | rfl | rfl | rfl | rfl | rfl | rfl | rfl | rfl | rfl | rfl <;> kernel_rfl
theorem rsub_p (s:Int):p_ref19_Check s=some (subC s):=by
 by_cases h:s < 0∨15 < s
 ·unfold p_ref19_Check subC
  rw [if_pos h]
  by_cases h1:s < 0
  ·rw [show decide (s < 0)=true by simpa using h1];rfl
  ·rw [show decide (s < 0)=false by simpa using h1,show decide (15 < s)=true by simp;omega];rfl
 ·rcases sub16 h with rfl | rfl | rfl | rfl | rfl | rfl | rfl | rfl | rfl | rfl | rfl | rfl | rfl | rfl | rfl | rfl <;> kernel_rfl
theorem subC_in {s:Int} (h:subC s=0):¬ (s < 0∨15 < s):=fun g=>by unfold subC at h;rw [if_pos g] at h;omega
def hasB (s p:Int):Bool:=bif subC s == 0 then andI .i64 s p != 0 else false
theorem has_p (x:ItemItem) (p:Int):p_item_Item_has x p=some (hasB x.Sub p):=by
 unfold p_item_Item_has hasB
 rw [subs_p]
 simp only [Option.bind_some,some_bif]
theorem rhas_p (x:ItemItem) (p:Int) (hp:p=1∨p=2∨p=4):p_ref20_has x p=some (hasB x.Sub p):=by
 unfold p_ref20_has hasB
 rw [rsub_p]
 have e:ne0? p=some ():=by rcases hp with rfl | rfl | rfl <;> rfl
 simp only [Option.bind_some,e,some_bif]
 refine congrArg some ?_
 by_cases h:subC x.Sub=0
 ·rcases sub16 (subC_in h) with g | g | g | g | g | g | g | g | g | g | g | g | g | g | g | g <;> rw [g] <;> rcases hp with rfl | rfl | rfl <;> kernel_rfl
 ·rw [show (subC x.Sub == 0)=false by simpa using h];rfl
def listedI (x:ItemItem):Bool:=x.Own || hasB x.Sub 7
theorem has7 (s:Int):hasB s 7=(hasB s 1 || (hasB s 2 || hasB s 4)):=by
 by_cases h:subC s=0
 ·rcases sub16 (subC_in h) with rfl | rfl | rfl | rfl | rfl | rfl | rfl | rfl | rfl | rfl | rfl | rfl | rfl | rfl | rfl | rfl <;> kernel_rfl
 ·unfold hasB;rw [show (subC s == 0)=false by simpa using h];rfl
theorem listed_p (x:ItemItem):p_item_Listed x=some (listedI x):=by
 unfold p_item_Listed listedI
 rw [has_p]
 cases x.Own <;> rfl
theorem rlisted_p (x:ItemItem):p_ref20_Listed x=some (listedI x):=by
 unfold p_ref20_Listed listedI
 rw [rhas_p x 1 (.inl rfl),rhas_p x 2 (.inr (.inl rfl)),rhas_p x 4 (.inr (.inr rfl)),has7]
 cases x.Own <;> cases hasB x.Sub 1 <;> cases hasB x.Sub 2 <;> rfl
def idleI (x:ItemItem):Bool:=x.Sub == 0 && !x.Own
theorem idle_p (x:ItemItem):p_item_Idle x=some (idleI x):=by
 unfold p_item_Idle idleI
 cases x.Sub == 0 <;> rfl
theorem ridle_p (x:ItemItem):p_ref20_Idle x=some (idleI x):=by
 unfold p_ref20_Idle idleI
 cases x.Sub == 0 <;> cases x.Own <;> rfl
theorem sees_p (x:ItemItem):p_item_Sees x=some (hasB x.Sub 1):=by unfold p_item_Sees;rw [has_p];rfl
theorem rsees_p (x:ItemItem):p_ref20_Sees x=some (hasB x.Sub 1):=by unfold p_ref20_Sees;rw [rhas_p x 1 (.inl rfl)];rfl
theorem seen_p (x:ItemItem):p_item_Seen x=some (hasB x.Sub 2):=by unfold p_item_Seen;rw [has_p];rfl
theorem rseen_p (x:ItemItem):p_ref20_Seen x=some (hasB x.Sub 2):=by unfold p_ref20_Seen;rw [rhas_p x 2 (.inr (.inl rfl))];rfl
def chkI (x:ItemItem):Int :=
 bif isBareL x.Contact.data.toList then bif decide ((24:Int) < (x.Name.size:Int)) then 5 else bif plainL x.Name.data.toList then bif subC x.Sub != 0 then subC x.Sub else bif decide (x.Ver < 0) then 8 else bif decide ((1099511627776:Int) < x.Ver) then 8 else bif x.Name.toList == (⟨#[]⟩ : ByteArray).toList then 0 else bif x.Own then 0 else 4 else 11 else 11
theorem check_p {x:ItemItem} (h:x.Contact.size≤100000) (hn:x.Name.size≤100000):p_item_Check x=some (chkI x):=by
 unfold p_item_Check p_addr_IsBare p_utf_Plain chkI
 rw [if_pos h,if_pos hn,subs_p]
 simp only [Option.bind_some,some_bif]
theorem rcheck_p {x:ItemItem} (h:x.Contact.size≤100000) (hn:x.Name.size≤100000):p_ref20_Check x=some (chkI x):=by
 unfold p_ref20_Check p_ref09_IsBare p_ref02_Plain chkI
 rw [if_pos h,if_pos hn,rsub_p]
 simp only [Option.bind_some,some_bif]
structure FineI (x:ItemItem):Prop where
 bare:isBareL x.Contact.data.toList=true
 name:x.Name.size≤24
 plain:plainL x.Name.data.toList=true
 sub:subC x.Sub=0
 ver:0≤x.Ver∧x.Ver≤1099511627776
 own:x.Own=true∨x.Name=⟨#[]⟩
theorem fine_of {x:ItemItem} (h:chkI x=0):FineI x:=by
 unfold chkI at h
 by_cases h1:isBareL x.Contact.data.toList=true
 case neg=>rw [Bool.not_eq_true] at h1;rw [h1,cond_false] at h;omega
 rw [h1,cond_true] at h
 by_cases h2:decide ((24:Int) < (x.Name.size:Int))=true
 ·rw [h2,cond_true] at h;omega
 rw [Bool.not_eq_true] at h2
 rw [h2,cond_false] at h
 by_cases h3:plainL x.Name.data.toList=true
 case neg=>rw [Bool.not_eq_true] at h3;rw [h3,cond_false] at h;omega
 rw [h3,cond_true] at h
 by_cases h4:(subC x.Sub != 0)=true
 ·rw [h4,cond_true] at h;rw [h] at h4;cases h4
 rw [Bool.not_eq_true] at h4
 rw [h4,cond_false] at h
 by_cases h5:decide (x.Ver < 0)=true
 ·rw [h5,cond_true] at h;omega
 rw [Bool.not_eq_true] at h5
 rw [h5,cond_false] at h
 by_cases h6:decide ((1099511627776:Int) < x.Ver)=true
 ·rw [h6,cond_true] at h;omega
 rw [Bool.not_eq_true] at h6
 rw [h6,cond_false] at h
 simp at h2 h4 h5 h6
 refine ⟨h1,by omega,h3,h4,⟨h5,h6⟩,?_⟩
 by_cases h7:(x.Name.toList == (⟨#[]⟩ : ByteArray).toList)=true
 ·exact .inr (eqT_iff.1 h7)
 ·rw [Bool.not_eq_true] at h7
  rw [h7,cond_false] at h
  cases h8:x.Own with
  | true=>exact .inl rfl
  | false=>rw [h8,cond_false] at h;omega
def lessI (x y:ItemItem):Bool:=decide (Lib.compareBytes x.Contact.data.toList y.Contact.data.toList < 0) || (Lib.compareBytes x.Contact.data.toList y.Contact.data.toList == 0 && decide (x.Ver < y.Ver))
theorem eq_cmp0 (a b:ByteArray):(a.toList == b.toList)=(Lib.compareBytes a.data.toList b.data.toList == 0):=by
 rw [tl_data,tl_data]
 by_cases h:a.data.toList=b.data.toList
 ·rw [h,cmp_refl];simp
 ·have h2:¬ Lib.compareBytes a.data.toList b.data.toList=0:=fun g=>h (cmp_eq0 g)
  rw [show (a.data.toList == b.data.toList)=false by simpa using h,show (Lib.compareBytes a.data.toList b.data.toList == 0)=false by simpa using h2]
theorem rless_p (x y:ItemItem):p_ref20_Less x y=some (lessI x y):=by
 unfold p_ref20_Less lessI
 rw [eq_cmp0,tl_data,tl_data,cmp_less]
 cases decide (Lib.compareBytes x.Contact.data.toList y.Contact.data.toList < 0) <;> cases (Lib.compareBytes x.Contact.data.toList y.Contact.data.toList == 0) <;> rfl
theorem or_p (a b:Int):p_cmp_Or_int_ [a,b]=some (if a≠0 then a else b):=by
 unfold p_cmp_Or_int_
 have key:∀ F,p_cmp_Or_int__l1 [a,b] 2 (F + 3) 0=some (if a≠0 then .inl a else if b≠0 then .inl b else .inr 2):=fun F=>by
  rw [p_cmp_Or_int__l1]
  show (bif (a != 0) then some (.inl a) else p_cmp_Or_int__l1 [a,b] 2 (F + 2) 1)=_
  by_cases ha:a=0
  ·rw [show (a != 0)=false by simpa using ha,cond_false,if_neg (by simpa using ha),p_cmp_Or_int__l1]
   show (bif (b != 0) then some (.inl b) else p_cmp_Or_int__l1 [a,b] 2 (F + 1) 2)=_
   by_cases hb:b=0
   ·rw [show (b != 0)=false by simpa using hb,cond_false,if_neg (by simpa using hb),p_cmp_Or_int__l1];rfl
   ·rw [show (b != 0)=true by simpa using hb,cond_true,if_pos hb]
  ·rw [show (a != 0)=true by simpa using ha,cond_true,if_pos ha]
 have:=key (fuel - 3)
 rw [show fuel - 3 + 3=fuel from rfl] at this
 show ((p_cmp_Or_int__l1 [a,b] 2 fuel 0).bind _)=_
 rw [this]
 by_cases ha:a=0
 ·by_cases hb:b=0
  ·subst ha hb;rfl
  ·rw [if_neg (by simpa using ha),if_pos hb,if_neg (by simpa using ha)];rfl
 ·rw [if_pos ha,if_pos ha];rfl
theorem cmpc_p (a b:Int):p_cmp_Compare_int_ a b=some (if a < b then -1 else if b < a then 1 else 0):=by
 unfold p_cmp_Compare_int_ p_cmp_isNaN_int_
 simp only [Option.bind_some,bne_self_eq_false,cond_false]
 by_cases h:a < b
 ·rw [show decide (a < b)=true by simpa using h,if_pos h];rfl
 ·rw [show decide (a < b)=false by simpa using h,if_neg h]
  by_cases h2:b < a
  ·rw [show decide (b < a)=true by simpa using h2,if_pos h2];rfl
  ·rw [show decide (b < a)=false by simpa using h2,if_neg h2];rfl
theorem order_p (x y:ItemItem):∃ v,p_item_Item_order x y=some v∧decide (v < 0)=lessI x y:=by
 unfold p_item_Item_order p_strings_Compare
 simp only [Option.bind_some,cmpc_p,or_p]
 refine ⟨_,rfl,?_⟩
 unfold lessI
 generalize Lib.compareBytes x.Contact.data.toList y.Contact.data.toList=c
 by_cases hc:c=0
 ·rw [if_neg (by simpa using hc),hc]
  by_cases h:x.Ver < y.Ver
  ·simp [h]
  ·by_cases h2:y.Ver < x.Ver <;> simp [h,h2]
 ·rw [if_pos hc,show (c == 0)=false by simpa using hc];simp
theorem less_p (x y:ItemItem):p_item_Less x y=some (lessI x y):=by
 obtain ⟨v,h1,h2⟩:=order_p x y
 unfold p_item_Less
 rw [h1,Option.bind_some,h2]
theorem light_p (x:ItemItem):p_ref20_Light x=some (decide (x.Contact.size≤100) && decide (x.Name.size≤100)):=by
 unfold p_ref20_Light
 rw [show decide ((x.Contact.size:Int)≤100)=decide (x.Contact.size≤100) by simp;omega,show decide ((x.Name.size:Int)≤100)=decide (x.Name.size≤100) by simp;omega]
 cases decide (x.Contact.size≤100) <;> rfl
end Go.Proofs.YtpmoioopjbfhkaaGreat

/- Items' bytes in plain words: what is laid. -/
namespace Go.Proofs.YtpmoioopjbfhkaaGreat
open Go.RowKit
def tx (l:List Int):ByteArray:=⟨(l.map fun b=>UInt8.ofNat b.toNat).toArray⟩
def okB (l:List Int):Prop:=∀ b ∈ l,0≤b∧b≤255
theorem text_p {l:List Int} (h:okB l):text? l=some (tx l):=by
 unfold text?
 rw [if_pos (by
  rw [List.all_eq_true]
  intro b hb
  have:=h b hb
  simp [this.1,this.2])]
 rfl
theorem okB_app {a b:List Int} (ha:okB a) (hb:okB b):okB (a++b):=fun x hx=>by
 rcases List.mem_append.1 hx with h | h
 ·exact ha x h
 ·exact hb x h
theorem ba_eq {a b:ByteArray} (h:a.data.toList=b.data.toList):a=b:=by cases a;cases b;congr 1;exact Array.ext' h
theorem ba_app2 (a b:ByteArray):(a++b).data.toList=a.data.toList++b.data.toList:=by
 rw [ByteArray.data_append,Array.toList_append]
theorem tx_app (a b:List Int):tx a++tx b=tx (a++b):=ba_eq (by rw [ba_app2];simp [tx])
theorem tx_size (a:List Int):(tx a).size=a.length:=by show ((a.map _).toArray).size=_;simp
theorem cat_p {a b:List Int} (h:a.length + b.length≤1000000):cat? (tx a) (tx b)=some (tx (a++b)):=by
 unfold cat?
 rw [if_pos (by rw [tx_size,tx_size];omega),tx_app]
theorem bytesI_ok (s:ByteArray):okB (bytesI s):=fun b hb=>by
 unfold bytesI at hb
 obtain ⟨c,_,rfl⟩:=List.mem_map.1 hb
 have:c.toNat < 256:=c.toNat_lt
 omega
theorem u8_id {n:Int} (h:0≤n∧n≤255):IntKind.wrap .u8 n=n:=by
 simp only [IntKind.wrap,IntKind.signed,IntKind.bits]
 first | omega | (simp <;> omega)
def sayI (s:ByteArray):List Int:=(s.size:Int) :: bytesI s
theorem sayI_ok {s:ByteArray} (h:s.size≤255):okB (sayI s):=fun b hb=>by
 rcases List.mem_cons.1 hb with rfl | hb
 ·omega
 ·exact bytesI_ok s b hb
theorem bytesI_len2 (s:ByteArray):(bytesI s).length=s.size:=(bytesI_len s).symm
def sayX (s:ByteArray) (m:Int):List Int:=bif decide (m < (s.size:Int)) then [] else sayI s
theorem sayX_ok {s:ByteArray} {m:Int} (hm:m≤255):okB (sayX s m):=by
 unfold sayX
 by_cases h:decide (m < (s.size:Int))=true
 ·rw [h];exact fun b hb=>by cases hb
 ·rw [Bool.not_eq_true] at h
  rw [h,cond_false]
  simp at h
  exact sayI_ok (by omega)
theorem sayX_len {s:ByteArray} {m:Int} (hm:m≤255):(sayX s m).length≤256:=by
 unfold sayX
 by_cases h:decide (m < (s.size:Int))=true
 ·rw [h];simp
 ·rw [Bool.not_eq_true] at h
  rw [h,cond_false]
  simp at h
  unfold sayI
  rw [List.length_cons,bytesI_len2];omega
theorem say_p {s:ByteArray} {m:Int} (hm:m≤255):∃ e,p_octet_Say s m=some (sayX s m,e):=by
 unfold p_octet_Say sayX
 have e:(if (255:Int) < m then (255:Int) else m)=m:=if_neg (by omega)
 rw [e]
 by_cases h:decide (m < (s.size:Int))=true
 ·rw [h];exact ⟨_,rfl⟩
 ·rw [Bool.not_eq_true] at h
  rw [h,cond_false]
  simp at h
  rw [app_ok (by rw [bytesI_len2];simp;omega),Option.bind_some,u8_id (by omega)]
  exact ⟨_,rfl⟩
theorem rsay_p {s:ByteArray} {m:Int} (hm:m≤255):∃ e,p_ref01_Say s m=some (sayX s m,e):=by
 unfold p_ref01_Say sayX
 by_cases h:decide (m < (s.size:Int))=true
 ·rw [h];exact ⟨_,rfl⟩
 ·rw [Bool.not_eq_true] at h
  rw [h,cond_false]
  simp at h
  rw [cond_false,show decide ((255:Int) < (s.size:Int))=false by simp;omega,cond_false,app_ok (by rw [bytesI_len2];simp;omega),Option.bind_some,u8_id (by omega)]
  exact ⟨_,rfl⟩
def layI (n:Nat):List Int:=[((n / 2 ^ 40 % 256:Nat):Int),((n / 2 ^ 32 % 256:Nat):Int),((n / 2 ^ 24 % 256:Nat):Int),((n / 2 ^ 16 % 256:Nat):Int),((n / 2 ^ 8 % 256:Nat):Int),((n % 256:Nat):Int)]
theorem layI_ok (n:Nat):okB (layI n):=fun b hb=>by
 simp only [layI,List.mem_cons,List.not_mem_nil,or_false] at hb
 rcases hb with rfl | rfl | rfl | rfl | rfl | rfl <;> omega
theorem shrN (n k:Nat) (hk:k≤64):shrI .i64 (n:Int) (k:Int)=((n / 2 ^ k:Nat):Int):=by
 have e:(min (k:Int).toNat IntKind.i64.bits)=k:=by
  have:IntKind.i64.bits=64:=rfl
  rw [this];omega
 unfold shrI
 rw [e,fdivN]
theorem u8_mod (n:Nat):IntKind.wrap .u8 (n:Int)=((n % 256:Nat):Int):=by
 simp only [IntKind.wrap,IntKind.signed,IntKind.bits]
 first | omega | (simp <;> omega)
theorem lay_l (n:Nat) (F:Nat):p_octet_Lay_l1 6 n 6 6 (F + 7) 0 [0,0,0,0,0,0]=some (6,layI n):=by
 have key:p_octet_Lay_l1 6 n 6 6 (F + 7) 0 [0,0,0,0,0,0]=some (6,[IntKind.wrap .u8 (shrI .i64 n (40:Nat)),IntKind.wrap .u8 (shrI .i64 n (32:Nat)),IntKind.wrap .u8 (shrI .i64 n (24:Nat)),IntKind.wrap .u8 (shrI .i64 n (16:Nat)),IntKind.wrap .u8 (shrI .i64 n (8:Nat)),IntKind.wrap .u8 (shrI .i64 n (0:Nat))]):=by kernel_rfl
 rw [key,shrN n 40 (by decide),shrN n 32 (by decide),shrN n 24 (by decide),shrN n 16 (by decide),shrN n 8 (by decide),shrN n 0 (by decide)]
 simp only [u8_mod,Nat.pow_zero,Nat.div_one]
 rfl
theorem lay_p {n:Int} (h:0≤n∧n≤1099511627776):p_octet_Lay n 6=some (layI n.toNat,0):=by
 obtain ⟨N,rfl⟩ : ∃ N:Nat,n=N:=⟨n.toNat,by omega⟩
 rw [Int.toNat_natCast]
 unfold p_octet_Lay
 have hw:p_octet_wide 6=some true:=by kernel_rfl
 have h8:w64 ((8:Int) * 6)=((48:Nat):Int):=by kernel_rfl
 have hs:shrI .i64 (N:Int) ((48:Nat):Int)=0:=by
  rw [shrN N 48 (by decide),Nat.div_eq_of_lt (by have:(2:Nat) ^ 48=281474976710656:=(by decide);omega)];rfl
 have hm:mk? (6:Int) (0:Int)=some [0,0,0,0,0,0]:=by kernel_rfl
 have hl:=lay_l N (fuel - 7)
 rw [show fuel - 7 + 7=fuel from rfl] at hl
 rw [hw,Option.bind_some,cond_true,show decide ((N:Int) < 0)=false by simp,cond_false,h8]
 have hp:pos? ((48:Nat):Int)=some ():=by kernel_rfl
 rw [hp,Option.bind_some,hs,show ((0:Int) != 0)=false from rfl,cond_false,hm,Option.bind_some,hl,Option.bind_some]
 rfl
theorem tdivN (a b:Nat):Int.tdiv (a:Int) (b:Int)=((a / b:Nat):Int):=rfl
theorem tmodN (a b:Nat):Int.tmod (a:Int) (b:Int)=((a % b:Nat):Int):=rfl
theorem rlay_l (z:Int) (F N:Nat) (l:List Int) (k:Int) (hk:k < z) (hk0:0≤k∧k≤100) (hN:N≤1099511627776) (hl:l.length≤100):p_ref01_Lay_l1 z (F + 1) N l k=p_ref01_Lay_l1 z F ((N / 256:Nat):Int) (((N % 256:Nat):Int) :: l) (k + 1):=by
 rw [p_ref01_Lay_l1,show decide (k < z)=true by simpa using hk,cond_true,show (256:Int)=((256:Nat):Int) from rfl,tmodN,tdivN,u8_id (by omega),app_ok (by simp;omega),Option.bind_some,w64_id (by omega),w64_id (by omega)]
 rfl
theorem rlay_p {n:Int} (h:0≤n∧n≤1099511627776):p_ref01_Lay n 6=some (layI n.toNat,0):=by
 obtain ⟨N,rfl⟩ : ∃ N:Nat,n=N:=⟨n.toNat,by omega⟩
 rw [Int.toNat_natCast]
 unfold p_ref01_Lay
 have hw:p_ref01_wide 6=some true:=by kernel_rfl
 rw [hw,Option.bind_some,cond_true,show decide ((N:Int) < 0)=false by simp,cond_false]
 have hl:p_ref01_Lay_l1 6 fuel N [] 0=some (((N / 256 / 256 / 256 / 256 / 256 / 256:Nat):Int),[((N / 256 / 256 / 256 / 256 / 256 % 256:Nat):Int),((N / 256 / 256 / 256 / 256 % 256:Nat):Int),((N / 256 / 256 / 256 % 256:Nat):Int),((N / 256 / 256 % 256:Nat):Int),((N / 256 % 256:Nat):Int),((N % 256:Nat):Int)],6):=by
  rw [show fuel=fuel - 7 + 7 from rfl]
  rw [rlay_l _ _ _ _ _ (by omega) (by omega) (by omega) (by simp),rlay_l _ _ _ _ _ (by omega) (by omega) (by omega) (by simp),rlay_l _ _ _ _ _ (by omega) (by omega) (by omega) (by simp),rlay_l _ _ _ _ _ (by omega) (by omega) (by omega) (by simp),rlay_l _ _ _ _ _ (by omega) (by omega) (by omega) (by simp),rlay_l _ _ _ _ _ (by omega) (by omega) (by omega) (by simp),p_ref01_Lay_l1]
  rfl
 rw [hl,Option.bind_some]
 have h0:N / 256 / 256 / 256 / 256 / 256 / 256=0:=by omega
 rw [h0]
 show some (_,(0:Int))=_
 have e:∀ k:Nat,N / 256 / 256=N / 2 ^ 16∧N / 256=N / 2 ^ 8∧N / 256 / 256 / 256=N / 2 ^ 24∧N / 256 / 256 / 256 / 256=N / 2 ^ 32∧N / 256 / 256 / 256 / 256 / 256=N / 2 ^ 40:=fun _=>by
  simp [Nat.div_div_eq_div_mul]
 obtain ⟨e2,e1,e3,e4,e5⟩:=e 0
 unfold layI
 rw [e5,e4,e3,e2,e1]
theorem concat_l1 (z:List (List Int)) (F k:Nat) (y:Int) (h:k < z.length) (hy:0≤y∧y≤100000) (hz:z[k].length≤1000) (hk:k≤100):p_slices_Concat_byte_l1 z (z.length:Int) (F + 1) y (k:Int)=p_slices_Concat_byte_l1 z (z.length:Int) F (y + (z[k].length:Int)) ((k + 1:Nat):Int):=by
 rw [p_slices_Concat_byte_l1,lt_tt h,cond_true,at_lt h,Option.bind_some,w64_id (by omega),show decide (y + (z[k].length:Int) < 0)=false by simp;omega,cond_false,w64_succ (by omega)]
theorem concat_l2 (z:List (List Int)) (F k:Nat) (y:List Int) (h:k < z.length) (hy:y.length≤100000) (hz:z[k].length≤1000) (hk:k≤100):p_slices_Concat_byte_l2 z (z.length:Int) (F + 1) y (k:Int)=p_slices_Concat_byte_l2 z (z.length:Int) F (y++z[k]) ((k + 1:Nat):Int):=by
 rw [p_slices_Concat_byte_l2,lt_tt h,cond_true,at_lt h,Option.bind_some,app_ok (by omega),Option.bind_some,w64_succ (by omega)]
theorem concat_p {a b c d:List Int} (ha:a.length≤1000) (hb:b.length≤1000) (hc:c.length≤1000) (hd:d.length≤1000):p_slices_Concat_byte [a,b,c,d]=some (a++b++c++d):=by
 unfold p_slices_Concat_byte
 have h1:p_slices_Concat_byte_l1 [a,b,c,d] (([a,b,c,d]:List (List Int)).length:Int) fuel 0 0=some (0 + (a.length:Int) + (b.length:Int) + (c.length:Int) + (d.length:Int),4):=by
  rw [show fuel=fuel - 5 + 5 from rfl,show (0:Int)=((0:Nat):Int) from rfl]
  rw [concat_l1 [a,b,c,d] _ 0 _ (by simp) (by simp) (by simpa using ha) (by decide),concat_l1 [a,b,c,d] _ 1 _ (by simp) (by simp;omega) (by simpa using hb) (by decide),concat_l1 [a,b,c,d] _ 2 _ (by simp) (by simp;omega) (by simpa using hc) (by decide),concat_l1 [a,b,c,d] _ 3 _ (by simp) (by simp;omega) (by simpa using hd) (by decide),p_slices_Concat_byte_l1]
  rfl
 have h2:p_slices_Concat_byte_l2 [a,b,c,d] (([a,b,c,d]:List (List Int)).length:Int) fuel [] 0=some ([]++a++b++c++d,4):=by
  rw [show fuel=fuel - 5 + 5 from rfl,show (0:Int)=((0:Nat):Int) from rfl]
  rw [concat_l2 [a,b,c,d] _ 0 _ (by simp) (by simp) (by simpa using ha) (by decide),concat_l2 [a,b,c,d] _ 1 _ (by simp) (by simp;omega) (by simpa using hb) (by decide),concat_l2 [a,b,c,d] _ 2 _ (by simp) (by simp;omega) (by simpa using hc) (by decide),concat_l2 [a,b,c,d] _ 3 _ (by simp) (by simp;omega) (by simpa using hd) (by decide),p_slices_Concat_byte_l2]
  rfl
 rw [h1,Option.bind_some]
 have hg:grow? (0 + (a.length:Int) + (b.length:Int) + (c.length:Int) + (d.length:Int))=some ():=if_pos (by omega)
 rw [hg,Option.bind_some,h2]
 simp
def bytI (x:ItemItem):List Int:=sayX x.Contact 33++sayX x.Name 24++[bif x.Own then x.Sub + 16 else x.Sub]++layI x.Ver.toNat
theorem or16 {s:Int} (h:subC s=0):orI .i64 s (16:Int)=s + 16:=by
 rcases sub16 (subC_in h) with rfl | rfl | rfl | rfl | rfl | rfl | rfl | rfl | rfl | rfl | rfl | rfl | rfl | rfl | rfl | rfl <;> kernel_rfl
def putI (x:ItemItem):ByteArray × Int:=if chkI x=0 then (tx (bytI x),0) else (⟨#[]⟩,chkI x)
theorem bytI_ok {x:ItemItem} (f:FineI x):okB (bytI x):=by
 have hs:=subC_in f.sub
 refine okB_app (okB_app (okB_app (sayX_ok (by decide)) (sayX_ok (by decide))) fun b hb=>?_) (layI_ok _)
 rw [List.mem_singleton] at hb
 subst hb
 cases x.Own <;> simp only [cond_true,cond_false] <;> omega
theorem put_p {x:ItemItem} (hc:x.Contact.size≤100000) (hn:x.Name.size≤100000):p_item_Put x=some (putI x):=by
 unfold p_item_Put putI
 rw [check_p hc hn,Option.bind_some]
 by_cases h:chkI x=0
 ·have f:=fine_of h
  have hs:=subC_in f.sub
  have hb:=bytI_ok f
  obtain ⟨e1,h1⟩:=say_p (s:=x.Contact) (m:=33) (by decide)
  obtain ⟨e2,h2⟩:=say_p (s:=x.Name) (m:=24) (by decide)
  have l1:=sayX_len (s:=x.Contact) (m:=33) (by decide)
  have l2:=sayX_len (s:=x.Name) (m:=24) (by decide)
  rw [h,if_pos rfl,show ((0:Int) != 0)=false from rfl,cond_false,h1,h2,lay_p f.ver]
  simp only [Option.bind_some]
  cases ho:x.Own with
  | true =>
   rw [cond_true,or16 f.sub,u8_id (by omega),concat_p (by omega) (by omega) (by simp) (by simp [layI]),Option.bind_some]
   have e:sayX x.Contact 33++sayX x.Name 24++[x.Sub + 16]++layI x.Ver.toNat=bytI x:=by unfold bytI;rw [ho];rfl
   rw [e,text_p hb];rfl
  | false =>
   rw [cond_false,u8_id (by omega),concat_p (by omega) (by omega) (by simp) (by simp [layI]),Option.bind_some]
   have e:sayX x.Contact 33++sayX x.Name 24++[x.Sub]++layI x.Ver.toNat=bytI x:=by unfold bytI;rw [ho];rfl
   rw [e,text_p hb];rfl
 ·rw [if_neg h,show (chkI x != 0)=true by simpa using h,cond_true]
def pushI (x:ItemItem):StanzaStanza :=
 if chkI x≠0 then ⟨0,⟨#[]⟩,⟨#[]⟩,⟨#[]⟩,0,0,0,0⟩ else bif listedI x then ⟨38,x.Contact,⟨#[]⟩,x.Name,Int.tmod x.Sub 8,0,0,x.Ver⟩ else ⟨39,x.Contact,⟨#[]⟩,⟨#[]⟩,0,0,0,x.Ver⟩
theorem not8 {s:Int} (h:subC s=0):andNotI .i64 s (8:Int)=Int.tmod s 8:=by
 rcases sub16 (subC_in h) with rfl | rfl | rfl | rfl | rfl | rfl | rfl | rfl | rfl | rfl | rfl | rfl | rfl | rfl | rfl | rfl <;> kernel_rfl
theorem push_p {x:ItemItem} (hc:x.Contact.size≤100000) (hn:x.Name.size≤100000):p_item_Push x=some (pushI x):=by
 unfold p_item_Push pushI
 rw [check_p hc hn,listed_p]
 simp only [Option.bind_some]
 by_cases h:chkI x=0
 ·rw [show (chkI x != 0)=false by simpa using h,cond_false,if_neg (by simpa using h),not8 (fine_of h).sub]
  cases listedI x <;> rfl
 ·rw [show (chkI x != 0)=true by simpa using h,cond_true,if_pos h]
end Go.Proofs.YtpmoioopjbfhkaaGreat

/- slices.Grow of a nil slice at function 150. -/
namespace Go.Proofs.YtpmoioopjbfhkaaGreat
open Go.RowKit Go.Lib
set_option maxHeartbeats 4000000
set_option maxRecDepth 100000
theorem groS150 (base:Option Addr) (n:Nat) (w:World) (hn:0 < n) (hbig:n≤1000000) :
  Calls Tryz.prog 150 #[.slice base 0 0,.int .i64 n] w fun e w'=>∃ (ZS:Array Value) (c:Nat),e=.returned (.slice (some ⟨w.heap.size,0,none⟩) 0 c)∧w'=w.drew.alloc (.cells ZS 5)∧c * 1≤ZS.size:=by
 have tS:Tryz.prog.underlying 135=some (.slice 5):=by kernel_rfl
 have tI:Tryz.prog.underlying 3=some (.int .i64):=by kernel_rfl
 have uS:=run_underlying tS
 have uI:=run_underlying tI
 have mixed:Tryz.prog.follows .mixedOrders=true:=mix
 obtain ⟨i0,z,hi0,hzs,hz0,hzc,hzb⟩:=infB_ok (P:=Tryz.prog) (e:=5) (es:=1) (by kernel_rfl)
 have hold:(Builtin.firstCells i0.size 0 (.slice base 0 0)).run Tryz.prog w.drew=.ok ([]:List Value).toArray w.drew:=by
  cases base with
  | none=>exact run_firstCells_none w.drew i0.size 0 0 0
  | some a=>exact run_firstCells_some w.drew i0.size 0 a 0 0 [] (by simp) (fun j v hj=>by simp at hj)
 have hb1:=grown_bound (n:=0) (k:=n) (by omega) hzb
 have hge:=grownCap_ge w (0 + n) 0 5
 have hsz:grownCap w (0 + n) 0 5 * 1≤(([]:List Value).toArray++Builtin.zeroCells z.cells n++Builtin.zeroCells z.cells (grownCap w (0 + n) 0 5 - (0 + n))).size:=by
  simp only [Array.size_append,size_zeroCells,hzc,List.size_toArray,List.length_nil]
  have:grownCap w (0 + n) 0 5=n + (grownCap w (0 + n) 0 5 - (0 + n)):=by omega
  rw [Nat.zero_add (n * 1),← Nat.add_mul,← this]
  exact Nat.le_refl _
 have hrun:∀ ty,(Builtin.append_ #[135,3] ty #[.slice base 0 0,.int .i64 (n:Int)]).run Tryz.prog w=_:=fun ty =>
  run_append_grow_zeros w 135 3 ty 5 i0 z .i64 .i64 tS tI hi0 hz0 base 0 0 [] hold n hn (by rw [hzs];decide) (by omega) (by omega) (by first | omega | (have:=Nat.mul_le_mul hbig hzb;omega)) (growslice_fits (by omega) hb1)
 obtain ⟨ZS,hZ⟩ : ∃ ZS:Array Value,ZS=([]:List Value).toArray++Builtin.zeroCells z.cells n++Builtin.zeroCells z.cells (grownCap w (0 + n) 0 5 - (0 + n)):=⟨_,rfl⟩
 rw [← hZ] at hsz
 simp only [← hZ] at hrun
 simp only [Nat.zero_add] at hge hsz hrun
 obtain ⟨G,hG⟩ : ∃ G,G=grownCap w n 0 5:=⟨_,rfl⟩
 rw [← hG] at hge hsz
 simp only [← hG] at hrun
 have hG63:G≤9223372036854775807:=by
  have:=grownCap_le_maxLen w n 0 5 (by unfold maxLen;omega)
  rw [← hG] at this
  unfold maxLen at this
  omega
 refine Calls.mono (R:=fun e w'=>e=.returned (.slice (some ⟨w.heap.size,0,none⟩) 0 G)∧w'=w.drew.alloc (.cells ZS 5)) ?_ (by rintro e w' ⟨rfl,rfl⟩;exact ⟨ZS,G,rfl,rfl,hsz⟩)
 clear hsz hZ hG hold hb1 hz0 hzb hzc hzs hi0
 have h1:¬ ((n:Int) < 0):=by omega
 have h3:IntKind.i64.wrap (n:Int)=(n:Int):=by rw [IntKind.wrap_i64];omega
 have h3' : wrap64 (n:Int)=(n:Int):=by unfold wrap64;omega
 have h4:(n:Int) > 0:=by omega
 cases base with
 | none =>
  go_enter Tryz.func150,Tryz.ntmps150
  go_wp2_with (at_builtin;refine Lib.wpList_append_run _ rfl _ _ _ _ rfl _ _ rfl rfl _ _ (hrun _) ?_)
  go_ret
  exact ⟨rfl,rfl⟩
 | some a =>
  obtain ⟨ab,ao,asp⟩:=a
  go_enter Tryz.func150,Tryz.ntmps150
  go_wp2_with (at_builtin;refine Lib.wpList_append_run _ rfl _ _ _ _ rfl _ _ rfl rfl _ _ (hrun _) ?_)
  go_ret
  exact ⟨rfl,rfl⟩
theorem groZ150 (base:Option Addr) (w:World):Calls Tryz.prog 150 #[.slice base 0 0,.int .i64 0] w fun e w'=>e=.returned (.slice base 0 0)∧w'=w:=by
 have tS:Tryz.prog.underlying 135=some (.slice 5):=by kernel_rfl
 have tI:Tryz.prog.underlying 3=some (.int .i64):=by kernel_rfl
 have uS:=run_underlying tS
 have uI:=run_underlying tI
 have mixed:Tryz.prog.follows .mixedOrders=true:=mix
 go_enter Tryz.func150,Tryz.ntmps150
 go_wp2
 go_ret
 exact ⟨rfl,rfl⟩
theorem groR150_v:GrowRoads Tryz.prog 150 1 5:=⟨groS150,groZ150⟩
end Go.Proofs.YtpmoioopjbfhkaaGreat

