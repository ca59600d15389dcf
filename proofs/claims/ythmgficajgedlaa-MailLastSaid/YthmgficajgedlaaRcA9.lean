/- A part of the proof: 6 texts joined. -/
import Derived.Test.YthmgficajgedlaaRcA7
import Derived.Test.YthmgficajgedlaaRcA8
import Derived.KernelRfl
import Derived.Test.YthmgficajgedlaaRcA5
import Derived.Lib.SliceRun
import Derived.Deep.RegionLaw
set_option linter.all false
/- Plain functions (written by a program of mine). -/
namespace Go.Proofs.Ythmgficajgedlaa
open Go.RowKit
structure Ar2_ByteArray where
  a0 : ByteArray
  a1 : ByteArray
abbrev Ar2_ByteArray.v (x : Ar2_ByteArray) : V := .agg [.s x.a0, .s x.a1]
def p_ref29_Light_l1 (z5 : List Ref29Arrow) : Nat → Int → Option (Bool ⊕ Int)
  | 0, _ => none
  | n + 1, y6 =>
    bif (decide (y6 < (z5.length : Int))) then
      (at? z5 y6).bind fun x8 =>
      bif (decide ((100 : Int) < (x8.From.size : Int))) then
        some (.inl false)
      else
      (at? z5 y6).bind fun x10 =>
      bif (decide ((100 : Int) < (x10.To.size : Int))) then
        some (.inl false)
      else
      p_ref29_Light_l1 z5 n (w64 (y6 + (1 : Int)))
    else
    some (.inr y6)
def p_ref29_Light (a0 : List Ref29Arrow) : Option (Bool) :=
  bif (decide ((40 : Int) < (a0.length : Int))) then
    some false
  else
  (p_ref29_Light_l1 a0 fuel (0 : Int)).bind fun o12 => match o12 with
  | .inl q13 =>
    some q13
  | .inr q14 =>
    some true
def p_pres_Split (a0 : ByteArray) : Option (ByteArray × ByteArray × Int) :=
  (p_strings_Cut a0 (⟨#[32]⟩ : ByteArray)).bind fun v1 =>
  bif v1.2.2 then
    (p_addr_IsBare v1.1).bind fun v3 =>
    bif v3 then
      (p_addr_Resource v1.2.1).bind fun v5 =>
      bif (v5 != (0 : Int)) then
        some ((⟨#[]⟩ : ByteArray), (⟨#[]⟩ : ByteArray), v5)
      else
      some (v1.1, v1.2.1, (0 : Int))
    else
    some ((⟨#[]⟩ : ByteArray), (⟨#[]⟩ : ByteArray), (11 : Int))
  else
  some ((⟨#[]⟩ : ByteArray), (⟨#[]⟩ : ByteArray), (4 : Int))
def p_dirs_Arrow_user (a0 : Ref29Arrow) : Option (ByteArray × Bool) :=
  (p_pres_Split a0.From).bind fun v1 =>
  some (v1.1, (v1.2.2 == (0 : Int)))
def p_dirs_Arrow_wrong (a0 : Ref29Arrow) : Option (Bool) :=
  (p_dirs_Arrow_user a0).bind fun v1 =>
  bif v1.2 then
    (p_addr_IsBare a0.To).bind fun v3 =>
    some (!v3)
  else
  some true
def p_slices_IndexFunc_dirs_State_dirs_Arrow__l1 (a1 : Ref29Arrow → Option Bool) (z5 : List Ref29Arrow) (z6 : Int) : Nat → Int → Option (Int ⊕ Int)
  | 0, _ => none
  | n + 1, y7 =>
    bif (decide (y7 < z6)) then
      (at? z5 y7).bind fun x9 =>
      (a1 x9).bind fun v10 =>
      bif v10 then
        some (.inl y7)
      else
      p_slices_IndexFunc_dirs_State_dirs_Arrow__l1 a1 z5 z6 n (w64 (y7 + (1 : Int)))
    else
    some (.inr y7)
def p_slices_IndexFunc_dirs_State_dirs_Arrow_ (a0 : List Ref29Arrow) (a1 : Ref29Arrow → Option Bool) : Option (Int) :=
  (p_slices_IndexFunc_dirs_State_dirs_Arrow__l1 a1 a0 (a0.length : Int) fuel (0 : Int)).bind fun o12 => match o12 with
  | .inl q13 =>
    some q13
  | .inr q14 =>
    some (-1 : Int)
def p_slices_ContainsFunc_dirs_State_dirs_Arrow_ (a0 : List Ref29Arrow) (a1 : Ref29Arrow → Option Bool) : Option (Bool) :=
  (p_slices_IndexFunc_dirs_State_dirs_Arrow_ a0 a1).bind fun v1 =>
  some (decide ((0 : Int) ≤ v1))
def p_cmp_Or_int__l1 (z6 : List Int) (z7 : Int) : Nat → Int → Option (Int ⊕ Int)
  | 0, _ => none
  | n + 1, y8 =>
    bif (decide (y8 < z7)) then
      (at? z6 y8).bind fun x10 =>
      bif (x10 != (0 : Int)) then
        some (.inl x10)
      else
      p_cmp_Or_int__l1 z6 z7 n (w64 (y8 + (1 : Int)))
    else
    some (.inr y8)
def p_cmp_Or_int_ (a0 : List Int) : Option (Int) :=
  (p_cmp_Or_int__l1 a0 (a0.length : Int) fuel (0 : Int)).bind fun o12 => match o12 with
  | .inl q13 =>
    some q13
  | .inr q14 =>
    some (0 : Int)
def p_dirs_order (a0 : Ref29Arrow) (a1 : Ref29Arrow) : Option (Int) :=
  (p_strings_Compare a0.From a1.From).bind fun v1 =>
  (p_strings_Compare a0.To a1.To).bind fun v2 =>
  (p_cmp_Or_int_ [v1, v2]).bind fun v3 =>
  some v3
def p_dirs_Check_l1 (z7 : List Ref29Arrow) : Nat → Int → Option (Int ⊕ Int)
  | 0, _ => none
  | n + 1, y8 =>
    bif (decide (y8 < (z7.length : Int))) then
      (at? z7 (w64 (y8 - (1 : Int)))).bind fun x10 =>
      (at? z7 y8).bind fun x11 =>
      (p_dirs_order x10 x11).bind fun v12 =>
      bif (decide ((0 : Int) ≤ v12)) then
        some (.inl (10 : Int))
      else
      p_dirs_Check_l1 z7 n (w64 (y8 + (1 : Int)))
    else
    some (.inr y8)
def p_dirs_Check (a0 : List Ref29Arrow) : Option (Int) :=
  bif (decide ((32 : Int) < (a0.length : Int))) then
    some (5 : Int)
  else
  (p_slices_ContainsFunc_dirs_State_dirs_Arrow_ a0 (fun x0 => p_dirs_Arrow_wrong x0)).bind fun v2 =>
  bif v2 then
    some (11 : Int)
  else
  (p_dirs_Check_l1 a0 fuel (1 : Int)).bind fun o14 => match o14 with
  | .inl q15 =>
    some q15
  | .inr q16 =>
    some (0 : Int)
def p_slices_BinarySearchFunc_dirs_State_dirs_Arrow_dirs_Arrow__l1 (a2 : Ref29Arrow → Ref29Arrow → Option Int) (z8 : List Ref29Arrow) (z12 : Ref29Arrow) : Nat → Int → Int → Option ((Int × Int))
  | 0, _, _ => none
  | n + 1, y10, y11 =>
    bif (decide (y10 < y11)) then
      (at? z8 (w64 (shrI .u64 (IntKind.wrap .u64 (w64 (y10 + y11))) (1 : Int)))).bind fun x14 =>
      (a2 x14 z12).bind fun v15 =>
      bif (decide (v15 < (0 : Int))) then
        p_slices_BinarySearchFunc_dirs_State_dirs_Arrow_dirs_Arrow__l1 a2 z8 z12 n (w64 (w64 (shrI .u64 (IntKind.wrap .u64 (w64 (y10 + y11))) (1 : Int)) + (1 : Int))) y11
      else
      p_slices_BinarySearchFunc_dirs_State_dirs_Arrow_dirs_Arrow__l1 a2 z8 z12 n y10 (w64 (shrI .u64 (IntKind.wrap .u64 (w64 (y10 + y11))) (1 : Int)))
    else
    some (y10, y11)
def p_slices_BinarySearchFunc_dirs_State_dirs_Arrow_dirs_Arrow_ (a0 : List Ref29Arrow) (a1 : Ref29Arrow) (a2 : Ref29Arrow → Ref29Arrow → Option Int) : Option (Int × Bool) :=
  (p_slices_BinarySearchFunc_dirs_State_dirs_Arrow_dirs_Arrow__l1 a2 a0 a1 fuel (0 : Int) (a0.length : Int)).bind fun q18 =>
  bif (decide (q18.1 < (a0.length : Int))) then
    (at? a0 q18.1).bind fun x20 =>
    (a2 x20 a1).bind fun v21 =>
    some (q18.1, (v21 == (0 : Int)))
  else
  some (q18.1, false)
def p_dirs_Add (a0 : List Ref29Arrow) (a1 : ByteArray) (a2 : ByteArray) : Option ((List Ref29Arrow) × Int) :=
  (p_dirs_Check a0).bind fun v1 =>
  bif (v1 != (0 : Int)) then
    some (a0, v1)
  else
  (p_dirs_Arrow_wrong (Ref29Arrow.mk a1 a2)).bind fun v3 =>
  bif v3 then
    some (a0, (11 : Int))
  else
  (p_slices_BinarySearchFunc_dirs_State_dirs_Arrow_dirs_Arrow_ a0 (Ref29Arrow.mk a1 a2) (fun x0 x1 => p_dirs_order x0 x1)).bind fun v5 =>
  bif v5.2 then
    some (a0, (0 : Int))
  else
  bif ((a0.length : Int) == (32 : Int)) then
    some (a0, (7 : Int))
  else
  (clone? a0).bind fun l8 =>
  (insAt? l8 v5.1 (Ref29Arrow.mk a1 a2)).bind fun v9 =>
  some (v9, (0 : Int))
def p_dirs_Del_1 (a0 : Ref29Arrow) (c0 : Ref29Arrow) : Option (Bool) :=
  some ((a0.From.toList == c0.From.toList) && ((a0.To.toList == c0.To.toList) && true))
def p_dirs_State_without_l1 (a1 : Ref29Arrow → Option Bool) (z10 : List Ref29Arrow) (z11 : Int) : Nat → (List Ref29Arrow) → (List Ref29Arrow) → Int → Option (((List Ref29Arrow) × (List Ref29Arrow) × Int))
  | 0, _, _, _ => none
  | n + 1, y8, y9, y12 =>
    bif (decide (y12 < z11)) then
      (at? z10 y12).bind fun x14 =>
      (a1 x14).bind fun v15 =>
      bif v15 then
        (app? y9 [x14]).bind fun l17 =>
        p_dirs_State_without_l1 a1 z10 z11 n y8 l17 (w64 (y12 + (1 : Int)))
      else
      (app? y8 [x14]).bind fun l18 =>
      p_dirs_State_without_l1 a1 z10 z11 n l18 y9 (w64 (y12 + (1 : Int)))
    else
    some (y8, y9, y12)
def p_dirs_State_without (a0 : List Ref29Arrow) (a1 : Ref29Arrow → Option Bool) : Option ((List Ref29Arrow) × (List Ref29Arrow)) :=
  (p_dirs_State_without_l1 a1 a0 (a0.length : Int) fuel [] [] (0 : Int)).bind fun q20 =>
  some (q20.1, q20.2.1)
def p_dirs_Del (a0 : List Ref29Arrow) (a1 : ByteArray) (a2 : ByteArray) : Option ((List Ref29Arrow) × Bool) :=
  (p_dirs_Check a0).bind fun v1 =>
  bif (v1 != (0 : Int)) then
    some (a0, false)
  else
  (p_dirs_State_without a0 (fun x0 => p_dirs_Del_1 x0 (Ref29Arrow.mk a1 a2))).bind fun v3 =>
  some (v3.1, (decide ((0 : Int) < (v3.2.length : Int))))
def p_dirs_Clear_1 (a0 : Ref29Arrow) (c0 : ByteArray) : Option (Bool) :=
  some (a0.From.toList == c0.toList)
def p_dirs_State_tos_l1 (z7 : List Ref29Arrow) (z8 : Int) : Nat → (List ByteArray) → Int → Option (((List ByteArray) × Int))
  | 0, _, _ => none
  | n + 1, y6, y9 =>
    bif (decide (y9 < z8)) then
      (at? z7 y9).bind fun x11 =>
      (app? y6 [x11.To]).bind fun l12 =>
      p_dirs_State_tos_l1 z7 z8 n l12 (w64 (y9 + (1 : Int)))
    else
    some (y6, y9)
def p_dirs_State_tos (a0 : List Ref29Arrow) : Option ((List ByteArray)) :=
  (p_dirs_State_tos_l1 a0 (a0.length : Int) fuel [] (0 : Int)).bind fun q14 =>
  some q14.1
def p_dirs_Clear (a0 : List Ref29Arrow) (a1 : ByteArray) : Option ((List Ref29Arrow) × (List ByteArray)) :=
  (p_dirs_Check a0).bind fun v1 =>
  bif (v1 != (0 : Int)) then
    some (a0, [])
  else
  (p_dirs_State_without a0 (fun x0 => p_dirs_Clear_1 x0 a1)).bind fun v3 =>
  (p_dirs_State_tos v3.2).bind fun v4 =>
  some (v3.1, v4)
def p_dirs_Only_1 (a0 : Ref29Arrow) (c0 : ByteArray) (c1 : ByteArray) : Option (Bool) :=
  (p_dirs_Arrow_user a0).bind fun v1 =>
  bif (v1.1.toList == c0.toList) then
    some (a0.To.toList == c1.toList)
  else
  some false
def p_dirs_Only (a0 : List Ref29Arrow) (a1 : ByteArray) (a2 : ByteArray) : Option ((List Ref29Arrow) × Int) :=
  (p_dirs_Check a0).bind fun v1 =>
  bif (v1 != (0 : Int)) then
    some (a0, (0 : Int))
  else
  (p_dirs_State_without a0 (fun x0 => p_dirs_Only_1 x0 a1 a2)).bind fun v3 =>
  some (v3.1, (v3.2.length : Int))
def p_ref01_SameTexts_l1 (z6 : List ByteArray) (z7 : List ByteArray) : Nat → Int → Option (Bool ⊕ Int)
  | 0, _ => none
  | n + 1, y8 =>
    bif (decide (y8 < (z6.length : Int))) then
      (at? z6 y8).bind fun x10 =>
      (at? z7 y8).bind fun x11 =>
      bif (x10.toList == x11.toList) then
        p_ref01_SameTexts_l1 z6 z7 n (w64 (y8 + (1 : Int)))
      else
      some (.inl false)
    else
    some (.inr y8)
def p_ref01_SameTexts (a0 : List ByteArray) (a1 : List ByteArray) : Option (Bool) :=
  bif ((a0.length : Int) != (a1.length : Int)) then
    some false
  else
  (p_ref01_SameTexts_l1 a0 a1 fuel (0 : Int)).bind fun o13 => match o13 with
  | .inl q14 =>
    some q14
  | .inr q15 =>
    some true
def p_slices_Equal_dirs_State_dirs_Arrow__l1 (z7 : List Ref29Arrow) (z8 : List Ref29Arrow) (z9 : Int) : Nat → Int → Option (Bool ⊕ Int)
  | 0, _ => none
  | n + 1, y10 =>
    bif (decide (y10 < z9)) then
      (at? z7 y10).bind fun x12 =>
      (at? z8 y10).bind fun x13 =>
      bif ((x12.From.toList == x13.From.toList) && ((x12.To.toList == x13.To.toList) && true)) then
        p_slices_Equal_dirs_State_dirs_Arrow__l1 z7 z8 z9 n (w64 (y10 + (1 : Int)))
      else
      some (.inl false)
    else
    some (.inr y10)
def p_slices_Equal_dirs_State_dirs_Arrow_ (a0 : List Ref29Arrow) (a1 : List Ref29Arrow) : Option (Bool) :=
  bif ((a0.length : Int) != (a1.length : Int)) then
    some false
  else
  (p_slices_Equal_dirs_State_dirs_Arrow__l1 a0 a1 (a0.length : Int) fuel (0 : Int)).bind fun o15 => match o15 with
  | .inl q16 =>
    some q16
  | .inr q17 =>
    some true
def p_dirs_Same (a0 : List Ref29Arrow) (a1 : List Ref29Arrow) : Option (Bool) :=
  (p_slices_Equal_dirs_State_dirs_Arrow_ a0 a1).bind fun v1 =>
  some v1
def p_dirs_Keys_l1 (z9 : ByteArray) (z11 : List Ref29Arrow) (z12 : Int) : Nat → (List ByteArray) → Int → Option (((List ByteArray) × Int))
  | 0, _, _ => none
  | n + 1, y10, y13 =>
    bif (decide (y13 < z12)) then
      (at? z11 y13).bind fun x15 =>
      bif (x15.To.toList == z9.toList) then
        (app? y10 [x15.From]).bind fun l17 =>
        p_dirs_Keys_l1 z9 z11 z12 n l17 (w64 (y13 + (1 : Int)))
      else
      p_dirs_Keys_l1 z9 z11 z12 n y10 (w64 (y13 + (1 : Int)))
    else
    some (y10, y13)
def p_dirs_Keys (a0 : List Ref29Arrow) (a1 : ByteArray) : Option ((List ByteArray)) :=
  (p_dirs_Check a0).bind fun v1 =>
  bif (v1 != (0 : Int)) then
    some []
  else
  (p_dirs_Keys_l1 a1 a0 (a0.length : Int) fuel [] (0 : Int)).bind fun q19 =>
  some q19.1
def p_dirs_Of (a0 : List Ref29Arrow) (a1 : ByteArray) : Option ((List ByteArray)) :=
  (p_dirs_Clear a0 a1).bind fun v1 =>
  some v1.2
def p_dirs_Has (a0 : List Ref29Arrow) (a1 : ByteArray) (a2 : ByteArray) : Option (Bool) :=
  (p_dirs_Del a0 a1 a2).bind fun v1 =>
  some v1.2
def p_law29_awake : Option (Bool) :=
  (p_dirs_Add [] (⟨#[98, 64, 120, 32, 49]⟩ : ByteArray) (⟨#[99, 64, 120]⟩ : ByteArray)).bind fun v1 =>
  (p_dirs_Add v1.1 (⟨#[97, 64, 120, 32]⟩ : ByteArray) (⟨#[99, 64, 120]⟩ : ByteArray)).bind fun v2 =>
  (p_dirs_Add v2.1 (⟨#[97, 64, 120, 32]⟩ : ByteArray) (⟨#[100, 64, 120]⟩ : ByteArray)).bind fun v3 =>
  (p_dirs_Del v3.1 (⟨#[98, 64, 120, 32, 49]⟩ : ByteArray) (⟨#[99, 64, 120]⟩ : ByteArray)).bind fun v4 =>
  (p_dirs_Del v4.1 (⟨#[98, 64, 120, 32, 49]⟩ : ByteArray) (⟨#[99, 64, 120]⟩ : ByteArray)).bind fun v5 =>
  (p_dirs_Clear v3.1 (⟨#[97, 64, 120, 32]⟩ : ByteArray)).bind fun v6 =>
  (p_dirs_Only v3.1 (⟨#[98, 64, 120]⟩ : ByteArray) (⟨#[99, 64, 120]⟩ : ByteArray)).bind fun v7 =>
  (p_dirs_Add v3.1 (⟨#[97]⟩ : ByteArray) (⟨#[100, 64, 120]⟩ : ByteArray)).bind fun v8 =>
  bif (v1.2 == (0 : Int)) then
    bif (v2.2 == (0 : Int)) then
      bif (v3.2 == (0 : Int)) then
        bif v4.2 then
          bif v5.2 then
            some false
          else
          (p_ref01_SameTexts v6.2 [(⟨#[99, 64, 120]⟩ : ByteArray), (⟨#[100, 64, 120]⟩ : ByteArray)]).bind fun v14 =>
          bif v14 then
            bif ((v6.1.length : Int) == (1 : Int)) then
              bif (v7.2 == (1 : Int)) then
                (p_dirs_Same v7.1 v4.1).bind fun v18 =>
                bif v18 then
                  bif (v8.2 == (11 : Int)) then
                    (p_dirs_Keys v3.1 (⟨#[99, 64, 120]⟩ : ByteArray)).bind fun v21 =>
                    (p_ref01_SameTexts v21 [(⟨#[97, 64, 120, 32]⟩ : ByteArray), (⟨#[98, 64, 120, 32, 49]⟩ : ByteArray)]).bind fun v22 =>
                    bif v22 then
                      (p_dirs_Of v3.1 (⟨#[97, 64, 120, 32]⟩ : ByteArray)).bind fun v24 =>
                      (p_ref01_SameTexts v24 [(⟨#[99, 64, 120]⟩ : ByteArray), (⟨#[100, 64, 120]⟩ : ByteArray)]).bind fun v25 =>
                      bif v25 then
                        (p_dirs_Has v3.1 (⟨#[97, 64, 120, 32]⟩ : ByteArray) (⟨#[100, 64, 120]⟩ : ByteArray)).bind fun v27 =>
                        bif v27 then
                          (p_dirs_Has v3.1 (⟨#[98, 64, 120, 32, 49]⟩ : ByteArray) (⟨#[100, 64, 120]⟩ : ByteArray)).bind fun v29 =>
                          bif v29 then
                            some false
                          else
                          (p_dirs_Check v3.1).bind fun v31 =>
                          bif (v31 == (0 : Int)) then
                            (p_dirs_Check [(Ref29Arrow.mk (⟨#[]⟩ : ByteArray) (⟨#[]⟩ : ByteArray))]).bind fun v33 =>
                            bif (v33 == (11 : Int)) then
                              (p_dirs_Same v3.1 v4.1).bind fun v35 =>
                              bif v35 then
                                some false
                              else
                              some true
                            else
                            some false
                          else
                          some false
                        else
                        some false
                      else
                      some false
                    else
                    some false
                  else
                  some false
                else
                some false
              else
              some false
            else
            some false
          else
          some false
        else
        some false
      else
      some false
    else
    some false
  else
  some false
def p_law29_own_l1 (z5 : List Ref29Arrow) : Nat → (List Ref29Arrow) → Int → Option (((List Ref29Arrow) × Int))
  | 0, _, _ => none
  | n + 1, y6, y7 =>
    bif (decide (y7 < (z5.length : Int))) then
      (at? z5 y7).bind fun x9 =>
      (app? y6 [x9]).bind fun l10 =>
      p_law29_own_l1 z5 n l10 (w64 (y7 + (1 : Int)))
    else
    some (y6, y7)
def p_law29_own (a0 : List Ref29Arrow) : Option ((List Ref29Arrow)) :=
  (p_law29_own_l1 a0 fuel [] (0 : Int)).bind fun q12 =>
  some q12.1
def p_ref23_Split_l1 (z6 : ByteArray) : Nat → Int → Option (Int)
  | 0, _ => none
  | n + 1, y7 =>
    bif (decide (y7 < (z6.size : Int))) then
      (byte? z6 y7).bind fun c9 =>
      bif (c9 != (32 : Int)) then
        p_ref23_Split_l1 z6 n (w64 (y7 + (1 : Int)))
      else
      some y7
    else
    some y7
def p_ref23_Split (a0 : ByteArray) : Option (ByteArray × ByteArray × Int) :=
  (p_ref23_Split_l1 a0 fuel (0 : Int)).bind fun q12 =>
  bif (q12 == (a0.size : Int)) then
    some ((⟨#[]⟩ : ByteArray), (⟨#[]⟩ : ByteArray), (4 : Int))
  else
  (sub? a0 none (some q12)).bind fun s14 =>
  (sub? a0 (some (w64 (q12 + (1 : Int)))) none).bind fun s15 =>
  (p_ref09_IsBare s14).bind fun v16 =>
  bif v16 then
    (p_ref09_Resource s15).bind fun v18 =>
    bif (v18 != (0 : Int)) then
      (p_ref09_Resource s15).bind fun v20 =>
      some ((⟨#[]⟩ : ByteArray), (⟨#[]⟩ : ByteArray), v20)
    else
    some (s14, s15, (0 : Int))
  else
  some ((⟨#[]⟩ : ByteArray), (⟨#[]⟩ : ByteArray), (11 : Int))
def p_ref29_fine (a0 : Ref29Arrow) : Option (Bool) :=
  (p_ref23_Split a0.From).bind fun v1 =>
  bif (v1.2.2 == (0 : Int)) then
    (p_ref09_IsBare a0.To).bind fun v3 =>
    some v3
  else
  some false
def p_ref29_less (a0 : Ref29Arrow) (a1 : Ref29Arrow) : Option (Bool) :=
  bif (Op.bytesLess a0.From.toList a1.From.toList) then
    some true
  else
  bif (a0.From.toList == a1.From.toList) then
    some (Op.bytesLess a0.To.toList a1.To.toList)
  else
  some false
def p_ref29_Check_l1 (z5 : List Ref29Arrow) : Nat → Int → Option (Int ⊕ Int)
  | 0, _ => none
  | n + 1, y6 =>
    bif (decide (y6 < (z5.length : Int))) then
      (at? z5 y6).bind fun x8 =>
      (p_ref29_fine x8).bind fun v9 =>
      bif v9 then
        p_ref29_Check_l1 z5 n (w64 (y6 + (1 : Int)))
      else
      some (.inl (11 : Int))
    else
    some (.inr y6)
def p_ref29_Check_l2 (z17 : List Ref29Arrow) : Nat → Int → Option (Int ⊕ Int)
  | 0, _ => none
  | n + 1, y18 =>
    bif (decide (y18 < (z17.length : Int))) then
      (at? z17 (w64 (y18 - (1 : Int)))).bind fun x20 =>
      (at? z17 y18).bind fun x21 =>
      (p_ref29_less x20 x21).bind fun v22 =>
      bif v22 then
        p_ref29_Check_l2 z17 n (w64 (y18 + (1 : Int)))
      else
      some (.inl (10 : Int))
    else
    some (.inr y18)
def p_ref29_Check (a0 : List Ref29Arrow) : Option (Int) :=
  bif (decide ((32 : Int) < (a0.length : Int))) then
    some (5 : Int)
  else
  (p_ref29_Check_l1 a0 fuel (0 : Int)).bind fun o11 => match o11 with
  | .inl q12 =>
    some q12
  | .inr q13 =>
    (p_ref29_Check_l2 a0 fuel (1 : Int)).bind fun o24 => match o24 with
    | .inl q25 =>
      some q25
    | .inr q26 =>
      some (0 : Int)
def p_ref29_Of_l1 (z6 : List Ref29Arrow) (z7 : ByteArray) : Nat → (List ByteArray) → Int → Option (((List ByteArray) × Int))
  | 0, _, _ => none
  | n + 1, y8, y9 =>
    bif (decide (y9 < (z6.length : Int))) then
      (p_ref29_Check z6).bind fun v11 =>
      bif (v11 == (0 : Int)) then
        (at? z6 y9).bind fun x13 =>
        bif (x13.From.toList == z7.toList) then
          (at? z6 y9).bind fun x15 =>
          (app? y8 [x15.To]).bind fun l16 =>
          p_ref29_Of_l1 z6 z7 n l16 (w64 (y9 + (1 : Int)))
        else
        p_ref29_Of_l1 z6 z7 n y8 (w64 (y9 + (1 : Int)))
      else
      some (y8, y9)
    else
    some (y8, y9)
def p_ref29_Of (a0 : List Ref29Arrow) (a1 : ByteArray) : Option ((List ByteArray)) :=
  (p_ref29_Of_l1 a0 a1 fuel [] (0 : Int)).bind fun q18 =>
  some q18.1
def p_ref29_Keys_l1 (z6 : List Ref29Arrow) (z7 : ByteArray) : Nat → (List ByteArray) → Int → Option (((List ByteArray) × Int))
  | 0, _, _ => none
  | n + 1, y8, y9 =>
    bif (decide (y9 < (z6.length : Int))) then
      (p_ref29_Check z6).bind fun v11 =>
      bif (v11 == (0 : Int)) then
        (at? z6 y9).bind fun x13 =>
        bif (x13.To.toList == z7.toList) then
          (at? z6 y9).bind fun x15 =>
          (app? y8 [x15.From]).bind fun l16 =>
          p_ref29_Keys_l1 z6 z7 n l16 (w64 (y9 + (1 : Int)))
        else
        p_ref29_Keys_l1 z6 z7 n y8 (w64 (y9 + (1 : Int)))
      else
      some (y8, y9)
    else
    some (y8, y9)
def p_ref29_Keys (a0 : List Ref29Arrow) (a1 : ByteArray) : Option ((List ByteArray)) :=
  (p_ref29_Keys_l1 a0 a1 fuel [] (0 : Int)).bind fun q18 =>
  some q18.1
def p_ref29_Has_l1 (z6 : List Ref29Arrow) (z7 : ByteArray) (z8 : ByteArray) : Nat → Int → Option (Bool ⊕ Int)
  | 0, _ => none
  | n + 1, y9 =>
    bif (decide (y9 < (z6.length : Int))) then
      (p_ref29_Check z6).bind fun v11 =>
      bif (v11 == (0 : Int)) then
        (at? z6 y9).bind fun x13 =>
        bif (x13.From.toList == z7.toList) then
          (at? z6 y9).bind fun x15 =>
          bif (x15.To.toList == z8.toList) then
            some (.inl true)
          else
          p_ref29_Has_l1 z6 z7 z8 n (w64 (y9 + (1 : Int)))
        else
        p_ref29_Has_l1 z6 z7 z8 n (w64 (y9 + (1 : Int)))
      else
      some (.inr y9)
    else
    some (.inr y9)
def p_ref29_Has (a0 : List Ref29Arrow) (a1 : ByteArray) (a2 : ByteArray) : Option (Bool) :=
  (p_ref29_Has_l1 a0 a1 a2 fuel (0 : Int)).bind fun o17 => match o17 with
  | .inl q18 =>
    some q18
  | .inr q19 =>
    some false
def p_ref29_Same_l1 (z6 : List Ref29Arrow) (z7 : List Ref29Arrow) : Nat → Int → Option (Bool ⊕ Int)
  | 0, _ => none
  | n + 1, y8 =>
    bif (decide (y8 < (z6.length : Int))) then
      (at? z6 y8).bind fun x10 =>
      (at? z7 y8).bind fun x11 =>
      bif ((x10.From.toList == x11.From.toList) && ((x10.To.toList == x11.To.toList) && true)) then
        p_ref29_Same_l1 z6 z7 n (w64 (y8 + (1 : Int)))
      else
      some (.inl false)
    else
    some (.inr y8)
def p_ref29_Same (a0 : List Ref29Arrow) (a1 : List Ref29Arrow) : Option (Bool) :=
  bif ((a0.length : Int) != (a1.length : Int)) then
    some false
  else
  (p_ref29_Same_l1 a0 a1 fuel (0 : Int)).bind fun o13 => match o13 with
  | .inl q14 =>
    some q14
  | .inr q15 =>
    some true
def p_law29_DirsTells (a0 : List Ref29Arrow) (a1 : List Ref29Arrow) (a2 : Ar2_ByteArray) : Option (Bool) :=
  (p_ref29_Light a0).bind fun v1 =>
  bif v1 then
    (p_ref29_Light a1).bind fun v3 =>
    bif v3 then
      bif (decide ((100 : Int) < (a2.a0.size : Int))) then
        (p_law29_awake).bind fun v6 =>
        some v6
      else
      bif (decide ((100 : Int) < (a2.a1.size : Int))) then
        (p_law29_awake).bind fun v8 =>
        some v8
      else
      (p_law29_own a0).bind fun v9 =>
      (p_dirs_Check v9).bind fun v10 =>
      (p_ref29_Check a0).bind fun v11 =>
      bif (v10 == v11) then
        (p_dirs_Of v9 a2.a0).bind fun v13 =>
        (p_ref29_Of a0 a2.a0).bind fun v14 =>
        (p_ref01_SameTexts v13 v14).bind fun v15 =>
        bif v15 then
          (p_dirs_Keys v9 a2.a1).bind fun v17 =>
          (p_ref29_Keys a0 a2.a1).bind fun v18 =>
          (p_ref01_SameTexts v17 v18).bind fun v19 =>
          bif v19 then
            (p_dirs_Has v9 a2.a0 a2.a1).bind fun v21 =>
            (p_ref29_Has a0 a2.a0 a2.a1).bind fun v22 =>
            bif (v21 == v22) then
              (p_law29_own a1).bind fun v24 =>
              (p_dirs_Same v9 v24).bind fun v25 =>
              (p_ref29_Same a0 a1).bind fun v26 =>
              bif (v25 == v26) then
                (p_law29_awake).bind fun v28 =>
                some v28
              else
              some false
            else
            some false
          else
          some false
        else
        some false
      else
      some false
    else
    (p_law29_awake).bind fun v29 =>
    some v29
  else
  (p_law29_awake).bind fun v30 =>
  some v30
def p_law29_DirsBack_l1 (z9 : List Law29Deed) : Nat → (List Ref29Arrow) → Int → Option (((List Ref29Arrow) × Int))
  | 0, _, _ => none
  | n + 1, y12, y13 =>
    bif (decide (y13 < (z9.length : Int))) then
      (at? z9 y13).bind fun x15 =>
      (text? [IntKind.wrap .u8 ((97 : Int) + (Int.tmod x15.From (5 : Int)))]).bind fun s16 =>
      (cat? s16 (⟨#[64, 120, 32, 114]⟩ : ByteArray)).bind fun s17 =>
      (at? z9 y13).bind fun x18 =>
      (text? [IntKind.wrap .u8 ((112 : Int) + (Int.tmod x18.To (8 : Int)))]).bind fun s19 =>
      (cat? s19 (⟨#[64, 121]⟩ : ByteArray)).bind fun s20 =>
      (p_dirs_Add y12 s17 s20).bind fun v21 =>
      p_law29_DirsBack_l1 z9 n v21.1 (w64 (y13 + (1 : Int)))
    else
    some (y12, y13)
def p_law29_DirsBack (a0 : List Law29Deed) (a1 : Int) (a2 : Int) : Option (Bool) :=
  bif (decide ((60 : Int) < (a0.length : Int))) then
    (p_law29_awake).bind fun v2 =>
    some v2
  else
  (p_law29_DirsBack_l1 a0 fuel [] (0 : Int)).bind fun q23 =>
  (text? [IntKind.wrap .u8 ((97 : Int) + (Int.tmod a1 (5 : Int)))]).bind fun s24 =>
  (cat? s24 (⟨#[64, 120, 32, 114]⟩ : ByteArray)).bind fun s25 =>
  (text? [IntKind.wrap .u8 ((112 : Int) + (Int.tmod a2 (8 : Int)))]).bind fun s26 =>
  (cat? s26 (⟨#[64, 122]⟩ : ByteArray)).bind fun s27 =>
  (p_dirs_Add q23.1 s25 s27).bind fun v28 =>
  (p_dirs_Del v28.1 s25 s27).bind fun v29 =>
  (p_dirs_Clear q23.1 s25).bind fun v30 =>
  (p_dirs_Of q23.1 s25).bind fun v31 =>
  (text? [IntKind.wrap .u8 ((97 : Int) + (Int.tmod a1 (5 : Int)))]).bind fun s32 =>
  (cat? s32 (⟨#[64, 120]⟩ : ByteArray)).bind fun s33 =>
  (p_dirs_Only v28.1 s33 s27).bind fun v34 =>
  bif ((v30.2.length : Int) != (v31.length : Int)) then
    some false
  else
  bif ((v30.1.length : Int) != w64 ((q23.1.length : Int) - (v31.length : Int))) then
    some false
  else
  (p_dirs_Of v30.1 s25).bind fun v37 =>
  bif ((v37.length : Int) != (0 : Int)) then
    some false
  else
  bif (v28.2 != (0 : Int)) then
    bif (v28.2 == (7 : Int)) then
      bif ((q23.1.length : Int) == (32 : Int)) then
        (p_law29_awake).bind fun v42 =>
        some v42
      else
      some false
    else
    some false
  else
  bif v29.2 then
    (p_dirs_Same v29.1 q23.1).bind fun v44 =>
    bif v44 then
      bif (v34.2 == (1 : Int)) then
        (p_dirs_Same v34.1 q23.1).bind fun v47 =>
        bif v47 then
          (p_law29_awake).bind fun v49 =>
          some v49
        else
        some false
      else
      some false
    else
    some false
  else
  some false
end Go.Proofs.Ythmgficajgedlaa
/- Plain functions (written by a program of mine). -/
namespace Go.Proofs.Ythmgficajgedlaa
open Go.RowKit
def p_mail_key (a0 : ByteArray) : Option (Bool) :=
  (p_pres_Split a0).bind fun v1 =>
  some (v1.2.2 == (0 : Int))
def p_pres_in (a0 : Int) (a1 : Int) (a2 : Int) : Option (Bool) :=
  bif (decide (a1 ≤ a0)) then
    some (decide (a0 ≤ a2))
  else
  some false
def p_pres_Check (a0 : PresPres) : Option (Int) :=
  (p_pres_in a0.Show (0 : Int) (4 : Int)).bind fun v1 =>
  bif v1 then
    (p_pres_in a0.Prio (-128 : Int) (127 : Int)).bind fun v3 =>
    bif v3 then
      (p_pres_in a0.Seq (0 : Int) (1099511627776 : Int)).bind fun v5 =>
      bif v5 then
        bif a0.On then
          some (0 : Int)
        else
        bif ((a0.On == false) && ((a0.Show == (0 : Int)) && ((a0.Prio == (0 : Int)) && ((a0.Seq == a0.Seq) && true)))) then
          some (0 : Int)
        else
        some (4 : Int)
      else
      some (8 : Int)
    else
    some (8 : Int)
  else
  some (8 : Int)
def p_mail_Off_l1 (z7 : List MailEntry) (z8 : Int) : Nat → Int → Int → Option ((Int × Int))
  | 0, _, _ => none
  | n + 1, y6, y9 =>
    bif (decide (y9 < z8)) then
      (at? z7 y9).bind fun x11 =>
      bif x11.P.On then
        p_mail_Off_l1 z7 z8 n y6 (w64 (y9 + (1 : Int)))
      else
      p_mail_Off_l1 z7 z8 n (w64 (y6 + (1 : Int))) (w64 (y9 + (1 : Int)))
    else
    some (y6, y9)
def p_mail_Off (a0 : List MailEntry) : Option (Int) :=
  (p_mail_Off_l1 a0 (a0.length : Int) fuel (0 : Int) (0 : Int)).bind fun q14 =>
  some q14.1
def p_mail_Find_l1 (z7 : ByteArray) (z9 : List MailEntry) (z10 : Int) : Nat → Int → Int → Option ((Int × Int))
  | 0, _, _ => none
  | n + 1, y8, y11 =>
    bif (decide (y11 < z10)) then
      (at? z9 y11).bind fun x13 =>
      bif (x13.Key.toList == z7.toList) then
        some (y11, y11)
      else
      p_mail_Find_l1 z7 z9 z10 n y8 (w64 (y11 + (1 : Int)))
    else
    some (y8, y11)
def p_mail_Find (a0 : List MailEntry) (a1 : ByteArray) : Option (Int) :=
  (p_mail_Find_l1 a1 a0 (a0.length : Int) fuel (-1 : Int) (0 : Int)).bind fun q16 =>
  some q16.1
def p_mail_State_ordered_l1 (z8 : List MailEntry) (z9 : Int) (z10 : List MailEntry) (z11 : Int) : Nat → Int → Option (Bool ⊕ Int)
  | 0, _ => none
  | n + 1, y12 =>
    bif (decide (y12 < z11)) then
      (at? z10 y12).bind fun x14 =>
      bif (x14.P.On != (decide (z9 ≤ y12))) then
        some (.inl false)
      else
      (p_mail_Find z8 x14.Key).bind fun v16 =>
      bif (v16 != y12) then
        some (.inl false)
      else
      p_mail_State_ordered_l1 z8 z9 z10 z11 n (w64 (y12 + (1 : Int)))
    else
    some (.inr y12)
def p_mail_State_ordered (a0 : List MailEntry) : Option (Bool) :=
  (p_mail_Off a0).bind fun v1 =>
  (p_mail_State_ordered_l1 a0 v1 a0 (a0.length : Int) fuel (0 : Int)).bind fun o18 => match o18 with
  | .inl q19 =>
    some q19
  | .inr q20 =>
    some true
def p_mail_Check_l1 (z8 : List MailEntry) (z9 : Int) : Nat → Int → Option (Int ⊕ Int)
  | 0, _ => none
  | n + 1, y10 =>
    bif (decide (y10 < z9)) then
      (at? z8 y10).bind fun x12 =>
      (p_mail_key x12.Key).bind fun v13 =>
      bif v13 then
        p_mail_Check_l1 z8 z9 n (w64 (y10 + (1 : Int)))
      else
      some (.inl (11 : Int))
    else
    some (.inr y10)
def p_mail_Check_l2 (z24 : List MailEntry) (z25 : Int) : Nat → Int → Option (Int ⊕ Int)
  | 0, _ => none
  | n + 1, y26 =>
    bif (decide (y26 < z25)) then
      (at? z24 y26).bind fun x28 =>
      (p_pres_Check x28.P).bind fun v29 =>
      bif (v29 != (0 : Int)) then
        some (.inl v29)
      else
      p_mail_Check_l2 z24 z25 n (w64 (y26 + (1 : Int)))
    else
    some (.inr y26)
def p_mail_Check (a0 : List MailEntry) : Option (Int) :=
  bif (decide ((16 : Int) < (a0.length : Int))) then
    some (5 : Int)
  else
  (p_mail_Check_l1 a0 (a0.length : Int) fuel (0 : Int)).bind fun o15 => match o15 with
  | .inl q16 =>
    some q16
  | .inr q17 =>
    (p_mail_Check_l2 a0 (a0.length : Int) fuel (0 : Int)).bind fun o31 => match o31 with
    | .inl q32 =>
      some q32
    | .inr q33 =>
      (p_mail_State_ordered a0).bind fun v34 =>
      bif v34 then
        some (0 : Int)
      else
      some (10 : Int)
def p_pres_Newer (a0 : PresPres) (a1 : PresPres) : Option (Bool) :=
  some (decide (a1.Seq < a0.Seq))
def p_mail_Put (a0 : List MailEntry) (a1 : ByteArray) (a2 : PresPres) : Option ((List MailEntry) × Int) :=
  (clone? a0).bind fun l1 =>
  (p_mail_Check a0).bind fun v2 =>
  bif (v2 != (0 : Int)) then
    some (l1, v2)
  else
  (p_mail_key a1).bind fun v4 =>
  bif v4 then
    (p_pres_Check a2).bind fun v6 =>
    bif (v6 != (0 : Int)) then
      some (l1, v6)
    else
    (p_mail_Find a0 a1).bind fun v8 =>
    bif (v8 == (-1 : Int)) then
      bif ((a0.length : Int) == (16 : Int)) then
        some (l1, (7 : Int))
      else
      bif a2.On then
        (insAt? l1 (l1.length : Int) (MailEntry.mk a1 a2)).bind fun v12 =>
        some (v12, (0 : Int))
      else
      (p_mail_Off l1).bind fun v13 =>
      (insAt? l1 v13 (MailEntry.mk a1 a2)).bind fun v14 =>
      some (v14, (0 : Int))
    else
    (at? a0 v8).bind fun x15 =>
    (p_pres_Newer a2 x15.P).bind fun v16 =>
    bif v16 then
      (at? a0 v8).bind fun x18 =>
      bif (a2.On == x18.P.On) then
        (at? l1 v8).bind fun x20 =>
        some ((List.set l1 (Int.toNat v8) (MailEntry.mk x20.Key a2)), (0 : Int))
      else
      (del? l1 v8 (w64 (v8 + (1 : Int)))).bind fun v22 =>
      bif a2.On then
        (insAt? v22 (v22.length : Int) (MailEntry.mk a1 a2)).bind fun v24 =>
        some (v24, (0 : Int))
      else
      (p_mail_Off v22).bind fun v25 =>
      (insAt? v22 v25 (MailEntry.mk a1 a2)).bind fun v26 =>
      some (v26, (0 : Int))
    else
    some (l1, (0 : Int))
  else
  some (l1, (11 : Int))
def p_mail_Run_l1 (z10 : List MailEntry) (z11 : Int) : Nat → (List MailEntry) → Int → Int → Option (((List MailEntry) × Int × Int))
  | 0, _, _, _ => none
  | n + 1, y8, y9, y12 =>
    bif (decide (y12 < z11)) then
      (at? z10 y12).bind fun x14 =>
      (p_mail_Put y8 x14.Key x14.P).bind fun v15 =>
      bif (v15.2 != (0 : Int)) then
        p_mail_Run_l1 z10 z11 n v15.1 (w64 (y9 + (1 : Int))) (w64 (y12 + (1 : Int)))
      else
      p_mail_Run_l1 z10 z11 n v15.1 y9 (w64 (y12 + (1 : Int)))
    else
    some (y8, y9, y12)
def p_mail_Run (a0 : List MailEntry) (a1 : List MailEntry) : Option ((List MailEntry) × Int) :=
  (p_mail_Run_l1 a1 (a1.length : Int) fuel a0 (0 : Int) (0 : Int)).bind fun q18 =>
  some (q18.1, q18.2.1)
def p_mail_Take (a0 : List MailEntry) : Option ((List MailEntry) × MailEntry × Bool) :=
  bif ((a0.length : Int) == (0 : Int)) then
    some (a0, (MailEntry.mk (⟨#[]⟩ : ByteArray) (PresPres.mk false (0 : Int) (0 : Int) (0 : Int))), false)
  else
  (p_mail_Check a0).bind fun v2 =>
  bif (v2 != (0 : Int)) then
    some (a0, (MailEntry.mk (⟨#[]⟩ : ByteArray) (PresPres.mk false (0 : Int) (0 : Int) (0 : Int))), false)
  else
  (cut? a0 (some (1 : Int)) none).bind fun x4 =>
  (at? a0 (0 : Int)).bind fun x5 =>
  some (x4, x5, true)
def p_mail_Entry_user (a0 : MailEntry) : Option (ByteArray) :=
  (p_pres_Split a0.Key).bind fun v1 =>
  some v1.1
def p_mail_Drop_1 (a0 : MailEntry) (c0 : ByteArray) : Option (Bool) :=
  (p_mail_Entry_user a0).bind fun v1 =>
  some (v1.toList == c0.toList)
def p_mail_Drop (a0 : List MailEntry) (a1 : ByteArray) : Option ((List MailEntry) × Int) :=
  (clone? a0).bind fun l1 =>
  (p_mail_Check a0).bind fun v2 =>
  bif (v2 != (0 : Int)) then
    some (l1, (0 : Int))
  else
  (delF? (fun x0 => p_mail_Drop_1 x0 a1) l1).bind fun v4 =>
  some (v4, w64 ((a0.length : Int) - (v4.length : Int)))
def p_mail_Keys_l1 (z7 : List MailEntry) (z8 : Int) : Nat → (List ByteArray) → Int → Option (((List ByteArray) × Int))
  | 0, _, _ => none
  | n + 1, y6, y9 =>
    bif (decide (y9 < z8)) then
      (at? z7 y9).bind fun x11 =>
      (app? y6 [x11.Key]).bind fun l12 =>
      p_mail_Keys_l1 z7 z8 n l12 (w64 (y9 + (1 : Int)))
    else
    some (y6, y9)
def p_mail_Keys (a0 : List MailEntry) : Option ((List ByteArray)) :=
  (p_mail_Keys_l1 a0 (a0.length : Int) fuel [] (0 : Int)).bind fun q14 =>
  some q14.1
def p_slices_Equal_mail_State_mail_Entry__l1 (z7 : List MailEntry) (z8 : List MailEntry) (z9 : Int) : Nat → Int → Option (Bool ⊕ Int)
  | 0, _ => none
  | n + 1, y10 =>
    bif (decide (y10 < z9)) then
      (at? z7 y10).bind fun x12 =>
      (at? z8 y10).bind fun x13 =>
      bif ((x12.Key.toList == x13.Key.toList) && ((x12.P.On == x13.P.On) && ((x12.P.Show == x13.P.Show) && ((x12.P.Prio == x13.P.Prio) && ((x12.P.Seq == x13.P.Seq) && true))))) then
        p_slices_Equal_mail_State_mail_Entry__l1 z7 z8 z9 n (w64 (y10 + (1 : Int)))
      else
      some (.inl false)
    else
    some (.inr y10)
def p_slices_Equal_mail_State_mail_Entry_ (a0 : List MailEntry) (a1 : List MailEntry) : Option (Bool) :=
  bif ((a0.length : Int) != (a1.length : Int)) then
    some false
  else
  (p_slices_Equal_mail_State_mail_Entry__l1 a0 a1 (a0.length : Int) fuel (0 : Int)).bind fun o15 => match o15 with
  | .inl q16 =>
    some q16
  | .inr q17 =>
    some true
def p_mail_Same (a0 : List MailEntry) (a1 : List MailEntry) : Option (Bool) :=
  (p_slices_Equal_mail_State_mail_Entry_ a0 a1).bind fun v1 =>
  some v1
def p_law25_awake : Option (Bool) :=
  (p_mail_Run [] [(MailEntry.mk (⟨#[97, 64, 98, 32, 120]⟩ : ByteArray) (PresPres.mk true (0 : Int) (0 : Int) (1 : Int))), (MailEntry.mk (⟨#[98, 64, 98, 32]⟩ : ByteArray) (PresPres.mk false (0 : Int) (0 : Int) (2 : Int))), (MailEntry.mk (⟨#[97, 64, 98, 32, 120]⟩ : ByteArray) (PresPres.mk true (0 : Int) (0 : Int) (3 : Int))), (MailEntry.mk (⟨#[97]⟩ : ByteArray) (PresPres.mk true (0 : Int) (0 : Int) (1 : Int)))]).bind fun v1 =>
  (p_mail_Take v1.1).bind fun v2 =>
  (p_mail_Take v2.1).bind fun v3 =>
  (p_mail_Take v3.1).bind fun v4 =>
  (p_mail_Drop v1.1 (⟨#[98, 64, 98]⟩ : ByteArray)).bind fun v5 =>
  bif (v1.2 == (1 : Int)) then
    (p_mail_Keys v1.1).bind fun v7 =>
    (p_ref01_SameTexts v7 [(⟨#[98, 64, 98, 32]⟩ : ByteArray), (⟨#[97, 64, 98, 32, 120]⟩ : ByteArray)]).bind fun v8 =>
    bif v8 then
      bif (v2.2.1.Key.toList == (⟨#[98, 64, 98, 32]⟩ : ByteArray).toList) then
        bif v2.2.2 then
          bif (v3.2.1.P.Seq == (3 : Int)) then
            bif v3.2.2 then
              bif v4.2.2 then
                some false
              else
              bif (v5.2 == (1 : Int)) then
                bif ((v5.1.length : Int) == (1 : Int)) then
                  (p_mail_Off v1.1).bind fun v17 =>
                  bif (v17 == (1 : Int)) then
                    (p_mail_Find v1.1 (⟨#[97, 64, 98, 32, 120]⟩ : ByteArray)).bind fun v19 =>
                    bif (v19 == (1 : Int)) then
                      (p_mail_Find v1.1 (⟨#[99]⟩ : ByteArray)).bind fun v21 =>
                      bif (v21 == (-1 : Int)) then
                        (p_mail_Check v1.1).bind fun v23 =>
                        bif (v23 == (0 : Int)) then
                          (p_mail_Check [(MailEntry.mk (⟨#[]⟩ : ByteArray) (PresPres.mk false (0 : Int) (0 : Int) (0 : Int)))]).bind fun v25 =>
                          bif (v25 == (11 : Int)) then
                            (p_mail_Same v2.1 v1.1).bind fun v27 =>
                            bif v27 then
                              some false
                            else
                            (p_mail_Same v1.1 v1.1).bind fun v29 =>
                            bif v29 then
                              some true
                            else
                            some false
                          else
                          some false
                        else
                        some false
                      else
                      some false
                    else
                    some false
                  else
                  some false
                else
                some false
              else
              some false
            else
            some false
          else
          some false
        else
        some false
      else
      some false
    else
    some false
  else
  some false
def p_law25_key (a0 : Int) : Option (ByteArray) :=
  (text? [IntKind.wrap .u8 ((97 : Int) + (Int.tmod a0 (20 : Int)))]).bind fun s1 =>
  (cat? s1 (⟨#[64, 120, 32, 114]⟩ : ByteArray)).bind fun s2 =>
  some s2
def p_law25_MailLast_l2 (z244 : List Law25Deed) (z247 : Int) : Nat → Int → (List MailEntry) → Int → (List PresPres) → Option (Bool ⊕ (Int × (List MailEntry) × Int × (List PresPres)))
  | 0, _, _, _, _ => none
  | n + 1, y246, y248, y249, y250 =>
    (at? z244 z247).bind fun x251 =>
    bif (decide (y249 < w64 (Int.tmod x251.Take (3 : Int)))) then
      (p_mail_Take y248).bind fun v253 =>
      bif (v253.2.2 != (decide ((0 : Int) < y246))) then
        some (.inl false)
      else
      bif v253.2.2 then
        bif v253.2.1.P.On then
          (p_mail_Off y248).bind fun v257 =>
          bif (decide ((0 : Int) < v257)) then
            some (.inl false)
          else
          bif (decide ((v253.2.1.Key.size : Int) < (1 : Int))) then
            some (.inl false)
          else
          (byte? v253.2.1.Key (0 : Int)).bind fun c260 =>
          (arr? 20 y250 (Int.tmod (w64 (IntKind.wrap .u8 (c260 - (97 : Int)))) (20 : Int))).bind fun x261 =>
          bif ((x261.On == v253.2.1.P.On) && ((x261.Show == v253.2.1.P.Show) && ((x261.Prio == v253.2.1.P.Prio) && ((x261.Seq == v253.2.1.P.Seq) && true)))) then
            (p_law25_key (IntKind.wrap .u8 (Int.tmod (w64 (IntKind.wrap .u8 (c260 - (97 : Int)))) (20 : Int)))).bind fun v264 =>
            bif (v253.2.1.Key.toList == v264.toList) then
              (arr? 20 y250 (Int.tmod (w64 (IntKind.wrap .u8 (c260 - (97 : Int)))) (20 : Int))).bind fun x266 =>
              p_law25_MailLast_l2 z244 z247 n (w64 (y246 - (1 : Int))) v253.1 (w64 (y249 + (1 : Int))) (List.set y250 (Int.toNat (Int.tmod (w64 (IntKind.wrap .u8 (c260 - (97 : Int)))) (20 : Int))) (PresPres.mk false (0 : Int) (0 : Int) (0 : Int)))
            else
            some (.inl false)
          else
          some (.inl false)
        else
        bif (decide ((v253.2.1.Key.size : Int) < (1 : Int))) then
          some (.inl false)
        else
        (byte? v253.2.1.Key (0 : Int)).bind fun c269 =>
        (arr? 20 y250 (Int.tmod (w64 (IntKind.wrap .u8 (c269 - (97 : Int)))) (20 : Int))).bind fun x270 =>
        bif ((x270.On == v253.2.1.P.On) && ((x270.Show == v253.2.1.P.Show) && ((x270.Prio == v253.2.1.P.Prio) && ((x270.Seq == v253.2.1.P.Seq) && true)))) then
          (p_law25_key (IntKind.wrap .u8 (Int.tmod (w64 (IntKind.wrap .u8 (c269 - (97 : Int)))) (20 : Int)))).bind fun v273 =>
          bif (v253.2.1.Key.toList == v273.toList) then
            (arr? 20 y250 (Int.tmod (w64 (IntKind.wrap .u8 (c269 - (97 : Int)))) (20 : Int))).bind fun x275 =>
            p_law25_MailLast_l2 z244 z247 n (w64 (y246 - (1 : Int))) v253.1 (w64 (y249 + (1 : Int))) (List.set y250 (Int.toNat (Int.tmod (w64 (IntKind.wrap .u8 (c269 - (97 : Int)))) (20 : Int))) (PresPres.mk false (0 : Int) (0 : Int) (0 : Int)))
          else
          some (.inl false)
        else
        some (.inl false)
      else
      some (.inr (y246, y248, y249, y250))
    else
    some (.inr (y246, y248, y249, y250))
def p_law25_MailLast_l1 (z9 : List Law25Deed) : Nat → (List MailEntry) → Int → Int → (List PresPres) → Option (Bool ⊕ ((List MailEntry) × Int × Int × (List PresPres)))
  | 0, _, _, _, _ => none
  | n + 1, y10, y11, y12, y13 =>
    bif (decide (y12 < (z9.length : Int))) then
      (at? z9 y12).bind fun x15 =>
      (at? z9 y12).bind fun x16 =>
      (at? z9 y12).bind fun x17 =>
      (p_law25_key x17.Who).bind fun v18 =>
      (p_mail_Put y10 v18 (PresPres.mk x16.On (0 : Int) (0 : Int) (w64 (y12 + (1 : Int))))).bind fun v19 =>
      (arr? 20 y13 (w64 (Int.tmod x15.Who (20 : Int)))).bind fun x20 =>
      bif (decide ((0 : Int) < x20.Seq)) then
        bif ((v19.2 == (0 : Int)) != true) then
          some (.inl false)
        else
        bif (v19.2 == (0 : Int)) then
          (arr? 20 y13 (w64 (Int.tmod x15.Who (20 : Int)))).bind fun x25 =>
          bif (x25.Seq == (0 : Int)) then
            (arr? 20 y13 (w64 (Int.tmod x15.Who (20 : Int)))).bind fun x28 =>
            (p_law25_MailLast_l2 z9 y12 fuel (w64 (y11 + (1 : Int))) v19.1 (0 : Int) (List.set y13 (Int.toNat (w64 (Int.tmod x15.Who (20 : Int)))) (PresPres.mk x16.On (0 : Int) (0 : Int) (w64 (y12 + (1 : Int)))))).bind fun o71 => match o71 with
            | .inl q72 =>
              some (.inl q72)
            | .inr q73 =>
              (p_mail_Check q73.2.1).bind fun v74 =>
              bif (v74 != (0 : Int)) then
                some (.inl false)
              else
              bif ((q73.2.1.length : Int) != q73.1) then
                some (.inl false)
              else
              p_law25_MailLast_l1 z9 n q73.2.1 q73.1 (w64 (y12 + (1 : Int))) q73.2.2.2
          else
          (arr? 20 y13 (w64 (Int.tmod x15.Who (20 : Int)))).bind fun x77 =>
          (p_law25_MailLast_l2 z9 y12 fuel y11 v19.1 (0 : Int) (List.set y13 (Int.toNat (w64 (Int.tmod x15.Who (20 : Int)))) (PresPres.mk x16.On (0 : Int) (0 : Int) (w64 (y12 + (1 : Int)))))).bind fun o112 => match o112 with
          | .inl q113 =>
            some (.inl q113)
          | .inr q114 =>
            (p_mail_Check q114.2.1).bind fun v115 =>
            bif (v115 != (0 : Int)) then
              some (.inl false)
            else
            bif ((q114.2.1.length : Int) != q114.1) then
              some (.inl false)
            else
            p_law25_MailLast_l1 z9 n q114.2.1 q114.1 (w64 (y12 + (1 : Int))) q114.2.2.2
        else
        (p_law25_MailLast_l2 z9 y12 fuel y11 v19.1 (0 : Int) y13).bind fun o151 => match o151 with
        | .inl q152 =>
          some (.inl q152)
        | .inr q153 =>
          (p_mail_Check q153.2.1).bind fun v154 =>
          bif (v154 != (0 : Int)) then
            some (.inl false)
          else
          bif ((q153.2.1.length : Int) != q153.1) then
            some (.inl false)
          else
          p_law25_MailLast_l1 z9 n q153.2.1 q153.1 (w64 (y12 + (1 : Int))) q153.2.2.2
      else
      bif ((v19.2 == (0 : Int)) != (decide (y11 < (16 : Int)))) then
        some (.inl false)
      else
      bif (v19.2 == (0 : Int)) then
        (arr? 20 y13 (w64 (Int.tmod x15.Who (20 : Int)))).bind fun x159 =>
        bif (x159.Seq == (0 : Int)) then
          (arr? 20 y13 (w64 (Int.tmod x15.Who (20 : Int)))).bind fun x162 =>
          (p_law25_MailLast_l2 z9 y12 fuel (w64 (y11 + (1 : Int))) v19.1 (0 : Int) (List.set y13 (Int.toNat (w64 (Int.tmod x15.Who (20 : Int)))) (PresPres.mk x16.On (0 : Int) (0 : Int) (w64 (y12 + (1 : Int)))))).bind fun o197 => match o197 with
          | .inl q198 =>
            some (.inl q198)
          | .inr q199 =>
            (p_mail_Check q199.2.1).bind fun v200 =>
            bif (v200 != (0 : Int)) then
              some (.inl false)
            else
            bif ((q199.2.1.length : Int) != q199.1) then
              some (.inl false)
            else
            p_law25_MailLast_l1 z9 n q199.2.1 q199.1 (w64 (y12 + (1 : Int))) q199.2.2.2
        else
        (arr? 20 y13 (w64 (Int.tmod x15.Who (20 : Int)))).bind fun x203 =>
        (p_law25_MailLast_l2 z9 y12 fuel y11 v19.1 (0 : Int) (List.set y13 (Int.toNat (w64 (Int.tmod x15.Who (20 : Int)))) (PresPres.mk x16.On (0 : Int) (0 : Int) (w64 (y12 + (1 : Int)))))).bind fun o238 => match o238 with
        | .inl q239 =>
          some (.inl q239)
        | .inr q240 =>
          (p_mail_Check q240.2.1).bind fun v241 =>
          bif (v241 != (0 : Int)) then
            some (.inl false)
          else
          bif ((q240.2.1.length : Int) != q240.1) then
            some (.inl false)
          else
          p_law25_MailLast_l1 z9 n q240.2.1 q240.1 (w64 (y12 + (1 : Int))) q240.2.2.2
      else
      (p_law25_MailLast_l2 z9 y12 fuel y11 v19.1 (0 : Int) y13).bind fun o277 => match o277 with
      | .inl q278 =>
        some (.inl q278)
      | .inr q279 =>
        (p_mail_Check q279.2.1).bind fun v280 =>
        bif (v280 != (0 : Int)) then
          some (.inl false)
        else
        bif ((q279.2.1.length : Int) != q279.1) then
          some (.inl false)
        else
        p_law25_MailLast_l1 z9 n q279.2.1 q279.1 (w64 (y12 + (1 : Int))) q279.2.2.2
    else
    some (.inr (y10, y11, y12, y13))
def p_law25_MailLast (a0 : List Law25Deed) : Option (Bool) :=
  bif (decide ((80 : Int) < (a0.length : Int))) then
    (p_law25_awake).bind fun v2 =>
    some v2
  else
  (p_law25_MailLast_l1 a0 fuel [] (0 : Int) (0 : Int) (List.replicate 20 (PresPres.mk false (0 : Int) (0 : Int) (0 : Int)))).bind fun o283 => match o283 with
  | .inl q284 =>
    some q284
  | .inr q285 =>
    (p_law25_awake).bind fun v286 =>
    some v286
def p_law25_MailFirst_l1 (z7 : List Bool) : Nat → (List MailEntry) → Int → Option (Bool ⊕ ((List MailEntry) × Int))
  | 0, _, _ => none
  | n + 1, y8, y9 =>
    bif (decide (y9 < (z7.length : Int))) then
      (p_law25_key (IntKind.wrap .u8 y9)).bind fun v11 =>
      (at? z7 y9).bind fun x12 =>
      (p_mail_Put y8 v11 (PresPres.mk x12 (0 : Int) (0 : Int) (w64 ((50 : Int) - y9)))).bind fun v13 =>
      bif (v13.2 != (0 : Int)) then
        some (.inl false)
      else
      p_law25_MailFirst_l1 z7 n v13.1 (w64 (y9 + (1 : Int)))
    else
    some (.inr (y8, y9))
def p_law25_MailFirst_l3 (z34 : List Bool) (z37 : Int) : Nat → (List MailEntry) → Int → Int → Option (Bool ⊕ ((List MailEntry) × Int × Int))
  | 0, _, _, _ => none
  | n + 1, y35, y36, y38 =>
    bif (decide (y38 < (z34.length : Int))) then
      (at? z34 y38).bind fun x40 =>
      bif (x40 != (z37 == (1 : Int))) then
        p_law25_MailFirst_l3 z34 z37 n y35 y36 (w64 (y38 + (1 : Int)))
      else
      (p_mail_Take y35).bind fun v42 =>
      bif v42.2.2 then
        (p_law25_key (IntKind.wrap .u8 y38)).bind fun v44 =>
        bif (v42.2.1.Key.toList == v44.toList) then
          p_law25_MailFirst_l3 z34 z37 n v42.1 (w64 (y36 + (1 : Int))) (w64 (y38 + (1 : Int)))
        else
        some (.inl false)
      else
      some (.inl false)
    else
    some (.inr (y35, y36, y38))
def p_law25_MailFirst_l2 (z23 : List Bool) : Nat → (List MailEntry) → Int → Int → Option (Bool ⊕ ((List MailEntry) × Int × Int))
  | 0, _, _, _ => none
  | n + 1, y24, y25, y26 =>
    bif (decide (y26 < (2 : Int))) then
      (p_law25_MailFirst_l3 z23 y26 fuel y24 y25 (0 : Int)).bind fun o46 => match o46 with
      | .inl q47 =>
        some (.inl q47)
      | .inr q48 =>
        p_law25_MailFirst_l2 z23 n q48.1 q48.2.1 (w64 (y26 + (1 : Int)))
    else
    some (.inr (y24, y25, y26))
def p_law25_MailFirst (a0 : List Bool) : Option (Bool) :=
  bif (decide ((16 : Int) < (a0.length : Int))) then
    (p_law25_awake).bind fun v2 =>
    some v2
  else
  (p_law25_MailFirst_l1 a0 fuel [] (0 : Int)).bind fun o15 => match o15 with
  | .inl q16 =>
    some q16
  | .inr q17 =>
    (p_law25_MailFirst_l2 a0 fuel q17.1 (0 : Int) (0 : Int)).bind fun o49 => match o49 with
    | .inl q50 =>
      some q50
    | .inr q51 =>
      bif (q51.2.1 == (a0.length : Int)) then
        bif ((q51.1.length : Int) == (0 : Int)) then
          (p_law25_awake).bind fun v54 =>
          some v54
        else
        some false
      else
      some false
end Go.Proofs.Ythmgficajgedlaa
/- Readers of MailFirst's parameters. -/
namespace Go.Proofs.Ythmgficajgedlaa
open Go.ChangeShapes Go.WideShapes Go.ChangeAt Go.RowKit Go.Joins Go.Deep
theorem rd_T107 {H : Type} {enc : TypeId × Value → H} {W : World} {spare : Nat → Bool} {held : Bool} {fuel : Nat} {cs : List Value} {y : DataW H × List MemPlace} (h : DataW.trod enc Try.prog W 0 spare held fuel 107 cs = some y) : ∃ x : List Bool, RepL (MW W) noBk cs [(fun l : List Bool => V.sl (l.map V.b) false) x] :=
  by obtain ⟨l, _, hr⟩ := rd_slice (f := V.b) (es := 1) (wf := (fun _ : Bool => True)) Try.underlying107 (fun _ => rfl) (by intro a v hv; simp [V.cells] at hv; first | (subst hv; rfl) | (rcases hv with rfl <;> rfl)) (by omega) (by kernel_rfl) (fun n cs y h => by obtain ⟨x, hr⟩ := rd_bool Try.underlying4 h; exact ⟨x, trivial, hr⟩) h; exact ⟨l, hr⟩
end Go.Proofs.Ythmgficajgedlaa
/- That the program's functions yield what the plain ones tell (written by a program of mine). -/
namespace Go.Proofs.Ythmgficajgedlaa
open Go.RowKit
def gc26 : BCode := (.seq (.reg 0 [⟨(some 2), .mv (.const (.bool false)), none, 0⟩] none 0 []) (.seq (.seq (.reg 0 [⟨(some 4), .mv (.tmp 0), none, 0⟩, ⟨(some 5), .lens (.tmp 4), none, 0⟩, ⟨(some 6), .bin .gtr (.tmp 5) (.const (.int .i64 40)), none, 0⟩] none 0 []) (.cond (.tmp 6) (.seq (.reg 0 [⟨(some 2), .mv (.const (.bool false)), none, 0⟩] none 0 []) .ret) .skip)) (.seq (.seq (.reg 0 [⟨(some 3), .mv (.const (.int .i64 0)), none, 0⟩] none 0 []) (.block 0 (.loop (.seq (.seq (.reg 0 [⟨(some 7), .mv (.tmp 3), none, 0⟩, ⟨(some 8), .mv (.tmp 0), none, 0⟩, ⟨(some 9), .lens (.tmp 8), none, 0⟩, ⟨(some 10), .bin .lss (.tmp 7) (.tmp 9), none, 0⟩] none 0 []) (.cond (.tmp 10) .skip (.exit 0))) (.seq (.block 1 (.seq (.reg 0 [⟨(some 13), .mv (.tmp 0), none, 0⟩, ⟨(some 14), .mv (.tmp 3), none, 0⟩, ⟨(some 15), .ixs 2 (.tmp 13) (.tmp 14), none, 0⟩, ⟨(some 16), .fa 0 (.tmp 15), none, 0⟩, ⟨(some 17), .ld 1 false (.tmp 16), none, 0⟩, ⟨(some 18), .lent (.tmp 17), none, 0⟩, ⟨(some 19), .bin .gtr (.tmp 18) (.const (.int .i64 100)), none, 0⟩, ⟨(some 20), .mv (.tmp 19), none, 0⟩, ⟨(some 21), .mv (.tmp 0), (some (20, false)), 0⟩, ⟨(some 22), .mv (.tmp 3), (some (20, false)), 0⟩, ⟨(some 23), .ixs 2 (.tmp 21) (.tmp 22), (some (20, false)), 0⟩, ⟨(some 24), .fa 1 (.tmp 23), (some (20, false)), 0⟩, ⟨(some 25), .ld 1 false (.tmp 24), (some (20, false)), 0⟩, ⟨(some 26), .lent (.tmp 25), (some (20, false)), 0⟩, ⟨(some 27), .bin .gtr (.tmp 26) (.const (.int .i64 100)), (some (20, false)), 0⟩, ⟨(some 28), .pick (.tmp 20) (.const (.bool true)) (.tmp 27), none, 0⟩] none 0 []) (.cond (.tmp 28) (.seq (.reg 0 [⟨(some 2), .mv (.const (.bool false)), none, 0⟩] none 0 []) .ret) .skip))) (.reg 0 [⟨(some 11), .mv (.tmp 3), none, 0⟩, ⟨(some 12), .bin .add (.tmp 11) (.const (.int .i64 1)), none, 0⟩, ⟨(some 3), .mv (.tmp 12), none, 0⟩] none 0 [])))))) (.seq (.reg 0 [⟨(some 2), .mv (.const (.bool true)), none, 0⟩] none 0 []) .ret))))
theorem gc26_ok : compF Try.prog Try.f26 = some (gc26.er, 29, [.tmp 2]) := by unfold gc26; kernel_rfl
set_option maxRecDepth 100000 in
set_option maxHeartbeats 4000000 in
theorem p_ref29_Light_v {u1 : Bool} (a0 : List Ref29Arrow) : CallsO Try.prog 26 [.sl (List.map Ref29Arrow.v a0) u1] V.b (p_ref29_Light a0) := by
  refine callsO_comp mix Try.func26 gc26_ok fun r H => ?_
  rw [p_ref29_Light] at H
  conv => whnf
  refine LenQ.M ?_; conv => whnf
  refine tst_c H (fun b1 H => ?_) (fun b1 H => ?_)
  · conv => whnf
    exact fin0_c (enc := V.b) H (.inr rfl) (.cons (.tmp rfl) (.nil)) rfl rfl
  conv => whnf
  obtain ⟨o3, HL4, HQ5⟩ := bind_c H
  refine loop_c [2, 3] [7, 8, 9, 10, 11, 12, 13, 14, 15, 16, 17, 18, 19, 20, 21, 22, 23, 24, 25, 26, 27, 28] [7, 8, 9, 10, 11, 12, 13, 14, 15, 16, 17, 18, 19, 20, 21, 22, 23, 24, 25, 26, 27, 28] (fun n vals st => (∃ y7, p_ref29_Light_l1  a0 n y7 = some o3 ∧ vals = [.b false, .i y7] ∧ st = [])) fuel 0 [] (⟨_, HL4, rfl, rfl⟩) (Nat.zero_le _) rfl (by kernel_rfl) (by kernel_rfl) rfl trivial ?_
  rintro (_ | n6) _ _ (⟨y7, H, rfl, rfl⟩)
  · rw [p_ref29_Light_l1] at H; cases H
  rw [p_ref29_Light_l1] at H
  conv => whnf
  refine LenQ.M ?_; conv => whnf
  refine tst_d H (fun b8 H => ?_) (fun b8 H => ?_)
  · conv => whnf
    obtain rfl := Option.some.inj H
    have H := HQ5
    try dsimp only at H
    exact fin0_c (enc := V.b) H (.inr rfl) (.cons (.tmp rfl) (.nil)) rfl rfl
  conv => whnf
  refine ixs_c (f := Ref29Arrow.v) H (fun _ => rfl) (fun x9 H => ?_); conv => whnf
  refine ⟨Nat.le_of_ble_eq_true rfl, ?_⟩; conv => whnf
  refine tst_c H (fun b10 H => ?_) (fun b10 H => ?_)
  · conv => whnf
    iterate 8 (refine Tst.T ?_; conv => whnf)
    obtain rfl := Option.some.inj H
    have H := HQ5
    try dsimp only at H
    exact fin0_c (enc := V.b) H (.inr rfl) (.cons (.tmp rfl) (.nil)) rfl rfl
  conv => whnf
  iterate 2 (refine Tst.F ?_; conv => whnf)
  refine ixs_c (f := Ref29Arrow.v) H (fun _ => rfl) (fun x11 H => ?_); conv => whnf
  refine Tst.F ?_; conv => whnf
  refine ⟨Nat.le_of_ble_eq_true rfl, ?_⟩; conv => whnf
  iterate 4 (refine Tst.F ?_; conv => whnf)
  refine tst_c H (fun b12 H => ?_) (fun b12 H => ?_)
  · conv => whnf
    obtain rfl := Option.some.inj H
    have H := HQ5
    try dsimp only at H
    exact fin0_c (enc := V.b) H (.inr rfl) (.cons (.tmp rfl) (.nil)) rfl rfl
  conv => whnf
  refine Ari.w ?_; conv => whnf
  exact again_c [7, 8, 9, 10, 11, 12, 13, 14, 15, 16, 17, 18, 19, 20, 21, 22, 23, 24, 25, 26, 27, 28] n6 0 [] (⟨_, H, rfl, rfl⟩) (Nat.lt_succ_self _) (Nat.zero_le _) rfl (by kernel_rfl) (by kernel_rfl) rfl trivial
def gc126 : BCode := (.seq (.reg 0 [⟨(some 2), .mv (.const (.string ⟨#[]⟩)), none, 0⟩, ⟨(some 3), .mv (.const (.string ⟨#[]⟩)), none, 0⟩, ⟨(some 4), .mv (.const (.int .i64 0)), none, 0⟩] none 0 []) (.seq (.reg 0 [⟨(some 10), .mv (.tmp 0), none, 0⟩, ⟨(some 11), .cl 163 [(.tmp 10), (.const (.string ⟨#[32]⟩))], none, 0⟩, ⟨(some 9), .mv (.tmp 11), none, 0⟩, ⟨(some 12), .ex (.tmp 9) 0, none, 0⟩, ⟨(some 13), .ex (.tmp 9) 1, none, 0⟩, ⟨(some 14), .ex (.tmp 9) 2, none, 0⟩, ⟨(some 5), .mv (.tmp 12), none, 0⟩, ⟨(some 6), .mv (.tmp 13), none, 0⟩, ⟨(some 7), .mv (.tmp 14), none, 0⟩] none 0 []) (.seq (.seq (.reg 0 [⟨(some 15), .mv (.tmp 7), none, 0⟩, ⟨(some 16), .un .not (.tmp 15), none, 0⟩] none 0 []) (.cond (.tmp 16) (.seq (.reg 0 [⟨(some 2), .mv (.const (.string ⟨#[]⟩)), none, 0⟩, ⟨(some 3), .mv (.const (.string ⟨#[]⟩)), none, 0⟩, ⟨(some 4), .mv (.const (.int .i64 4)), none, 0⟩] none 0 []) .ret) .skip)) (.seq (.seq (.reg 0 [⟨(some 17), .mv (.tmp 5), none, 0⟩, ⟨(some 18), .cl 99 [(.tmp 17)], none, 0⟩, ⟨(some 19), .un .not (.tmp 18), none, 0⟩] none 0 []) (.cond (.tmp 19) (.seq (.reg 0 [⟨(some 2), .mv (.const (.string ⟨#[]⟩)), none, 0⟩, ⟨(some 3), .mv (.const (.string ⟨#[]⟩)), none, 0⟩, ⟨(some 4), .mv (.const (.int .i64 11)), none, 0⟩] none 0 []) .ret) .skip)) (.seq (.seq (.reg 0 [⟨(some 20), .mv (.tmp 6), none, 0⟩, ⟨(some 21), .cl 107 [(.tmp 20)], none, 0⟩, ⟨(some 8), .mv (.tmp 21), none, 0⟩] none 0 []) (.seq (.reg 0 [⟨(some 22), .mv (.tmp 8), none, 0⟩, ⟨(some 23), .bin .neq (.tmp 22) (.const (.int .i64 0)), none, 0⟩] none 0 []) (.cond (.tmp 23) (.seq (.reg 0 [⟨(some 24), .mv (.tmp 8), none, 0⟩, ⟨(some 2), .mv (.const (.string ⟨#[]⟩)), none, 0⟩, ⟨(some 3), .mv (.const (.string ⟨#[]⟩)), none, 0⟩, ⟨(some 4), .mv (.tmp 24), none, 0⟩] none 0 []) .ret) .skip))) (.seq (.reg 0 [⟨(some 25), .mv (.tmp 5), none, 0⟩, ⟨(some 26), .mv (.tmp 6), none, 0⟩, ⟨(some 2), .mv (.tmp 25), none, 0⟩, ⟨(some 3), .mv (.tmp 26), none, 0⟩, ⟨(some 4), .mv (.const (.int .i64 0)), none, 0⟩] none 0 []) .ret))))))
theorem gc126_ok : compF Try.prog Try.f126 = some (gc126.er, 27, [.tmp 2, .tmp 3, .tmp 4]) := by unfold gc126; kernel_rfl
set_option maxRecDepth 100000 in
set_option maxHeartbeats 4000000 in
theorem p_pres_Split_v (a0 : ByteArray) : CallsO Try.prog 126 [.s a0] (fun r : ByteArray × ByteArray × Int => .tup [V.s r.1, V.s r.2.1, V.i r.2.2]) (p_pres_Split a0) := by
  refine callsO_comp mix Try.func126 gc126_ok fun r H => ?_
  rw [p_pres_Split] at H
  conv => whnf
  refine ask_c (p_strings_Cut_v _ _) H rfl rfl (fun v1 H => ?_); conv => whnf
  refine Tst.not ?_
  refine tst_d H (fun b2 H => ?_) (fun b2 H => ?_)
  · conv => whnf
    exact fin0_c (enc := (fun r : ByteArray × ByteArray × Int => .tup [V.s r.1, V.s r.2.1, V.i r.2.2])) H (.inr rfl) (.cons (.tmp rfl) (.cons (.tmp rfl) (.cons (.tmp rfl) (.nil)))) rfl rfl
  conv => whnf
  refine ask_c (p_addr_IsBare_v _) H rfl rfl (fun v3 H => ?_); conv => whnf
  refine Tst.not ?_
  refine tst_d H (fun b4 H => ?_) (fun b4 H => ?_)
  · conv => whnf
    exact fin0_c (enc := (fun r : ByteArray × ByteArray × Int => .tup [V.s r.1, V.s r.2.1, V.i r.2.2])) H (.inr rfl) (.cons (.tmp rfl) (.cons (.tmp rfl) (.cons (.tmp rfl) (.nil)))) rfl rfl
  conv => whnf
  refine ask_c (p_addr_Resource_v _) H rfl rfl (fun v5 H => ?_); conv => whnf
  refine tst_c H (fun b6 H => ?_) (fun b6 H => ?_)
  · conv => whnf
    exact fin0_c (enc := (fun r : ByteArray × ByteArray × Int => .tup [V.s r.1, V.s r.2.1, V.i r.2.2])) H (.inr rfl) (.cons (.tmp rfl) (.cons (.tmp rfl) (.cons (.tmp rfl) (.nil)))) rfl rfl
  conv => whnf
  exact fin0_c (enc := (fun r : ByteArray × ByteArray × Int => .tup [V.s r.1, V.s r.2.1, V.i r.2.2])) H (.inr rfl) (.cons (.tmp rfl) (.cons (.tmp rfl) (.cons (.tmp rfl) (.nil)))) rfl rfl
def gc81 : BCode := (.seq (.reg 1 [⟨(some 1), .bx (.tmp 0), none, 0⟩, ⟨(some 2), .mv (.const (.string ⟨#[]⟩)), none, 1⟩, ⟨(some 3), .mv (.const (.bool false)), none, 1⟩] none 0 []) (.seq (.reg 0 [⟨(some 8), .fa 0 (.tmp 1), none, 0⟩, ⟨(some 9), .ld 1 false (.tmp 8), none, 0⟩, ⟨(some 10), .cl 126 [(.tmp 9)], none, 0⟩, ⟨(some 7), .mv (.tmp 10), none, 0⟩, ⟨(some 11), .ex (.tmp 7) 0, none, 0⟩, ⟨(some 12), .ex (.tmp 7) 1, none, 0⟩, ⟨(some 13), .ex (.tmp 7) 2, none, 0⟩, ⟨(some 4), .mv (.tmp 11), none, 0⟩, ⟨(some 5), .mv (.tmp 12), none, 0⟩, ⟨(some 6), .mv (.tmp 13), none, 0⟩] none 0 []) (.seq (.reg 0 [⟨(some 14), .mv (.tmp 4), none, 0⟩, ⟨(some 15), .mv (.tmp 6), none, 0⟩, ⟨(some 16), .bin .eql (.tmp 15) (.const (.int .i64 0)), none, 0⟩, ⟨(some 2), .mv (.tmp 14), none, 0⟩, ⟨(some 3), .mv (.tmp 16), none, 0⟩] none 0 []) .ret)))
theorem gc81_ok : compF Try.prog Try.f81 = some (gc81.er, 17, [.tmp 2, .tmp 3]) := by unfold gc81; kernel_rfl
set_option maxRecDepth 100000 in
set_option maxHeartbeats 4000000 in
theorem p_dirs_Arrow_user_v (a0 : Ref29Arrow) : CallsO Try.prog 81 [.agg [.s a0.From, .s a0.To]] (fun r : ByteArray × Bool => .tup [V.s r.1, V.b r.2]) (p_dirs_Arrow_user a0) := by
  refine callsO_comp mix Try.func81 gc81_ok fun r H => ?_
  rw [p_dirs_Arrow_user] at H
  conv => whnf
  refine ask_c (p_pres_Split_v _) H rfl rfl (fun v1 H => ?_); conv => whnf
  exact fin0_c (enc := (fun r : ByteArray × Bool => .tup [V.s r.1, V.b r.2])) H (.inr rfl) (.cons (.tmp rfl) (.cons (.tmp rfl) (.nil))) rfl rfl
def gc68 : BCode := (.seq (.reg 1 [⟨(some 1), .bx (.tmp 0), none, 0⟩, ⟨(some 2), .mv (.const (.bool false)), none, 1⟩] none 0 []) (.seq (.reg 0 [⟨(some 6), .ld 2 true (.tmp 1), none, 0⟩, ⟨(some 7), .cl 81 [(.tmp 6)], none, 0⟩, ⟨(some 5), .mv (.tmp 7), none, 0⟩, ⟨(some 8), .ex (.tmp 5) 0, none, 0⟩, ⟨(some 9), .ex (.tmp 5) 1, none, 0⟩, ⟨(some 3), .mv (.tmp 8), none, 0⟩, ⟨(some 4), .mv (.tmp 9), none, 0⟩] none 0 []) (.seq (.reg 0 [⟨(some 10), .mv (.tmp 4), none, 0⟩, ⟨(some 11), .un .not (.tmp 10), none, 0⟩, ⟨(some 12), .mv (.tmp 11), none, 0⟩, ⟨(some 13), .fa 1 (.tmp 1), (some (12, false)), 0⟩, ⟨(some 14), .ld 1 false (.tmp 13), (some (12, false)), 0⟩, ⟨(some 15), .cl 99 [(.tmp 14)], (some (12, false)), 0⟩, ⟨(some 16), .un .not (.tmp 15), (some (12, false)), 0⟩, ⟨(some 17), .pick (.tmp 12) (.const (.bool true)) (.tmp 16), none, 0⟩, ⟨(some 2), .mv (.tmp 17), none, 0⟩] none 0 []) .ret)))
theorem gc68_ok : compF Try.prog Try.f68 = some (gc68.er, 18, [.tmp 2]) := by unfold gc68; kernel_rfl
set_option maxRecDepth 100000 in
set_option maxHeartbeats 4000000 in
theorem p_dirs_Arrow_wrong_v (a0 : Ref29Arrow) : CallsO Try.prog 68 [.agg [.s a0.From, .s a0.To]] V.b (p_dirs_Arrow_wrong a0) := by
  refine callsO_comp mix Try.func68 gc68_ok fun r H => ?_
  rw [p_dirs_Arrow_wrong] at H
  conv => whnf
  refine ask_c (p_dirs_Arrow_user_v _) H rfl rfl (fun v1 H => ?_); conv => whnf
  refine Tst.not ?_
  refine tst_d H (fun b2 H => ?_) (fun b2 H => ?_)
  · conv => whnf
    iterate 4 (refine Tst.T ?_; conv => whnf)
    exact fin0_c (enc := V.b) H (.inr rfl) (.cons (.tmp rfl) (.nil)) rfl rfl
  conv => whnf
  iterate 2 (refine Tst.F ?_; conv => whnf)
  refine ask_c (p_addr_IsBare_v _) H rfl rfl (fun v3 H => ?_); conv => whnf
  iterate 2 (refine Tst.F ?_; conv => whnf)
  exact fin0_c (enc := V.b) H (.inr rfl) (.cons (.tmp rfl) (.nil)) rfl rfl
def gc120 : BCode := (.seq (.reg 0 [⟨(some 4), .mv (.const (.int .i64 0)), none, 0⟩] none 0 []) (.seq (.seq (.reg 0 [⟨(some 6), .mv (.tmp 0), none, 0⟩, ⟨(some 7), .lens (.tmp 6), none, 0⟩, ⟨(some 8), .mv (.const (.int .i64 0)), none, 0⟩] none 0 []) (.block 0 (.loop (.seq (.reg 0 [⟨(some 9), .bin .lss (.tmp 8) (.tmp 7), none, 0⟩] none 0 []) (.seq (.cond (.tmp 9) .skip (.exit 0)) (.seq (.block 1 (.seq (.reg 0 [⟨(some 10), .mv (.tmp 8), none, 0⟩, ⟨(some 5), .mv (.tmp 10), none, 0⟩] none 0 []) (.seq (.reg 0 [⟨(some 11), .mv (.tmp 1), none, 0⟩, ⟨(some 12), .mv (.tmp 0), none, 0⟩, ⟨(some 13), .mv (.tmp 5), none, 0⟩, ⟨(some 14), .ixs 2 (.tmp 12) (.tmp 13), none, 0⟩, ⟨(some 15), .ld 2 true (.tmp 14), none, 0⟩, ⟨(some 16), .cv (.tmp 11) [(.tmp 15)], none, 0⟩] none 0 []) (.cond (.tmp 16) (.seq (.reg 0 [⟨(some 17), .mv (.tmp 5), none, 0⟩, ⟨(some 4), .mv (.tmp 17), none, 0⟩] none 0 []) .ret) .skip)))) (.reg 0 [⟨(some 18), .bin .add (.tmp 8) (.const (.int .i64 1)), none, 0⟩, ⟨(some 8), .mv (.tmp 18), none, 0⟩] none 0 []))))))) (.seq (.reg 0 [⟨(some 4), .mv (.const (.int .i64 (-1))), none, 0⟩] none 0 []) .ret)))
theorem gc120_ok : compF Try.prog Try.f120 = some (gc120.er, 19, [.tmp 4]) := by unfold gc120; kernel_rfl
set_option maxRecDepth 100000 in
set_option maxHeartbeats 4000000 in
theorem p_slices_IndexFunc_dirs_State_dirs_Arrow__v {u1 : Bool} (a0 : List Ref29Arrow) (a1 : Ref29Arrow → Option Bool) {a1_g : Nat} {a1_k : List V} (a1_h : Clo1 Try.prog a1_g a1_k Ref29Arrow.v V.b a1) : CallsO Try.prog 120 [.sl (List.map Ref29Arrow.v a0) u1, .clo (.func a1_g) a1_k] V.i (p_slices_IndexFunc_dirs_State_dirs_Arrow_ a0 a1) := by
  refine callsO_comp mix Try.func120 gc120_ok fun r H => ?_
  rw [p_slices_IndexFunc_dirs_State_dirs_Arrow_] at H
  conv => whnf
  refine LenQ.M ?_; conv => whnf
  obtain ⟨o2, HL3, HQ4⟩ := bind_c H
  refine loop_c [4, 8] [5, 9, 10, 11, 12, 13, 14, 15, 16, 17, 18] [5, 9, 10, 11, 12, 13, 14, 15, 16, 17, 18] (fun n vals st => (∃ y6, p_slices_IndexFunc_dirs_State_dirs_Arrow__l1  a1 a0 (a0.length : Int) n y6 = some o2 ∧ vals = [.i (0 : Int), .i y6] ∧ st = [])) fuel 0 [] (⟨_, HL3, rfl, rfl⟩) (Nat.zero_le _) rfl (by simp only [maskF, setF, List.set_cons_zero, List.set_cons_succ, V.ren.renL, V.ren, renL_id _ a1_h.own] <;> rfl) (by simp only [maskF, setF, List.set_cons_zero, List.set_cons_succ, V.idlt.belowL, V.idlt, fun n => idltL_up (n := n) _ a1_h.own] <;> rfl) rfl trivial ?_
  rintro (_ | n5) _ _ (⟨y6, H, rfl, rfl⟩)
  · rw [p_slices_IndexFunc_dirs_State_dirs_Arrow__l1] at H; cases H
  rw [p_slices_IndexFunc_dirs_State_dirs_Arrow__l1] at H
  conv => whnf
  refine tst_d H (fun b7 H => ?_) (fun b7 H => ?_)
  · conv => whnf
    obtain rfl := Option.some.inj H
    have H := HQ4
    try dsimp only at H
    exact fin0_c (enc := V.i) H (.inr rfl) (.cons (.tmp rfl) (.nil)) rfl rfl
  conv => whnf
  refine ixs_c (f := Ref29Arrow.v) H (fun _ => rfl) (fun x8 H => ?_); conv => whnf
  refine askC_c a1_h H (.cons (fzagg (.cons (.id rfl) (.cons (.id rfl) (.nil))) rfl) (.nil)) (fun v9 H => ?_); conv => whnf
  refine tst_c H (fun b10 H => ?_) (fun b10 H => ?_)
  · conv => whnf
    obtain rfl := Option.some.inj H
    have H := HQ4
    try dsimp only at H
    exact fin0_c (enc := V.i) H (.inr rfl) (.cons (.tmp rfl) (.nil)) rfl rfl
  conv => whnf
  refine Ari.w ?_; conv => whnf
  exact again_c [5, 9, 10, 11, 12, 13, 14, 15, 16, 17, 18] n5 0 [] (⟨_, H, rfl, rfl⟩) (Nat.lt_succ_self _) (Nat.zero_le _) rfl (by simp only [maskF, setF, List.set_cons_zero, List.set_cons_succ, V.ren.renL, V.ren, renL_id _ a1_h.own] <;> rfl) (by simp only [maskF, setF, List.set_cons_zero, List.set_cons_succ, V.idlt.belowL, V.idlt, fun n => idltL_up (n := n) _ a1_h.own] <;> rfl) rfl trivial
def gc67 : BCode := (.seq (.reg 0 [⟨(some 4), .mv (.const (.bool false)), none, 0⟩] none 0 []) (.seq (.reg 0 [⟨(some 5), .mv (.tmp 0), none, 0⟩, ⟨(some 6), .mv (.tmp 1), none, 0⟩, ⟨(some 7), .cl 120 [(.tmp 5), (.tmp 6)], none, 0⟩, ⟨(some 8), .bin .geq (.tmp 7) (.const (.int .i64 0)), none, 0⟩, ⟨(some 4), .mv (.tmp 8), none, 0⟩] none 0 []) .ret))
theorem gc67_ok : compF Try.prog Try.f67 = some (gc67.er, 9, [.tmp 4]) := by unfold gc67; kernel_rfl
set_option maxRecDepth 100000 in
set_option maxHeartbeats 4000000 in
theorem p_slices_ContainsFunc_dirs_State_dirs_Arrow__v {u1 : Bool} (a0 : List Ref29Arrow) (a1 : Ref29Arrow → Option Bool) {a1_g : Nat} {a1_k : List V} (a1_h : Clo1 Try.prog a1_g a1_k Ref29Arrow.v V.b a1) : CallsO Try.prog 67 [.sl (List.map Ref29Arrow.v a0) u1, .clo (.func a1_g) a1_k] V.b (p_slices_ContainsFunc_dirs_State_dirs_Arrow_ a0 a1) := by
  refine callsO_comp mix Try.func67 gc67_ok fun r H => ?_
  rw [p_slices_ContainsFunc_dirs_State_dirs_Arrow_] at H
  conv => whnf
  refine askF_c (p_slices_IndexFunc_dirs_State_dirs_Arrow__v _ _ a1_h) H (.cons (.c (.slw)) (.cons (.c (.id a1_h.own)) (.nil))) (fun v1 H => ?_); conv => whnf
  exact fin0_c (enc := V.b) H (.inr rfl) (.cons (.tmp rfl) (.nil)) rfl rfl
def gc121 : BCode := (.seq (.reg 0 [⟨(some 2), .mv (.const (.int .i64 0)), none, 0⟩] none 0 []) (.seq (.reg 0 [⟨(some 3), .mv (.const (.int .i64 0)), none, 0⟩] none 0 []) (.seq (.seq (.reg 0 [⟨(some 6), .mv (.tmp 0), none, 0⟩, ⟨(some 7), .lens (.tmp 6), none, 0⟩, ⟨(some 8), .mv (.const (.int .i64 0)), none, 0⟩] none 0 []) (.block 0 (.loop (.seq (.reg 0 [⟨(some 9), .bin .lss (.tmp 8) (.tmp 7), none, 0⟩] none 0 []) (.seq (.cond (.tmp 9) .skip (.exit 0)) (.seq (.block 1 (.seq (.reg 0 [⟨(some 10), .ixs 1 (.tmp 6) (.tmp 8), none, 0⟩, ⟨(some 11), .ld 1 false (.tmp 10), none, 0⟩, ⟨(some 5), .mv (.tmp 11), none, 0⟩] none 0 []) (.seq (.reg 0 [⟨(some 12), .mv (.tmp 5), none, 0⟩, ⟨(some 13), .mv (.tmp 3), none, 0⟩, ⟨(some 14), .bin .neq (.tmp 12) (.tmp 13), none, 0⟩] none 0 []) (.cond (.tmp 14) (.seq (.reg 0 [⟨(some 15), .mv (.tmp 5), none, 0⟩, ⟨(some 2), .mv (.tmp 15), none, 0⟩] none 0 []) .ret) .skip)))) (.reg 0 [⟨(some 16), .bin .add (.tmp 8) (.const (.int .i64 1)), none, 0⟩, ⟨(some 8), .mv (.tmp 16), none, 0⟩] none 0 []))))))) (.seq (.reg 0 [⟨(some 17), .mv (.tmp 3), none, 0⟩, ⟨(some 2), .mv (.tmp 17), none, 0⟩] none 0 []) .ret))))
theorem gc121_ok : compF Try.prog Try.f121 = some (gc121.er, 18, [.tmp 2]) := by unfold gc121; kernel_rfl
set_option maxRecDepth 100000 in
set_option maxHeartbeats 4000000 in
theorem p_cmp_Or_int__v {u1 : Bool} (a0 : List Int) : CallsO Try.prog 121 [.sl (List.map V.i a0) u1] V.i (p_cmp_Or_int_ a0) := by
  refine callsO_comp mix Try.func121 gc121_ok fun r H => ?_
  rw [p_cmp_Or_int_] at H
  conv => whnf
  refine LenQ.M ?_; conv => whnf
  obtain ⟨o2, HL3, HQ4⟩ := bind_c H
  refine loop_c [2, 8] [5, 9, 10, 11, 12, 13, 14, 15, 16] [5, 9, 10, 11, 12, 13, 14, 15, 16] (fun n vals st => (∃ y6, p_cmp_Or_int__l1  a0 (a0.length : Int) n y6 = some o2 ∧ vals = [.i (0 : Int), .i y6] ∧ st = [])) fuel 0 [] (⟨_, HL3, rfl, rfl⟩) (Nat.zero_le _) rfl (by kernel_rfl) (by kernel_rfl) rfl trivial ?_
  rintro (_ | n5) _ _ (⟨y6, H, rfl, rfl⟩)
  · rw [p_cmp_Or_int__l1] at H; cases H
  rw [p_cmp_Or_int__l1] at H
  conv => whnf
  refine tst_d H (fun b7 H => ?_) (fun b7 H => ?_)
  · conv => whnf
    obtain rfl := Option.some.inj H
    have H := HQ4
    try dsimp only at H
    exact fin0_c (enc := V.i) H (.inr rfl) (.cons (.tmp rfl) (.nil)) rfl rfl
  conv => whnf
  refine ixs_c (f := V.i) H (fun _ => rfl) (fun x8 H => ?_); conv => whnf
  refine tst_c H (fun b9 H => ?_) (fun b9 H => ?_)
  · conv => whnf
    obtain rfl := Option.some.inj H
    have H := HQ4
    try dsimp only at H
    exact fin0_c (enc := V.i) H (.inr rfl) (.cons (.tmp rfl) (.nil)) rfl rfl
  conv => whnf
  refine Ari.w ?_; conv => whnf
  exact again_c [5, 9, 10, 11, 12, 13, 14, 15, 16] n5 0 [] (⟨_, H, rfl, rfl⟩) (Nat.lt_succ_self _) (Nat.zero_le _) rfl (by kernel_rfl) (by kernel_rfl) rfl trivial
def gc69 : BCode := (.seq (.reg 2 [⟨(some 2), .bx (.tmp 0), none, 0⟩, ⟨(some 3), .bx (.tmp 1), none, 1⟩, ⟨(some 4), .mv (.const (.int .i64 0)), none, 2⟩] none 0 []) (.seq (.reg 1 [⟨(some 5), .fa 0 (.tmp 2), none, 0⟩, ⟨(some 6), .ld 1 false (.tmp 5), none, 0⟩, ⟨(some 7), .fa 0 (.tmp 3), none, 0⟩, ⟨(some 8), .ld 1 false (.tmp 7), none, 0⟩, ⟨(some 9), .cl 115 [(.tmp 6), (.tmp 8)], none, 0⟩, ⟨(some 10), .fa 1 (.tmp 2), none, 0⟩, ⟨(some 11), .ld 1 false (.tmp 10), none, 0⟩, ⟨(some 12), .fa 1 (.tmp 3), none, 0⟩, ⟨(some 13), .ld 1 false (.tmp 12), none, 0⟩, ⟨(some 14), .cl 115 [(.tmp 11), (.tmp 13)], none, 0⟩, ⟨(some 15), .bs 1 2 [(.lit (.int .i64 0)), (.lit (.int .i64 0))] [(0, (.tmp 9)), (1, (.tmp 14))], none, 0⟩, ⟨(some 16), .cl 121 [(.tmp 15)], none, 1⟩, ⟨(some 4), .mv (.tmp 16), none, 1⟩] (some [[], [0], [], [2], [2, 3, 0, 1], [], [5], [], [7], [1, 0, 3, 2, 4, 7, 8, 5, 6], [6, 5, 8, 7, 9, 1, 0, 3, 2, 4], [4, 2, 3, 0, 1, 9, 7, 8, 5, 6, 10], [10, 6, 5, 8, 7, 9, 1, 0, 3, 2, 4, 11]]) 0 []) .ret))
theorem gc69_ok : compF Try.prog Try.f69 = some (gc69.er, 17, [.tmp 4]) := by unfold gc69; kernel_rfl
set_option maxRecDepth 100000 in
set_option maxHeartbeats 4000000 in
theorem p_dirs_order_v (a0 : Ref29Arrow) (a1 : Ref29Arrow) : CallsO Try.prog 69 [.agg [.s a0.From, .s a0.To], .agg [.s a1.From, .s a1.To]] V.i (p_dirs_order a0 a1) := by
  refine callsO_comp mix Try.func69 gc69_ok fun r H => ?_
  rw [p_dirs_order] at H
  conv => whnf
  refine ask_c (p_strings_Compare_v _ _) H rfl rfl (fun v1 H => ?_); conv => whnf
  refine ask_c (p_strings_Compare_v _ _) H rfl rfl (fun v2 H => ?_); conv => whnf
  refine askF_c (p_cmp_Or_int__v _) H (.cons (.c (fzown (f := V.i) (l := [v1, v2]) rfl rfl (fun _ => rfl) (fun _ => rfl))) (.nil)) (fun v3 H => ?_); conv => whnf
  refine FootQ.mk ⟨rfl, ?_⟩; conv => whnf
  exact fin0_c (enc := V.i) H (.inr rfl) (.cons (.tmp rfl) (.nil)) rfl rfl
def gc29 : BCode := (.seq (.reg 0 [⟨(some 2), .mv (.const (.int .i64 0)), none, 0⟩] none 0 []) (.seq (.seq (.reg 0 [⟨(some 4), .mv (.tmp 0), none, 0⟩, ⟨(some 5), .lens (.tmp 4), none, 0⟩, ⟨(some 6), .bin .gtr (.tmp 5) (.const (.int .i64 32)), none, 0⟩] none 0 []) (.cond (.tmp 6) (.seq (.reg 0 [⟨(some 2), .mv (.const (.int .i64 5)), none, 0⟩] none 0 []) .ret) .skip)) (.seq (.seq (.reg 0 [⟨(some 7), .mv (.tmp 0), none, 0⟩, ⟨(some 8), .cl 67 [(.tmp 7), (.func 68)], none, 0⟩] none 0 []) (.cond (.tmp 8) (.seq (.reg 0 [⟨(some 2), .mv (.const (.int .i64 11)), none, 0⟩] none 0 []) .ret) .skip)) (.seq (.seq (.reg 0 [⟨(some 3), .mv (.const (.int .i64 1)), none, 0⟩] none 0 []) (.block 0 (.loop (.seq (.seq (.reg 0 [⟨(some 9), .mv (.tmp 3), none, 0⟩, ⟨(some 10), .mv (.tmp 0), none, 0⟩, ⟨(some 11), .lens (.tmp 10), none, 0⟩, ⟨(some 12), .bin .lss (.tmp 9) (.tmp 11), none, 0⟩] none 0 []) (.cond (.tmp 12) .skip (.exit 0))) (.seq (.block 1 (.seq (.reg 0 [⟨(some 15), .mv (.tmp 0), none, 0⟩, ⟨(some 16), .mv (.tmp 3), none, 0⟩, ⟨(some 17), .bin .sub (.tmp 16) (.const (.int .i64 1)), none, 0⟩, ⟨(some 18), .ixs 2 (.tmp 15) (.tmp 17), none, 0⟩, ⟨(some 19), .ld 2 true (.tmp 18), none, 0⟩, ⟨(some 20), .mv (.tmp 0), none, 0⟩, ⟨(some 21), .mv (.tmp 3), none, 0⟩, ⟨(some 22), .ixs 2 (.tmp 20) (.tmp 21), none, 0⟩, ⟨(some 23), .ld 2 true (.tmp 22), none, 0⟩, ⟨(some 24), .cl 69 [(.tmp 19), (.tmp 23)], none, 0⟩, ⟨(some 25), .bin .geq (.tmp 24) (.const (.int .i64 0)), none, 0⟩] (some [[], [], [1], [1, 2, 0], [0, 2, 1, 3], [], [], [6, 5], [5, 6, 7], [7, 6, 5, 8, 3, 1, 2, 0, 4], [4, 0, 2, 1, 3, 8, 5, 6, 7, 9]]) 0 []) (.cond (.tmp 25) (.seq (.reg 0 [⟨(some 2), .mv (.const (.int .i64 10)), none, 0⟩] none 0 []) .ret) .skip))) (.reg 0 [⟨(some 13), .mv (.tmp 3), none, 0⟩, ⟨(some 14), .bin .add (.tmp 13) (.const (.int .i64 1)), none, 0⟩, ⟨(some 3), .mv (.tmp 14), none, 0⟩] none 0 [])))))) (.seq (.reg 0 [⟨(some 2), .mv (.const (.int .i64 0)), none, 0⟩] none 0 []) .ret)))))
theorem gc29_ok : compF Try.prog Try.f29 = some (gc29.er, 26, [.tmp 2]) := by unfold gc29; kernel_rfl
set_option maxRecDepth 100000 in
set_option maxHeartbeats 4000000 in
theorem p_dirs_Check_v {u1 : Bool} (a0 : List Ref29Arrow) : CallsO Try.prog 29 [.sl (List.map Ref29Arrow.v a0) u1] V.i (p_dirs_Check a0) := by
  refine callsO_comp mix Try.func29 gc29_ok fun r H => ?_
  rw [p_dirs_Check] at H
  conv => whnf
  refine LenQ.M ?_; conv => whnf
  refine tst_c H (fun b1 H => ?_) (fun b1 H => ?_)
  · conv => whnf
    exact fin0_c (enc := V.i) H (.inr rfl) (.cons (.tmp rfl) (.nil)) rfl rfl
  conv => whnf
  refine askF_c (p_slices_ContainsFunc_dirs_State_dirs_Arrow__v _ _ ⟨⟨_, Try.func68, by kernel_rfl, by kernel_rfl⟩, rfl, fun x0 => p_dirs_Arrow_wrong_v _⟩) H (.cons (.c (.slw)) (.cons (.c (.clo (.nil))) (.nil))) (fun v2 H => ?_); conv => whnf
  refine tst_c H (fun b3 H => ?_) (fun b3 H => ?_)
  · conv => whnf
    exact fin0_c (enc := V.i) H (.inr rfl) (.cons (.tmp rfl) (.nil)) rfl rfl
  conv => whnf
  obtain ⟨o5, HL6, HQ7⟩ := bind_c H
  refine loop_c [2, 3] [9, 10, 11, 12, 13, 14, 15, 16, 17, 18, 19, 20, 21, 22, 23, 24, 25] [9, 10, 11, 12, 13, 14, 15, 16, 17, 18, 19, 20, 21, 22, 23, 24, 25] (fun n vals st => (∃ y9, p_dirs_Check_l1  a0 n y9 = some o5 ∧ vals = [.i (0 : Int), .i y9] ∧ st = [])) fuel 0 [] (⟨_, HL6, rfl, rfl⟩) (Nat.zero_le _) rfl (by kernel_rfl) (by kernel_rfl) rfl trivial ?_
  rintro (_ | n8) _ _ (⟨y9, H, rfl, rfl⟩)
  · rw [p_dirs_Check_l1] at H; cases H
  rw [p_dirs_Check_l1] at H
  conv => whnf
  refine LenQ.M ?_; conv => whnf
  refine tst_d H (fun b10 H => ?_) (fun b10 H => ?_)
  · conv => whnf
    obtain rfl := Option.some.inj H
    have H := HQ7
    try dsimp only at H
    exact fin0_c (enc := V.i) H (.inr rfl) (.cons (.tmp rfl) (.nil)) rfl rfl
  conv => whnf
  refine Ari.w ?_; conv => whnf
  refine ixs_c (f := Ref29Arrow.v) H (fun _ => rfl) (fun x11 H => ?_); conv => whnf
  refine ixs_c (f := Ref29Arrow.v) H (fun _ => rfl) (fun x12 H => ?_); conv => whnf
  refine ask_c (p_dirs_order_v _ _) H rfl rfl (fun v13 H => ?_); conv => whnf
  refine FootQ.mk ⟨rfl, ?_⟩; conv => whnf
  refine tst_c H (fun b14 H => ?_) (fun b14 H => ?_)
  · conv => whnf
    obtain rfl := Option.some.inj H
    have H := HQ7
    try dsimp only at H
    exact fin0_c (enc := V.i) H (.inr rfl) (.cons (.tmp rfl) (.nil)) rfl rfl
  conv => whnf
  refine Ari.w ?_; conv => whnf
  exact again_c [9, 10, 11, 12, 13, 14, 15, 16, 17, 18, 19, 20, 21, 22, 23, 24, 25] n8 0 [] (⟨_, H, rfl, rfl⟩) (Nat.lt_succ_self _) (Nat.zero_le _) rfl (by kernel_rfl) (by kernel_rfl) rfl trivial
end Go.Proofs.Ythmgficajgedlaa
/- slices.Clone at function 87. -/
namespace Go.Proofs.Ythmgficajgedlaa
open Go.RowKit Go.Lib
set_option maxHeartbeats 4000000 in
set_option maxRecDepth 100000 in
theorem cloS87 (A : Addr) (n c : Nat) (cs : List Value) (w : World) (hn : 0 < n) (hbig : n ≤ 1000000) (hcl : cs.length = n * 5) (hcs : ∀ j v, cs[j]? = some v → w.cell? (A.add j) = some v) (h1 : ∀ v ∈ cs, v.oneCell' = true) :
    Calls Try.prog 87 #[.slice (some A) n c] w fun e w' => ∃ ZS : Array Value, e = .returned (.slice (some ⟨w.heap.size + 1, 0, none⟩) n (grownCap (w.alloc (.cells #[] 101)) n 0 101)) ∧ w' = (w.alloc (.cells #[] 101)).drew.alloc (.cells (cs.toArray ++ ZS) 101) ∧ grownCap (w.alloc (.cells #[] 101)) n 0 101 * 5 ≤ (cs.toArray ++ ZS).size := by
  have tS : Try.prog.underlying 94 = some (.slice 101) := by kernel_rfl
  have uS := run_underlying tS
  have qS : ∀ (w : World) (a : Option Addr) (n c n' c' : Nat), (binOp .eql 94 (.slice a n c) (.slice none n' c')).run Try.prog w = .ok (.bool a.isNone) w := fun w a n c n' c' => Lib.run_eql_slice_nil w _ _ a n c n' c' tS
  have mixed : Try.prog.follows .mixedOrders = true := mix
  obtain ⟨i0, z, hi0, hzs, hz0, hzc, hzb⟩ := infB_ok (P := Try.prog) (e := 101) (es := 5) (by kernel_rfl)
  have hsrc : Src Try.prog i0.size 94 (.slice (some A) n c) n cs (w.alloc (.cells #[] 101)) := by
    rw [hzs]
    exact Src.ofSlice _ tS A n c cs (by omega) (fun j u hj => Lib.cell?_alloc_some _ (hcs j u hj)) h1
  have hold : (Builtin.firstCells i0.size 0 (.slice (some ⟨w.heap.size, 0, none⟩) 0 0)).run Try.prog (w.alloc (.cells #[] 101)).drew = .ok ([] : List Value).toArray (w.alloc (.cells #[] 101)).drew := by
    rw [hzs]
    exact run_firstCells_some _ 5 0 ⟨w.heap.size, 0, none⟩ 0 0 [] (by simp) (fun j v hj => by simp at hj)
  have hrun : ∀ ty, (Builtin.append_ #[94, 94] ty #[.slice (some ⟨w.heap.size, 0, none⟩) 0 0, .slice (some A) n c]).run Try.prog (w.alloc (.cells #[] 101)) = _ := fun ty =>
    run_append_grow_src (w.alloc (.cells #[] 101)) 94 94 ty 101 i0 z tS hi0 hz0 (some ⟨w.heap.size, 0, none⟩) 0 0 [] hold _ n cs hsrc (by omega) (by omega) (growslice_fits (by omega) (grown_bound (by omega) hzb))
  simp only [Nat.zero_add, List.nil_append, World.size_alloc] at hrun
  have hge := grownCap_ge (w.alloc (.cells #[] 101)) n 0 101
  have hsz : grownCap (w.alloc (.cells #[] 101)) n 0 101 * 5 ≤ (cs.toArray ++ Builtin.zeroCells z.cells (grownCap (w.alloc (.cells #[] 101)) n 0 101 - n)).size := by
    simp only [Array.size_append, size_zeroCells, hzc, List.size_toArray, hcl]
    omega
  obtain ⟨ZS, hrun, hsz⟩ : ∃ ZS : Array Value, (∀ ty, (Builtin.append_ #[94, 94] ty #[.slice (some ⟨w.heap.size, 0, none⟩) 0 0, .slice (some A) n c]).run Try.prog (w.alloc (.cells #[] 101)) = .ok (.slice (some ⟨w.heap.size + 1, 0, none⟩) n (grownCap (w.alloc (.cells #[] 101)) n 0 101)) ((w.alloc (.cells #[] 101)).drew.alloc (.cells (cs.toArray ++ ZS) 101))) ∧ grownCap (w.alloc (.cells #[] 101)) n 0 101 * 5 ≤ (cs.toArray ++ ZS).size := ⟨_, hrun, hsz⟩
  have main : Calls Try.prog 87 #[.slice (some A) n c] w fun e w' => e = .returned (.slice (some ⟨w.heap.size + 1, 0, none⟩) n (grownCap (w.alloc (.cells #[] 101)) n 0 101)) ∧ w' = (w.alloc (.cells #[] 101)).drew.alloc (.cells (cs.toArray ++ ZS) 101) := by
    clear hsz hold hsrc hz0 hcs
    go_enter Try.func87, Try.ntmps87
    go_wp2_with (at_builtin; refine Lib.wpList_append_run _ rfl _ _ _ _ rfl _ _ rfl rfl _ _ (hrun _) ?_)
    go_ret
    exact ⟨rfl, rfl⟩
  refine main.mono ?_
  rintro e w' ⟨rfl, rfl⟩
  exact ⟨ZS, rfl, rfl, hsz⟩
set_option maxHeartbeats 4000000 in
set_option maxRecDepth 100000 in
theorem cloZ87 (A : Addr) (c : Nat) (w : World) : Calls Try.prog 87 #[.slice (some A) 0 c] w fun e w' => e = .returned (.slice (some ⟨w.heap.size, 0, none⟩) 0 0) ∧ ∃ q, w' = (w.alloc (.cells #[] 101)).drewN q := by
  have tS : Try.prog.underlying 94 = some (.slice 101) := by kernel_rfl
  have uS := run_underlying tS
  have qS : ∀ (w : World) (a : Option Addr) (n c n' c' : Nat), (binOp .eql 94 (.slice a n c) (.slice none n' c')).run Try.prog w = .ok (.bool a.isNone) w := fun w a n c n' c' => Lib.run_eql_slice_nil w _ _ a n c n' c' tS
  have mixed : Try.prog.follows .mixedOrders = true := mix
  obtain ⟨i0, z, hi0, hzs, hz0, hzc, hzb⟩ := infB_ok (P := Try.prog) (e := 101) (es := 5) (by kernel_rfl)
  have hsz : (Try.prog.info? 101).map (·.size) = some 5 := by rw [hi0]; simp [hzs]
  have hrun : ∀ ty, (Builtin.append_ #[94, 94] ty #[.slice (some ⟨w.heap.size, 0, none⟩) 0 0, .slice (some A) 0 c]).run Try.prog (w.alloc (.cells #[] 101)) = .ok (.slice (some ⟨w.heap.size, 0, none⟩) 0 0) (w.alloc (.cells #[] 101)) := fun ty => by
    have hl : ∀ (x : Addr) (W : World), (loadCells x 0).run Try.prog W = .ok #[] W := fun x W => by simpa using run_loadCells_list (P := Try.prog) W x [] (by simp)
    simp [Builtin.append_, uS, Builtin.lenOf, Builtin.firstCells, sizeOf, typeInfo, hi0, hl, storeCells]
  have main : Calls Try.prog 87 #[.slice (some A) 0 c] w fun e w' => e = .returned (.slice (some ⟨w.heap.size, 0, none⟩) 0 0) ∧ w' = w.alloc (.cells #[] 101) := by
    go_enter Try.func87, Try.ntmps87
    go_wp2_with (at_builtin; refine Lib.wpList_append_run _ rfl _ _ _ _ rfl _ _ rfl rfl _ _ (hrun _) ?_)
    go_ret
    exact ⟨rfl, rfl⟩
  refine main.mono ?_
  rintro e w' ⟨rfl, rfl⟩
  exact ⟨rfl, 0, rfl⟩
set_option maxHeartbeats 4000000 in
set_option maxRecDepth 100000 in
theorem cloN87 (n c : Nat) (w : World) : Calls Try.prog 87 #[.slice none n c] w fun e w' => e = .returned (.slice none 0 0) ∧ w' = w := by
  have tS : Try.prog.underlying 94 = some (.slice 101) := by kernel_rfl
  have uS := run_underlying tS
  have qS : ∀ (w : World) (a : Option Addr) (n c n' c' : Nat), (binOp .eql 94 (.slice a n c) (.slice none n' c')).run Try.prog w = .ok (.bool a.isNone) w := fun w a n c n' c' => Lib.run_eql_slice_nil w _ _ a n c n' c' tS
  have mixed : Try.prog.follows .mixedOrders = true := mix
  go_enter Try.func87, Try.ntmps87
  go_wp2
  go_ret
  exact ⟨rfl, rfl⟩
theorem cloR87_v : CloRoads Try.prog 87 5 101 := ⟨cloS87, cloZ87, cloN87⟩
end Go.Proofs.Ythmgficajgedlaa
/- slices.Delete at function 90. -/
namespace Go.Proofs.Ythmgficajgedlaa
open Go.RowKit Go.Lib
set_option maxHeartbeats 4000000 in
set_option maxRecDepth 100000 in
theorem delS90 (b n c i j : Nat) (cs : List Value) (w : World) (hij : i < j) (hj : j ≤ n) (hnc : n ≤ c) (hbig : n ≤ 1000000) (hcl : cs.length = n * 5) (hcs : ∀ t v, cs[t]? = some v → w.cell? ⟨b, t, none⟩ = some v) (hfz : ∀ t, t < n * 5 → w.frozen? ⟨b, t, none⟩ = false) (h1c : ∀ v ∈ cs, v.oneCell' = true) :
    Calls Try.prog 90 #[.slice (some ⟨b, 0, none⟩) n c, .int .i64 i, .int .i64 j] w fun e w' => ∃ zs : List Value, zs.length = (j - i) * 5 ∧ (∀ v ∈ zs, v.oneCell' = true) ∧ e = .returned (.slice (some ⟨b, 0, none⟩) (n - (j - i)) c) ∧ w' = (w.drew.setCells b (i * 5) (cs.drop (j * 5))).setCells b ((n - (j - i)) * 5) zs := by
  have tS : Try.prog.underlying 94 = some (.slice 101) := by kernel_rfl
  have uS := run_underlying tS
  have mixed : Try.prog.follows .mixedOrders = true := mix
  obtain ⟨i0, z, hi0, hzs, hz0, hzc, hzb, hz1⟩ := infB2_ok (P := Try.prog) (e := 101) (es := 5) (by kernel_rfl)
  have hlen : (cs.drop (j * 5)).length = (n - j) * 5 := by rw [List.length_drop, hcl]; omega
  obtain ⟨Ad, hA, hsrc⟩ : ∃ Ad : Addr, (if c = j then some (⟨b, 0, none⟩ : Addr) else some ⟨b, j * 5, none⟩) = some Ad ∧ Hid (∀ t u, (cs.drop (j * 5))[t]? = some u → w.drew.cell? (Ad.add t) = some u) := by
    by_cases h : c = j
    · refine ⟨⟨b, 0, none⟩, by simp [h], fun t u hu => ?_⟩
      have := (List.getElem?_eq_some_iff.1 hu).1
      omega
    · refine ⟨⟨b, j * 5, none⟩, by simp [h], fun t u hu => ?_⟩
      rw [Addr.add_lit]
      exact hcs _ u (by rwa [List.getElem?_drop] at hu)
  have s1 : Hid ((cs.drop (j * 5)).length = (n - j) * 5) := hlen
  have s2 : Hid (∀ u ∈ cs.drop (j * 5), u.oneCell' = true) := fun u hu => h1c u (List.mem_of_mem_drop hu)
  have hsome : ∀ t, t < n * 5 → (w.drew.cell? ⟨b, t, none⟩).isSome = true := fun t ht => by
    show (w.cell? ⟨b, t, none⟩).isSome = true
    rw [hcs t _ (List.getElem?_eq_getElem (by omega))]; rfl
  have s3 : Hid (∀ t, t < (cs.drop (j * 5)).length → (w.drew.cell? ⟨b, 0 + i * 5 + t, none⟩).isSome = true ∧ w.drew.frozen? ⟨b, 0 + i * 5 + t, none⟩ = false) := fun t ht => by
    rw [Nat.zero_add]
    exact ⟨hsome _ (by omega), hfz _ (by omega)⟩
  obtain ⟨W1, hW1⟩ : ∃ W1, W1 = w.drew.setCells b (0 + i * 5) (cs.drop (j * 5)) := ⟨_, rfl⟩
  have hin : ∀ t, t < n * 5 → (W1.cell? ⟨b, t, none⟩).isSome = true := fun t ht => by
    rw [hW1]
    exact isSome_setCells b _ _ _ (fun q hq => by rw [Nat.zero_add]; exact hsome _ (by omega)) _ (hsome t ht)
  have hfin : ∀ t, t < n * 5 → W1.frozen? ⟨b, t, none⟩ = false := fun t ht => by
    rw [hW1, World.frozen?_setCells]; exact hfz t ht
  have hzl : (Builtin.zeroCells z.cells (n - (i + (n - j)))).toList.length = (n - (i + (n - j))) * 5 := by rw [Array.length_toList, size_zeroCells, hzc]
  have hz1' : ∀ m, ∀ v ∈ (Builtin.zeroCells z.cells m).toList, v.oneCell' = true := zeroCells_one hz1
  have hcl2 : ∀ ty, (Builtin.clear_ #[94] ty #[.slice (some ⟨b, (i + (n - j)) * 5, none⟩) (n - (i + (n - j))) (c - (i + (n - j)))]).run Try.prog W1 = .ok (.tuple #[]) (W1.setCells b ((i + (n - j)) * 5) (Builtin.zeroCells z.cells (n - (i + (n - j)))).toList) :=
    fun ty => run_clear_es W1 94 101 ty z 5 tS (fun w => by simp [zeroValue, typeInfo, hi0, hz0]) hzc hz1' b _ _ _ (by omega) (fun t ht => hin _ (by omega)) (fun t ht => hfin _ (by omega))
  obtain ⟨ZS, hZS⟩ : ∃ ZS, ZS = (Builtin.zeroCells z.cells (n - (i + (n - j)))).toList := ⟨_, rfl⟩
  rw [← hZS] at hcl2 hzl
  have hz2 : ∀ v ∈ ZS, v.oneCell' = true := by rw [hZS]; exact hz1' _
  have hic : i ≤ c := by omega
  have hjc : j ≤ c := by omega
  have hci : ¬ (c = i) := by omega
  have hne : ¬ ((i : Int) = (j : Int)) := by omega
  have hb1 : (i : Int) ≤ (j : Int) := by omega
  have hb2 : ¬ (c = i + (n - j)) := by omega
  have main : Calls Try.prog 90 #[.slice (some ⟨b, 0, none⟩) n c, .int .i64 i, .int .i64 j] w fun e w' => e = .returned (.slice (some ⟨b, 0, none⟩) (i + (n - j)) c) ∧ w' = W1.setCells b ((i + (n - j)) * 5) ZS := by
    have hW : Hid (W1 = w.drew.setCells b (0 + i * 5) (cs.drop (j * 5))) := hW1
    clear hW1 hz0 hz1 hz1' hzb hz2 hzl hlen hcs hsome hin hfin hZS
    go_enter Try.func90, Try.ntmps90
    go_wp2_with fail
    go_region_law_o (refine step_append_room rfl (.tmp 22) (.tmp 25) 94 rfl 101 i0 5 tS hi0 hzs b 0 i c (by simp [Act.eval, Act.put]) Ad (n - j) (c - j) (cs.drop (j * 5)) (by simp [Act.eval, Act.put]) s1.out hsrc.out s2.out (by omega) s3.out ?_; rw [← hW.out])
    go_wp2
    go_ret
    first | exact ⟨rfl, rfl⟩ | trace_state
  refine main.mono ?_
  rintro e w' ⟨rfl, rfl⟩
  have he : i + (n - j) = n - (j - i) := by omega
  refine ⟨ZS, by rw [hzl]; congr 1; omega, hz2, by rw [he], by rw [hW1, Nat.zero_add, he]⟩
theorem delR90_v : DelRoads Try.prog 90 5 := ⟨delS90⟩
end Go.Proofs.Ythmgficajgedlaa
