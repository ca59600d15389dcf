/- A part of the proof: 6 texts joined. -/
import Derived.Test.YthmgficajgedlaaRcA8
import Derived.Test.YthmgficajgedlaaRcA7
import Derived.KernelRfl
import Derived.Test.YthmgficajgedlaaRcA5
set_option linter.all false
/- Rows of an array of arrays. -/
namespace Go.Proofs.Ythmgficajgedlaa
open Go.RowKit
def row? (n : Nat) (j : Int) : Option Unit := if 0 ≤ j ∧ j.toNat < n then some () else none
def el2? {α : Type} (n : Nat) (l : List α) (b : Nat) (j : Int) : Option α := if 0 ≤ j ∧ j.toNat < n then l[b + j.toNat]? else none
def setRow? {α : Type} (l : List α) (b : Nat) (row : List α) : Option (List α) := if b + row.length ≤ l.length then some (l.take b ++ row ++ l.drop (b + row.length)) else none
section
variable {β : Type} {r : β}
theorem ixrow_c {n : Nat} {j : Int} {X : Unit → Option β} {k : Nat → Prop} (H : (row? n j).bind X = some r) (h : X () = some r → k j.toNat) : IxO n j k := by
  obtain ⟨x, hx, H⟩ := bind_c H
  unfold row? at hx
  split at hx
  · rename_i hn
    exact ⟨hn.1, hn.2, h H⟩
  · cases hx
theorem ix2_c {α : Type} {l : List α} {n b : Nat} {j : Int} {X : α → Option β} {k : Nat → Prop} (H : (el2? n l b j).bind X = some r) (h : ∀ x, l[b + j.toNat]? = some x → X x = some r → k j.toNat) : IxO n j k := by
  obtain ⟨x, hx, H⟩ := bind_c H
  unfold el2? at hx
  split at hx
  · rename_i hn
    exact ⟨hn.1, hn.2, h x hx H⟩
  · cases hx
theorem rowS_c {α : Type} {f : α → V} {l row : List α} {es off b : Nat} {vs : List V} {X : List α → Option β} {k : List V → Prop} (H : (setRow? l b row).bind X = some r) (hes : ∀ a, (f a).cells.length = es) (ho : off = b * es) (hv : vs = cellsM f row) (h : ∀ L, X L = some r → k (cellsM f L)) : layK (cellsM f l) off vs k := by
  obtain ⟨L, hL, H⟩ := bind_c H
  unfold setRow? at hL
  split at hL
  · rename_i hn
    simp only [Option.some.injEq] at hL
    have h1 := cellsM_take hes l b (by omega)
    have h2 := cellsM_take hes l (b + row.length) (by omega)
    have e1 : (b + row.length) * es = b * es + row.length * es := Nat.add_mul _ _ _
    subst ho hv
    refine layK_of ?_ ?_
    · rw [cellsM_len hes, cellsM_len hes, ← e1]; exact Nat.mul_le_mul_right _ hn
    · have := h L H
      rw [cellsM_len hes, ← e1, ← h1.1, ← h2.2]
      rw [← hL, cellsM_app', cellsM_app'] at this
      exact this
  · cases hL
end
end Go.Proofs.Ythmgficajgedlaa
/- Plain functions (written by a program of mine). -/
namespace Go.Proofs.Ythmgficajgedlaa
open Go.RowKit
structure Ar2_ByteArray where
  a0 : ByteArray
  a1 : ByteArray
abbrev Ar2_ByteArray.v (x : Ar2_ByteArray) : V := .agg [.s x.a0, .s x.a1]
def p_ref29_Light_l1 (z5 : List Ref29Arrow) : Nat → Int → Option (Bool ⊕ Int)
  | 0, _ => none
  | n + 1, y6 =>
    bif (decide (y6 < (z5.length : Int))) then
      (at? z5 y6).bind fun x8 =>
      bif (decide ((100 : Int) < (x8.From.size : Int))) then
        some (.inl false)
      else
      (at? z5 y6).bind fun x10 =>
      bif (decide ((100 : Int) < (x10.To.size : Int))) then
        some (.inl false)
      else
      p_ref29_Light_l1 z5 n (w64 (y6 + (1 : Int)))
    else
    some (.inr y6)
def p_ref29_Light (a0 : List Ref29Arrow) : Option (Bool) :=
  bif (decide ((40 : Int) < (a0.length : Int))) then
    some false
  else
  (p_ref29_Light_l1 a0 fuel (0 : Int)).bind fun o12 => match o12 with
  | .inl q13 =>
    some q13
  | .inr q14 =>
    some true
def p_pres_Split (a0 : ByteArray) : Option (ByteArray × ByteArray × Int) :=
  (p_strings_Cut a0 (⟨#[32]⟩ : ByteArray)).bind fun v1 =>
  bif v1.2.2 then
    (p_addr_IsBare v1.1).bind fun v3 =>
    bif v3 then
      (p_addr_Resource v1.2.1).bind fun v5 =>
      bif (v5 != (0 : Int)) then
        some ((⟨#[]⟩ : ByteArray), (⟨#[]⟩ : ByteArray), v5)
      else
      some (v1.1, v1.2.1, (0 : Int))
    else
    some ((⟨#[]⟩ : ByteArray), (⟨#[]⟩ : ByteArray), (11 : Int))
  else
  some ((⟨#[]⟩ : ByteArray), (⟨#[]⟩ : ByteArray), (4 : Int))
def p_dirs_Arrow_user (a0 : Ref29Arrow) : Option (ByteArray × Bool) :=
  (p_pres_Split a0.From).bind fun v1 =>
  some (v1.1, (v1.2.2 == (0 : Int)))
def p_dirs_Arrow_wrong (a0 : Ref29Arrow) : Option (Bool) :=
  (p_dirs_Arrow_user a0).bind fun v1 =>
  bif v1.2 then
    (p_addr_IsBare a0.To).bind fun v3 =>
    some (!v3)
  else
  some true
def p_slices_IndexFunc_dirs_State_dirs_Arrow__l1 (a1 : Ref29Arrow → Option Bool) (z5 : List Ref29Arrow) (z6 : Int) : Nat → Int → Option (Int ⊕ Int)
  | 0, _ => none
  | n + 1, y7 =>
    bif (decide (y7 < z6)) then
      (at? z5 y7).bind fun x9 =>
      (a1 x9).bind fun v10 =>
      bif v10 then
        some (.inl y7)
      else
      p_slices_IndexFunc_dirs_State_dirs_Arrow__l1 a1 z5 z6 n (w64 (y7 + (1 : Int)))
    else
    some (.inr y7)
def p_slices_IndexFunc_dirs_State_dirs_Arrow_ (a0 : List Ref29Arrow) (a1 : Ref29Arrow → Option Bool) : Option (Int) :=
  (p_slices_IndexFunc_dirs_State_dirs_Arrow__l1 a1 a0 (a0.length : Int) fuel (0 : Int)).bind fun o12 => match o12 with
  | .inl q13 =>
    some q13
  | .inr q14 =>
    some (-1 : Int)
def p_slices_ContainsFunc_dirs_State_dirs_Arrow_ (a0 : List Ref29Arrow) (a1 : Ref29Arrow → Option Bool) : Option (Bool) :=
  (p_slices_IndexFunc_dirs_State_dirs_Arrow_ a0 a1).bind fun v1 =>
  some (decide ((0 : Int) ≤ v1))
def p_cmp_Or_int__l1 (z6 : List Int) (z7 : Int) : Nat → Int → Option (Int ⊕ Int)
  | 0, _ => none
  | n + 1, y8 =>
    bif (decide (y8 < z7)) then
      (at? z6 y8).bind fun x10 =>
      bif (x10 != (0 : Int)) then
        some (.inl x10)
      else
      p_cmp_Or_int__l1 z6 z7 n (w64 (y8 + (1 : Int)))
    else
    some (.inr y8)
def p_cmp_Or_int_ (a0 : List Int) : Option (Int) :=
  (p_cmp_Or_int__l1 a0 (a0.length : Int) fuel (0 : Int)).bind fun o12 => match o12 with
  | .inl q13 =>
    some q13
  | .inr q14 =>
    some (0 : Int)
def p_dirs_order (a0 : Ref29Arrow) (a1 : Ref29Arrow) : Option (Int) :=
  (p_strings_Compare a0.From a1.From).bind fun v1 =>
  (p_strings_Compare a0.To a1.To).bind fun v2 =>
  (p_cmp_Or_int_ [v1, v2]).bind fun v3 =>
  some v3
def p_dirs_Check_l1 (z7 : List Ref29Arrow) : Nat → Int → Option (Int ⊕ Int)
  | 0, _ => none
  | n + 1, y8 =>
    bif (decide (y8 < (z7.length : Int))) then
      (at? z7 (w64 (y8 - (1 : Int)))).bind fun x10 =>
      (at? z7 y8).bind fun x11 =>
      (p_dirs_order x10 x11).bind fun v12 =>
      bif (decide ((0 : Int) ≤ v12)) then
        some (.inl (10 : Int))
      else
      p_dirs_Check_l1 z7 n (w64 (y8 + (1 : Int)))
    else
    some (.inr y8)
def p_dirs_Check (a0 : List Ref29Arrow) : Option (Int) :=
  bif (decide ((32 : Int) < (a0.length : Int))) then
    some (5 : Int)
  else
  (p_slices_ContainsFunc_dirs_State_dirs_Arrow_ a0 (fun x0 => p_dirs_Arrow_wrong x0)).bind fun v2 =>
  bif v2 then
    some (11 : Int)
  else
  (p_dirs_Check_l1 a0 fuel (1 : Int)).bind fun o14 => match o14 with
  | .inl q15 =>
    some q15
  | .inr q16 =>
    some (0 : Int)
def p_slices_BinarySearchFunc_dirs_State_dirs_Arrow_dirs_Arrow__l1 (a2 : Ref29Arrow → Ref29Arrow → Option Int) (z8 : List Ref29Arrow) (z12 : Ref29Arrow) : Nat → Int → Int → Option ((Int × Int))
  | 0, _, _ => none
  | n + 1, y10, y11 =>
    bif (decide (y10 < y11)) then
      (at? z8 (w64 (shrI .u64 (IntKind.wrap .u64 (w64 (y10 + y11))) (1 : Int)))).bind fun x14 =>
      (a2 x14 z12).bind fun v15 =>
      bif (decide (v15 < (0 : Int))) then
        p_slices_BinarySearchFunc_dirs_State_dirs_Arrow_dirs_Arrow__l1 a2 z8 z12 n (w64 (w64 (shrI .u64 (IntKind.wrap .u64 (w64 (y10 + y11))) (1 : Int)) + (1 : Int))) y11
      else
      p_slices_BinarySearchFunc_dirs_State_dirs_Arrow_dirs_Arrow__l1 a2 z8 z12 n y10 (w64 (shrI .u64 (IntKind.wrap .u64 (w64 (y10 + y11))) (1 : Int)))
    else
    some (y10, y11)
def p_slices_BinarySearchFunc_dirs_State_dirs_Arrow_dirs_Arrow_ (a0 : List Ref29Arrow) (a1 : Ref29Arrow) (a2 : Ref29Arrow → Ref29Arrow → Option Int) : Option (Int × Bool) :=
  (p_slices_BinarySearchFunc_dirs_State_dirs_Arrow_dirs_Arrow__l1 a2 a0 a1 fuel (0 : Int) (a0.length : Int)).bind fun q18 =>
  bif (decide (q18.1 < (a0.length : Int))) then
    (at? a0 q18.1).bind fun x20 =>
    (a2 x20 a1).bind fun v21 =>
    some (q18.1, (v21 == (0 : Int)))
  else
  some (q18.1, false)
def p_dirs_Add (a0 : List Ref29Arrow) (a1 : ByteArray) (a2 : ByteArray) : Option ((List Ref29Arrow) × Int) :=
  (p_dirs_Check a0).bind fun v1 =>
  bif (v1 != (0 : Int)) then
    some (a0, v1)
  else
  (p_dirs_Arrow_wrong (Ref29Arrow.mk a1 a2)).bind fun v3 =>
  bif v3 then
    some (a0, (11 : Int))
  else
  (p_slices_BinarySearchFunc_dirs_State_dirs_Arrow_dirs_Arrow_ a0 (Ref29Arrow.mk a1 a2) (fun x0 x1 => p_dirs_order x0 x1)).bind fun v5 =>
  bif v5.2 then
    some (a0, (0 : Int))
  else
  bif ((a0.length : Int) == (32 : Int)) then
    some (a0, (7 : Int))
  else
  (clone? a0).bind fun l8 =>
  (insAt? l8 v5.1 (Ref29Arrow.mk a1 a2)).bind fun v9 =>
  some (v9, (0 : Int))
def p_dirs_Del_1 (a0 : Ref29Arrow) (c0 : Ref29Arrow) : Option (Bool) :=
  some ((a0.From.toList == c0.From.toList) && ((a0.To.toList == c0.To.toList) && true))
def p_dirs_State_without_l1 (a1 : Ref29Arrow → Option Bool) (z10 : List Ref29Arrow) (z11 : Int) : Nat → (List Ref29Arrow) → (List Ref29Arrow) → Int → Option (((List Ref29Arrow) × (List Ref29Arrow) × Int))
  | 0, _, _, _ => none
  | n + 1, y8, y9, y12 =>
    bif (decide (y12 < z11)) then
      (at? z10 y12).bind fun x14 =>
      (a1 x14).bind fun v15 =>
      bif v15 then
        (app? y9 [x14]).bind fun l17 =>
        p_dirs_State_without_l1 a1 z10 z11 n y8 l17 (w64 (y12 + (1 : Int)))
      else
      (app? y8 [x14]).bind fun l18 =>
      p_dirs_State_without_l1 a1 z10 z11 n l18 y9 (w64 (y12 + (1 : Int)))
    else
    some (y8, y9, y12)
def p_dirs_State_without (a0 : List Ref29Arrow) (a1 : Ref29Arrow → Option Bool) : Option ((List Ref29Arrow) × (List Ref29Arrow)) :=
  (p_dirs_State_without_l1 a1 a0 (a0.length : Int) fuel [] [] (0 : Int)).bind fun q20 =>
  some (q20.1, q20.2.1)
def p_dirs_Del (a0 : List Ref29Arrow) (a1 : ByteArray) (a2 : ByteArray) : Option ((List Ref29Arrow) × Bool) :=
  (p_dirs_Check a0).bind fun v1 =>
  bif (v1 != (0 : Int)) then
    some (a0, false)
  else
  (p_dirs_State_without a0 (fun x0 => p_dirs_Del_1 x0 (Ref29Arrow.mk a1 a2))).bind fun v3 =>
  some (v3.1, (decide ((0 : Int) < (v3.2.length : Int))))
def p_dirs_Clear_1 (a0 : Ref29Arrow) (c0 : ByteArray) : Option (Bool) :=
  some (a0.From.toList == c0.toList)
def p_dirs_State_tos_l1 (z7 : List Ref29Arrow) (z8 : Int) : Nat → (List ByteArray) → Int → Option (((List ByteArray) × Int))
  | 0, _, _ => none
  | n + 1, y6, y9 =>
    bif (decide (y9 < z8)) then
      (at? z7 y9).bind fun x11 =>
      (app? y6 [x11.To]).bind fun l12 =>
      p_dirs_State_tos_l1 z7 z8 n l12 (w64 (y9 + (1 : Int)))
    else
    some (y6, y9)
def p_dirs_State_tos (a0 : List Ref29Arrow) : Option ((List ByteArray)) :=
  (p_dirs_State_tos_l1 a0 (a0.length : Int) fuel [] (0 : Int)).bind fun q14 =>
  some q14.1
def p_dirs_Clear (a0 : List Ref29Arrow) (a1 : ByteArray) : Option ((List Ref29Arrow) × (List ByteArray)) :=
  (p_dirs_Check a0).bind fun v1 =>
  bif (v1 != (0 : Int)) then
    some (a0, [])
  else
  (p_dirs_State_without a0 (fun x0 => p_dirs_Clear_1 x0 a1)).bind fun v3 =>
  (p_dirs_State_tos v3.2).bind fun v4 =>
  some (v3.1, v4)
def p_dirs_Only_1 (a0 : Ref29Arrow) (c0 : ByteArray) (c1 : ByteArray) : Option (Bool) :=
  (p_dirs_Arrow_user a0).bind fun v1 =>
  bif (v1.1.toList == c0.toList) then
    some (a0.To.toList == c1.toList)
  else
  some false
def p_dirs_Only (a0 : List Ref29Arrow) (a1 : ByteArray) (a2 : ByteArray) : Option ((List Ref29Arrow) × Int) :=
  (p_dirs_Check a0).bind fun v1 =>
  bif (v1 != (0 : Int)) then
    some (a0, (0 : Int))
  else
  (p_dirs_State_without a0 (fun x0 => p_dirs_Only_1 x0 a1 a2)).bind fun v3 =>
  some (v3.1, (v3.2.length : Int))
def p_ref01_SameTexts_l1 (z6 : List ByteArray) (z7 : List ByteArray) : Nat → Int → Option (Bool ⊕ Int)
  | 0, _ => none
  | n + 1, y8 =>
    bif (decide (y8 < (z6.length : Int))) then
      (at? z6 y8).bind fun x10 =>
      (at? z7 y8).bind fun x11 =>
      bif (x10.toList == x11.toList) then
        p_ref01_SameTexts_l1 z6 z7 n (w64 (y8 + (1 : Int)))
      else
      some (.inl false)
    else
    some (.inr y8)
def p_ref01_SameTexts (a0 : List ByteArray) (a1 : List ByteArray) : Option (Bool) :=
  bif ((a0.length : Int) != (a1.length : Int)) then
    some false
  else
  (p_ref01_SameTexts_l1 a0 a1 fuel (0 : Int)).bind fun o13 => match o13 with
  | .inl q14 =>
    some q14
  | .inr q15 =>
    some true
def p_slices_Equal_dirs_State_dirs_Arrow__l1 (z7 : List Ref29Arrow) (z8 : List Ref29Arrow) (z9 : Int) : Nat → Int → Option (Bool ⊕ Int)
  | 0, _ => none
  | n + 1, y10 =>
    bif (decide (y10 < z9)) then
      (at? z7 y10).bind fun x12 =>
      (at? z8 y10).bind fun x13 =>
      bif ((x12.From.toList == x13.From.toList) && ((x12.To.toList == x13.To.toList) && true)) then
        p_slices_Equal_dirs_State_dirs_Arrow__l1 z7 z8 z9 n (w64 (y10 + (1 : Int)))
      else
      some (.inl false)
    else
    some (.inr y10)
def p_slices_Equal_dirs_State_dirs_Arrow_ (a0 : List Ref29Arrow) (a1 : List Ref29Arrow) : Option (Bool) :=
  bif ((a0.length : Int) != (a1.length : Int)) then
    some false
  else
  (p_slices_Equal_dirs_State_dirs_Arrow__l1 a0 a1 (a0.length : Int) fuel (0 : Int)).bind fun o15 => match o15 with
  | .inl q16 =>
    some q16
  | .inr q17 =>
    some true
def p_dirs_Same (a0 : List Ref29Arrow) (a1 : List Ref29Arrow) : Option (Bool) :=
  (p_slices_Equal_dirs_State_dirs_Arrow_ a0 a1).bind fun v1 =>
  some v1
def p_dirs_Keys_l1 (z9 : ByteArray) (z11 : List Ref29Arrow) (z12 : Int) : Nat → (List ByteArray) → Int → Option (((List ByteArray) × Int))
  | 0, _, _ => none
  | n + 1, y10, y13 =>
    bif (decide (y13 < z12)) then
      (at? z11 y13).bind fun x15 =>
      bif (x15.To.toList == z9.toList) then
        (app? y10 [x15.From]).bind fun l17 =>
        p_dirs_Keys_l1 z9 z11 z12 n l17 (w64 (y13 + (1 : Int)))
      else
      p_dirs_Keys_l1 z9 z11 z12 n y10 (w64 (y13 + (1 : Int)))
    else
    some (y10, y13)
def p_dirs_Keys (a0 : List Ref29Arrow) (a1 : ByteArray) : Option ((List ByteArray)) :=
  (p_dirs_Check a0).bind fun v1 =>
  bif (v1 != (0 : Int)) then
    some []
  else
  (p_dirs_Keys_l1 a1 a0 (a0.length : Int) fuel [] (0 : Int)).bind fun q19 =>
  some q19.1
def p_dirs_Of (a0 : List Ref29Arrow) (a1 : ByteArray) : Option ((List ByteArray)) :=
  (p_dirs_Clear a0 a1).bind fun v1 =>
  some v1.2
def p_dirs_Has (a0 : List Ref29Arrow) (a1 : ByteArray) (a2 : ByteArray) : Option (Bool) :=
  (p_dirs_Del a0 a1 a2).bind fun v1 =>
  some v1.2
def p_law29_awake : Option (Bool) :=
  (p_dirs_Add [] (⟨#[98, 64, 120, 32, 49]⟩ : ByteArray) (⟨#[99, 64, 120]⟩ : ByteArray)).bind fun v1 =>
  (p_dirs_Add v1.1 (⟨#[97, 64, 120, 32]⟩ : ByteArray) (⟨#[99, 64, 120]⟩ : ByteArray)).bind fun v2 =>
  (p_dirs_Add v2.1 (⟨#[97, 64, 120, 32]⟩ : ByteArray) (⟨#[100, 64, 120]⟩ : ByteArray)).bind fun v3 =>
  (p_dirs_Del v3.1 (⟨#[98, 64, 120, 32, 49]⟩ : ByteArray) (⟨#[99, 64, 120]⟩ : ByteArray)).bind fun v4 =>
  (p_dirs_Del v4.1 (⟨#[98, 64, 120, 32, 49]⟩ : ByteArray) (⟨#[99, 64, 120]⟩ : ByteArray)).bind fun v5 =>
  (p_dirs_Clear v3.1 (⟨#[97, 64, 120, 32]⟩ : ByteArray)).bind fun v6 =>
  (p_dirs_Only v3.1 (⟨#[98, 64, 120]⟩ : ByteArray) (⟨#[99, 64, 120]⟩ : ByteArray)).bind fun v7 =>
  (p_dirs_Add v3.1 (⟨#[97]⟩ : ByteArray) (⟨#[100, 64, 120]⟩ : ByteArray)).bind fun v8 =>
  bif (v1.2 == (0 : Int)) then
    bif (v2.2 == (0 : Int)) then
      bif (v3.2 == (0 : Int)) then
        bif v4.2 then
          bif v5.2 then
            some false
          else
          (p_ref01_SameTexts v6.2 [(⟨#[99, 64, 120]⟩ : ByteArray), (⟨#[100, 64, 120]⟩ : ByteArray)]).bind fun v14 =>
          bif v14 then
            bif ((v6.1.length : Int) == (1 : Int)) then
              bif (v7.2 == (1 : Int)) then
                (p_dirs_Same v7.1 v4.1).bind fun v18 =>
                bif v18 then
                  bif (v8.2 == (11 : Int)) then
                    (p_dirs_Keys v3.1 (⟨#[99, 64, 120]⟩ : ByteArray)).bind fun v21 =>
                    (p_ref01_SameTexts v21 [(⟨#[97, 64, 120, 32]⟩ : ByteArray), (⟨#[98, 64, 120, 32, 49]⟩ : ByteArray)]).bind fun v22 =>
                    bif v22 then
                      (p_dirs_Of v3.1 (⟨#[97, 64, 120, 32]⟩ : ByteArray)).bind fun v24 =>
                      (p_ref01_SameTexts v24 [(⟨#[99, 64, 120]⟩ : ByteArray), (⟨#[100, 64, 120]⟩ : ByteArray)]).bind fun v25 =>
                      bif v25 then
                        (p_dirs_Has v3.1 (⟨#[97, 64, 120, 32]⟩ : ByteArray) (⟨#[100, 64, 120]⟩ : ByteArray)).bind fun v27 =>
                        bif v27 then
                          (p_dirs_Has v3.1 (⟨#[98, 64, 120, 32, 49]⟩ : ByteArray) (⟨#[100, 64, 120]⟩ : ByteArray)).bind fun v29 =>
                          bif v29 then
                            some false
                          else
                          (p_dirs_Check v3.1).bind fun v31 =>
                          bif (v31 == (0 : Int)) then
                            (p_dirs_Check [(Ref29Arrow.mk (⟨#[]⟩ : ByteArray) (⟨#[]⟩ : ByteArray))]).bind fun v33 =>
                            bif (v33 == (11 : Int)) then
                              (p_dirs_Same v3.1 v4.1).bind fun v35 =>
                              bif v35 then
                                some false
                              else
                              some true
                            else
                            some false
                          else
                          some false
                        else
                        some false
                      else
                      some false
                    else
                    some false
                  else
                  some false
                else
                some false
              else
              some false
            else
            some false
          else
          some false
        else
        some false
      else
      some false
    else
    some false
  else
  some false
def p_law29_own_l1 (z5 : List Ref29Arrow) : Nat → (List Ref29Arrow) → Int → Option (((List Ref29Arrow) × Int))
  | 0, _, _ => none
  | n + 1, y6, y7 =>
    bif (decide (y7 < (z5.length : Int))) then
      (at? z5 y7).bind fun x9 =>
      (app? y6 [x9]).bind fun l10 =>
      p_law29_own_l1 z5 n l10 (w64 (y7 + (1 : Int)))
    else
    some (y6, y7)
def p_law29_own (a0 : List Ref29Arrow) : Option ((List Ref29Arrow)) :=
  (p_law29_own_l1 a0 fuel [] (0 : Int)).bind fun q12 =>
  some q12.1
def p_ref23_Split_l1 (z6 : ByteArray) : Nat → Int → Option (Int)
  | 0, _ => none
  | n + 1, y7 =>
    bif (decide (y7 < (z6.size : Int))) then
      (byte? z6 y7).bind fun c9 =>
      bif (c9 != (32 : Int)) then
        p_ref23_Split_l1 z6 n (w64 (y7 + (1 : Int)))
      else
      some y7
    else
    some y7
def p_ref23_Split (a0 : ByteArray) : Option (ByteArray × ByteArray × Int) :=
  (p_ref23_Split_l1 a0 fuel (0 : Int)).bind fun q12 =>
  bif (q12 == (a0.size : Int)) then
    some ((⟨#[]⟩ : ByteArray), (⟨#[]⟩ : ByteArray), (4 : Int))
  else
  (sub? a0 none (some q12)).bind fun s14 =>
  (sub? a0 (some (w64 (q12 + (1 : Int)))) none).bind fun s15 =>
  (p_ref09_IsBare s14).bind fun v16 =>
  bif v16 then
    (p_ref09_Resource s15).bind fun v18 =>
    bif (v18 != (0 : Int)) then
      (p_ref09_Resource s15).bind fun v20 =>
      some ((⟨#[]⟩ : ByteArray), (⟨#[]⟩ : ByteArray), v20)
    else
    some (s14, s15, (0 : Int))
  else
  some ((⟨#[]⟩ : ByteArray), (⟨#[]⟩ : ByteArray), (11 : Int))
def p_ref29_fine (a0 : Ref29Arrow) : Option (Bool) :=
  (p_ref23_Split a0.From).bind fun v1 =>
  bif (v1.2.2 == (0 : Int)) then
    (p_ref09_IsBare a0.To).bind fun v3 =>
    some v3
  else
  some false
def p_ref29_less (a0 : Ref29Arrow) (a1 : Ref29Arrow) : Option (Bool) :=
  bif (Op.bytesLess a0.From.toList a1.From.toList) then
    some true
  else
  bif (a0.From.toList == a1.From.toList) then
    some (Op.bytesLess a0.To.toList a1.To.toList)
  else
  some false
def p_ref29_Check_l1 (z5 : List Ref29Arrow) : Nat → Int → Option (Int ⊕ Int)
  | 0, _ => none
  | n + 1, y6 =>
    bif (decide (y6 < (z5.length : Int))) then
      (at? z5 y6).bind fun x8 =>
      (p_ref29_fine x8).bind fun v9 =>
      bif v9 then
        p_ref29_Check_l1 z5 n (w64 (y6 + (1 : Int)))
      else
      some (.inl (11 : Int))
    else
    some (.inr y6)
def p_ref29_Check_l2 (z17 : List Ref29Arrow) : Nat → Int → Option (Int ⊕ Int)
  | 0, _ => none
  | n + 1, y18 =>
    bif (decide (y18 < (z17.length : Int))) then
      (at? z17 (w64 (y18 - (1 : Int)))).bind fun x20 =>
      (at? z17 y18).bind fun x21 =>
      (p_ref29_less x20 x21).bind fun v22 =>
      bif v22 then
        p_ref29_Check_l2 z17 n (w64 (y18 + (1 : Int)))
      else
      some (.inl (10 : Int))
    else
    some (.inr y18)
def p_ref29_Check (a0 : List Ref29Arrow) : Option (Int) :=
  bif (decide ((32 : Int) < (a0.length : Int))) then
    some (5 : Int)
  else
  (p_ref29_Check_l1 a0 fuel (0 : Int)).bind fun o11 => match o11 with
  | .inl q12 =>
    some q12
  | .inr q13 =>
    (p_ref29_Check_l2 a0 fuel (1 : Int)).bind fun o24 => match o24 with
    | .inl q25 =>
      some q25
    | .inr q26 =>
      some (0 : Int)
def p_ref29_Of_l1 (z6 : List Ref29Arrow) (z7 : ByteArray) : Nat → (List ByteArray) → Int → Option (((List ByteArray) × Int))
  | 0, _, _ => none
  | n + 1, y8, y9 =>
    bif (decide (y9 < (z6.length : Int))) then
      (p_ref29_Check z6).bind fun v11 =>
      bif (v11 == (0 : Int)) then
        (at? z6 y9).bind fun x13 =>
        bif (x13.From.toList == z7.toList) then
          (at? z6 y9).bind fun x15 =>
          (app? y8 [x15.To]).bind fun l16 =>
          p_ref29_Of_l1 z6 z7 n l16 (w64 (y9 + (1 : Int)))
        else
        p_ref29_Of_l1 z6 z7 n y8 (w64 (y9 + (1 : Int)))
      else
      some (y8, y9)
    else
    some (y8, y9)
def p_ref29_Of (a0 : List Ref29Arrow) (a1 : ByteArray) : Option ((List ByteArray)) :=
  (p_ref29_Of_l1 a0 a1 fuel [] (0 : Int)).bind fun q18 =>
  some q18.1
def p_ref29_Keys_l1 (z6 : List Ref29Arrow) (z7 : ByteArray) : Nat → (List ByteArray) → Int → Option (((List ByteArray) × Int))
  | 0, _, _ => none
  | n + 1, y8, y9 =>
    bif (decide (y9 < (z6.length : Int))) then
      (p_ref29_Check z6).bind fun v11 =>
      bif (v11 == (0 : Int)) then
        (at? z6 y9).bind fun x13 =>
        bif (x13.To.toList == z7.toList) then
          (at? z6 y9).bind fun x15 =>
          (app? y8 [x15.From]).bind fun l16 =>
          p_ref29_Keys_l1 z6 z7 n l16 (w64 (y9 + (1 : Int)))
        else
        p_ref29_Keys_l1 z6 z7 n y8 (w64 (y9 + (1 : Int)))
      else
      some (y8, y9)
    else
    some (y8, y9)
def p_ref29_Keys (a0 : List Ref29Arrow) (a1 : ByteArray) : Option ((List ByteArray)) :=
  (p_ref29_Keys_l1 a0 a1 fuel [] (0 : Int)).bind fun q18 =>
  some q18.1
def p_ref29_Has_l1 (z6 : List Ref29Arrow) (z7 : ByteArray) (z8 : ByteArray) : Nat → Int → Option (Bool ⊕ Int)
  | 0, _ => none
  | n + 1, y9 =>
    bif (decide (y9 < (z6.length : Int))) then
      (p_ref29_Check z6).bind fun v11 =>
      bif (v11 == (0 : Int)) then
        (at? z6 y9).bind fun x13 =>
        bif (x13.From.toList == z7.toList) then
          (at? z6 y9).bind fun x15 =>
          bif (x15.To.toList == z8.toList) then
            some (.inl true)
          else
          p_ref29_Has_l1 z6 z7 z8 n (w64 (y9 + (1 : Int)))
        else
        p_ref29_Has_l1 z6 z7 z8 n (w64 (y9 + (1 : Int)))
      else
      some (.inr y9)
    else
    some (.inr y9)
def p_ref29_Has (a0 : List Ref29Arrow) (a1 : ByteArray) (a2 : ByteArray) : Option (Bool) :=
  (p_ref29_Has_l1 a0 a1 a2 fuel (0 : Int)).bind fun o17 => match o17 with
  | .inl q18 =>
    some q18
  | .inr q19 =>
    some false
def p_ref29_Same_l1 (z6 : List Ref29Arrow) (z7 : List Ref29Arrow) : Nat → Int → Option (Bool ⊕ Int)
  | 0, _ => none
  | n + 1, y8 =>
    bif (decide (y8 < (z6.length : Int))) then
      (at? z6 y8).bind fun x10 =>
      (at? z7 y8).bind fun x11 =>
      bif ((x10.From.toList == x11.From.toList) && ((x10.To.toList == x11.To.toList) && true)) then
        p_ref29_Same_l1 z6 z7 n (w64 (y8 + (1 : Int)))
      else
      some (.inl false)
    else
    some (.inr y8)
def p_ref29_Same (a0 : List Ref29Arrow) (a1 : List Ref29Arrow) : Option (Bool) :=
  bif ((a0.length : Int) != (a1.length : Int)) then
    some false
  else
  (p_ref29_Same_l1 a0 a1 fuel (0 : Int)).bind fun o13 => match o13 with
  | .inl q14 =>
    some q14
  | .inr q15 =>
    some true
def p_law29_DirsTells (a0 : List Ref29Arrow) (a1 : List Ref29Arrow) (a2 : Ar2_ByteArray) : Option (Bool) :=
  (p_ref29_Light a0).bind fun v1 =>
  bif v1 then
    (p_ref29_Light a1).bind fun v3 =>
    bif v3 then
      bif (decide ((100 : Int) < (a2.a0.size : Int))) then
        (p_law29_awake).bind fun v6 =>
        some v6
      else
      bif (decide ((100 : Int) < (a2.a1.size : Int))) then
        (p_law29_awake).bind fun v8 =>
        some v8
      else
      (p_law29_own a0).bind fun v9 =>
      (p_dirs_Check v9).bind fun v10 =>
      (p_ref29_Check a0).bind fun v11 =>
      bif (v10 == v11) then
        (p_dirs_Of v9 a2.a0).bind fun v13 =>
        (p_ref29_Of a0 a2.a0).bind fun v14 =>
        (p_ref01_SameTexts v13 v14).bind fun v15 =>
        bif v15 then
          (p_dirs_Keys v9 a2.a1).bind fun v17 =>
          (p_ref29_Keys a0 a2.a1).bind fun v18 =>
          (p_ref01_SameTexts v17 v18).bind fun v19 =>
          bif v19 then
            (p_dirs_Has v9 a2.a0 a2.a1).bind fun v21 =>
            (p_ref29_Has a0 a2.a0 a2.a1).bind fun v22 =>
            bif (v21 == v22) then
              (p_law29_own a1).bind fun v24 =>
              (p_dirs_Same v9 v24).bind fun v25 =>
              (p_ref29_Same a0 a1).bind fun v26 =>
              bif (v25 == v26) then
                (p_law29_awake).bind fun v28 =>
                some v28
              else
              some false
            else
            some false
          else
          some false
        else
        some false
      else
      some false
    else
    (p_law29_awake).bind fun v29 =>
    some v29
  else
  (p_law29_awake).bind fun v30 =>
  some v30
def p_law29_DirsBack_l1 (z9 : List Law29Deed) : Nat → (List Ref29Arrow) → Int → Option (((List Ref29Arrow) × Int))
  | 0, _, _ => none
  | n + 1, y12, y13 =>
    bif (decide (y13 < (z9.length : Int))) then
      (at? z9 y13).bind fun x15 =>
      (text? [IntKind.wrap .u8 ((97 : Int) + (Int.tmod x15.From (5 : Int)))]).bind fun s16 =>
      (cat? s16 (⟨#[64, 120, 32, 114]⟩ : ByteArray)).bind fun s17 =>
      (at? z9 y13).bind fun x18 =>
      (text? [IntKind.wrap .u8 ((112 : Int) + (Int.tmod x18.To (8 : Int)))]).bind fun s19 =>
      (cat? s19 (⟨#[64, 121]⟩ : ByteArray)).bind fun s20 =>
      (p_dirs_Add y12 s17 s20).bind fun v21 =>
      p_law29_DirsBack_l1 z9 n v21.1 (w64 (y13 + (1 : Int)))
    else
    some (y12, y13)
def p_law29_DirsBack (a0 : List Law29Deed) (a1 : Int) (a2 : Int) : Option (Bool) :=
  bif (decide ((60 : Int) < (a0.length : Int))) then
    (p_law29_awake).bind fun v2 =>
    some v2
  else
  (p_law29_DirsBack_l1 a0 fuel [] (0 : Int)).bind fun q23 =>
  (text? [IntKind.wrap .u8 ((97 : Int) + (Int.tmod a1 (5 : Int)))]).bind fun s24 =>
  (cat? s24 (⟨#[64, 120, 32, 114]⟩ : ByteArray)).bind fun s25 =>
  (text? [IntKind.wrap .u8 ((112 : Int) + (Int.tmod a2 (8 : Int)))]).bind fun s26 =>
  (cat? s26 (⟨#[64, 122]⟩ : ByteArray)).bind fun s27 =>
  (p_dirs_Add q23.1 s25 s27).bind fun v28 =>
  (p_dirs_Del v28.1 s25 s27).bind fun v29 =>
  (p_dirs_Clear q23.1 s25).bind fun v30 =>
  (p_dirs_Of q23.1 s25).bind fun v31 =>
  (text? [IntKind.wrap .u8 ((97 : Int) + (Int.tmod a1 (5 : Int)))]).bind fun s32 =>
  (cat? s32 (⟨#[64, 120]⟩ : ByteArray)).bind fun s33 =>
  (p_dirs_Only v28.1 s33 s27).bind fun v34 =>
  bif ((v30.2.length : Int) != (v31.length : Int)) then
    some false
  else
  bif ((v30.1.length : Int) != w64 ((q23.1.length : Int) - (v31.length : Int))) then
    some false
  else
  (p_dirs_Of v30.1 s25).bind fun v37 =>
  bif ((v37.length : Int) != (0 : Int)) then
    some false
  else
  bif (v28.2 != (0 : Int)) then
    bif (v28.2 == (7 : Int)) then
      bif ((q23.1.length : Int) == (32 : Int)) then
        (p_law29_awake).bind fun v42 =>
        some v42
      else
      some false
    else
    some false
  else
  bif v29.2 then
    (p_dirs_Same v29.1 q23.1).bind fun v44 =>
    bif v44 then
      bif (v34.2 == (1 : Int)) then
        (p_dirs_Same v34.1 q23.1).bind fun v47 =>
        bif v47 then
          (p_law29_awake).bind fun v49 =>
          some v49
        else
        some false
      else
      some false
    else
    some false
  else
  some false
end Go.Proofs.Ythmgficajgedlaa
/- Plain functions (written by a program of mine). -/
namespace Go.Proofs.Ythmgficajgedlaa
open Go.RowKit
def p_law29_DirsKeeps_l3 (z90 : List Ref29Arrow) (z93 : Int) (z95 : List Bool) : Nat → Int → Int → Option (Bool ⊕ (Int × Int))
  | 0, _, _ => none
  | n + 1, y92, y94 =>
    bif (decide (y94 < (8 : Int))) then
      (text? [IntKind.wrap .u8 ((97 : Int) + IntKind.wrap .u8 z93)]).bind fun s97 =>
      (cat? s97 (⟨#[64, 120, 32, 114]⟩ : ByteArray)).bind fun s98 =>
      (text? [IntKind.wrap .u8 ((112 : Int) + IntKind.wrap .u8 y94)]).bind fun s99 =>
      (cat? s99 (⟨#[64, 121]⟩ : ByteArray)).bind fun s100 =>
      (p_dirs_Has z90 s98 s100).bind fun v101 =>
      (row? 5 z93).bind fun x102 =>
      (el2? 8 z95 (Int.toNat z93 * 8) y94).bind fun x103 =>
      bif (v101 != x103) then
        some (.inl false)
      else
      (row? 5 z93).bind fun x106 =>
      (el2? 8 z95 (Int.toNat z93 * 8) y94).bind fun x107 =>
      bif x107 then
        p_law29_DirsKeeps_l3 z90 z93 z95 n (w64 (y92 + (1 : Int))) (w64 (y94 + (1 : Int)))
      else
      p_law29_DirsKeeps_l3 z90 z93 z95 n y92 (w64 (y94 + (1 : Int)))
    else
    some (.inr (y92, y94))
def p_law29_DirsKeeps_l2 (z75 : List Ref29Arrow) (z79 : List Bool) : Nat → Int → Int → Option (Bool ⊕ (Int × Int))
  | 0, _, _ => none
  | n + 1, y77, y78 =>
    bif (decide (y78 < (5 : Int))) then
      (p_law29_DirsKeeps_l3 z75 y78 z79 fuel y77 (0 : Int)).bind fun o110 => match o110 with
      | .inl q111 =>
        some (.inl q111)
      | .inr q112 =>
        p_law29_DirsKeeps_l2 z75 z79 n q112.1 (w64 (y78 + (1 : Int)))
    else
    some (.inr (y77, y78))
def p_law29_DirsKeeps_l4 (z126 : List Ref29Arrow) : Nat → Int → Int → Option ((Int × Int))
  | 0, _, _ => none
  | n + 1, y129, y130 =>
    bif (decide (y130 < (5 : Int))) then
      (text? [IntKind.wrap .u8 ((97 : Int) + IntKind.wrap .u8 y130)]).bind fun s133 =>
      (cat? s133 (⟨#[64, 120, 32, 114]⟩ : ByteArray)).bind fun s134 =>
      (p_dirs_Of z126 s134).bind fun v135 =>
      p_law29_DirsKeeps_l4 z126 n (w64 (y129 + (v135.length : Int))) (w64 (y130 + (1 : Int)))
    else
    some (y129, y130)
def p_law29_DirsKeeps_l5 (z148 : List Ref29Arrow) : Nat → Int → Int → Option ((Int × Int))
  | 0, _, _ => none
  | n + 1, y152, y153 =>
    bif (decide (y153 < (8 : Int))) then
      (text? [IntKind.wrap .u8 ((112 : Int) + IntKind.wrap .u8 y153)]).bind fun s156 =>
      (cat? s156 (⟨#[64, 121]⟩ : ByteArray)).bind fun s157 =>
      (p_dirs_Keys z148 s157).bind fun v158 =>
      p_law29_DirsKeeps_l5 z148 n (w64 (y152 + (v158.length : Int))) (w64 (y153 + (1 : Int)))
    else
    some (y152, y153)
def p_law29_DirsKeeps_l1 (z8 : List Law29Deed) : Nat → (List Ref29Arrow) → Int → (List Bool) → Option (Bool ⊕ ((List Ref29Arrow) × Int × (List Bool)))
  | 0, _, _, _ => none
  | n + 1, y9, y10, y11 =>
    bif (decide (y10 < (z8.length : Int))) then
      (at? z8 y10).bind fun x13 =>
      (at? z8 y10).bind fun x14 =>
      (text? [IntKind.wrap .u8 ((97 : Int) + IntKind.wrap .u8 (w64 (Int.tmod x13.From (5 : Int))))]).bind fun s15 =>
      (cat? s15 (⟨#[64, 120, 32, 114]⟩ : ByteArray)).bind fun s16 =>
      (text? [IntKind.wrap .u8 ((112 : Int) + IntKind.wrap .u8 (w64 (Int.tmod x14.To (8 : Int))))]).bind fun s17 =>
      (cat? s17 (⟨#[64, 121]⟩ : ByteArray)).bind fun s18 =>
      ((
        (at? z8 y10).bind fun x19 =>
        bif x19.All then
          (p_dirs_Clear y9 s16).bind fun v21 =>
          bif ((v21.2.length : Int) != w64 ((y9.length : Int) - (v21.1.length : Int))) then
            some (.inl false)
          else
          (row? 5 (w64 (Int.tmod x13.From (5 : Int)))).bind fun x23 =>
          (setRow? y11 (Int.toNat (w64 (Int.tmod x13.From (5 : Int))) * 8) [false, false, false, false, false, false, false, false]).bind fun l24 =>
          some (.inr (v21.1, l24))
        else
        (at? z8 y10).bind fun x25 =>
        bif x25.Off then
          (p_dirs_Del y9 s16 s18).bind fun v27 =>
          (row? 5 (w64 (Int.tmod x13.From (5 : Int)))).bind fun x28 =>
          (el2? 8 y11 (Int.toNat (w64 (Int.tmod x13.From (5 : Int))) * 8) (w64 (Int.tmod x14.To (8 : Int)))).bind fun x29 =>
          bif (v27.2 != x29) then
            some (.inl false)
          else
          (row? 5 (w64 (Int.tmod x13.From (5 : Int)))).bind fun x32 =>
          (el2? 8 y11 (Int.toNat (w64 (Int.tmod x13.From (5 : Int))) * 8) (w64 (Int.tmod x14.To (8 : Int)))).bind fun x33 =>
          some (.inr (v27.1, (List.set y11 ((Int.toNat (w64 (Int.tmod x13.From (5 : Int))) * 8) + Int.toNat (w64 (Int.tmod x14.To (8 : Int)))) false)))
        else
        (p_dirs_Add y9 s16 s18).bind fun v35 =>
        (row? 5 (w64 (Int.tmod x13.From (5 : Int)))).bind fun x36 =>
        (el2? 8 y11 (Int.toNat (w64 (Int.tmod x13.From (5 : Int))) * 8) (w64 (Int.tmod x14.To (8 : Int)))).bind fun x37 =>
        bif x37 then
          bif ((v35.2 == (0 : Int)) != true) then
            some (.inl false)
          else
          (row? 5 (w64 (Int.tmod x13.From (5 : Int)))).bind fun x41 =>
          (el2? 8 y11 (Int.toNat (w64 (Int.tmod x13.From (5 : Int))) * 8) (w64 (Int.tmod x14.To (8 : Int)))).bind fun x42 =>
          bif x42 then
            (row? 5 (w64 (Int.tmod x13.From (5 : Int)))).bind fun x45 =>
            (el2? 8 y11 (Int.toNat (w64 (Int.tmod x13.From (5 : Int))) * 8) (w64 (Int.tmod x14.To (8 : Int)))).bind fun x46 =>
            some (.inr (v35.1, (List.set y11 ((Int.toNat (w64 (Int.tmod x13.From (5 : Int))) * 8) + Int.toNat (w64 (Int.tmod x14.To (8 : Int)))) true)))
          else
          (row? 5 (w64 (Int.tmod x13.From (5 : Int)))).bind fun x48 =>
          (el2? 8 y11 (Int.toNat (w64 (Int.tmod x13.From (5 : Int))) * 8) (w64 (Int.tmod x14.To (8 : Int)))).bind fun x49 =>
          some (.inr (v35.1, (List.set y11 ((Int.toNat (w64 (Int.tmod x13.From (5 : Int))) * 8) + Int.toNat (w64 (Int.tmod x14.To (8 : Int)))) (v35.2 == (0 : Int)))))
        else
        bif ((v35.2 == (0 : Int)) != (decide ((y9.length : Int) < (32 : Int)))) then
          some (.inl false)
        else
        (row? 5 (w64 (Int.tmod x13.From (5 : Int)))).bind fun x52 =>
        (el2? 8 y11 (Int.toNat (w64 (Int.tmod x13.From (5 : Int))) * 8) (w64 (Int.tmod x14.To (8 : Int)))).bind fun x53 =>
        bif x53 then
          (row? 5 (w64 (Int.tmod x13.From (5 : Int)))).bind fun x56 =>
          (el2? 8 y11 (Int.toNat (w64 (Int.tmod x13.From (5 : Int))) * 8) (w64 (Int.tmod x14.To (8 : Int)))).bind fun x57 =>
          some (.inr (v35.1, (List.set y11 ((Int.toNat (w64 (Int.tmod x13.From (5 : Int))) * 8) + Int.toNat (w64 (Int.tmod x14.To (8 : Int)))) true)))
        else
        (row? 5 (w64 (Int.tmod x13.From (5 : Int)))).bind fun x59 =>
        (el2? 8 y11 (Int.toNat (w64 (Int.tmod x13.From (5 : Int))) * 8) (w64 (Int.tmod x14.To (8 : Int)))).bind fun x60 =>
        some (.inr (v35.1, (List.set y11 ((Int.toNat (w64 (Int.tmod x13.From (5 : Int))) * 8) + Int.toNat (w64 (Int.tmod x14.To (8 : Int)))) (v35.2 == (0 : Int)))))) : Option (Bool ⊕ ((List Ref29Arrow) × (List Bool)))).bind fun o62 => match o62 with
      | .inl q63 =>
        some (.inl q63)
      | .inr q64 =>
        (p_dirs_Check q64.1).bind fun v65 =>
        bif (v65 != (0 : Int)) then
          some (.inl false)
        else
        (p_law29_DirsKeeps_l2 q64.1 q64.2 fuel (0 : Int) (0 : Int)).bind fun o113 => match o113 with
        | .inl q114 =>
          some (.inl q114)
        | .inr q115 =>
          (p_law29_DirsKeeps_l4 q64.1 fuel (0 : Int) (0 : Int)).bind fun q137 =>
          (p_law29_DirsKeeps_l5 q64.1 fuel (0 : Int) (0 : Int)).bind fun q160 =>
          bif (q115.1 != (q64.1.length : Int)) then
            some (.inl false)
          else
          bif (q137.1 != q115.1) then
            some (.inl false)
          else
          bif (q160.1 != q115.1) then
            some (.inl false)
          else
          p_law29_DirsKeeps_l1 z8 n q64.1 (w64 (y10 + (1 : Int))) q64.2
    else
    some (.inr (y9, y10, y11))
def p_law29_DirsKeeps (a0 : List Law29Deed) : Option (Bool) :=
  bif (decide ((100 : Int) < (a0.length : Int))) then
    (p_law29_awake).bind fun v2 =>
    some v2
  else
  (p_law29_DirsKeeps_l1 a0 fuel [] (0 : Int) (List.replicate 40 false)).bind fun o164 => match o164 with
  | .inl q165 =>
    some q165
  | .inr q166 =>
    (p_law29_awake).bind fun v167 =>
    some v167
end Go.Proofs.Ythmgficajgedlaa
/- Readers of DirsKeeps's parameters. -/
namespace Go.Proofs.Ythmgficajgedlaa
open Go.ChangeShapes Go.WideShapes Go.ChangeAt Go.RowKit Go.Joins Go.Deep
structure Law29Deed.Wf (x : Law29Deed) : Prop where
  From : (Lit.int .u8 x.From).wf = true
  To : (Lit.int .u8 x.To).wf = true
set_option maxRecDepth 100000 in
theorem rd_T80 {H : Type} {enc : TypeId × Value → H} {W : World} {spare : Nat → Bool} {held : Bool} {fuel : Nat} {cs : List Value} {y : DataW H × List MemPlace} (h : DataW.trod enc Try.prog W 0 spare held fuel 80 cs = some y) : ∃ x : Law29Deed, Law29Deed.Wf x ∧ RepL (MW W) noBk cs [.y8 x.From, .y8 x.To, .b x.Off, .b x.All] := by
  obtain ⟨xs, n, _, _, hl, hx, hall⟩ := DataW.trod_struct Try.underlying80 h
  have hce : Try.prog.cellsOf 80 = 4 := by kernel_rfl
  rw [hce] at hl
  match cs, hl, hall with
  | [c0, c1, c2, c3], _, hall =>
    obtain ⟨y0, hy0⟩ := get_some hx (show 0 < 4 by omega)
    have g0 : DataW.trod enc Try.prog W 0 spare held n 5 [c0] = some y0 := by
      have hz : Try.prog.cellsOf 5 = 1 := by kernel_rfl
      have g : DataW.trod enc Try.prog W 0 spare held n 5 (([c0, c1, c2, c3].drop 0).take (Try.prog.cellsOf 5)) = some y0 := (hall 0 _ rfl).trans hy0
      rw [hz] at g; exact g
    obtain ⟨x0, w0, r0⟩ := rd_int Try.underlying5 g0
    obtain ⟨y1, hy1⟩ := get_some hx (show 1 < 4 by omega)
    have g1 : DataW.trod enc Try.prog W 0 spare held n 5 [c1] = some y1 := by
      have hz : Try.prog.cellsOf 5 = 1 := by kernel_rfl
      have g : DataW.trod enc Try.prog W 0 spare held n 5 (([c0, c1, c2, c3].drop 1).take (Try.prog.cellsOf 5)) = some y1 := (hall 1 _ rfl).trans hy1
      rw [hz] at g; exact g
    obtain ⟨x1, w1, r1⟩ := rd_int Try.underlying5 g1
    obtain ⟨y2, hy2⟩ := get_some hx (show 2 < 4 by omega)
    have g2 : DataW.trod enc Try.prog W 0 spare held n 4 [c2] = some y2 := by
      have hz : Try.prog.cellsOf 4 = 1 := by kernel_rfl
      have g : DataW.trod enc Try.prog W 0 spare held n 4 (([c0, c1, c2, c3].drop 2).take (Try.prog.cellsOf 4)) = some y2 := (hall 2 _ rfl).trans hy2
      rw [hz] at g; exact g
    obtain ⟨x2, r2⟩ := rd_bool Try.underlying4 g2
    obtain ⟨y3, hy3⟩ := get_some hx (show 3 < 4 by omega)
    have g3 : DataW.trod enc Try.prog W 0 spare held n 4 [c3] = some y3 := by
      have hz : Try.prog.cellsOf 4 = 1 := by kernel_rfl
      have g : DataW.trod enc Try.prog W 0 spare held n 4 (([c0, c1, c2, c3].drop 3).take (Try.prog.cellsOf 4)) = some y3 := (hall 3 _ rfl).trans hy3
      rw [hz] at g; exact g
    obtain ⟨x3, r3⟩ := rd_bool Try.underlying4 g3
    exact ⟨⟨x0, x1, x2, x3⟩, ⟨w0, w1⟩, repL_app r0 (repL_app r1 (repL_app r2 (repL_app r3 (repL_nil))))⟩
theorem rd_T76 {H : Type} {enc : TypeId × Value → H} {W : World} {spare : Nat → Bool} {held : Bool} {fuel : Nat} {cs : List Value} {y : DataW H × List MemPlace} (h : DataW.trod enc Try.prog W 0 spare held fuel 76 cs = some y) : ∃ x : List Law29Deed, (∀ z ∈ x, Law29Deed.Wf z) ∧ RepL (MW W) noBk cs [(fun l : List Law29Deed => V.sl (l.map Law29Deed.v) false) x] :=
  rd_slice (f := Law29Deed.v) (es := 4) (wf := Law29Deed.Wf) Try.underlying76 (fun _ => rfl) (by intro a v hv; simp [V.cells] at hv; first | (subst hv; rfl) | (rcases hv with rfl | rfl | rfl | rfl <;> rfl)) (by omega) (by kernel_rfl) (fun n cs y h => rd_T80 h) h
end Go.Proofs.Ythmgficajgedlaa
/- That the program's functions yield what the plain ones tell (written by a program of mine). -/
namespace Go.Proofs.Ythmgficajgedlaa
open Go.RowKit
def gc26 : BCode := (.seq (.reg 0 [⟨(some 2), .mv (.const (.bool false)), none, 0⟩] none 0 []) (.seq (.seq (.reg 0 [⟨(some 4), .mv (.tmp 0), none, 0⟩, ⟨(some 5), .lens (.tmp 4), none, 0⟩, ⟨(some 6), .bin .gtr (.tmp 5) (.const (.int .i64 40)), none, 0⟩] none 0 []) (.cond (.tmp 6) (.seq (.reg 0 [⟨(some 2), .mv (.const (.bool false)), none, 0⟩] none 0 []) .ret) .skip)) (.seq (.seq (.reg 0 [⟨(some 3), .mv (.const (.int .i64 0)), none, 0⟩] none 0 []) (.block 0 (.loop (.seq (.seq (.reg 0 [⟨(some 7), .mv (.tmp 3), none, 0⟩, ⟨(some 8), .mv (.tmp 0), none, 0⟩, ⟨(some 9), .lens (.tmp 8), none, 0⟩, ⟨(some 10), .bin .lss (.tmp 7) (.tmp 9), none, 0⟩] none 0 []) (.cond (.tmp 10) .skip (.exit 0))) (.seq (.block 1 (.seq (.reg 0 [⟨(some 13), .mv (.tmp 0), none, 0⟩, ⟨(some 14), .mv (.tmp 3), none, 0⟩, ⟨(some 15), .ixs 2 (.tmp 13) (.tmp 14), none, 0⟩, ⟨(some 16), .fa 0 (.tmp 15), none, 0⟩, ⟨(some 17), .ld 1 false (.tmp 16), none, 0⟩, ⟨(some 18), .lent (.tmp 17), none, 0⟩, ⟨(some 19), .bin .gtr (.tmp 18) (.const (.int .i64 100)), none, 0⟩, ⟨(some 20), .mv (.tmp 19), none, 0⟩, ⟨(some 21), .mv (.tmp 0), (some (20, false)), 0⟩, ⟨(some 22), .mv (.tmp 3), (some (20, false)), 0⟩, ⟨(some 23), .ixs 2 (.tmp 21) (.tmp 22), (some (20, false)), 0⟩, ⟨(some 24), .fa 1 (.tmp 23), (some (20, false)), 0⟩, ⟨(some 25), .ld 1 false (.tmp 24), (some (20, false)), 0⟩, ⟨(some 26), .lent (.tmp 25), (some (20, false)), 0⟩, ⟨(some 27), .bin .gtr (.tmp 26) (.const (.int .i64 100)), (some (20, false)), 0⟩, ⟨(some 28), .pick (.tmp 20) (.const (.bool true)) (.tmp 27), none, 0⟩] none 0 []) (.cond (.tmp 28) (.seq (.reg 0 [⟨(some 2), .mv (.const (.bool false)), none, 0⟩] none 0 []) .ret) .skip))) (.reg 0 [⟨(some 11), .mv (.tmp 3), none, 0⟩, ⟨(some 12), .bin .add (.tmp 11) (.const (.int .i64 1)), none, 0⟩, ⟨(some 3), .mv (.tmp 12), none, 0⟩] none 0 [])))))) (.seq (.reg 0 [⟨(some 2), .mv (.const (.bool true)), none, 0⟩] none 0 []) .ret))))
theorem gc26_ok : compF Try.prog Try.f26 = some (gc26.er, 29, [.tmp 2]) := by unfold gc26; kernel_rfl
set_option maxRecDepth 100000 in
set_option maxHeartbeats 4000000 in
theorem p_ref29_Light_v {u1 : Bool} (a0 : List Ref29Arrow) : CallsO Try.prog 26 [.sl (List.map Ref29Arrow.v a0) u1] V.b (p_ref29_Light a0) := by
  refine callsO_comp mix Try.func26 gc26_ok fun r H => ?_
  rw [p_ref29_Light] at H
  conv => whnf
  refine LenQ.M ?_; conv => whnf
  refine tst_c H (fun b1 H => ?_) (fun b1 H => ?_)
  · conv => whnf
    exact fin0_c (enc := V.b) H (.inr rfl) (.cons (.tmp rfl) (.nil)) rfl rfl
  conv => whnf
  obtain ⟨o3, HL4, HQ5⟩ := bind_c H
  refine loop_c [2, 3] [7, 8, 9, 10, 11, 12, 13, 14, 15, 16, 17, 18, 19, 20, 21, 22, 23, 24, 25, 26, 27, 28] [7, 8, 9, 10, 11, 12, 13, 14, 15, 16, 17, 18, 19, 20, 21, 22, 23, 24, 25, 26, 27, 28] (fun n vals st => (∃ y7, p_ref29_Light_l1  a0 n y7 = some o3 ∧ vals = [.b false, .i y7] ∧ st = [])) fuel 0 [] (⟨_, HL4, rfl, rfl⟩) (Nat.zero_le _) rfl (by kernel_rfl) (by kernel_rfl) rfl trivial ?_
  rintro (_ | n6) _ _ (⟨y7, H, rfl, rfl⟩)
  · rw [p_ref29_Light_l1] at H; cases H
  rw [p_ref29_Light_l1] at H
  conv => whnf
  refine LenQ.M ?_; conv => whnf
  refine tst_d H (fun b8 H => ?_) (fun b8 H => ?_)
  · conv => whnf
    obtain rfl := Option.some.inj H
    have H := HQ5
    try dsimp only at H
    exact fin0_c (enc := V.b) H (.inr rfl) (.cons (.tmp rfl) (.nil)) rfl rfl
  conv => whnf
  refine ixs_c (f := Ref29Arrow.v) H (fun _ => rfl) (fun x9 H => ?_); conv => whnf
  refine ⟨Nat.le_of_ble_eq_true rfl, ?_⟩; conv => whnf
  refine tst_c H (fun b10 H => ?_) (fun b10 H => ?_)
  · conv => whnf
    iterate 8 (refine Tst.T ?_; conv => whnf)
    obtain rfl := Option.some.inj H
    have H := HQ5
    try dsimp only at H
    exact fin0_c (enc := V.b) H (.inr rfl) (.cons (.tmp rfl) (.nil)) rfl rfl
  conv => whnf
  iterate 2 (refine Tst.F ?_; conv => whnf)
  refine ixs_c (f := Ref29Arrow.v) H (fun _ => rfl) (fun x11 H => ?_); conv => whnf
  refine Tst.F ?_; conv => whnf
  refine ⟨Nat.le_of_ble_eq_true rfl, ?_⟩; conv => whnf
  iterate 4 (refine Tst.F ?_; conv => whnf)
  refine tst_c H (fun b12 H => ?_) (fun b12 H => ?_)
  · conv => whnf
    obtain rfl := Option.some.inj H
    have H := HQ5
    try dsimp only at H
    exact fin0_c (enc := V.b) H (.inr rfl) (.cons (.tmp rfl) (.nil)) rfl rfl
  conv => whnf
  refine Ari.w ?_; conv => whnf
  exact again_c [7, 8, 9, 10, 11, 12, 13, 14, 15, 16, 17, 18, 19, 20, 21, 22, 23, 24, 25, 26, 27, 28] n6 0 [] (⟨_, H, rfl, rfl⟩) (Nat.lt_succ_self _) (Nat.zero_le _) rfl (by kernel_rfl) (by kernel_rfl) rfl trivial
def gc126 : BCode := (.seq (.reg 0 [⟨(some 2), .mv (.const (.string ⟨#[]⟩)), none, 0⟩, ⟨(some 3), .mv (.const (.string ⟨#[]⟩)), none, 0⟩, ⟨(some 4), .mv (.const (.int .i64 0)), none, 0⟩] none 0 []) (.seq (.reg 0 [⟨(some 10), .mv (.tmp 0), none, 0⟩, ⟨(some 11), .cl 163 [(.tmp 10), (.const (.string ⟨#[32]⟩))], none, 0⟩, ⟨(some 9), .mv (.tmp 11), none, 0⟩, ⟨(some 12), .ex (.tmp 9) 0, none, 0⟩, ⟨(some 13), .ex (.tmp 9) 1, none, 0⟩, ⟨(some 14), .ex (.tmp 9) 2, none, 0⟩, ⟨(some 5), .mv (.tmp 12), none, 0⟩, ⟨(some 6), .mv (.tmp 13), none, 0⟩, ⟨(some 7), .mv (.tmp 14), none, 0⟩] none 0 []) (.seq (.seq (.reg 0 [⟨(some 15), .mv (.tmp 7), none, 0⟩, ⟨(some 16), .un .not (.tmp 15), none, 0⟩] none 0 []) (.cond (.tmp 16) (.seq (.reg 0 [⟨(some 2), .mv (.const (.string ⟨#[]⟩)), none, 0⟩, ⟨(some 3), .mv (.const (.string ⟨#[]⟩)), none, 0⟩, ⟨(some 4), .mv (.const (.int .i64 4)), none, 0⟩] none 0 []) .ret) .skip)) (.seq (.seq (.reg 0 [⟨(some 17), .mv (.tmp 5), none, 0⟩, ⟨(some 18), .cl 99 [(.tmp 17)], none, 0⟩, ⟨(some 19), .un .not (.tmp 18), none, 0⟩] none 0 []) (.cond (.tmp 19) (.seq (.reg 0 [⟨(some 2), .mv (.const (.string ⟨#[]⟩)), none, 0⟩, ⟨(some 3), .mv (.const (.string ⟨#[]⟩)), none, 0⟩, ⟨(some 4), .mv (.const (.int .i64 11)), none, 0⟩] none 0 []) .ret) .skip)) (.seq (.seq (.reg 0 [⟨(some 20), .mv (.tmp 6), none, 0⟩, ⟨(some 21), .cl 107 [(.tmp 20)], none, 0⟩, ⟨(some 8), .mv (.tmp 21), none, 0⟩] none 0 []) (.seq (.reg 0 [⟨(some 22), .mv (.tmp 8), none, 0⟩, ⟨(some 23), .bin .neq (.tmp 22) (.const (.int .i64 0)), none, 0⟩] none 0 []) (.cond (.tmp 23) (.seq (.reg 0 [⟨(some 24), .mv (.tmp 8), none, 0⟩, ⟨(some 2), .mv (.const (.string ⟨#[]⟩)), none, 0⟩, ⟨(some 3), .mv (.const (.string ⟨#[]⟩)), none, 0⟩, ⟨(some 4), .mv (.tmp 24), none, 0⟩] none 0 []) .ret) .skip))) (.seq (.reg 0 [⟨(some 25), .mv (.tmp 5), none, 0⟩, ⟨(some 26), .mv (.tmp 6), none, 0⟩, ⟨(some 2), .mv (.tmp 25), none, 0⟩, ⟨(some 3), .mv (.tmp 26), none, 0⟩, ⟨(some 4), .mv (.const (.int .i64 0)), none, 0⟩] none 0 []) .ret))))))
theorem gc126_ok : compF Try.prog Try.f126 = some (gc126.er, 27, [.tmp 2, .tmp 3, .tmp 4]) := by unfold gc126; kernel_rfl
set_option maxRecDepth 100000 in
set_option maxHeartbeats 4000000 in
theorem p_pres_Split_v (a0 : ByteArray) : CallsO Try.prog 126 [.s a0] (fun r : ByteArray × ByteArray × Int => .tup [V.s r.1, V.s r.2.1, V.i r.2.2]) (p_pres_Split a0) := by
  refine callsO_comp mix Try.func126 gc126_ok fun r H => ?_
  rw [p_pres_Split] at H
  conv => whnf
  refine ask_c (p_strings_Cut_v _ _) H rfl rfl (fun v1 H => ?_); conv => whnf
  refine Tst.not ?_
  refine tst_d H (fun b2 H => ?_) (fun b2 H => ?_)
  · conv => whnf
    exact fin0_c (enc := (fun r : ByteArray × ByteArray × Int => .tup [V.s r.1, V.s r.2.1, V.i r.2.2])) H (.inr rfl) (.cons (.tmp rfl) (.cons (.tmp rfl) (.cons (.tmp rfl) (.nil)))) rfl rfl
  conv => whnf
  refine ask_c (p_addr_IsBare_v _) H rfl rfl (fun v3 H => ?_); conv => whnf
  refine Tst.not ?_
  refine tst_d H (fun b4 H => ?_) (fun b4 H => ?_)
  · conv => whnf
    exact fin0_c (enc := (fun r : ByteArray × ByteArray × Int => .tup [V.s r.1, V.s r.2.1, V.i r.2.2])) H (.inr rfl) (.cons (.tmp rfl) (.cons (.tmp rfl) (.cons (.tmp rfl) (.nil)))) rfl rfl
  conv => whnf
  refine ask_c (p_addr_Resource_v _) H rfl rfl (fun v5 H => ?_); conv => whnf
  refine tst_c H (fun b6 H => ?_) (fun b6 H => ?_)
  · conv => whnf
    exact fin0_c (enc := (fun r : ByteArray × ByteArray × Int => .tup [V.s r.1, V.s r.2.1, V.i r.2.2])) H (.inr rfl) (.cons (.tmp rfl) (.cons (.tmp rfl) (.cons (.tmp rfl) (.nil)))) rfl rfl
  conv => whnf
  exact fin0_c (enc := (fun r : ByteArray × ByteArray × Int => .tup [V.s r.1, V.s r.2.1, V.i r.2.2])) H (.inr rfl) (.cons (.tmp rfl) (.cons (.tmp rfl) (.cons (.tmp rfl) (.nil)))) rfl rfl
def gc81 : BCode := (.seq (.reg 1 [⟨(some 1), .bx (.tmp 0), none, 0⟩, ⟨(some 2), .mv (.const (.string ⟨#[]⟩)), none, 1⟩, ⟨(some 3), .mv (.const (.bool false)), none, 1⟩] none 0 []) (.seq (.reg 0 [⟨(some 8), .fa 0 (.tmp 1), none, 0⟩, ⟨(some 9), .ld 1 false (.tmp 8), none, 0⟩, ⟨(some 10), .cl 126 [(.tmp 9)], none, 0⟩, ⟨(some 7), .mv (.tmp 10), none, 0⟩, ⟨(some 11), .ex (.tmp 7) 0, none, 0⟩, ⟨(some 12), .ex (.tmp 7) 1, none, 0⟩, ⟨(some 13), .ex (.tmp 7) 2, none, 0⟩, ⟨(some 4), .mv (.tmp 11), none, 0⟩, ⟨(some 5), .mv (.tmp 12), none, 0⟩, ⟨(some 6), .mv (.tmp 13), none, 0⟩] none 0 []) (.seq (.reg 0 [⟨(some 14), .mv (.tmp 4), none, 0⟩, ⟨(some 15), .mv (.tmp 6), none, 0⟩, ⟨(some 16), .bin .eql (.tmp 15) (.const (.int .i64 0)), none, 0⟩, ⟨(some 2), .mv (.tmp 14), none, 0⟩, ⟨(some 3), .mv (.tmp 16), none, 0⟩] none 0 []) .ret)))
theorem gc81_ok : compF Try.prog Try.f81 = some (gc81.er, 17, [.tmp 2, .tmp 3]) := by unfold gc81; kernel_rfl
set_option maxRecDepth 100000 in
set_option maxHeartbeats 4000000 in
theorem p_dirs_Arrow_user_v (a0 : Ref29Arrow) : CallsO Try.prog 81 [.agg [.s a0.From, .s a0.To]] (fun r : ByteArray × Bool => .tup [V.s r.1, V.b r.2]) (p_dirs_Arrow_user a0) := by
  refine callsO_comp mix Try.func81 gc81_ok fun r H => ?_
  rw [p_dirs_Arrow_user] at H
  conv => whnf
  refine ask_c (p_pres_Split_v _) H rfl rfl (fun v1 H => ?_); conv => whnf
  exact fin0_c (enc := (fun r : ByteArray × Bool => .tup [V.s r.1, V.b r.2])) H (.inr rfl) (.cons (.tmp rfl) (.cons (.tmp rfl) (.nil))) rfl rfl
def gc68 : BCode := (.seq (.reg 1 [⟨(some 1), .bx (.tmp 0), none, 0⟩, ⟨(some 2), .mv (.const (.bool false)), none, 1⟩] none 0 []) (.seq (.reg 0 [⟨(some 6), .ld 2 true (.tmp 1), none, 0⟩, ⟨(some 7), .cl 81 [(.tmp 6)], none, 0⟩, ⟨(some 5), .mv (.tmp 7), none, 0⟩, ⟨(some 8), .ex (.tmp 5) 0, none, 0⟩, ⟨(some 9), .ex (.tmp 5) 1, none, 0⟩, ⟨(some 3), .mv (.tmp 8), none, 0⟩, ⟨(some 4), .mv (.tmp 9), none, 0⟩] none 0 []) (.seq (.reg 0 [⟨(some 10), .mv (.tmp 4), none, 0⟩, ⟨(some 11), .un .not (.tmp 10), none, 0⟩, ⟨(some 12), .mv (.tmp 11), none, 0⟩, ⟨(some 13), .fa 1 (.tmp 1), (some (12, false)), 0⟩, ⟨(some 14), .ld 1 false (.tmp 13), (some (12, false)), 0⟩, ⟨(some 15), .cl 99 [(.tmp 14)], (some (12, false)), 0⟩, ⟨(some 16), .un .not (.tmp 15), (some (12, false)), 0⟩, ⟨(some 17), .pick (.tmp 12) (.const (.bool true)) (.tmp 16), none, 0⟩, ⟨(some 2), .mv (.tmp 17), none, 0⟩] none 0 []) .ret)))
theorem gc68_ok : compF Try.prog Try.f68 = some (gc68.er, 18, [.tmp 2]) := by unfold gc68; kernel_rfl
set_option maxRecDepth 100000 in
set_option maxHeartbeats 4000000 in
theorem p_dirs_Arrow_wrong_v (a0 : Ref29Arrow) : CallsO Try.prog 68 [.agg [.s a0.From, .s a0.To]] V.b (p_dirs_Arrow_wrong a0) := by
  refine callsO_comp mix Try.func68 gc68_ok fun r H => ?_
  rw [p_dirs_Arrow_wrong] at H
  conv => whnf
  refine ask_c (p_dirs_Arrow_user_v _) H rfl rfl (fun v1 H => ?_); conv => whnf
  refine Tst.not ?_
  refine tst_d H (fun b2 H => ?_) (fun b2 H => ?_)
  · conv => whnf
    iterate 4 (refine Tst.T ?_; conv => whnf)
    exact fin0_c (enc := V.b) H (.inr rfl) (.cons (.tmp rfl) (.nil)) rfl rfl
  conv => whnf
  iterate 2 (refine Tst.F ?_; conv => whnf)
  refine ask_c (p_addr_IsBare_v _) H rfl rfl (fun v3 H => ?_); conv => whnf
  iterate 2 (refine Tst.F ?_; conv => whnf)
  exact fin0_c (enc := V.b) H (.inr rfl) (.cons (.tmp rfl) (.nil)) rfl rfl
def gc120 : BCode := (.seq (.reg 0 [⟨(some 4), .mv (.const (.int .i64 0)), none, 0⟩] none 0 []) (.seq (.seq (.reg 0 [⟨(some 6), .mv (.tmp 0), none, 0⟩, ⟨(some 7), .lens (.tmp 6), none, 0⟩, ⟨(some 8), .mv (.const (.int .i64 0)), none, 0⟩] none 0 []) (.block 0 (.loop (.seq (.reg 0 [⟨(some 9), .bin .lss (.tmp 8) (.tmp 7), none, 0⟩] none 0 []) (.seq (.cond (.tmp 9) .skip (.exit 0)) (.seq (.block 1 (.seq (.reg 0 [⟨(some 10), .mv (.tmp 8), none, 0⟩, ⟨(some 5), .mv (.tmp 10), none, 0⟩] none 0 []) (.seq (.reg 0 [⟨(some 11), .mv (.tmp 1), none, 0⟩, ⟨(some 12), .mv (.tmp 0), none, 0⟩, ⟨(some 13), .mv (.tmp 5), none, 0⟩, ⟨(some 14), .ixs 2 (.tmp 12) (.tmp 13), none, 0⟩, ⟨(some 15), .ld 2 true (.tmp 14), none, 0⟩, ⟨(some 16), .cv (.tmp 11) [(.tmp 15)], none, 0⟩] none 0 []) (.cond (.tmp 16) (.seq (.reg 0 [⟨(some 17), .mv (.tmp 5), none, 0⟩, ⟨(some 4), .mv (.tmp 17), none, 0⟩] none 0 []) .ret) .skip)))) (.reg 0 [⟨(some 18), .bin .add (.tmp 8) (.const (.int .i64 1)), none, 0⟩, ⟨(some 8), .mv (.tmp 18), none, 0⟩] none 0 []))))))) (.seq (.reg 0 [⟨(some 4), .mv (.const (.int .i64 (-1))), none, 0⟩] none 0 []) .ret)))
theorem gc120_ok : compF Try.prog Try.f120 = some (gc120.er, 19, [.tmp 4]) := by unfold gc120; kernel_rfl
set_option maxRecDepth 100000 in
set_option maxHeartbeats 4000000 in
theorem p_slices_IndexFunc_dirs_State_dirs_Arrow__v {u1 : Bool} (a0 : List Ref29Arrow) (a1 : Ref29Arrow → Option Bool) {a1_g : Nat} {a1_k : List V} (a1_h : Clo1 Try.prog a1_g a1_k Ref29Arrow.v V.b a1) : CallsO Try.prog 120 [.sl (List.map Ref29Arrow.v a0) u1, .clo (.func a1_g) a1_k] V.i (p_slices_IndexFunc_dirs_State_dirs_Arrow_ a0 a1) := by
  refine callsO_comp mix Try.func120 gc120_ok fun r H => ?_
  rw [p_slices_IndexFunc_dirs_State_dirs_Arrow_] at H
  conv => whnf
  refine LenQ.M ?_; conv => whnf
  obtain ⟨o2, HL3, HQ4⟩ := bind_c H
  refine loop_c [4, 8] [5, 9, 10, 11, 12, 13, 14, 15, 16, 17, 18] [5, 9, 10, 11, 12, 13, 14, 15, 16, 17, 18] (fun n vals st => (∃ y6, p_slices_IndexFunc_dirs_State_dirs_Arrow__l1  a1 a0 (a0.length : Int) n y6 = some o2 ∧ vals = [.i (0 : Int), .i y6] ∧ st = [])) fuel 0 [] (⟨_, HL3, rfl, rfl⟩) (Nat.zero_le _) rfl (by simp only [maskF, setF, List.set_cons_zero, List.set_cons_succ, V.ren.renL, V.ren, renL_id _ a1_h.own] <;> rfl) (by simp only [maskF, setF, List.set_cons_zero, List.set_cons_succ, V.idlt.belowL, V.idlt, fun n => idltL_up (n := n) _ a1_h.own] <;> rfl) rfl trivial ?_
  rintro (_ | n5) _ _ (⟨y6, H, rfl, rfl⟩)
  · rw [p_slices_IndexFunc_dirs_State_dirs_Arrow__l1] at H; cases H
  rw [p_slices_IndexFunc_dirs_State_dirs_Arrow__l1] at H
  conv => whnf
  refine tst_d H (fun b7 H => ?_) (fun b7 H => ?_)
  · conv => whnf
    obtain rfl := Option.some.inj H
    have H := HQ4
    try dsimp only at H
    exact fin0_c (enc := V.i) H (.inr rfl) (.cons (.tmp rfl) (.nil)) rfl rfl
  conv => whnf
  refine ixs_c (f := Ref29Arrow.v) H (fun _ => rfl) (fun x8 H => ?_); conv => whnf
  refine askC_c a1_h H (.cons (fzagg (.cons (.id rfl) (.cons (.id rfl) (.nil))) rfl) (.nil)) (fun v9 H => ?_); conv => whnf
  refine tst_c H (fun b10 H => ?_) (fun b10 H => ?_)
  · conv => whnf
    obtain rfl := Option.some.inj H
    have H := HQ4
    try dsimp only at H
    exact fin0_c (enc := V.i) H (.inr rfl) (.cons (.tmp rfl) (.nil)) rfl rfl
  conv => whnf
  refine Ari.w ?_; conv => whnf
  exact again_c [5, 9, 10, 11, 12, 13, 14, 15, 16, 17, 18] n5 0 [] (⟨_, H, rfl, rfl⟩) (Nat.lt_succ_self _) (Nat.zero_le _) rfl (by simp only [maskF, setF, List.set_cons_zero, List.set_cons_succ, V.ren.renL, V.ren, renL_id _ a1_h.own] <;> rfl) (by simp only [maskF, setF, List.set_cons_zero, List.set_cons_succ, V.idlt.belowL, V.idlt, fun n => idltL_up (n := n) _ a1_h.own] <;> rfl) rfl trivial
def gc67 : BCode := (.seq (.reg 0 [⟨(some 4), .mv (.const (.bool false)), none, 0⟩] none 0 []) (.seq (.reg 0 [⟨(some 5), .mv (.tmp 0), none, 0⟩, ⟨(some 6), .mv (.tmp 1), none, 0⟩, ⟨(some 7), .cl 120 [(.tmp 5), (.tmp 6)], none, 0⟩, ⟨(some 8), .bin .geq (.tmp 7) (.const (.int .i64 0)), none, 0⟩, ⟨(some 4), .mv (.tmp 8), none, 0⟩] none 0 []) .ret))
theorem gc67_ok : compF Try.prog Try.f67 = some (gc67.er, 9, [.tmp 4]) := by unfold gc67; kernel_rfl
set_option maxRecDepth 100000 in
set_option maxHeartbeats 4000000 in
theorem p_slices_ContainsFunc_dirs_State_dirs_Arrow__v {u1 : Bool} (a0 : List Ref29Arrow) (a1 : Ref29Arrow → Option Bool) {a1_g : Nat} {a1_k : List V} (a1_h : Clo1 Try.prog a1_g a1_k Ref29Arrow.v V.b a1) : CallsO Try.prog 67 [.sl (List.map Ref29Arrow.v a0) u1, .clo (.func a1_g) a1_k] V.b (p_slices_ContainsFunc_dirs_State_dirs_Arrow_ a0 a1) := by
  refine callsO_comp mix Try.func67 gc67_ok fun r H => ?_
  rw [p_slices_ContainsFunc_dirs_State_dirs_Arrow_] at H
  conv => whnf
  refine askF_c (p_slices_IndexFunc_dirs_State_dirs_Arrow__v _ _ a1_h) H (.cons (.c (.slw)) (.cons (.c (.id a1_h.own)) (.nil))) (fun v1 H => ?_); conv => whnf
  exact fin0_c (enc := V.b) H (.inr rfl) (.cons (.tmp rfl) (.nil)) rfl rfl
def gc121 : BCode := (.seq (.reg 0 [⟨(some 2), .mv (.const (.int .i64 0)), none, 0⟩] none 0 []) (.seq (.reg 0 [⟨(some 3), .mv (.const (.int .i64 0)), none, 0⟩] none 0 []) (.seq (.seq (.reg 0 [⟨(some 6), .mv (.tmp 0), none, 0⟩, ⟨(some 7), .lens (.tmp 6), none, 0⟩, ⟨(some 8), .mv (.const (.int .i64 0)), none, 0⟩] none 0 []) (.block 0 (.loop (.seq (.reg 0 [⟨(some 9), .bin .lss (.tmp 8) (.tmp 7), none, 0⟩] none 0 []) (.seq (.cond (.tmp 9) .skip (.exit 0)) (.seq (.block 1 (.seq (.reg 0 [⟨(some 10), .ixs 1 (.tmp 6) (.tmp 8), none, 0⟩, ⟨(some 11), .ld 1 false (.tmp 10), none, 0⟩, ⟨(some 5), .mv (.tmp 11), none, 0⟩] none 0 []) (.seq (.reg 0 [⟨(some 12), .mv (.tmp 5), none, 0⟩, ⟨(some 13), .mv (.tmp 3), none, 0⟩, ⟨(some 14), .bin .neq (.tmp 12) (.tmp 13), none, 0⟩] none 0 []) (.cond (.tmp 14) (.seq (.reg 0 [⟨(some 15), .mv (.tmp 5), none, 0⟩, ⟨(some 2), .mv (.tmp 15), none, 0⟩] none 0 []) .ret) .skip)))) (.reg 0 [⟨(some 16), .bin .add (.tmp 8) (.const (.int .i64 1)), none, 0⟩, ⟨(some 8), .mv (.tmp 16), none, 0⟩] none 0 []))))))) (.seq (.reg 0 [⟨(some 17), .mv (.tmp 3), none, 0⟩, ⟨(some 2), .mv (.tmp 17), none, 0⟩] none 0 []) .ret))))
theorem gc121_ok : compF Try.prog Try.f121 = some (gc121.er, 18, [.tmp 2]) := by unfold gc121; kernel_rfl
set_option maxRecDepth 100000 in
set_option maxHeartbeats 4000000 in
theorem p_cmp_Or_int__v {u1 : Bool} (a0 : List Int) : CallsO Try.prog 121 [.sl (List.map V.i a0) u1] V.i (p_cmp_Or_int_ a0) := by
  refine callsO_comp mix Try.func121 gc121_ok fun r H => ?_
  rw [p_cmp_Or_int_] at H
  conv => whnf
  refine LenQ.M ?_; conv => whnf
  obtain ⟨o2, HL3, HQ4⟩ := bind_c H
  refine loop_c [2, 8] [5, 9, 10, 11, 12, 13, 14, 15, 16] [5, 9, 10, 11, 12, 13, 14, 15, 16] (fun n vals st => (∃ y6, p_cmp_Or_int__l1  a0 (a0.length : Int) n y6 = some o2 ∧ vals = [.i (0 : Int), .i y6] ∧ st = [])) fuel 0 [] (⟨_, HL3, rfl, rfl⟩) (Nat.zero_le _) rfl (by kernel_rfl) (by kernel_rfl) rfl trivial ?_
  rintro (_ | n5) _ _ (⟨y6, H, rfl, rfl⟩)
  · rw [p_cmp_Or_int__l1] at H; cases H
  rw [p_cmp_Or_int__l1] at H
  conv => whnf
  refine tst_d H (fun b7 H => ?_) (fun b7 H => ?_)
  · conv => whnf
    obtain rfl := Option.some.inj H
    have H := HQ4
    try dsimp only at H
    exact fin0_c (enc := V.i) H (.inr rfl) (.cons (.tmp rfl) (.nil)) rfl rfl
  conv => whnf
  refine ixs_c (f := V.i) H (fun _ => rfl) (fun x8 H => ?_); conv => whnf
  refine tst_c H (fun b9 H => ?_) (fun b9 H => ?_)
  · conv => whnf
    obtain rfl := Option.some.inj H
    have H := HQ4
    try dsimp only at H
    exact fin0_c (enc := V.i) H (.inr rfl) (.cons (.tmp rfl) (.nil)) rfl rfl
  conv => whnf
  refine Ari.w ?_; conv => whnf
  exact again_c [5, 9, 10, 11, 12, 13, 14, 15, 16] n5 0 [] (⟨_, H, rfl, rfl⟩) (Nat.lt_succ_self _) (Nat.zero_le _) rfl (by kernel_rfl) (by kernel_rfl) rfl trivial
def gc69 : BCode := (.seq (.reg 2 [⟨(some 2), .bx (.tmp 0), none, 0⟩, ⟨(some 3), .bx (.tmp 1), none, 1⟩, ⟨(some 4), .mv (.const (.int .i64 0)), none, 2⟩] none 0 []) (.seq (.reg 1 [⟨(some 5), .fa 0 (.tmp 2), none, 0⟩, ⟨(some 6), .ld 1 false (.tmp 5), none, 0⟩, ⟨(some 7), .fa 0 (.tmp 3), none, 0⟩, ⟨(some 8), .ld 1 false (.tmp 7), none, 0⟩, ⟨(some 9), .cl 115 [(.tmp 6), (.tmp 8)], none, 0⟩, ⟨(some 10), .fa 1 (.tmp 2), none, 0⟩, ⟨(some 11), .ld 1 false (.tmp 10), none, 0⟩, ⟨(some 12), .fa 1 (.tmp 3), none, 0⟩, ⟨(some 13), .ld 1 false (.tmp 12), none, 0⟩, ⟨(some 14), .cl 115 [(.tmp 11), (.tmp 13)], none, 0⟩, ⟨(some 15), .bs 1 2 [(.lit (.int .i64 0)), (.lit (.int .i64 0))] [(0, (.tmp 9)), (1, (.tmp 14))], none, 0⟩, ⟨(some 16), .cl 121 [(.tmp 15)], none, 1⟩, ⟨(some 4), .mv (.tmp 16), none, 1⟩] (some [[], [0], [], [2], [2, 3, 0, 1], [], [5], [], [7], [1, 0, 3, 2, 4, 7, 8, 5, 6], [6, 5, 8, 7, 9, 1, 0, 3, 2, 4], [4, 2, 3, 0, 1, 9, 7, 8, 5, 6, 10], [10, 6, 5, 8, 7, 9, 1, 0, 3, 2, 4, 11]]) 0 []) .ret))
theorem gc69_ok : compF Try.prog Try.f69 = some (gc69.er, 17, [.tmp 4]) := by unfold gc69; kernel_rfl
set_option maxRecDepth 100000 in
set_option maxHeartbeats 4000000 in
theorem p_dirs_order_v (a0 : Ref29Arrow) (a1 : Ref29Arrow) : CallsO Try.prog 69 [.agg [.s a0.From, .s a0.To], .agg [.s a1.From, .s a1.To]] V.i (p_dirs_order a0 a1) := by
  refine callsO_comp mix Try.func69 gc69_ok fun r H => ?_
  rw [p_dirs_order] at H
  conv => whnf
  refine ask_c (p_strings_Compare_v _ _) H rfl rfl (fun v1 H => ?_); conv => whnf
  refine ask_c (p_strings_Compare_v _ _) H rfl rfl (fun v2 H => ?_); conv => whnf
  refine askF_c (p_cmp_Or_int__v _) H (.cons (.c (fzown (f := V.i) (l := [v1, v2]) rfl rfl (fun _ => rfl) (fun _ => rfl))) (.nil)) (fun v3 H => ?_); conv => whnf
  refine FootQ.mk ⟨rfl, ?_⟩; conv => whnf
  exact fin0_c (enc := V.i) H (.inr rfl) (.cons (.tmp rfl) (.nil)) rfl rfl
def gc29 : BCode := (.seq (.reg 0 [⟨(some 2), .mv (.const (.int .i64 0)), none, 0⟩] none 0 []) (.seq (.seq (.reg 0 [⟨(some 4), .mv (.tmp 0), none, 0⟩, ⟨(some 5), .lens (.tmp 4), none, 0⟩, ⟨(some 6), .bin .gtr (.tmp 5) (.const (.int .i64 32)), none, 0⟩] none 0 []) (.cond (.tmp 6) (.seq (.reg 0 [⟨(some 2), .mv (.const (.int .i64 5)), none, 0⟩] none 0 []) .ret) .skip)) (.seq (.seq (.reg 0 [⟨(some 7), .mv (.tmp 0), none, 0⟩, ⟨(some 8), .cl 67 [(.tmp 7), (.func 68)], none, 0⟩] none 0 []) (.cond (.tmp 8) (.seq (.reg 0 [⟨(some 2), .mv (.const (.int .i64 11)), none, 0⟩] none 0 []) .ret) .skip)) (.seq (.seq (.reg 0 [⟨(some 3), .mv (.const (.int .i64 1)), none, 0⟩] none 0 []) (.block 0 (.loop (.seq (.seq (.reg 0 [⟨(some 9), .mv (.tmp 3), none, 0⟩, ⟨(some 10), .mv (.tmp 0), none, 0⟩, ⟨(some 11), .lens (.tmp 10), none, 0⟩, ⟨(some 12), .bin .lss (.tmp 9) (.tmp 11), none, 0⟩] none 0 []) (.cond (.tmp 12) .skip (.exit 0))) (.seq (.block 1 (.seq (.reg 0 [⟨(some 15), .mv (.tmp 0), none, 0⟩, ⟨(some 16), .mv (.tmp 3), none, 0⟩, ⟨(some 17), .bin .sub (.tmp 16) (.const (.int .i64 1)), none, 0⟩, ⟨(some 18), .ixs 2 (.tmp 15) (.tmp 17), none, 0⟩, ⟨(some 19), .ld 2 true (.tmp 18), none, 0⟩, ⟨(some 20), .mv (.tmp 0), none, 0⟩, ⟨(some 21), .mv (.tmp 3), none, 0⟩, ⟨(some 22), .ixs 2 (.tmp 20) (.tmp 21), none, 0⟩, ⟨(some 23), .ld 2 true (.tmp 22), none, 0⟩, ⟨(some 24), .cl 69 [(.tmp 19), (.tmp 23)], none, 0⟩, ⟨(some 25), .bin .geq (.tmp 24) (.const (.int .i64 0)), none, 0⟩] (some [[], [], [1], [1, 2, 0], [0, 2, 1, 3], [], [], [6, 5], [5, 6, 7], [7, 6, 5, 8, 3, 1, 2, 0, 4], [4, 0, 2, 1, 3, 8, 5, 6, 7, 9]]) 0 []) (.cond (.tmp 25) (.seq (.reg 0 [⟨(some 2), .mv (.const (.int .i64 10)), none, 0⟩] none 0 []) .ret) .skip))) (.reg 0 [⟨(some 13), .mv (.tmp 3), none, 0⟩, ⟨(some 14), .bin .add (.tmp 13) (.const (.int .i64 1)), none, 0⟩, ⟨(some 3), .mv (.tmp 14), none, 0⟩] none 0 [])))))) (.seq (.reg 0 [⟨(some 2), .mv (.const (.int .i64 0)), none, 0⟩] none 0 []) .ret)))))
theorem gc29_ok : compF Try.prog Try.f29 = some (gc29.er, 26, [.tmp 2]) := by unfold gc29; kernel_rfl
set_option maxRecDepth 100000 in
set_option maxHeartbeats 4000000 in
theorem p_dirs_Check_v {u1 : Bool} (a0 : List Ref29Arrow) : CallsO Try.prog 29 [.sl (List.map Ref29Arrow.v a0) u1] V.i (p_dirs_Check a0) := by
  refine callsO_comp mix Try.func29 gc29_ok fun r H => ?_
  rw [p_dirs_Check] at H
  conv => whnf
  refine LenQ.M ?_; conv => whnf
  refine tst_c H (fun b1 H => ?_) (fun b1 H => ?_)
  · conv => whnf
    exact fin0_c (enc := V.i) H (.inr rfl) (.cons (.tmp rfl) (.nil)) rfl rfl
  conv => whnf
  refine askF_c (p_slices_ContainsFunc_dirs_State_dirs_Arrow__v _ _ ⟨⟨_, Try.func68, by kernel_rfl, by kernel_rfl⟩, rfl, fun x0 => p_dirs_Arrow_wrong_v _⟩) H (.cons (.c (.slw)) (.cons (.c (.clo (.nil))) (.nil))) (fun v2 H => ?_); conv => whnf
  refine tst_c H (fun b3 H => ?_) (fun b3 H => ?_)
  · conv => whnf
    exact fin0_c (enc := V.i) H (.inr rfl) (.cons (.tmp rfl) (.nil)) rfl rfl
  conv => whnf
  obtain ⟨o5, HL6, HQ7⟩ := bind_c H
  refine loop_c [2, 3] [9, 10, 11, 12, 13, 14, 15, 16, 17, 18, 19, 20, 21, 22, 23, 24, 25] [9, 10, 11, 12, 13, 14, 15, 16, 17, 18, 19, 20, 21, 22, 23, 24, 25] (fun n vals st => (∃ y9, p_dirs_Check_l1  a0 n y9 = some o5 ∧ vals = [.i (0 : Int), .i y9] ∧ st = [])) fuel 0 [] (⟨_, HL6, rfl, rfl⟩) (Nat.zero_le _) rfl (by kernel_rfl) (by kernel_rfl) rfl trivial ?_
  rintro (_ | n8) _ _ (⟨y9, H, rfl, rfl⟩)
  · rw [p_dirs_Check_l1] at H; cases H
  rw [p_dirs_Check_l1] at H
  conv => whnf
  refine LenQ.M ?_; conv => whnf
  refine tst_d H (fun b10 H => ?_) (fun b10 H => ?_)
  · conv => whnf
    obtain rfl := Option.some.inj H
    have H := HQ7
    try dsimp only at H
    exact fin0_c (enc := V.i) H (.inr rfl) (.cons (.tmp rfl) (.nil)) rfl rfl
  conv => whnf
  refine Ari.w ?_; conv => whnf
  refine ixs_c (f := Ref29Arrow.v) H (fun _ => rfl) (fun x11 H => ?_); conv => whnf
  refine ixs_c (f := Ref29Arrow.v) H (fun _ => rfl) (fun x12 H => ?_); conv => whnf
  refine ask_c (p_dirs_order_v _ _) H rfl rfl (fun v13 H => ?_); conv => whnf
  refine FootQ.mk ⟨rfl, ?_⟩; conv => whnf
  refine tst_c H (fun b14 H => ?_) (fun b14 H => ?_)
  · conv => whnf
    obtain rfl := Option.some.inj H
    have H := HQ7
    try dsimp only at H
    exact fin0_c (enc := V.i) H (.inr rfl) (.cons (.tmp rfl) (.nil)) rfl rfl
  conv => whnf
  refine Ari.w ?_; conv => whnf
  exact again_c [9, 10, 11, 12, 13, 14, 15, 16, 17, 18, 19, 20, 21, 22, 23, 24, 25] n8 0 [] (⟨_, H, rfl, rfl⟩) (Nat.lt_succ_self _) (Nat.zero_le _) rfl (by kernel_rfl) (by kernel_rfl) rfl trivial
end Go.Proofs.Ythmgficajgedlaa
/- slices.Insert: its roads at function 78. -/
namespace Go.Proofs.Ythmgficajgedlaa
open Go.RowKit Go.Lib
set_option maxHeartbeats 4000000 in
set_option maxRecDepth 100000 in
theorem insS78 (b n c i vb voff vc : Nat) (cs vs : List Value) (w : World) (tA tB : TypeId) (kA kB : Nat) (hi : i < n) (hroom : n + 1 ≤ c) (hbig : n + 1 ≤ 1000000) (hvb : vb ≠ b) (hcl : cs.length = n * 2) (hvl : vs.length = 2)
    (hcs : ∀ j v, cs[j]? = some v → w.cell? ⟨b, j, none⟩ = some v) (hsp : ∀ j, j < (n + 1) * 2 → (w.cell? ⟨b, j, none⟩).isSome = true) (hfz : ∀ j, j < (n + 1) * 2 → w.frozen? ⟨b, j, none⟩ = false)
    (hvs : ∀ j v, vs[j]? = some v → w.cell? ⟨vb, voff + j, none⟩ = some v) (h1c : ∀ v ∈ cs, v.oneCell' = true) (h1v : ∀ v ∈ vs, v.oneCell' = true)
    (hsa : w.shape? vb = some (tA, kA)) (hsb : w.shape? b = some (tB, kB)) (hkA : kA ≠ 0) (hkB : kB ≠ 0) (hfe : w.frozen? ⟨b, kB, none⟩ = false) :
    Calls Try.prog 78 #[.slice (some ⟨b, 0, none⟩) n c, .int .i64 i, .slice (some ⟨vb, voff, none⟩) 1 vc] w fun e w' =>
      e = .returned (.slice (some ⟨b, 0, none⟩) (n + 1) c) ∧ w' = (w.drew.setCells b ((i + 1) * 2) (cs.drop (i * 2))).setCells b (i * 2) vs := by
  have tS : Try.prog.underlying 64 = some (.slice 141) := by kernel_rfl
  have tV : Try.prog.underlying 63 = some (.slice 141) := by kernel_rfl
  have tI : Try.prog.underlying 3 = some (.int .i64) := by kernel_rfl
  have uS := run_underlying tS
  have uV := run_underlying tV
  have uI := run_underlying tI
  have mixed : Try.prog.follows .mixedOrders = true := mix
  obtain ⟨i0, z, hi0, hzs, hz0, hzc, hzb⟩ := infB_ok (P := Try.prog) (e := 141) (es := 2) (by kernel_rfl)
  have hsz : (Try.prog.info? 141).map (·.size) = some 2 := by rw [hi0]; simp [hzs]
  have hov : ∀ lb cb, (callFunc 124 #[.slice (some ⟨vb, voff, none⟩) 1 vc, .slice (some ⟨b, (i + 1) * 2, none⟩) lb cb]).run Try.prog w = .ok (.value (.bool false)) w := fun lb cb => by
    rw [run_callFunc_extern Try.func124 (by kernel_rfl) (by kernel_rfl) (by kernel_rfl) (e := Extern.SlicesOverlaps.overlaps #[63, 63] #[4]) (by kernel_rfl),
      run_overlaps_own w 63 4 141 tV 2 (fun w => by rw [← hzs]; exact run_sizeOf hi0 w) ⟨vb, voff, none⟩ ⟨b, (i + 1) * 2, none⟩ 1 vc lb cb hvb tA tB kA kB hsa hsb hkA hkB (hfz _ (by omega)) hfe]
    rfl
  have hdl : (cs.drop (i * 2)).length = (n - i) * 2 := by rw [List.length_drop, hcl]; omega
  have hz2 : ¬ ((i : Int) = (n : Int)) := by omega
  have hw1 : IntKind.i64.wrap ((i : Int) + 1) = (i : Int) + 1 := by rw [IntKind.wrap_i64]; omega
  have hwn : IntKind.i64.wrap ((n : Int) + 1) = (n : Int) + 1 := by rw [IntKind.wrap_i64]; omega
  have hb1 : (0 : Int) ≤ (i : Int) + 1 := by omega
  have hin : i ≤ n := by omega
  have htn : ((i : Int) + 1).toNat = i + 1 := by omega
  have htm : ((n : Int) + 1).toNat = n + 1 := by omega
  have hb2 : ¬ (c = i + 1) := by omega
  have hb3 : (i : Int) ≤ (n : Int) + 1 := by omega
  have hb4 : ¬ (c = i) := by omega
  have hb5 : ¬ ((c : Int) < (n : Int) + 1) := by omega
  have hb6 : (n : Int) + 1 ≤ (c : Int) := by omega
  have hm1 : Nat.min (n + 1 - i) (n - i) = n - i := by simp only [Nat.min_def]; split <;> omega
  have hm2 : Nat.min 1 (n + 1 - i) = 1 := by simp only [Nat.min_def]; split <;> omega
  have hcp1 : ∀ ty dc sc, (Builtin.copy_ #[64, 64] ty #[.slice (some ⟨b, (i + 1) * 2, none⟩) (n - i) dc, .slice (some ⟨b, i * 2, none⟩) (n + 1 - i) sc]).run Try.prog w.drew = .ok (goInt (Nat.min (n + 1 - i) (n - i))) (w.drew.setCells b ((i + 1) * 2) (cs.drop (i * 2))) := fun ty dc sc =>
    run_copy_es w.drew _ _ ty 141 2 b ((i + 1) * 2) (n - i) dc ⟨b, i * 2, none⟩ (n + 1 - i) sc (cs.drop (i * 2)) tS hsz (by rw [hm1]; exact hdl)
      (fun j v hj => by rw [Addr.add_lit]; exact hcs (i * 2 + j) v (by rwa [List.getElem?_drop] at hj))
      (fun j hj => hsp _ (by omega)) (fun j hj => hfz _ (by omega)) (fun v hv => h1c v (List.mem_of_mem_drop hv))
  obtain ⟨W1, hW1⟩ : ∃ W1, W1 = w.drew.setCells b ((i + 1) * 2) (cs.drop (i * 2)) := ⟨_, rfl⟩
  have hsp1 : ∀ k, k < (n + 1) * 2 → (W1.cell? ⟨b, k, none⟩).isSome = true := fun k hk => by
    rw [hW1]
    exact isSome_setCells b (cs.drop (i * 2)) ((i + 1) * 2) w.drew (fun j hj => hsp _ (by omega)) _ (hsp k hk)
  have hcp2 : ∀ (W : World), (∀ x, W.cell? x = W1.cell? x) → (∀ x, W.frozen? x = W1.frozen? x) → ∀ ty dc, (Builtin.copy_ #[64, 63] ty #[.slice (some ⟨b, i * 2, none⟩) (n + 1 - i) dc, .slice (some ⟨vb, voff, none⟩) 1 vc]).run Try.prog W = .ok (goInt (Nat.min 1 (n + 1 - i))) (W.setCells b (i * 2) vs) := fun W hWc hWf ty dc =>
    run_copy_es W _ _ ty 141 2 b (i * 2) (n + 1 - i) dc ⟨vb, voff, none⟩ 1 vc vs tS hsz (by rw [hm2, hvl])
      (fun j v hj => by
        rw [Addr.add_lit, hWc, hW1, World.cell?_setCells_out b _ _ _ _ (fun h _ => absurd h hvb)]
        exact hvs j v hj)
      (fun j hj => by rw [hWc]; exact hsp1 _ (by omega)) (fun j hj => by rw [hWf, hW1, World.frozen?_setCells]; exact hfz _ (by omega)) h1v
  rw [← hW1] at hcp1
  go_enter Try.func78, Try.ntmps78
  go_wp2_with (simp only [hov])
  go_region_law_o (refine step_copy_runI rfl _ _ 64 64 rfl _ _ (by simp [Act.eval, Act.put]) (by simp [Act.eval, Act.put]) (hcp1 _ _ _) ?_)
  go_wp2_with (at_builtin; refine wpList_copy_runI _ rfl _ _ 64 63 rfl _ _ rfl rfl (hcp2 _ (fun _ => rfl) (fun _ => rfl) _ _) ?_)
  go_ret
  first | exact ⟨rfl, rfl⟩ | exact ⟨rfl, by rw [hW1]⟩
set_option maxHeartbeats 4000000 in
set_option maxRecDepth 100000 in
theorem insE78 (b n c vb voff vc : Nat) (vs : List Value) (w : World) (hroom : n + 1 ≤ c) (hbig : n + 1 ≤ 1000000) (hvl : vs.length = 2)
    (hsp : ∀ j, j < 2 → (w.cell? ⟨b, n * 2 + j, none⟩).isSome = true) (hfz : ∀ j, j < 2 → w.frozen? ⟨b, n * 2 + j, none⟩ = false)
    (hvs : ∀ j v, vs[j]? = some v → w.cell? ⟨vb, voff + j, none⟩ = some v) (h1v : ∀ v ∈ vs, v.oneCell' = true) :
    Calls Try.prog 78 #[.slice (some ⟨b, 0, none⟩) n c, .int .i64 n, .slice (some ⟨vb, voff, none⟩) 1 vc] w fun e w' =>
      e = .returned (.slice (some ⟨b, 0, none⟩) (n + 1) c) ∧ w' = w.setCells b (n * 2) vs := by
  have tS : Try.prog.underlying 64 = some (.slice 141) := by kernel_rfl
  have tV : Try.prog.underlying 63 = some (.slice 141) := by kernel_rfl
  have tI : Try.prog.underlying 3 = some (.int .i64) := by kernel_rfl
  have uS := run_underlying tS
  have uV := run_underlying tV
  have uI := run_underlying tI
  have mixed : Try.prog.follows .mixedOrders = true := mix
  obtain ⟨i0, z, hi0, hzs, hz0, hzc, hzb⟩ := infB_ok (P := Try.prog) (e := 141) (es := 2) (by kernel_rfl)
  have hsz : (Try.prog.info? 141).map (·.size) = some 2 := by rw [hi0]; simp [hzs]
  have hsrc : Src Try.prog 2 63 (.slice (some ⟨vb, voff, none⟩) 1 vc) 1 vs w := Src.ofSlice w tV ⟨vb, voff, none⟩ 1 vc vs (by omega) (fun j u hj => by rw [Addr.add_lit]; exact hvs j u hj) h1v
  have hrun : ∀ ty, (Builtin.append_ #[64, 63] ty #[.slice (some ⟨b, 0, none⟩) n c, .slice (some ⟨vb, voff, none⟩) 1 vc]).run Try.prog w = _ := fun ty =>
    run_append_room_src w 64 63 ty 141 i0 tS hi0 b 0 n c _ 1 vs (by rw [hzs]; exact hsrc) hroom (by rw [hzs, hvl, Nat.zero_add]; exact hsp) (by rw [hzs, hvl, Nat.zero_add]; exact hfz)
  rw [hzs, Nat.zero_add] at hrun
  go_enter Try.func78, Try.ntmps78
  go_wp2_with (at_builtin; refine Lib.wpList_append_run _ rfl _ _ _ _ rfl _ _ rfl rfl _ _ (hrun _) ?_)
  all_goals (go_ret; exact ⟨rfl, rfl⟩)
set_option maxHeartbeats 4000000 in
set_option maxRecDepth 100000 in
theorem insG78 (base : Option Addr) (n c vb voff vc : Nat) (cs vs : List Value) (w : World) (hnc : n ≤ c) (hroom : c < n + 1) (hbig : n + 1 ≤ 1000000) (hcl : cs.length = n * 2) (hvl : vs.length = 2) (hnil : base = none → n = 0)
    (hcs : ∀ a, base = some a → ∀ j v, cs[j]? = some v → w.cell? (a.add j) = some v) (hvs : ∀ j v, vs[j]? = some v → w.cell? ⟨vb, voff + j, none⟩ = some v) (h1v : ∀ v ∈ vs, v.oneCell' = true) :
    Calls Try.prog 78 #[.slice base n c, .int .i64 n, .slice (some ⟨vb, voff, none⟩) 1 vc] w fun e w' =>
      ∃ zs : Array Value, e = .returned (.slice (some ⟨w.heap.size, 0, none⟩) (n + 1) (grownCap w (n + 1) c 141)) ∧ w' = w.drew.alloc (.cells ((cs ++ vs).toArray ++ zs) 141) := by
  have tS : Try.prog.underlying 64 = some (.slice 141) := by kernel_rfl
  have tV : Try.prog.underlying 63 = some (.slice 141) := by kernel_rfl
  have tI : Try.prog.underlying 3 = some (.int .i64) := by kernel_rfl
  have uS := run_underlying tS
  have uV := run_underlying tV
  have uI := run_underlying tI
  have mixed : Try.prog.follows .mixedOrders = true := mix
  obtain ⟨i0, z, hi0, hzs, hz0, hzc, hzb⟩ := infB_ok (P := Try.prog) (e := 141) (es := 2) (by kernel_rfl)
  have hsz : (Try.prog.info? 141).map (·.size) = some 2 := by rw [hi0]; simp [hzs]
  have hsrc : Src Try.prog i0.size 63 (.slice (some ⟨vb, voff, none⟩) 1 vc) 1 vs w := by
    rw [hzs]
    exact Src.ofSlice w tV ⟨vb, voff, none⟩ 1 vc vs (by omega) (fun j u hj => by rw [Addr.add_lit]; exact hvs j u hj) h1v
  have hold : (Builtin.firstCells i0.size n (.slice base n c)).run Try.prog w.drew = .ok cs.toArray w.drew := by
    rw [hzs]
    cases base with
    | none =>
      have h0 := hnil rfl
      subst h0
      rw [List.length_eq_zero_iff.1 (by omega : cs.length = 0)]
      exact run_firstCells_none w.drew 2 0 0 c
    | some a => exact run_firstCells_some w.drew 2 n a n c cs hcl (fun j v hj => hcs a rfl j v hj)
  have hrun : ∀ ty, (Builtin.append_ #[64, 63] ty #[.slice base n c, .slice (some ⟨vb, voff, none⟩) 1 vc]).run Try.prog w = _ := fun ty =>
    run_append_grow_src w 64 63 ty 141 i0 z tS hi0 hz0 base n c cs hold _ 1 vs hsrc hroom (by omega) (growslice_fits hroom (grown_bound hbig hzb))
  obtain ⟨ZS, hrun⟩ : ∃ ZS : Array Value, ∀ ty, (Builtin.append_ #[64, 63] ty #[.slice base n c, .slice (some ⟨vb, voff, none⟩) 1 vc]).run Try.prog w = .ok (.slice (some ⟨w.heap.size, 0, none⟩) (n + 1) (grownCap w (n + 1) c 141)) (w.drew.alloc (.cells ((cs ++ vs).toArray ++ ZS) 141)) := ⟨_, hrun⟩
  have main : Calls Try.prog 78 #[.slice base n c, .int .i64 n, .slice (some ⟨vb, voff, none⟩) 1 vc] w fun e w' =>
      e = .returned (.slice (some ⟨w.heap.size, 0, none⟩) (n + 1) (grownCap w (n + 1) c 141)) ∧ w' = w.drew.alloc (.cells ((cs ++ vs).toArray ++ ZS) 141) := by
    clear hz0 hold hsrc
    go_enter Try.func78, Try.ntmps78
    cases base with
    | none =>
      have h0 := hnil rfl
      subst h0
      go_wp2_with (at_builtin; refine Lib.wpList_append_run _ rfl _ _ _ _ rfl _ _ rfl rfl _ _ (hrun _) ?_)
      go_ret
      exact ⟨rfl, rfl⟩
    | some a =>
      obtain ⟨ab, ao, asp⟩ := a
      go_wp2_with (at_builtin; refine Lib.wpList_append_run _ rfl _ _ _ _ rfl _ _ rfl rfl _ _ (hrun _) ?_)
      all_goals (go_ret; exact ⟨rfl, rfl⟩)
  refine main.mono ?_
  rintro e w' ⟨rfl, rfl⟩
  exact ⟨ZS, rfl, rfl⟩
set_option maxHeartbeats 4000000 in
set_option maxRecDepth 100000 in
theorem insW78 (b n c i vb voff vc : Nat) (cs vs : List Value) (w : World) (hi : i < n) (hnc : n ≤ c) (hroom : c < n + 1) (hbig : n + 1 ≤ 1000000) (hcl : cs.length = n * 2) (hvl : vs.length = 2)
    (hcs : ∀ j v, cs[j]? = some v → w.cell? ⟨b, j, none⟩ = some v) (hvs : ∀ j v, vs[j]? = some v → w.cell? ⟨vb, voff + j, none⟩ = some v) (h1c : ∀ v ∈ cs, v.oneCell' = true) (h1v : ∀ v ∈ vs, v.oneCell' = true) :
    Calls Try.prog 78 #[.slice (some ⟨b, 0, none⟩) n c, .int .i64 i, .slice (some ⟨vb, voff, none⟩) 1 vc] w fun e w' =>
      ∃ ROW : Array Value, (n + 1) * 2 ≤ ROW.size ∧ (∀ (j : Nat) (v : Value), (cs.take (i * 2))[j]? = some v → ROW[j]? = some v) ∧ e = .returned (.slice (some ⟨w.heap.size, 0, none⟩) (n + 1) (grownCap w (n + 1) c 141)) ∧
        w' = (((w.alloc (.cells ROW 141)).drew.setCells w.heap.size (i * 2) vs).drew).setCells w.heap.size ((i + 1) * 2) (cs.drop (i * 2)) := by
  have tS : Try.prog.underlying 64 = some (.slice 141) := by kernel_rfl
  have tV : Try.prog.underlying 63 = some (.slice 141) := by kernel_rfl
  have tI : Try.prog.underlying 3 = some (.int .i64) := by kernel_rfl
  have uS := run_underlying tS
  have uV := run_underlying tV
  have uI := run_underlying tI
  have mixed : Try.prog.follows .mixedOrders = true := mix
  obtain ⟨i0, z, hi0, hzs, hz0, hzc, hzb⟩ := infB_ok (P := Try.prog) (e := 141) (es := 2) (by kernel_rfl)
  have hsz : (Try.prog.info? 141).map (·.size) = some 2 := by rw [hi0]; simp [hzs]
  have hz2 : ¬ ((i : Int) = (n : Int)) := by omega
  have hz3 : (c : Int) < (n : Int) + 1 := by omega
  have hbw : b < w.heap.size := block_lt_of_cell (hcs 0 _ (List.getElem?_eq_getElem (by omega)))
  have hvw : vb < w.heap.size := block_lt_of_cell (hvs 0 _ (List.getElem?_eq_getElem (by omega)))
  have hwk : IntKind.i64.wrap ((n : Int) + 1 - (i : Int)) = ((n + 1 - i : Nat) : Int) := by rw [IntKind.wrap_i64]; omega
  have hik : i + (n + 1 - i) = n + 1 := by omega
  have hold : (Builtin.firstCells i0.size i (.slice (some ⟨b, 0, none⟩) i c)).run Try.prog w.drew = .ok (cs.take (i * 2)).toArray w.drew := by
    rw [hzs]
    exact run_firstCells_some w.drew 2 i ⟨b, 0, none⟩ i c (cs.take (i * 2)) (by rw [List.length_take]; omega) (fun j v hj => by
      rw [Addr.add_lit, Nat.zero_add]
      rw [List.getElem?_take] at hj
      split at hj
      · exact hcs j v hj
      · cases hj)
  have hbk : (n + 1 - i) * i0.bytes ≤ 281474976710656 := by
    have : (n + 1 - i) * i0.bytes ≤ 1000000 * 1000 := Nat.mul_le_mul (by omega) hzb
    omega
  have hrz : ∀ ty, (Builtin.append_ #[64, 3] ty #[.slice (some ⟨b, 0, none⟩) i c, .int .i64 ((n + 1 - i : Nat) : Int)]).run Try.prog w =
      .ok (.slice (some ⟨w.heap.size, 0, none⟩) (n + 1) (grownCap w (n + 1) c 141)) (w.drew.alloc (.cells ((cs.take (i * 2)).toArray ++ Builtin.zeroCells z.cells (n + 1 - i) ++ Builtin.zeroCells z.cells (grownCap w (n + 1) c 141 - (n + 1))) 141)) := fun ty => by
    have h := Lib.run_append_grow_zeros w 64 3 ty 141 i0 z .i64 .i64 tS tI hi0 hz0 (some ⟨b, 0, none⟩) i c (cs.take (i * 2)) hold (n + 1 - i) (by omega) (by omega) (by omega) (by omega) hbk (by rw [hik]; exact growslice_fits hroom (grown_bound hbig hzb))
    rw [hik] at h
    exact h
  obtain ⟨G, hG⟩ : ∃ G, G = grownCap w (n + 1) c 141 := ⟨_, rfl⟩
  obtain ⟨ROW, hROW⟩ : ∃ ROW : Array Value, ROW = (cs.take (i * 2)).toArray ++ Builtin.zeroCells z.cells (n + 1 - i) ++ Builtin.zeroCells z.cells (G - (n + 1)) := ⟨_, rfl⟩
  rw [← hG] at hrz ⊢
  rw [← hROW] at hrz
  have hRl : (n + 1) * 2 ≤ ROW.size := by
    rw [hROW]
    simp only [Array.size_append, size_zeroCells, hzc, List.size_toArray, List.length_take]
    omega
  have hRt : ∀ (j : Nat) (v : Value), (cs.take (i * 2))[j]? = some v → ROW[j]? = some v := fun j v h => by
    have hl := (List.getElem?_eq_some_iff.1 h).1
    rw [hROW, Array.append_assoc, Array.getElem?_append_left (by simpa using hl), List.getElem?_toArray]
    exact h
  obtain ⟨W1, hW1⟩ : ∃ W1, W1 = w.drew.alloc (.cells ROW 141) := ⟨_, rfl⟩
  rw [← hW1] at hrz
  have hN : ∀ j, j < (n + 1) * 2 → (W1.cell? ⟨w.heap.size, j, none⟩).isSome = true := fun j hj => by
    rw [hW1, World.cell?_alloc_at (w := w.drew) ROW _ w.heap.size j rfl, Array.getElem?_eq_getElem (by omega)]; rfl
  have hNf : ∀ j, W1.frozen? ⟨w.heap.size, j, none⟩ = false := fun j => by rw [hW1]; exact World.frozen?_alloc_at (w := w.drew) ROW _ w.heap.size j rfl
  have hOb : ∀ j v, w.cell? ⟨b, j, none⟩ = some v → W1.cell? ⟨b, j, none⟩ = some v := fun j v h => by rw [hW1, World.cell?_alloc_past (w := w.drew) _ b j hbw]; exact h
  have hOv : ∀ j v, w.cell? ⟨vb, j, none⟩ = some v → W1.cell? ⟨vb, j, none⟩ = some v := fun j v h => by rw [hW1, World.cell?_alloc_past (w := w.drew) _ vb j hvw]; exact h
  have hmA : Nat.min 1 (n + 1 - i) = 1 := by simp only [Nat.min_def]; split <;> omega
  have hmB : Nat.min (n - i) (n - i) = n - i := Nat.min_self _
  have hcpA : ∀ (W : World), (∀ x, W.cell? x = W1.cell? x) → (∀ x, W.frozen? x = W1.frozen? x) → ∀ ty dc, (Builtin.copy_ #[64, 63] ty #[.slice (some ⟨w.heap.size, i * 2, none⟩) (n + 1 - i) dc, .slice (some ⟨vb, voff, none⟩) 1 vc]).run Try.prog W = .ok (goInt (Nat.min 1 (n + 1 - i))) (W.setCells w.heap.size (i * 2) vs) := fun W hWc hWf ty dc =>
    run_copy_es W _ _ ty 141 2 w.heap.size (i * 2) (n + 1 - i) dc ⟨vb, voff, none⟩ 1 vc vs tS hsz (by rw [hmA, hvl])
      (fun j v hj => by rw [Addr.add_lit, hWc]; exact hOv _ v (hvs j v hj))
      (fun j hj => by rw [hWc]; exact hN _ (by omega)) (fun j hj => by rw [hWf]; exact hNf _) h1v
  have hGn : n + 1 ≤ G := by rw [hG]; exact grownCap_ge w _ _ _
  have hGi : ¬ (G = i) := by omega
  have hGim : ¬ (G = i + 1) := by omega
  have hci : ¬ (c = i) := by omega
  have hbN : b ≠ w.heap.size := by omega
  have hdl : (cs.drop (i * 2)).length = (n - i) * 2 := by rw [List.length_drop, hcl]; omega
  have hcpB : ∀ (W : World), (∀ x, W.cell? x = (W1.setCells w.heap.size (i * 2) vs).cell? x) → (∀ x, W.frozen? x = (W1.setCells w.heap.size (i * 2) vs).frozen? x) → ∀ ty dc sc, (Builtin.copy_ #[64, 64] ty #[.slice (some ⟨w.heap.size, (i + 1) * 2, none⟩) (n - i) dc, .slice (some ⟨b, i * 2, none⟩) (n - i) sc]).run Try.prog W = .ok (goInt (Nat.min (n - i) (n - i))) (W.setCells w.heap.size ((i + 1) * 2) (cs.drop (i * 2))) := fun W hWc hWf ty dc sc =>
    run_copy_es W _ _ ty 141 2 w.heap.size ((i + 1) * 2) (n - i) dc ⟨b, i * 2, none⟩ (n - i) sc (cs.drop (i * 2)) tS hsz (by rw [hmB]; exact hdl)
      (fun j v hj => by
        rw [Addr.add_lit, hWc, World.cell?_setCells_out _ _ _ _ _ (fun h _ => absurd h hbN)]
        exact hOb _ v (hcs (i * 2 + j) v (by rwa [List.getElem?_drop] at hj)))
      (fun j hj => by rw [hWc]; exact isSome_setCells _ _ _ _ (fun t ht => hN _ (by omega)) _ (hN _ (by omega)))
      (fun j hj => by rw [hWf, World.frozen?_setCells]; exact hNf _) (fun v hv => h1c v (List.mem_of_mem_drop hv))
  subst hW1
  have hE1 : ∀ x, ((w.alloc (.cells ROW 141)).drew).cell? x = (w.drew.alloc (.cells ROW 141)).cell? x := fun x => rfl
  have hE2 : ∀ x, ((w.alloc (.cells ROW 141)).drew).frozen? x = (w.drew.alloc (.cells ROW 141)).frozen? x := fun x => rfl
  have hF1 : ∀ x, (((w.alloc (.cells ROW 141)).drew.setCells w.heap.size (i * 2) vs).drew).cell? x = ((w.drew.alloc (.cells ROW 141)).setCells w.heap.size (i * 2) vs).cell? x := fun x => rfl
  have hF2 : ∀ x, (((w.alloc (.cells ROW 141)).drew.setCells w.heap.size (i * 2) vs).drew).frozen? x = ((w.drew.alloc (.cells ROW 141)).setCells w.heap.size (i * 2) vs).frozen? x := fun x => rfl
  have hw1 : IntKind.i64.wrap ((i : Int) + 1) = (i : Int) + 1 := by rw [IntKind.wrap_i64]; omega
  have hwn : IntKind.i64.wrap ((n : Int) + 1) = (n : Int) + 1 := by rw [IntKind.wrap_i64]; omega
  have hb1 : (0 : Int) ≤ (i : Int) + 1 := by omega
  have hin : i ≤ n := by omega
  have htn : ((i : Int) + 1).toNat = i + 1 := by omega
  have hb3 : (i : Int) ≤ (n : Int) := by omega
  have main : Calls Try.prog 78 #[.slice (some ⟨b, 0, none⟩) n c, .int .i64 i, .slice (some ⟨vb, voff, none⟩) 1 vc] w fun e w' =>
      e = .returned (.slice (some ⟨w.heap.size, 0, none⟩) (n + 1) G) ∧ w' = (((w.alloc (.cells ROW 141)).drew.setCells w.heap.size (i * 2) vs).drew).setCells w.heap.size ((i + 1) * 2) (cs.drop (i * 2)) := by
    clear hik hold hROW hG hRl hRt hbk hz0
    go_enter Try.func78, Try.ntmps78
    go_wp2_with (first
      | (at_builtin; refine Lib.wpList_append_run _ rfl _ _ _ _ rfl _ _ rfl rfl _ _ (hrz _) ?_)
      | (at_builtin; refine wpList_copy_runI _ rfl _ _ 64 63 rfl _ _ rfl rfl (hcpA _ hE1 hE2 _ _) ?_))
    go_region_law_o (refine step_copy_runI rfl _ _ 64 64 rfl (.slice (some ⟨w.heap.size, (i + 1) * 2, none⟩) (n - i) (G - (i + 1))) (.slice (some ⟨b, i * 2, none⟩) (n - i) (c - i)) (by simp [Act.eval, Act.put]) (by simp [Act.eval, Act.put]) (hcpB _ hF1 hF2 3 (G - (i + 1)) (c - i)) ?_)
    go_wp2
    go_ret
    first | exact ⟨rfl, rfl⟩ | trace_state
  refine main.mono ?_
  rintro e w' ⟨rfl, rfl⟩
  exact ⟨ROW, hRl, hRt, rfl, rfl⟩
theorem insR78_v : InsRoads Try.prog 78 2 141 := ⟨insS78, insE78, insG78, insW78⟩
end Go.Proofs.Ythmgficajgedlaa
