/- DirsBack: for every input the call returns true, and its arguments read as they did. -/
import Derived.Test.YthmgficajgedlaaRaA10
import Derived.Test.YthmgficajgedlaaRaA11
import Derived.Test.YthmgficajgedlaaRaA12
import Derived.Test.YthmgficajgedlaaRaA13
import Derived.Test.YthmgficajgedlaaRaA8
import Derived.KernelRfl
import Derived.Test.YthmgficajgedlaaRows
set_option linter.all false
/- Readers of DirsBack's parameters. -/
namespace Go.Proofs.Ythmgficajgedlaa
open Go.ChangeShapes Go.WideShapes Go.ChangeAt Go.RowKit Go.Joins Go.Deep
structure Law29Deed.Wf (x : Law29Deed) : Prop where
  From : (Lit.int .u8 x.From).wf = true
  To : (Lit.int .u8 x.To).wf = true
set_option maxRecDepth 100000 in
theorem rd_T80 {H : Type} {enc : TypeId × Value → H} {W : World} {spare : Nat → Bool} {held : Bool} {fuel : Nat} {cs : List Value} {y : DataW H × List MemPlace} (h : DataW.trod enc Try.prog W 0 spare held fuel 80 cs = some y) : ∃ x : Law29Deed, Law29Deed.Wf x ∧ RepL (MW W) noBk cs [.y8 x.From, .y8 x.To, .b x.Off, .b x.All] := by
  obtain ⟨xs, n, _, _, hl, hx, hall⟩ := DataW.trod_struct Try.underlying80 h
  have hce : Try.prog.cellsOf 80 = 4 := by kernel_rfl
  rw [hce] at hl
  match cs, hl, hall with
  | [c0, c1, c2, c3], _, hall =>
    obtain ⟨y0, hy0⟩ := get_some hx (show 0 < 4 by omega)
    have g0 : DataW.trod enc Try.prog W 0 spare held n 5 [c0] = some y0 := by
      have hz : Try.prog.cellsOf 5 = 1 := by kernel_rfl
      have g : DataW.trod enc Try.prog W 0 spare held n 5 (([c0, c1, c2, c3].drop 0).take (Try.prog.cellsOf 5)) = some y0 := (hall 0 _ rfl).trans hy0
      rw [hz] at g; exact g
    obtain ⟨x0, w0, r0⟩ := rd_int Try.underlying5 g0
    obtain ⟨y1, hy1⟩ := get_some hx (show 1 < 4 by omega)
    have g1 : DataW.trod enc Try.prog W 0 spare held n 5 [c1] = some y1 := by
      have hz : Try.prog.cellsOf 5 = 1 := by kernel_rfl
      have g : DataW.trod enc Try.prog W 0 spare held n 5 (([c0, c1, c2, c3].drop 1).take (Try.prog.cellsOf 5)) = some y1 := (hall 1 _ rfl).trans hy1
      rw [hz] at g; exact g
    obtain ⟨x1, w1, r1⟩ := rd_int Try.underlying5 g1
    obtain ⟨y2, hy2⟩ := get_some hx (show 2 < 4 by omega)
    have g2 : DataW.trod enc Try.prog W 0 spare held n 4 [c2] = some y2 := by
      have hz : Try.prog.cellsOf 4 = 1 := by kernel_rfl
      have g : DataW.trod enc Try.prog W 0 spare held n 4 (([c0, c1, c2, c3].drop 2).take (Try.prog.cellsOf 4)) = some y2 := (hall 2 _ rfl).trans hy2
      rw [hz] at g; exact g
    obtain ⟨x2, r2⟩ := rd_bool Try.underlying4 g2
    obtain ⟨y3, hy3⟩ := get_some hx (show 3 < 4 by omega)
    have g3 : DataW.trod enc Try.prog W 0 spare held n 4 [c3] = some y3 := by
      have hz : Try.prog.cellsOf 4 = 1 := by kernel_rfl
      have g : DataW.trod enc Try.prog W 0 spare held n 4 (([c0, c1, c2, c3].drop 3).take (Try.prog.cellsOf 4)) = some y3 := (hall 3 _ rfl).trans hy3
      rw [hz] at g; exact g
    obtain ⟨x3, r3⟩ := rd_bool Try.underlying4 g3
    exact ⟨⟨x0, x1, x2, x3⟩, ⟨w0, w1⟩, repL_app r0 (repL_app r1 (repL_app r2 (repL_app r3 (repL_nil))))⟩
theorem rd_T76 {H : Type} {enc : TypeId × Value → H} {W : World} {spare : Nat → Bool} {held : Bool} {fuel : Nat} {cs : List Value} {y : DataW H × List MemPlace} (h : DataW.trod enc Try.prog W 0 spare held fuel 76 cs = some y) : ∃ x : List Law29Deed, (∀ z ∈ x, Law29Deed.Wf z) ∧ RepL (MW W) noBk cs [(fun l : List Law29Deed => V.sl (l.map Law29Deed.v) false) x] :=
  rd_slice (f := Law29Deed.v) (es := 4) (wf := Law29Deed.Wf) Try.underlying76 (fun _ => rfl) (by intro a v hv; simp [V.cells] at hv; first | (subst hv; rfl) | (rcases hv with rfl | rfl | rfl | rfl <;> rfl)) (by omega) (by kernel_rfl) (fun n cs y h => rd_T80 h) h
end Go.Proofs.Ythmgficajgedlaa
/- The arrows' order; what Add leaves. -/
namespace Go.Proofs.Ythmgficajgedlaa
open Go.RowKit
theorem ord_anti (a b : AR) : ordA b a = - ordA a b := by
  unfold ordA
  rw [cmp_anti a.From.data.toList b.From.data.toList, cmp_anti a.To.data.toList b.To.data.toList]
  by_cases h : Lib.compareBytes a.From.data.toList b.From.data.toList = 0
  · rw [if_neg (by omega), if_neg (by omega)]
  · rw [if_pos (by omega), if_pos (by omega)]
theorem bytes_ext {a b : ByteArray} (h : a.data.toList = b.data.toList) : a = b := by cases a; cases b; congr 1; exact Array.ext' h
theorem ord_eq {a b : AR} (h : ordA a b = 0) : a = b := by
  unfold ordA at h
  split at h
  · rename_i h1; exact absurd h h1
  · rename_i h1
    have e1 := bytes_ext (cmp_eq0 (Classical.not_not.1 h1))
    have e2 := bytes_ext (cmp_eq0 h)
    cases a; cases b; simp only at e1 e2; rw [e1, e2]
theorem ord_refl (a : AR) : ordA a a = 0 := by unfold ordA; rw [cmp_refl, cmp_refl]; simp
theorem ord_trans {a b c : AR} (h1 : ordA a b < 0) (h2 : ordA b c < 0) : ordA a c < 0 := by
  unfold ordA at *
  by_cases x : Lib.compareBytes a.From.data.toList b.From.data.toList = 0
  · have e := cmp_eq0 x
    rw [e]
    rw [if_neg (by omega)] at h1
    by_cases y : Lib.compareBytes b.From.data.toList c.From.data.toList = 0
    · rw [if_neg (by omega)] at h2 ⊢
      exact cmp_trans h1 h2
    · rw [if_pos y] at h2 ⊢; exact h2
  · rw [if_pos x] at h1
    by_cases y : Lib.compareBytes b.From.data.toList c.From.data.toList = 0
    · have e := cmp_eq0 y
      rw [← e, if_pos x]; exact h1
    · rw [if_pos y] at h2
      have h3 := cmp_trans h1 h2
      rw [if_pos (by omega)]; exact h3
theorem ris_pw : ∀ {l : List AR}, risL l = true ↔ l.Pairwise (fun a b => ordA a b < 0)
  | [] => by simp [risL]
  | [a] => by simp [risL]
  | a :: b :: l => by
    have ih := ris_pw (l := b :: l)
    have e : risL (a :: b :: l) = (lessA a b && risL (b :: l)) := rfl
    rw [e, Bool.and_eq_true, ih, List.pairwise_cons (a := a)]
    unfold lessA
    rw [decide_eq_true_iff]
    constructor
    · rintro ⟨h1, h2⟩
      refine ⟨fun x hx => ?_, h2⟩
      rcases List.mem_cons.1 hx with rfl | hx
      · exact h1
      · exact ord_trans h1 ((List.pairwise_cons.1 h2).1 x hx)
    · rintro ⟨h1, h2⟩
      exact ⟨h1 b (by simp), h2⟩
instance decAR : DecidableEq Ref29Arrow := fun a b =>
  if h : a.From.data.toList = b.From.data.toList ∧ a.To.data.toList = b.To.data.toList then isTrue (by cases a; cases b; simp only at h; rw [bytes_ext h.1, bytes_ext h.2])
  else isFalse (fun e => h (by rw [e]; exact ⟨rfl, rfl⟩))
structure GoodA (l : List AR) : Prop where
  len : l.length ≤ 32
  fine : ∀ a ∈ l, fineA a = true
  ord : l.Pairwise (fun a b => ordA a b < 0)
theorem chk_good {l : List AR} : chkA l = 0 ↔ GoodA l := by
  unfold chkA
  constructor
  · intro h
    split at h
    · omega
    · split at h
      · omega
      · split at h
        · rename_i h1 h2 h3
          refine ⟨by omega, fun a ha => ?_, ris_pw.1 h3⟩
          have h2' : l.any (fun a => !fineA a) = false := by simpa using h2
          have := List.any_eq_false.1 h2' a ha
          simpa using this
        · omega
  · intro h
    have h1 := h.len
    have h2 : l.any (fun a => !fineA a) = false := List.any_eq_false.2 fun a ha => by simp [h.fine a ha]
    rw [if_neg (by omega), h2, if_neg (by simp), if_pos (ris_pw.2 h.ord)]
def posA (l : List AR) (a : AR) : Nat := l.findIdx fun x => decide (0 ≤ ordA x a)
theorem pos_le (l : List AR) (a : AR) : posA l a ≤ l.length := List.findIdx_le_length
theorem pos_lt {l : List AR} {a : AR} {i : Nat} (hi : i < l.length) (h : i < posA l a) : ordA l[i] a < 0 := by
  have := List.not_of_lt_findIdx h
  simpa using this
theorem pos_ge {l : List AR} (hg : l.Pairwise (fun a b => ordA a b < 0)) {a : AR} {i : Nat} (hi : i < l.length) (h : posA l a ≤ i) : 0 ≤ ordA l[i] a := by
  have hp : posA l a < l.length := by omega
  have h0 : 0 ≤ ordA l[posA l a] a := by
    have := List.findIdx_getElem (xs := l) (p := fun x => decide (0 ≤ ordA x a)) (w := hp)
    exact of_decide_eq_true this
  rcases Nat.lt_or_ge (posA l a) i with g | g
  · have h1 := List.pairwise_iff_getElem.1 hg _ _ hp hi g
    by_cases h2 : ordA l[i] a < 0
    · have := ord_trans h1 h2; omega
    · omega
  · have e : posA l a = i := by omega
    simpa only [e] using h0
theorem searchA_l {g : AR → AR → Option Int} {l : List AR} {a : AR} (hq : ∀ x, g x a = some (ordA x a)) (hn : l.length ≤ 1000) (hg : l.Pairwise (fun a b => ordA a b < 0)) : ∀ (d i j F : Nat), i + d = j → j ≤ l.length → i ≤ posA l a → posA l a ≤ j → d < F →
    p_slices_BinarySearchFunc_dirs_State_dirs_Arrow_dirs_Arrow__l1 g l a F i j = some ((posA l a : Int), (posA l a : Int)) := by
  intro d
  induction d using Nat.strongRecOn with
  | ind d ih =>
    intro i j F hd hj h1 h2 hF
    obtain ⟨F, rfl⟩ : ∃ G, F = G + 1 := ⟨F - 1, by omega⟩
    rw [p_slices_BinarySearchFunc_dirs_State_dirs_Arrow_dirs_Arrow__l1]
    rcases Nat.lt_or_ge i j with hij | hij
    · rw [lt_tt hij, half_p (by omega), w64_succ (show (i + j) / 2 ≤ 1000000 by omega)]
      have hm : (i + j) / 2 < l.length := by omega
      simp only [cond_true, at_lt hm, Option.bind_some, hq]
      rcases Nat.lt_or_ge ((i + j) / 2) (posA l a) with hlt | hge
      · rw [decide_eq_true (pos_lt hm hlt), cond_true]
        exact ih (j - ((i + j) / 2 + 1)) (by omega) _ _ F (by omega) hj (by omega) h2 (by omega)
      · have := pos_ge hg hm hge
        rw [decide_eq_false (by omega), cond_false]
        exact ih ((i + j) / 2 - i) (by omega) _ _ F (by omega) (by omega) h1 hge (by omega)
    · rw [lt_ff hij]
      have e1 : i = posA l a := by omega
      have e2 : j = posA l a := by omega
      rw [cond_false, ← e2, ← (show i = j by omega)]
theorem found_p {l : List AR} {a : AR} (hn : l.length ≤ 1000) (hg : l.Pairwise (fun a b => ordA a b < 0)) : p_slices_BinarySearchFunc_dirs_State_dirs_Arrow_dirs_Arrow_ l a (fun x0 x1 => p_dirs_order x0 x1) = some ((posA l a : Int), decide (a ∈ l)) := by
  have hl := searchA_l (g := fun x0 x1 => p_dirs_order x0 x1) (a := a) (fun x => order_p x a) hn hg l.length 0 l.length fuel (by omega) (Nat.le_refl _) (Nat.zero_le _) (pos_le l a) (by have := fuel_pos; omega)
  unfold p_slices_BinarySearchFunc_dirs_State_dirs_Arrow_dirs_Arrow_
  rw [show ((0 : Int)) = ((0 : Nat) : Int) from rfl, hl]
  simp only [Option.bind_some]
  rcases Nat.lt_or_ge (posA l a) l.length with h | h
  · rw [lt_tt h, at_lt h]
    simp only [cond_true, Option.bind_some, order_p]
    congr 2
    by_cases hm : a ∈ l
    · rw [decide_eq_true hm]
      obtain ⟨i, hi, rfl⟩ := List.getElem_of_mem hm
      have e : posA l l[i] = i := by
        rcases Nat.lt_trichotomy i (posA l l[i]) with g | g | g
        · have := pos_lt hi g; rw [ord_refl] at this; omega
        · exact g.symm
        · have h1 := List.pairwise_iff_getElem.1 hg _ _ h hi g
          have h2 := pos_ge hg h (Nat.le_refl (posA l l[i]))
          omega
      have : ordA l[posA l l[i]] l[i] = 0 := by
        have e2 : l[posA l l[i]] = l[i] := by simp only [e]
        rw [e2, ord_refl]
      rw [this]; rfl
    · rw [decide_eq_false hm]
      have : ordA l[posA l a] a ≠ 0 := fun e => hm (by rw [← ord_eq e]; exact List.getElem_mem h)
      simpa using this
  · rw [lt_ff h]
    have hm : a ∉ l := fun hm => by
      obtain ⟨i, hi, rfl⟩ := List.getElem_of_mem hm
      have := pos_lt (a := l[i]) hi (by omega)
      rw [ord_refl] at this; omega
    rw [decide_eq_false hm]; rfl
def putA (l : List AR) (a : AR) : List AR := l.take (posA l a) ++ a :: l.drop (posA l a)
def addL (l : List AR) (a : AR) : List AR × Int := if chkA l ≠ 0 then (l, chkA l) else if fineA a = false then (l, 11) else if a ∈ l then (l, 0) else if l.length = 32 then (l, 7) else (putA l a, 0)
theorem add_p {l : List AR} (hn : l.length ≤ 1000) (hs : ∀ a ∈ l, smallA a) {f t : ByteArray} (ha : smallA ⟨f, t⟩) : p_dirs_Add l f t = some (addL l ⟨f, t⟩) := by
  unfold p_dirs_Add addL
  rw [check_p hn hs, wrong_p ha]
  simp only [Option.bind_some]
  by_cases hc : chkA l = 0
  · rw [if_neg (by simpa using hc), hc]
    have hg := chk_good.1 hc
    simp only [bne_self_eq_false, cond_false]
    cases hf : fineA ⟨f, t⟩ with
    | false => rfl
    | true =>
      simp only [Bool.not_true, cond_false, Bool.true_eq_false, if_false]
      rw [found_p hn hg.ord]
      simp only [Option.bind_some]
      by_cases hm : (⟨f, t⟩ : AR) ∈ l
      · rw [decide_eq_true hm, if_pos hm]; rfl
      · rw [decide_eq_false hm, if_neg hm, cond_false]
        by_cases h32 : l.length = 32
        · rw [if_pos h32, h32]; rfl
        · have : ((l.length : Int) == 32) = false := by simpa using (by omega : ¬ (l.length : Int) = 32)
          rw [this, if_neg h32, cond_false]
          have h1 := hg.len
          have hp := pos_le l ⟨f, t⟩
          have e1 : clone? l = some l := if_pos (by omega)
          have e2 : insAt? l (posA l ⟨f, t⟩ : Int) (⟨f, t⟩ : AR) = some (putA l ⟨f, t⟩) := by
            unfold insAt?
            rw [if_pos (by omega)]; rfl
          rw [e1]
          simp only [Option.bind_some]
          rw [e2]; rfl
  · have : (chkA l != 0) = true := by simpa using hc
    rw [if_pos hc, this]; rfl
theorem mem_put {l : List AR} {a x : AR} : x ∈ putA l a ↔ x = a ∨ x ∈ l := by
  unfold putA
  rw [List.mem_append, List.mem_cons]
  have : x ∈ l ↔ x ∈ l.take (posA l a) ∨ x ∈ l.drop (posA l a) := by rw [← List.mem_append, List.take_append_drop]
  rw [this]
  constructor
  · rintro (h | h | h) <;> simp [h]
  · rintro (h | h | h) <;> simp [h]
theorem put_good {l : List AR} {a : AR} (hg : GoodA l) (hf : fineA a = true) (hm : a ∉ l) (hl : l.length < 32) : GoodA (putA l a) where
  len := by unfold putA; simp; have := pos_le l a; omega
  fine x hx := by
    rcases mem_put.1 hx with rfl | hx
    · exact hf
    · exact hg.fine x hx
  ord := by
    unfold putA
    have hsp : (l.take (posA l a) ++ l.drop (posA l a)).Pairwise (fun a b => ordA a b < 0) := by rw [List.take_append_drop]; exact hg.ord
    obtain ⟨p1, p2, p3⟩ := List.pairwise_append.1 hsp
    have q1 : ∀ x ∈ l.take (posA l a), ordA x a < 0 := fun x hx => by
      obtain ⟨i, hi, rfl⟩ := List.getElem_of_mem hx
      rw [List.length_take] at hi
      rw [List.getElem_take]
      exact pos_lt (by omega) (by omega)
    have q2 : ∀ x ∈ l.drop (posA l a), ordA a x < 0 := fun x hx => by
      have hxl : x ∈ l := List.mem_of_mem_drop hx
      obtain ⟨i, hi, rfl⟩ := List.getElem_of_mem hx
      rw [List.length_drop] at hi
      have h0 := pos_ge hg.ord (a := a) (i := posA l a + i) (by omega) (by omega)
      rw [List.getElem_drop] at hxl ⊢
      have h1 : ordA l[posA l a + i] a ≠ 0 := fun e => hm (by rw [← ord_eq e]; exact hxl)
      have := ord_anti l[posA l a + i] a
      omega
    rw [List.pairwise_append, List.pairwise_cons]
    refine ⟨p1, ⟨q2, p2⟩, fun x hx y hy => ?_⟩
    rcases List.mem_cons.1 hy with rfl | hy
    · exact q1 x hx
    · exact p3 x hx y hy
theorem put_len (l : List AR) (a : AR) : (putA l a).length = l.length + 1 := by unfold putA; have := pos_le l a; simp; omega
theorem filter_put {l : List AR} {a : AR} (p : AR → Bool) (ha : p a = false) (hp : ∀ x ∈ l, p x = true) : (putA l a).filter p = l := by
  unfold putA
  rw [List.filter_append, List.filter_cons, ha, if_neg (by simp), ← List.filter_append, List.take_append_drop]
  exact List.filter_eq_self.2 hp
end Go.Proofs.Ythmgficajgedlaa
/- DirsBack in plain words. -/
namespace Go.Proofs.Ythmgficajgedlaa
open Go.RowKit
def byB (k : Nat) : ByteArray := ⟨#[UInt8.ofNat k]⟩
def fB (k : Nat) : ByteArray := byB (97 + k) ++ ⟨#[64, 120, 32, 114]⟩
def tB (k : Nat) : ByteArray := byB (112 + k) ++ ⟨#[64, 121]⟩
def zB (k : Nat) : ByteArray := byB (112 + k) ++ ⟨#[64, 122]⟩
def uB (k : Nat) : ByteArray := byB (97 + k) ++ ⟨#[64, 120]⟩
def ub (x : Int) : Prop := 0 ≤ x ∧ x ≤ 255
theorem letter_p {x : Int} (hx : ub x) (b m : Nat) (hm : 0 < m) (hb : b + m ≤ 200) : text? [IntKind.wrap .u8 ((b : Int) + Int.tmod x (m : Int))] = some (byB (b + x.toNat % m)) := by
  obtain ⟨n, rfl⟩ := Int.eq_ofNat_of_zero_le hx.1
  have e1 : Int.tmod (n : Int) (m : Int) = ((n % m : Nat) : Int) := (Int.ofNat_tmod n m).symm
  have hlt := Nat.mod_lt n hm
  rw [e1, Int.toNat_natCast]
  have e2 : IntKind.wrap .u8 ((b : Int) + ((n % m : Nat) : Int)) = ((b + n % m : Nat) : Int) := by
    simp only [IntKind.wrap, IntKind.signed, IntKind.bits]
    have e3 : ((b : Int) + ((n % m : Nat) : Int)) = ((b + n % m : Nat) : Int) := by omega
    rw [e3]
    generalize b + n % m = c at *
    have : c ≤ 200 := by omega
    first | omega | (simp; omega)
  rw [e2]
  unfold text?
  rw [if_pos (by simp; omega)]
  rfl
theorem cat_ok {a b : ByteArray} (h : a.size + b.size ≤ 1000) : cat? a b = some (a ++ b) := if_pos (by omega)
theorem letter5 {x : Int} (hx : ub x) : text? [IntKind.wrap .u8 ((97 : Int) + Int.tmod x (5 : Int))] = some (byB (97 + x.toNat % 5)) := letter_p hx 97 5 (by omega) (by omega)
theorem letter8 {x : Int} (hx : ub x) : text? [IntKind.wrap .u8 ((112 : Int) + Int.tmod x (8 : Int))] = some (byB (112 + x.toNat % 8)) := letter_p hx 112 8 (by omega) (by omega)
theorem by_sz (k : Nat) : (byB k).size = 1 := rfl
theorem catF (k : Nat) : cat? (byB (97 + k)) (⟨#[64, 120, 32, 114]⟩ : ByteArray) = some (fB k) := cat_ok (by rw [by_sz]; decide)
theorem catT (k : Nat) : cat? (byB (112 + k)) (⟨#[64, 121]⟩ : ByteArray) = some (tB k) := cat_ok (by rw [by_sz]; decide)
theorem catZ (k : Nat) : cat? (byB (112 + k)) (⟨#[64, 122]⟩ : ByteArray) = some (zB k) := cat_ok (by rw [by_sz]; decide)
theorem catU (k : Nat) : cat? (byB (97 + k)) (⟨#[64, 120]⟩ : ByteArray) = some (uB k) := cat_ok (by rw [by_sz]; decide)
theorem data_app (a b : ByteArray) : (a ++ b).data.toList = a.data.toList ++ b.data.toList := by simp
theorem fB_l (k : Nat) : (fB k).data.toList = [UInt8.ofNat (97 + k), 64, 120, 32, 114] := by unfold fB; rw [data_app]; rfl
theorem tB_l (k : Nat) : (tB k).data.toList = [UInt8.ofNat (112 + k), 64, 121] := by unfold tB; rw [data_app]; rfl
theorem zB_l (k : Nat) : (zB k).data.toList = [UInt8.ofNat (112 + k), 64, 122] := by unfold zB; rw [data_app]; rfl
theorem uB_l (k : Nat) : (uB k).data.toList = [UInt8.ofNat (97 + k), 64, 120] := by unfold uB; rw [data_app]; rfl
theorem sz_of {s : ByteArray} {n : Nat} (h : s.data.toList.length = n) : s.size = n := by rw [← h, bl_len]
theorem fB_sz (k : Nat) : (fB k).size = 5 := sz_of (by rw [fB_l]; rfl)
theorem tB_sz (k : Nat) : (tB k).size = 3 := sz_of (by rw [tB_l]; rfl)
theorem zB_sz (k : Nat) : (zB k).size = 3 := sz_of (by rw [zB_l]; rfl)
set_option maxRecDepth 100000 in
theorem fB_all : ((List.range 5).all fun k => (findL [UInt8.ofNat (97 + k), 64, 120, 32, 114] 32 == 3) && isBareL [UInt8.ofNat (97 + k), 64, 120] && (resL [114] == 0)) = true := by kernel_rfl
set_option maxRecDepth 100000 in
theorem tB_all : ((List.range 8).all fun k => isBareL [UInt8.ofNat (112 + k), 64, 121] && isBareL [UInt8.ofNat (112 + k), 64, 122]) = true := by kernel_rfl
theorem fB_split {k : Nat} (h : k < 5) : splitE (fB k) = (uB k, ba [114], 0) := by
  have := List.all_eq_true.1 fB_all k (List.mem_range.2 h)
  simp only [Bool.and_eq_true, beq_iff_eq] at this
  obtain ⟨⟨h1, h2⟩, h3⟩ := this
  have e1 : frontB (fB k) = ba [UInt8.ofNat (97 + k), 64, 120] := by unfold frontB; rw [fB_l, h1]; rfl
  have e2 : backB (fB k) = ba [114] := by unfold backB; rw [fB_l, h1]; rfl
  have e3 : ba [UInt8.ofNat (97 + k), 64, 120] = uB k := bytes_ext (by rw [uB_l]; rfl)
  unfold splitE
  rw [fB_l, h1, if_pos (show 3 < [UInt8.ofNat (97 + k), 64, 120, 32, 114].length by simp), e1, e2]
  have e4 : (ba [UInt8.ofNat (97 + k), 64, 120]).data.toList = [UInt8.ofNat (97 + k), 64, 120] := rfl
  have e5 : (ba [114]).data.toList = [114] := rfl
  rw [e4, h2, if_pos rfl, e5, h3, if_pos rfl, e3]
theorem tB_bare {k : Nat} (h : k < 8) : isBareL (tB k).data.toList = true ∧ isBareL (zB k).data.toList = true := by
  have := List.all_eq_true.1 tB_all k (List.mem_range.2 h)
  simp only [Bool.and_eq_true] at this
  rw [tB_l, zB_l]; exact this
theorem fine_t {i j : Nat} (hi : i < 5) (hj : j < 8) : fineA ⟨fB i, tB j⟩ = true := by
  unfold fineA; simp only [fB_split hi, (tB_bare hj).1]; rfl
theorem fine_z {i j : Nat} (hi : i < 5) (hj : j < 8) : fineA ⟨fB i, zB j⟩ = true := by
  unfold fineA; simp only [fB_split hi, (tB_bare hj).2]; rfl
theorem t_ne_z (j k : Nat) : tB j ≠ zB k := by
  intro h
  have h2 : (tB j).data.toList = (zB k).data.toList := by rw [h]
  rw [tB_l, zB_l] at h2
  simp at h2
structure InvD (l : List AR) : Prop where
  good : GoodA l
  is : ∀ a ∈ l, ∃ i j, i < 5 ∧ j < 8 ∧ a = ⟨fB i, tB j⟩
theorem InvD.small {l : List AR} (h : InvD l) : ∀ a ∈ l, smallA a := fun a ha => by
  obtain ⟨i, j, _, _, rfl⟩ := h.is a ha
  exact ⟨by show (fB i).size ≤ _; rw [fB_sz]; omega, by show (tB j).size ≤ _; rw [tB_sz]; omega⟩
theorem small_t (i j : Nat) : smallA ⟨fB i, tB j⟩ := ⟨by show (fB i).size ≤ _; rw [fB_sz]; omega, by show (tB j).size ≤ _; rw [tB_sz]; omega⟩
theorem small_z (i j : Nat) : smallA ⟨fB i, zB j⟩ := ⟨by show (fB i).size ≤ _; rw [fB_sz]; omega, by show (zB j).size ≤ _; rw [zB_sz]; omega⟩
theorem inv_add {l : List AR} (h : InvD l) {i j : Nat} (hi : i < 5) (hj : j < 8) : InvD (addL l ⟨fB i, tB j⟩).1 := by
  unfold addL
  rw [if_neg (by rw [chk_good.2 h.good]; simp), fine_t hi hj, if_neg (by simp)]
  split
  · exact h
  · rename_i hm
    split
    · exact h
    · rename_i h32
      have := h.good.len
      refine ⟨put_good h.good (fine_t hi hj) hm (by omega), fun a ha => ?_⟩
      rcases mem_put.1 ha with rfl | ha
      · exact ⟨i, j, hi, hj, rfl⟩
      · exact h.is a ha
theorem back_l (l : List Law29Deed) (hn : l.length ≤ 60) (hw : ∀ d ∈ l, ub d.From ∧ ub d.To) : ∀ (n k F : Nat) (st : List AR), k + n = l.length → n < F → InvD st → ∃ st' q, p_law29_DirsBack_l1 l F st k = some (st', q) ∧ InvD st'
  | 0, k, F + 1, st, hk, hF, h => by
    rw [p_law29_DirsBack_l1, lt_ff (by omega)]
    exact ⟨_, _, rfl, h⟩
  | n + 1, k, F + 1, st, hk, hF, h => by
    have hlt : k < l.length := by omega
    obtain ⟨h1, h2⟩ := hw _ (List.getElem_mem hlt)
    have hi := Nat.mod_lt l[k].From.toNat (show 0 < 5 by omega)
    have hj := Nat.mod_lt l[k].To.toNat (show 0 < 8 by omega)
    rw [p_law29_DirsBack_l1, lt_tt hlt, at_lt hlt]
    simp only [cond_true, Option.bind_some, letter5 h1, letter8 h2, catF, catT]
    rw [w64_succ (by omega), add_p (by have := h.good.len; omega) h.small (small_t _ _)]
    simp only [Option.bind_some]
    exact back_l l hn hw n (k + 1) F _ (by omega) (by omega) (inv_add h hi hj)
theorem only_p {l : List AR} (hn : l.length ≤ 1000) (hs : ∀ a ∈ l, smallA a) (u t : ByteArray) : p_dirs_Only l u t = some (if chkA l = 0 then (l.filter (fun x => !(((splitE x.From).1.toList == u.toList) && (x.To.toList == t.toList))), ((l.filter (fun x => ((splitE x.From).1.toList == u.toList) && (x.To.toList == t.toList))).length : Int)) else (l, 0)) := by
  unfold p_dirs_Only
  rw [check_p hn hs]
  simp only [Option.bind_some]
  by_cases h : chkA l = 0
  · rw [if_pos h, h, without_p (f := fun x0 => p_dirs_Only_1 x0 u t) (fun x => ((splitE x.From).1.toList == u.toList) && (x.To.toList == t.toList)) hn (fun x hx => by
      unfold p_dirs_Only_1 p_dirs_Arrow_user
      rw [split_p (hs x hx).1]
      simp only [Option.bind_some]
      cases ((splitE x.From).1.toList == u.toList) <;> rfl)]
    simp only [bne_self_eq_false, cond_false, Option.bind_some]
  · rw [if_neg h, chk_ne h]; rfl
theorem filter_len (p : AR → Bool) : ∀ l : List AR, (l.filter (fun x => !p x)).length + (l.filter p).length = l.length
  | [] => rfl
  | a :: l => by
    have := filter_len p l
    simp only [List.filter_cons]
    cases p a <;> simp <;> omega
theorem eqT_ne {a b : ByteArray} (h : a ≠ b) : (a.toList == b.toList) = false := by
  cases hb : (a.toList == b.toList) with
  | false => rfl
  | true => exact absurd (eqT_iff.1 hb) h
theorem dirsBack_pure (l : List Law29Deed) (from_ to : Int) (hw : ∀ d ∈ l, ub d.From ∧ ub d.To) (hf : ub from_) (ht : ub to) : p_law29_DirsBack l from_ to = some true := by
  unfold p_law29_DirsBack
  by_cases h60 : 60 < l.length
  · rw [decide_eq_true (show (60 : Int) < (l.length : Int) by omega), aw29]; rfl
  · rw [decide_eq_false (show ¬ (60 : Int) < (l.length : Int) by omega)]
    obtain ⟨st, q, h1, hinv⟩ := back_l l (by omega) hw l.length 0 fuel [] (by omega) (by have := fuel_pos; omega) ⟨⟨by simp, by simp, by simp⟩, by simp⟩
    have z0 : ((0 : Nat) : Int) = 0 := rfl
    rw [z0] at h1
    rw [h1]
    have hi := Nat.mod_lt from_.toNat (show 0 < 5 by omega)
    have hj := Nat.mod_lt to.toNat (show 0 < 8 by omega)
    have hlen := hinv.good.len
    simp only [cond_false, Option.bind_some, letter5 hf, letter8 ht, catF, catZ, catU]
    generalize from_.toNat % 5 = i at *
    generalize to.toNat % 8 = j at *
    have hn : st.length ≤ 1000 := by omega
    have hc0 := chk_good.2 hinv.good
    have hnm : (⟨fB i, zB j⟩ : AR) ∉ st := fun hm => by
      obtain ⟨i', j', _, _, e⟩ := hinv.is _ hm
      injection e with _ e2
      exact t_ne_z _ _ e2.symm
    have hto : ∀ x ∈ st, (x.To.toList == (zB j).toList) = false := fun x hx => by
      obtain ⟨i', j', _, _, rfl⟩ := hinv.is _ hx
      exact eqT_ne (t_ne_z _ _)
    rw [add_p hn hinv.small (small_z i j)]
    simp only [Option.bind_some]
    have hadd : addL st ⟨fB i, zB j⟩ = if st.length = 32 then (st, 7) else (putA st ⟨fB i, zB j⟩, 0) := by
      unfold addL
      rw [if_neg (by rw [hc0]; simp), fine_z hi hj, if_neg (by simp), if_neg hnm]
    have hx : (addL st ⟨fB i, zB j⟩).1.length ≤ 1000 ∧ ∀ a ∈ (addL st ⟨fB i, zB j⟩).1, smallA a := by
      rw [hadd]
      split
      · exact ⟨hn, hinv.small⟩
      · refine ⟨by rw [put_len]; omega, fun a ha => ?_⟩
        rcases mem_put.1 ha with rfl | ha
        · exact small_z i j
        · exact hinv.small a ha
    rw [del_p hx.1 hx.2, clear_p hn hinv.small, of_p hn hinv.small, only_p hx.1 hx.2]
    simp only [Option.bind_some]
    have e1 : (((clearL st (fB i)).2.length : Int) != ((clearL st (fB i)).2.length : Int)) = false := by simp
    rw [e1, cond_false]
    have e2 : (((clearL st (fB i)).1.length : Int) != w64 ((st.length : Int) - ((clearL st (fB i)).2.length : Int))) = false := by
      unfold clearL
      rw [if_pos hc0]
      have := filter_len (fromA (fB i)) st
      rw [List.length_map, w64_id (by omega)]
      simp
      omega
    rw [e2, cond_false]
    have hz1 : (clearL st (fB i)).1.length ≤ 1000 := (clear_len st (fB i) hn).2
    have hz2 : ∀ a ∈ (clearL st (fB i)).1, smallA a := fun a ha => by
      unfold clearL at ha
      rw [if_pos hc0] at ha
      exact hinv.small a (List.mem_filter.1 ha).1
    rw [of_p hz1 hz2]
    have e3 : (clearL (clearL st (fB i)).1 (fB i)).2 = [] := by
      have hs : (clearL st (fB i)).1.filter (fromA (fB i)) = [] := by
        unfold clearL
        rw [if_pos hc0]
        rw [List.filter_filter]
        exact List.filter_eq_nil_iff.2 fun x _ => by simp
      unfold clearL at hs ⊢
      rw [if_pos hc0] at hs ⊢
      split
      · simp only at hs ⊢
        rw [hs]; rfl
      · rfl
    simp only [Option.bind_some, e3]
    have e4 : ((([] : List ByteArray).length : Int) != 0) = false := rfl
    rw [e4, cond_false, hadd]
    by_cases h32 : st.length = 32
    · rw [if_pos h32, h32, aw29]; rfl
    · rw [if_neg h32]
      have hg := put_good hinv.good (fine_z hi hj) hnm (by omega)
      have hcp := chk_good.2 hg
      simp only [bne_self_eq_false, cond_false]
      unfold delL
      rw [if_pos hcp, if_pos hcp]
      have hisA : isA (fB i) (zB j) ⟨fB i, zB j⟩ = true := by unfold isA; simp
      have hany : (putA st ⟨fB i, zB j⟩).any (isA (fB i) (zB j)) = true := List.any_eq_true.2 ⟨_, mem_put.2 (.inl rfl), hisA⟩
      have hdel : (putA st ⟨fB i, zB j⟩).filter (fun x => !isA (fB i) (zB j) x) = st := filter_put _ (by rw [hisA]; rfl) (fun x hx => by unfold isA; rw [hto x hx]; simp)
      have hus : ((splitE (fB i)).1.toList == (uB i).toList) = true := by rw [fB_split hi]; simp
      have honly : (putA st ⟨fB i, zB j⟩).filter (fun x => !(((splitE x.From).1.toList == (uB i).toList) && (x.To.toList == (zB j).toList))) = st := filter_put _ (by simp only [hus]; simp) (fun x hx => by rw [hto x hx]; simp)
      have hone : ((putA st ⟨fB i, zB j⟩).filter (fun x => ((splitE x.From).1.toList == (uB i).toList) && (x.To.toList == (zB j).toList))).length = 1 := by
        have := filter_len (fun x => ((splitE x.From).1.toList == (uB i).toList) && (x.To.toList == (zB j).toList)) (putA st ⟨fB i, zB j⟩)
        rw [honly, put_len] at this
        omega
      simp only [hany, hdel, cond_true, same_p st hn, Option.bind_some, hone, honly, aw29]
      rfl
end Go.Proofs.Ythmgficajgedlaa
/- DirsBack: what is read of its arguments. -/
namespace Go.Proofs.Ythmgficajgedlaa
open Go.RowKit
theorem ub_of {n : Int} (h : (Lit.int .u8 n).wf = true) : ub n := bounds_u8 h
theorem dirsBack_w (l : List Law29Deed) (f t : Int) (w0 : ∀ z ∈ l, Law29Deed.Wf z) (w1 : (Lit.int .u8 f).wf = true) (w2 : (Lit.int .u8 t).wf = true) : p_law29_DirsBack l f t = some true :=
  dirsBack_pure l f t (fun d hd => ⟨ub_of (w0 d hd).From, ub_of (w0 d hd).To⟩) (ub_of w1) (ub_of w2)
end Go.Proofs.Ythmgficajgedlaa
/- That the program's functions yield what the plain ones tell (written by a program of mine). -/
namespace Go.Proofs.Ythmgficajgedlaa
open Go.RowKit
def gc27 : BCode := (.seq (.reg 0 [⟨(some 0), .mv (.const (.bool false)), none, 0⟩] none 0 []) (.seq (.reg 0 [⟨(some 18), .cl 42 [(.const (.slice none 0 0)), (.const (.string ⟨#[98, 64, 120, 32, 49]⟩)), (.const (.string ⟨#[99, 64, 120]⟩))], none, 0⟩, ⟨(some 17), .mv (.tmp 18), none, 0⟩, ⟨(some 19), .ex (.tmp 17) 0, none, 0⟩, ⟨(some 20), .ex (.tmp 17) 1, none, 0⟩, ⟨(some 1), .mv (.tmp 19), none, 0⟩, ⟨(some 2), .mv (.tmp 20), none, 0⟩] none 0 []) (.seq (.reg 0 [⟨(some 22), .mv (.tmp 1), none, 0⟩, ⟨(some 23), .cl 42 [(.tmp 22), (.const (.string ⟨#[97, 64, 120, 32]⟩)), (.const (.string ⟨#[99, 64, 120]⟩))], none, 0⟩, ⟨(some 21), .mv (.tmp 23), none, 0⟩, ⟨(some 24), .ex (.tmp 21) 0, none, 0⟩, ⟨(some 25), .ex (.tmp 21) 1, none, 0⟩, ⟨(some 3), .mv (.tmp 24), none, 0⟩, ⟨(some 4), .mv (.tmp 25), none, 0⟩] none 0 []) (.seq (.reg 0 [⟨(some 27), .mv (.tmp 3), none, 0⟩, ⟨(some 28), .cl 42 [(.tmp 27), (.const (.string ⟨#[97, 64, 120, 32]⟩)), (.const (.string ⟨#[100, 64, 120]⟩))], none, 0⟩, ⟨(some 26), .mv (.tmp 28), none, 0⟩, ⟨(some 29), .ex (.tmp 26) 0, none, 0⟩, ⟨(some 30), .ex (.tmp 26) 1, none, 0⟩, ⟨(some 5), .mv (.tmp 29), none, 0⟩, ⟨(some 6), .mv (.tmp 30), none, 0⟩] none 0 []) (.seq (.reg 0 [⟨(some 32), .mv (.tmp 5), none, 0⟩, ⟨(some 33), .cl 41 [(.tmp 32), (.const (.string ⟨#[98, 64, 120, 32, 49]⟩)), (.const (.string ⟨#[99, 64, 120]⟩))], none, 0⟩, ⟨(some 31), .mv (.tmp 33), none, 0⟩, ⟨(some 34), .ex (.tmp 31) 0, none, 0⟩, ⟨(some 35), .ex (.tmp 31) 1, none, 0⟩, ⟨(some 7), .mv (.tmp 34), none, 0⟩, ⟨(some 8), .mv (.tmp 35), none, 0⟩] none 0 []) (.seq (.reg 0 [⟨(some 37), .mv (.tmp 7), none, 0⟩, ⟨(some 38), .cl 41 [(.tmp 37), (.const (.string ⟨#[98, 64, 120, 32, 49]⟩)), (.const (.string ⟨#[99, 64, 120]⟩))], none, 0⟩, ⟨(some 36), .mv (.tmp 38), none, 0⟩, ⟨(some 39), .ex (.tmp 36) 0, none, 0⟩, ⟨(some 40), .ex (.tmp 36) 1, none, 0⟩, ⟨(some 9), .mv (.tmp 39), none, 0⟩, ⟨(some 10), .mv (.tmp 40), none, 0⟩] none 0 []) (.seq (.reg 0 [⟨(some 42), .mv (.tmp 5), none, 0⟩, ⟨(some 43), .cl 40 [(.tmp 42), (.const (.string ⟨#[97, 64, 120, 32]⟩))], none, 0⟩, ⟨(some 41), .mv (.tmp 43), none, 0⟩, ⟨(some 44), .ex (.tmp 41) 0, none, 0⟩, ⟨(some 45), .ex (.tmp 41) 1, none, 0⟩, ⟨(some 11), .mv (.tmp 44), none, 0⟩, ⟨(some 12), .mv (.tmp 45), none, 0⟩] none 0 []) (.seq (.reg 0 [⟨(some 47), .mv (.tmp 5), none, 0⟩, ⟨(some 48), .cl 43 [(.tmp 47), (.const (.string ⟨#[98, 64, 120]⟩)), (.const (.string ⟨#[99, 64, 120]⟩))], none, 0⟩, ⟨(some 46), .mv (.tmp 48), none, 0⟩, ⟨(some 49), .ex (.tmp 46) 0, none, 0⟩, ⟨(some 50), .ex (.tmp 46) 1, none, 0⟩, ⟨(some 13), .mv (.tmp 49), none, 0⟩, ⟨(some 14), .mv (.tmp 50), none, 0⟩] none 0 []) (.seq (.reg 0 [⟨(some 52), .mv (.tmp 5), none, 0⟩, ⟨(some 53), .cl 42 [(.tmp 52), (.const (.string ⟨#[97]⟩)), (.const (.string ⟨#[100, 64, 120]⟩))], none, 0⟩, ⟨(some 51), .mv (.tmp 53), none, 0⟩, ⟨(some 54), .ex (.tmp 51) 0, none, 0⟩, ⟨(some 55), .ex (.tmp 51) 1, none, 0⟩, ⟨(some 15), .mv (.tmp 54), none, 0⟩, ⟨(some 16), .mv (.tmp 55), none, 0⟩] none 0 []) (.seq (.reg 4 [⟨(some 56), .mv (.tmp 2), none, 0⟩, ⟨(some 57), .bin .eql (.tmp 56) (.const (.int .i64 0)), none, 0⟩, ⟨(some 58), .mv (.tmp 57), none, 0⟩, ⟨(some 59), .mv (.tmp 4), (some (58, true)), 0⟩, ⟨(some 60), .bin .eql (.tmp 59) (.const (.int .i64 0)), (some (58, true)), 0⟩, ⟨(some 61), .pick (.tmp 58) (.tmp 60) (.const (.bool false)), none, 0⟩, ⟨(some 62), .mv (.tmp 61), none, 0⟩, ⟨(some 63), .mv (.tmp 6), (some (62, true)), 0⟩, ⟨(some 64), .bin .eql (.tmp 63) (.const (.int .i64 0)), (some (62, true)), 0⟩, ⟨(some 65), .pick (.tmp 62) (.tmp 64) (.const (.bool false)), none, 0⟩, ⟨(some 66), .mv (.tmp 65), none, 0⟩, ⟨(some 67), .mv (.tmp 8), (some (66, true)), 0⟩, ⟨(some 68), .pick (.tmp 66) (.tmp 67) (.const (.bool false)), none, 0⟩, ⟨(some 69), .mv (.tmp 68), none, 0⟩, ⟨(some 70), .mv (.tmp 10), (some (69, true)), 0⟩, ⟨(some 71), .un .not (.tmp 70), (some (69, true)), 0⟩, ⟨(some 72), .pick (.tmp 69) (.tmp 71) (.const (.bool false)), none, 0⟩, ⟨(some 73), .mv (.tmp 72), none, 0⟩, ⟨(some 74), .mv (.tmp 12), (some (73, true)), 0⟩, ⟨(some 75), .bs 1 2 [(.lit (.string ⟨#[]⟩)), (.lit (.string ⟨#[]⟩))] [(0, (.const (.string ⟨#[99, 64, 120]⟩))), (1, (.const (.string ⟨#[100, 64, 120]⟩)))], (some (73, true)), 0⟩, ⟨(some 76), .cl 31 [(.tmp 74), (.tmp 75)], (some (73, true)), 1⟩, ⟨(some 77), .pick (.tmp 73) (.tmp 76) (.const (.bool false)), none, 1⟩, ⟨(some 78), .mv (.tmp 77), none, 1⟩, ⟨(some 79), .mv (.tmp 11), (some (78, true)), 1⟩, ⟨(some 80), .lens (.tmp 79), (some (78, true)), 1⟩, ⟨(some 81), .bin .eql (.tmp 80) (.const (.int .i64 1)), (some (78, true)), 1⟩, ⟨(some 82), .pick (.tmp 78) (.tmp 81) (.const (.bool false)), none, 1⟩, ⟨(some 83), .mv (.tmp 82), none, 1⟩, ⟨(some 84), .mv (.tmp 14), (some (83, true)), 1⟩, ⟨(some 85), .bin .eql (.tmp 84) (.const (.int .i64 1)), (some (83, true)), 1⟩, ⟨(some 86), .pick (.tmp 83) (.tmp 85) (.const (.bool false)), none, 1⟩, ⟨(some 87), .mv (.tmp 86), none, 1⟩, ⟨(some 88), .mv (.tmp 13), (some (87, true)), 1⟩, ⟨(some 89), .mv (.tmp 7), (some (87, true)), 1⟩, ⟨(some 90), .cl 38 [(.tmp 88), (.tmp 89)], (some (87, true)), 1⟩, ⟨(some 91), .pick (.tmp 87) (.tmp 90) (.const (.bool false)), none, 1⟩, ⟨(some 92), .mv (.tmp 91), none, 1⟩, ⟨(some 93), .mv (.tmp 16), (some (92, true)), 1⟩, ⟨(some 94), .bin .eql (.tmp 93) (.const (.int .i64 11)), (some (92, true)), 1⟩, ⟨(some 95), .pick (.tmp 92) (.tmp 94) (.const (.bool false)), none, 1⟩, ⟨(some 96), .mv (.tmp 95), none, 1⟩, ⟨(some 97), .mv (.tmp 5), (some (96, true)), 1⟩, ⟨(some 98), .cl 34 [(.tmp 97), (.const (.string ⟨#[99, 64, 120]⟩))], (some (96, true)), 1⟩, ⟨(some 99), .bs 1 2 [(.lit (.string ⟨#[]⟩)), (.lit (.string ⟨#[]⟩))] [(0, (.const (.string ⟨#[97, 64, 120, 32]⟩))), (1, (.const (.string ⟨#[98, 64, 120, 32, 49]⟩)))], (some (96, true)), 1⟩, ⟨(some 100), .cl 31 [(.tmp 98), (.tmp 99)], (some (96, true)), 2⟩, ⟨(some 101), .pick (.tmp 96) (.tmp 100) (.const (.bool false)), none, 2⟩, ⟨(some 102), .mv (.tmp 101), none, 2⟩, ⟨(some 103), .mv (.tmp 5), (some (102, true)), 2⟩, ⟨(some 104), .cl 32 [(.tmp 103), (.const (.string ⟨#[97, 64, 120, 32]⟩))], (some (102, true)), 2⟩, ⟨(some 105), .bs 1 2 [(.lit (.string ⟨#[]⟩)), (.lit (.string ⟨#[]⟩))] [(0, (.const (.string ⟨#[99, 64, 120]⟩))), (1, (.const (.string ⟨#[100, 64, 120]⟩)))], (some (102, true)), 2⟩, ⟨(some 106), .cl 31 [(.tmp 104), (.tmp 105)], (some (102, true)), 3⟩, ⟨(some 107), .pick (.tmp 102) (.tmp 106) (.const (.bool false)), none, 3⟩, ⟨(some 108), .mv (.tmp 107), none, 3⟩, ⟨(some 109), .mv (.tmp 5), (some (108, true)), 3⟩, ⟨(some 110), .cl 36 [(.tmp 109), (.const (.string ⟨#[97, 64, 120, 32]⟩)), (.const (.string ⟨#[100, 64, 120]⟩))], (some (108, true)), 3⟩, ⟨(some 111), .pick (.tmp 108) (.tmp 110) (.const (.bool false)), none, 3⟩, ⟨(some 112), .mv (.tmp 111), none, 3⟩, ⟨(some 113), .mv (.tmp 5), (some (112, true)), 3⟩, ⟨(some 114), .cl 36 [(.tmp 113), (.const (.string ⟨#[98, 64, 120, 32, 49]⟩)), (.const (.string ⟨#[100, 64, 120]⟩))], (some (112, true)), 3⟩, ⟨(some 115), .un .not (.tmp 114), (some (112, true)), 3⟩, ⟨(some 116), .pick (.tmp 112) (.tmp 115) (.const (.bool false)), none, 3⟩, ⟨(some 117), .mv (.tmp 116), none, 3⟩, ⟨(some 118), .mv (.tmp 5), (some (117, true)), 3⟩, ⟨(some 119), .cl 29 [(.tmp 118)], (some (117, true)), 3⟩, ⟨(some 120), .bin .eql (.tmp 119) (.const (.int .i64 0)), (some (117, true)), 3⟩, ⟨(some 121), .pick (.tmp 117) (.tmp 120) (.const (.bool false)), none, 3⟩, ⟨(some 122), .mv (.tmp 121), none, 3⟩, ⟨(some 123), .bd [(.lit (.string ⟨#[]⟩)), (.lit (.string ⟨#[]⟩))] [], (some (122, true)), 3⟩, ⟨(some 124), .bs 2 1 [(.lit (.string ⟨#[]⟩)), (.lit (.string ⟨#[]⟩))] [(0, (.tmp 123))], (some (122, true)), 3⟩, ⟨(some 125), .cl 29 [(.tmp 124)], (some (122, true)), 4⟩, ⟨(some 126), .bin .eql (.tmp 125) (.const (.int .i64 11)), (some (122, true)), 4⟩, ⟨(some 127), .pick (.tmp 122) (.tmp 126) (.const (.bool false)), none, 4⟩, ⟨(some 128), .mv (.tmp 127), none, 4⟩, ⟨(some 129), .mv (.tmp 5), (some (128, true)), 4⟩, ⟨(some 130), .mv (.tmp 7), (some (128, true)), 4⟩, ⟨(some 131), .cl 38 [(.tmp 129), (.tmp 130)], (some (128, true)), 4⟩, ⟨(some 132), .un .not (.tmp 131), (some (128, true)), 4⟩, ⟨(some 133), .pick (.tmp 128) (.tmp 132) (.const (.bool false)), none, 4⟩, ⟨(some 134), .mv (.tmp 133), none, 4⟩, ⟨(some 135), .pick (.tmp 134) (.const (.bool true)) (.const (.bool false)), none, 4⟩, ⟨(some 136), .mv (.tmp 135), none, 4⟩, ⟨(some 137), .pick (.tmp 136) (.const (.bool true)) (.const (.bool false)), none, 4⟩, ⟨(some 0), .mv (.tmp 137), none, 4⟩] none 0 []) .ret))))))))))
set_option maxRecDepth 1000000 in
theorem gc27_ok : compF Try.prog Try.f27 = some (gc27.er, 138, [.tmp 0]) := by unfold gc27; kernel_rfl
set_option maxRecDepth 100000 in
set_option maxHeartbeats 4000000 in
theorem p_law29_awake_v : CallsO Try.prog 27 [] V.b (p_law29_awake) := by
  refine callsO_comp mix Try.func27 gc27_ok fun r H => ?_
  rw [p_law29_awake] at H
  conv => whnf
  refine ask_c (p_dirs_Add_v _ _ _) H rfl rfl (fun v1 H => ?_); conv => whnf
  refine ask_c (p_dirs_Add_v _ _ _) H rfl rfl (fun v2 H => ?_); conv => whnf
  refine ask_c (p_dirs_Add_v _ _ _) H rfl rfl (fun v3 H => ?_); conv => whnf
  refine ask_c (p_dirs_Del_v _ _ _) H rfl rfl (fun v4 H => ?_); conv => whnf
  refine ask_c (p_dirs_Del_v _ _ _) H rfl rfl (fun v5 H => ?_); conv => whnf
  refine ask_c (p_dirs_Clear_v _ _) H rfl rfl (fun v6 H => ?_); conv => whnf
  refine ask_c (p_dirs_Only_v _ _ _) H rfl rfl (fun v7 H => ?_); conv => whnf
  refine ask_c (p_dirs_Add_v _ _ _) H rfl rfl (fun v8 H => ?_); conv => whnf
  refine tst_d H (fun b9 H => ?_) (fun b9 H => ?_)
  · conv => whnf
    iterate 61 (refine Tst.F ?_; conv => whnf)
    exact fin0_c (enc := V.b) H (.inr rfl) (.cons (.tmp rfl) (.nil)) rfl rfl
  conv => whnf
  iterate 2 (refine Tst.T ?_; conv => whnf)
  refine tst_d H (fun b10 H => ?_) (fun b10 H => ?_)
  · conv => whnf
    iterate 58 (refine Tst.F ?_; conv => whnf)
    exact fin0_c (enc := V.b) H (.inr rfl) (.cons (.tmp rfl) (.nil)) rfl rfl
  conv => whnf
  iterate 2 (refine Tst.T ?_; conv => whnf)
  refine tst_d H (fun b11 H => ?_) (fun b11 H => ?_)
  · conv => whnf
    iterate 55 (refine Tst.F ?_; conv => whnf)
    exact fin0_c (enc := V.b) H (.inr rfl) (.cons (.tmp rfl) (.nil)) rfl rfl
  conv => whnf
  refine Tst.T ?_; conv => whnf
  refine tst_d H (fun b12 H => ?_) (fun b12 H => ?_)
  · conv => whnf
    iterate 53 (refine Tst.F ?_; conv => whnf)
    exact fin0_c (enc := V.b) H (.inr rfl) (.cons (.tmp rfl) (.nil)) rfl rfl
  conv => whnf
  iterate 2 (refine Tst.T ?_; conv => whnf)
  refine Tst.not ?_
  refine tst_c H (fun b13 H => ?_) (fun b13 H => ?_)
  · conv => whnf
    iterate 50 (refine Tst.F ?_; conv => whnf)
    exact fin0_c (enc := V.b) H (.inr rfl) (.cons (.tmp rfl) (.nil)) rfl rfl
  conv => whnf
  iterate 2 (refine Tst.T ?_; conv => whnf)
  refine askF_c (p_ref01_SameTexts_v _ _) H (.cons (.c (.id rfl)) (.cons (.c (fzown (f := V.s) (l := [(⟨#[99, 64, 120]⟩ : ByteArray), (⟨#[100, 64, 120]⟩ : ByteArray)]) rfl rfl (fun _ => rfl) (fun _ => rfl))) (.nil))) (fun v14 H => ?_); conv => whnf
  refine Tst.T ?_; conv => whnf
  refine tst_d H (fun b15 H => ?_) (fun b15 H => ?_)
  · conv => whnf
    iterate 46 (refine Tst.F ?_; conv => whnf)
    exact fin0_c (enc := V.b) H (.inr rfl) (.cons (.tmp rfl) (.nil)) rfl rfl
  conv => whnf
  refine Tst.T ?_; conv => whnf
  refine LenQ.M ?_; conv => whnf
  iterate 2 (refine Tst.T ?_; conv => whnf)
  refine tst_d H (fun b16 H => ?_) (fun b16 H => ?_)
  · conv => whnf
    iterate 42 (refine Tst.F ?_; conv => whnf)
    exact fin0_c (enc := V.b) H (.inr rfl) (.cons (.tmp rfl) (.nil)) rfl rfl
  conv => whnf
  iterate 2 (refine Tst.T ?_; conv => whnf)
  refine tst_d H (fun b17 H => ?_) (fun b17 H => ?_)
  · conv => whnf
    iterate 39 (refine Tst.F ?_; conv => whnf)
    exact fin0_c (enc := V.b) H (.inr rfl) (.cons (.tmp rfl) (.nil)) rfl rfl
  conv => whnf
  iterate 2 (refine Tst.T ?_; conv => whnf)
  refine ask_c (p_dirs_Same_v _ _) H rfl rfl (fun v18 H => ?_); conv => whnf
  refine Tst.T ?_; conv => whnf
  refine tst_d H (fun b19 H => ?_) (fun b19 H => ?_)
  · conv => whnf
    iterate 35 (refine Tst.F ?_; conv => whnf)
    exact fin0_c (enc := V.b) H (.inr rfl) (.cons (.tmp rfl) (.nil)) rfl rfl
  conv => whnf
  iterate 2 (refine Tst.T ?_; conv => whnf)
  refine tst_d H (fun b20 H => ?_) (fun b20 H => ?_)
  · conv => whnf
    iterate 32 (refine Tst.F ?_; conv => whnf)
    exact fin0_c (enc := V.b) H (.inr rfl) (.cons (.tmp rfl) (.nil)) rfl rfl
  conv => whnf
  refine Tst.T ?_; conv => whnf
  refine ask_c (p_dirs_Keys_v _ _) H rfl rfl (fun v21 H => ?_); conv => whnf
  iterate 2 (refine Tst.T ?_; conv => whnf)
  refine askF_c (p_ref01_SameTexts_v _ _) H (.cons (.c (.id rfl)) (.cons (.c (fzown (f := V.s) (l := [(⟨#[97, 64, 120, 32]⟩ : ByteArray), (⟨#[98, 64, 120, 32, 49]⟩ : ByteArray)]) rfl rfl (fun _ => rfl) (fun _ => rfl))) (.nil))) (fun v22 H => ?_); conv => whnf
  refine Tst.T ?_; conv => whnf
  refine tst_d H (fun b23 H => ?_) (fun b23 H => ?_)
  · conv => whnf
    iterate 27 (refine Tst.F ?_; conv => whnf)
    exact fin0_c (enc := V.b) H (.inr rfl) (.cons (.tmp rfl) (.nil)) rfl rfl
  conv => whnf
  refine Tst.T ?_; conv => whnf
  refine ask_c (p_dirs_Of_v _ _) H rfl rfl (fun v24 H => ?_); conv => whnf
  iterate 2 (refine Tst.T ?_; conv => whnf)
  refine askF_c (p_ref01_SameTexts_v _ _) H (.cons (.c (.id rfl)) (.cons (.c (fzown (f := V.s) (l := [(⟨#[99, 64, 120]⟩ : ByteArray), (⟨#[100, 64, 120]⟩ : ByteArray)]) rfl rfl (fun _ => rfl) (fun _ => rfl))) (.nil))) (fun v25 H => ?_); conv => whnf
  refine Tst.T ?_; conv => whnf
  refine tst_d H (fun b26 H => ?_) (fun b26 H => ?_)
  · conv => whnf
    iterate 22 (refine Tst.F ?_; conv => whnf)
    exact fin0_c (enc := V.b) H (.inr rfl) (.cons (.tmp rfl) (.nil)) rfl rfl
  conv => whnf
  refine Tst.T ?_; conv => whnf
  refine ask_c (p_dirs_Has_v _ _ _) H rfl rfl (fun v27 H => ?_); conv => whnf
  refine Tst.T ?_; conv => whnf
  refine tst_d H (fun b28 H => ?_) (fun b28 H => ?_)
  · conv => whnf
    iterate 19 (refine Tst.F ?_; conv => whnf)
    exact fin0_c (enc := V.b) H (.inr rfl) (.cons (.tmp rfl) (.nil)) rfl rfl
  conv => whnf
  refine Tst.T ?_; conv => whnf
  refine ask_c (p_dirs_Has_v _ _ _) H rfl rfl (fun v29 H => ?_); conv => whnf
  iterate 2 (refine Tst.T ?_; conv => whnf)
  refine Tst.not ?_
  refine tst_c H (fun b30 H => ?_) (fun b30 H => ?_)
  · conv => whnf
    iterate 15 (refine Tst.F ?_; conv => whnf)
    exact fin0_c (enc := V.b) H (.inr rfl) (.cons (.tmp rfl) (.nil)) rfl rfl
  conv => whnf
  refine Tst.T ?_; conv => whnf
  refine ask_c (p_dirs_Check_v _) H rfl rfl (fun v31 H => ?_); conv => whnf
  iterate 2 (refine Tst.T ?_; conv => whnf)
  refine tst_d H (fun b32 H => ?_) (fun b32 H => ?_)
  · conv => whnf
    iterate 11 (refine Tst.F ?_; conv => whnf)
    exact fin0_c (enc := V.b) H (.inr rfl) (.cons (.tmp rfl) (.nil)) rfl rfl
  conv => whnf
  iterate 2 (refine Tst.T ?_; conv => whnf)
  refine askF_c (p_dirs_Check_v _) H (.cons (.c (fzown (f := Ref29Arrow.v) (l := [(Ref29Arrow.mk (⟨#[]⟩ : ByteArray) (⟨#[]⟩ : ByteArray))]) rfl rfl (fun _ => rfl) (fun _ => rfl))) (.nil)) (fun v33 H => ?_); conv => whnf
  iterate 2 (refine Tst.T ?_; conv => whnf)
  refine tst_d H (fun b34 H => ?_) (fun b34 H => ?_)
  · conv => whnf
    iterate 6 (refine Tst.F ?_; conv => whnf)
    exact fin0_c (enc := V.b) H (.inr rfl) (.cons (.tmp rfl) (.nil)) rfl rfl
  conv => whnf
  iterate 2 (refine Tst.T ?_; conv => whnf)
  refine ask_c (p_dirs_Same_v _ _) H rfl rfl (fun v35 H => ?_); conv => whnf
  iterate 2 (refine Tst.T ?_; conv => whnf)
  refine Tst.not ?_
  refine tst_c H (fun b36 H => ?_) (fun b36 H => ?_)
  · conv => whnf
    refine Tst.F ?_; conv => whnf
    exact fin0_c (enc := V.b) H (.inr rfl) (.cons (.tmp rfl) (.nil)) rfl rfl
  conv => whnf
  refine Tst.T ?_; conv => whnf
  exact fin0_c (enc := V.b) H (.inr rfl) (.cons (.tmp rfl) (.nil)) rfl rfl
def gc28 : BCode := (.seq (.reg 0 [⟨(some 2), .mv (.const (.slice none 0 0)), none, 0⟩] none 0 []) (.seq (.reg 0 [⟨(some 3), .mv (.const (.slice none 0 0)), none, 0⟩] none 0 []) (.seq (.seq (.reg 0 [⟨(some 4), .mv (.const (.int .i64 0)), none, 0⟩] none 0 []) (.block 0 (.loop (.seq (.seq (.reg 0 [⟨(some 5), .mv (.tmp 4), none, 0⟩, ⟨(some 6), .mv (.tmp 0), none, 0⟩, ⟨(some 7), .lens (.tmp 6), none, 0⟩, ⟨(some 8), .bin .lss (.tmp 5) (.tmp 7), none, 0⟩] none 0 []) (.cond (.tmp 8) .skip (.exit 0))) (.seq (.block 1 (.reg 2 [⟨(some 11), .mv (.tmp 3), none, 0⟩, ⟨(some 12), .mv (.tmp 0), none, 0⟩, ⟨(some 13), .mv (.tmp 4), none, 0⟩, ⟨(some 14), .ixs 2 (.tmp 12) (.tmp 13), none, 0⟩, ⟨(some 15), .ld 2 true (.tmp 14), none, 0⟩, ⟨(some 16), .bs 2 1 [(.lit (.string ⟨#[]⟩)), (.lit (.string ⟨#[]⟩))] [(0, (.tmp 15))], none, 0⟩, ⟨(some 17), .ap 2 32 (.tmp 11) (.tmp 16), none, 1⟩, ⟨(some 3), .mv (.tmp 17), none, 2⟩] none 0 [])) (.reg 0 [⟨(some 9), .mv (.tmp 4), none, 0⟩, ⟨(some 10), .bin .add (.tmp 9) (.const (.int .i64 1)), none, 0⟩, ⟨(some 4), .mv (.tmp 10), none, 0⟩] none 0 [])))))) (.seq (.reg 0 [⟨(some 18), .mv (.tmp 3), none, 0⟩, ⟨(some 2), .mv (.tmp 18), none, 0⟩] none 0 []) .ret))))
theorem gc28_ok : compF Try.prog Try.f28 = some (gc28.er, 19, [.tmp 2]) := by unfold gc28; kernel_rfl
set_option maxRecDepth 100000 in
set_option maxHeartbeats 4000000 in
theorem p_law29_own_v {u1 : Bool} (a0 : List Ref29Arrow) : CallsO Try.prog 28 [.sl (List.map Ref29Arrow.v a0) u1] (fun l : List Ref29Arrow => V.sl (l.map Ref29Arrow.v) false) (p_law29_own a0) := by
  refine callsO_comp mix Try.func28 gc28_ok fun r H => ?_
  rw [p_law29_own] at H
  conv => whnf
  obtain ⟨o2, HL3, HQ4⟩ := bind_c H
  refine loop_c [3, 4] [5, 6, 7, 8, 9, 10, 11, 12, 13, 14, 15, 16, 17] [5, 6, 7, 8, 9, 10, 11, 12, 13, 14, 15, 16, 17] (fun n vals st => (∃ y6, p_law29_own_l1  a0 n [] y6 = some o2 ∧ vals = [.sl (List.map Ref29Arrow.v []) true, .i y6] ∧ st = []) ∨ (∃ y10 y11, p_law29_own_l1  a0 n y10 y11 = some o2 ∧ vals = [.osl 0 0 (List.length y10) 2 false, .i y11] ∧ st = [.live (cellsM Ref29Arrow.v y10) (cellsM Ref29Arrow.v y10).length])) fuel 0 [] (.inl (⟨_, HL3, rfl, rfl⟩)) (Nat.zero_le _) rfl (by kernel_rfl) (by kernel_rfl) rfl trivial ?_
  rintro (_ | n5) _ _ (⟨y6, H, rfl, rfl⟩ | ⟨y10, y11, H, rfl, rfl⟩)
  · rw [p_law29_own_l1] at H; cases H
  · rw [p_law29_own_l1] at H; cases H
  · rw [p_law29_own_l1] at H
    conv => whnf
    refine LenQ.M ?_; conv => whnf
    refine tst_d H (fun b7 H => ?_) (fun b7 H => ?_)
    · conv => whnf
      obtain rfl := Option.some.inj H
      have H := HQ4
      try dsimp only at H
      refine finR_c (enc := (fun l : List Ref29Arrow => V.sl (l.map Ref29Arrow.v) false)) H ?_; conv => whnf
      exact ⟨_, .v (.c (.slw))⟩
    conv => whnf
    refine ixs_c (f := Ref29Arrow.v) H (fun _ => rfl) (fun x8 H => ?_); conv => whnf
    refine appN_c (f := Ref29Arrow.v) H (fun _ => rfl) (srcM (f := Ref29Arrow.v) (fun _ => rfl) _ _) rfl (.v (srcOwn (f := Ref29Arrow.v) (l := [x8]) (fun _ => rfl) rfl rfl rfl)) (by decide) rfl (by simp) (fun l9 H => ?_); conv => whnf
    refine Ari.w ?_; conv => whnf
    exact again_c [5, 6, 7, 8, 9, 10, 11, 12, 13, 14, 15, 16, 17] n5 1 [1] (.inr (⟨_, _, H, rfl, rfl⟩)) (Nat.lt_succ_self _) (Nat.zero_le _) rfl (by kernel_rfl) (by kernel_rfl) rfl (wkB_live0 rfl (cellsM_idlt (f := Ref29Arrow.v) (fun _ => rfl) _) rfl trivial)
  rw [p_law29_own_l1] at H
  conv => whnf
  refine LenQ.M ?_; conv => whnf
  refine tst_d H (fun b12 H => ?_) (fun b12 H => ?_)
  · conv => whnf
    obtain rfl := Option.some.inj H
    have H := HQ4
    try dsimp only at H
    refine finR_c (enc := (fun l : List Ref29Arrow => V.sl (l.map Ref29Arrow.v) false)) H ?_; conv => whnf
    exact ⟨_, .v (.c (fzown (f := Ref29Arrow.v) (l := y10) rfl rfl (fun _ => rfl) (fun _ => rfl)))⟩
  conv => whnf
  refine ixs_c (f := Ref29Arrow.v) H (fun _ => rfl) (fun x13 H => ?_); conv => whnf
  refine appO_c (f := Ref29Arrow.v) H (fun _ => rfl) rfl (Nat.le_refl _) (.v (srcOwn (f := Ref29Arrow.v) (l := [x13]) (fun _ => rfl) rfl rfl rfl)) (by decide) rfl (by simp) (fun l14 H => ?_); conv => whnf
  refine Ari.w ?_; conv => whnf
  exact again_c [5, 6, 7, 8, 9, 10, 11, 12, 13, 14, 15, 16, 17] n5 1 [2] (.inr (⟨_, _, H, rfl, rfl⟩)) (Nat.lt_succ_self _) (Nat.zero_le _) rfl (by kernel_rfl) (by kernel_rfl) rfl (wkB_live0 rfl (cellsM_idlt (f := Ref29Arrow.v) (fun _ => rfl) _) rfl trivial)
def gc122 : BCode := (.seq (.reg 0 [⟨(some 2), .mv (.const (.string ⟨#[]⟩)), none, 0⟩, ⟨(some 3), .mv (.const (.string ⟨#[]⟩)), none, 0⟩, ⟨(some 4), .mv (.const (.int .i64 0)), none, 0⟩] none 0 []) (.seq (.reg 0 [⟨(some 5), .mv (.const (.int .i64 0)), none, 0⟩] none 0 []) (.seq (.block 0 (.loop (.seq (.seq (.reg 0 [⟨(some 8), .mv (.tmp 5), none, 0⟩, ⟨(some 9), .mv (.tmp 0), none, 0⟩, ⟨(some 10), .lent (.tmp 9), none, 0⟩, ⟨(some 11), .bin .lss (.tmp 8) (.tmp 10), none, 0⟩, ⟨(some 12), .mv (.tmp 11), none, 0⟩, ⟨(some 13), .mv (.tmp 0), (some (12, true)), 0⟩, ⟨(some 14), .mv (.tmp 5), (some (12, true)), 0⟩, ⟨(some 15), .ixt (.tmp 13) (.tmp 14), (some (12, true)), 0⟩, ⟨(some 16), .bin .neq (.tmp 15) (.const (.int .u8 32)), (some (12, true)), 0⟩, ⟨(some 17), .pick (.tmp 12) (.tmp 16) (.const (.bool false)), none, 0⟩] none 0 []) (.cond (.tmp 17) .skip (.exit 0))) (.block 1 (.reg 0 [⟨(some 18), .mv (.tmp 5), none, 0⟩, ⟨(some 19), .bin .add (.tmp 18) (.const (.int .i64 1)), none, 0⟩, ⟨(some 5), .mv (.tmp 19), none, 0⟩] none 0 []))))) (.seq (.seq (.reg 0 [⟨(some 20), .mv (.tmp 5), none, 0⟩, ⟨(some 21), .mv (.tmp 0), none, 0⟩, ⟨(some 22), .lent (.tmp 21), none, 0⟩, ⟨(some 23), .bin .eql (.tmp 20) (.tmp 22), none, 0⟩] none 0 []) (.cond (.tmp 23) (.seq (.reg 0 [⟨(some 2), .mv (.const (.string ⟨#[]⟩)), none, 0⟩, ⟨(some 3), .mv (.const (.string ⟨#[]⟩)), none, 0⟩, ⟨(some 4), .mv (.const (.int .i64 4)), none, 0⟩] none 0 []) .ret) .skip)) (.seq (.reg 0 [⟨(some 24), .mv (.tmp 0), none, 0⟩, ⟨(some 25), .mv (.tmp 5), none, 0⟩, ⟨(some 26), .slt (.tmp 24) none (some (.tmp 25)), none, 0⟩, ⟨(some 27), .mv (.tmp 0), none, 0⟩, ⟨(some 28), .mv (.tmp 5), none, 0⟩, ⟨(some 29), .bin .add (.tmp 28) (.const (.int .i64 1)), none, 0⟩, ⟨(some 30), .slt (.tmp 27) (some (.tmp 29)) none, none, 0⟩, ⟨(some 6), .mv (.tmp 26), none, 0⟩, ⟨(some 7), .mv (.tmp 30), none, 0⟩] (some [[], [], [1, 0], [], [], [4], [4, 5, 3], [0, 1, 2], [2, 1, 0, 7, 3, 5, 4, 6]]) 0 []) (.seq (.block 2 (.seq (.reg 0 [⟨(some 32), .mv (.tmp 6), none, 0⟩, ⟨(some 33), .cl 123 [(.tmp 32)], none, 0⟩, ⟨(some 34), .un .not (.tmp 33), none, 0⟩, ⟨(some 31), .mv (.tmp 34), none, 0⟩] none 0 []) (.cond (.tmp 31) (.seq (.reg 0 [⟨(some 2), .mv (.const (.string ⟨#[]⟩)), none, 0⟩, ⟨(some 3), .mv (.const (.string ⟨#[]⟩)), none, 0⟩, ⟨(some 4), .mv (.const (.int .i64 11)), none, 0⟩] none 0 []) .ret) (.seq (.reg 0 [⟨(some 36), .mv (.tmp 7), none, 0⟩, ⟨(some 37), .cl 160 [(.tmp 36)], none, 0⟩, ⟨(some 38), .bin .neq (.tmp 37) (.const (.int .i64 0)), none, 0⟩, ⟨(some 35), .mv (.tmp 38), none, 0⟩] none 0 []) (.cond (.tmp 35) (.seq (.reg 0 [⟨(some 39), .mv (.tmp 7), none, 0⟩, ⟨(some 40), .cl 160 [(.tmp 39)], none, 0⟩, ⟨(some 2), .mv (.const (.string ⟨#[]⟩)), none, 0⟩, ⟨(some 3), .mv (.const (.string ⟨#[]⟩)), none, 0⟩, ⟨(some 4), .mv (.tmp 40), none, 0⟩] none 0 []) .ret) .skip))))) (.seq (.reg 0 [⟨(some 41), .mv (.tmp 6), none, 0⟩, ⟨(some 42), .mv (.tmp 7), none, 0⟩, ⟨(some 2), .mv (.tmp 41), none, 0⟩, ⟨(some 3), .mv (.tmp 42), none, 0⟩, ⟨(some 4), .mv (.const (.int .i64 0)), none, 0⟩] none 0 []) .ret)))))))
theorem gc122_ok : compF Try.prog Try.f122 = some (gc122.er, 43, [.tmp 2, .tmp 3, .tmp 4]) := by unfold gc122; kernel_rfl
set_option maxRecDepth 100000 in
set_option maxHeartbeats 4000000 in
theorem p_ref23_Split_v (a0 : ByteArray) : CallsO Try.prog 122 [.s a0] (fun r : ByteArray × ByteArray × Int => .tup [V.s r.1, V.s r.2.1, V.i r.2.2]) (p_ref23_Split a0) := by
  refine callsO_comp mix Try.func122 gc122_ok fun r H => ?_
  rw [p_ref23_Split] at H
  conv => whnf
  obtain ⟨o2, HL3, HQ4⟩ := bind_c H
  refine loop_c [5] [8, 9, 10, 11, 12, 13, 14, 15, 16, 17, 18, 19] [8, 9, 10, 11, 12, 13, 14, 15, 16, 17, 18, 19] (fun n vals st => (∃ y6, p_ref23_Split_l1  a0 n y6 = some o2 ∧ vals = [.i y6] ∧ st = [])) fuel 0 [] (⟨_, HL3, rfl, rfl⟩) (Nat.zero_le _) rfl (by kernel_rfl) (by kernel_rfl) rfl trivial ?_
  rintro (_ | n5) _ _ (⟨y6, H, rfl, rfl⟩)
  · rw [p_ref23_Split_l1] at H; cases H
  rw [p_ref23_Split_l1] at H
  conv => whnf
  refine tst_d H (fun b7 H => ?_) (fun b7 H => ?_)
  · conv => whnf
    iterate 5 (refine Tst.F ?_; conv => whnf)
    obtain rfl := Option.some.inj H
    have H := HQ4
    try dsimp only at H
    refine tst_c H (fun b18 H => ?_) (fun b18 H => ?_)
    · conv => whnf
      exact fin0_c (enc := (fun r : ByteArray × ByteArray × Int => .tup [V.s r.1, V.s r.2.1, V.i r.2.2])) H (.inr rfl) (.cons (.tmp rfl) (.cons (.tmp rfl) (.cons (.tmp rfl) (.nil)))) rfl rfl
    conv => whnf
    refine slt_c H (fun s19 H => ?_); conv => whnf
    refine Ari.w ?_; conv => whnf
    refine slt_c H (fun s20 H => ?_); conv => whnf
    refine FootQ.mk ⟨rfl, ?_⟩; conv => whnf
    refine ask_c (p_ref09_IsBare_v _) H rfl rfl (fun v21 H => ?_); conv => whnf
    refine Tst.not ?_
    refine tst_d H (fun b22 H => ?_) (fun b22 H => ?_)
    · conv => whnf
      exact fin0_c (enc := (fun r : ByteArray × ByteArray × Int => .tup [V.s r.1, V.s r.2.1, V.i r.2.2])) H (.inr rfl) (.cons (.tmp rfl) (.cons (.tmp rfl) (.cons (.tmp rfl) (.nil)))) rfl rfl
    conv => whnf
    refine ask_c (p_ref09_Resource_v _) H rfl rfl (fun v23 H => ?_); conv => whnf
    refine tst_d H (fun b24 H => ?_) (fun b24 H => ?_)
    · conv => whnf
      exact fin0_c (enc := (fun r : ByteArray × ByteArray × Int => .tup [V.s r.1, V.s r.2.1, V.i r.2.2])) H (.inr rfl) (.cons (.tmp rfl) (.cons (.tmp rfl) (.cons (.tmp rfl) (.nil)))) rfl rfl
    conv => whnf
    refine ask_c (p_ref09_Resource_v _) H rfl rfl (fun v25 H => ?_); conv => whnf
    exact fin0_c (enc := (fun r : ByteArray × ByteArray × Int => .tup [V.s r.1, V.s r.2.1, V.i r.2.2])) H (.inr rfl) (.cons (.tmp rfl) (.cons (.tmp rfl) (.cons (.tmp rfl) (.nil)))) rfl rfl
  conv => whnf
  iterate 2 (refine Tst.T ?_; conv => whnf)
  refine ixt_c H (fun c8 H => ?_); conv => whnf
  iterate 2 (refine Tst.T ?_; conv => whnf)
  refine tst_c H (fun b9 H => ?_) (fun b9 H => ?_)
  · conv => whnf
    refine Ari.w ?_; conv => whnf
    exact again_c [8, 9, 10, 11, 12, 13, 14, 15, 16, 17, 18, 19] n5 0 [] (⟨_, H, rfl, rfl⟩) (Nat.lt_succ_self _) (Nat.zero_le _) rfl (by kernel_rfl) (by kernel_rfl) rfl trivial
  conv => whnf
  obtain rfl := Option.some.inj H
  have H := HQ4
  try dsimp only at H
  refine tst_c H (fun b10 H => ?_) (fun b10 H => ?_)
  · conv => whnf
    exact fin0_c (enc := (fun r : ByteArray × ByteArray × Int => .tup [V.s r.1, V.s r.2.1, V.i r.2.2])) H (.inr rfl) (.cons (.tmp rfl) (.cons (.tmp rfl) (.cons (.tmp rfl) (.nil)))) rfl rfl
  conv => whnf
  refine slt_c H (fun s11 H => ?_); conv => whnf
  refine Ari.w ?_; conv => whnf
  refine slt_c H (fun s12 H => ?_); conv => whnf
  refine FootQ.mk ⟨rfl, ?_⟩; conv => whnf
  refine ask_c (p_ref09_IsBare_v _) H rfl rfl (fun v13 H => ?_); conv => whnf
  refine Tst.not ?_
  refine tst_d H (fun b14 H => ?_) (fun b14 H => ?_)
  · conv => whnf
    exact fin0_c (enc := (fun r : ByteArray × ByteArray × Int => .tup [V.s r.1, V.s r.2.1, V.i r.2.2])) H (.inr rfl) (.cons (.tmp rfl) (.cons (.tmp rfl) (.cons (.tmp rfl) (.nil)))) rfl rfl
  conv => whnf
  refine ask_c (p_ref09_Resource_v _) H rfl rfl (fun v15 H => ?_); conv => whnf
  refine tst_d H (fun b16 H => ?_) (fun b16 H => ?_)
  · conv => whnf
    exact fin0_c (enc := (fun r : ByteArray × ByteArray × Int => .tup [V.s r.1, V.s r.2.1, V.i r.2.2])) H (.inr rfl) (.cons (.tmp rfl) (.cons (.tmp rfl) (.cons (.tmp rfl) (.nil)))) rfl rfl
  conv => whnf
  refine ask_c (p_ref09_Resource_v _) H rfl rfl (fun v17 H => ?_); conv => whnf
  exact fin0_c (enc := (fun r : ByteArray × ByteArray × Int => .tup [V.s r.1, V.s r.2.1, V.i r.2.2])) H (.inr rfl) (.cons (.tmp rfl) (.cons (.tmp rfl) (.cons (.tmp rfl) (.nil)))) rfl rfl
def gc70 : BCode := (.seq (.reg 1 [⟨(some 1), .bx (.tmp 0), none, 0⟩, ⟨(some 2), .mv (.const (.bool false)), none, 1⟩] none 0 []) (.seq (.reg 0 [⟨(some 7), .fa 0 (.tmp 1), none, 0⟩, ⟨(some 8), .ld 1 false (.tmp 7), none, 0⟩, ⟨(some 9), .cl 122 [(.tmp 8)], none, 0⟩, ⟨(some 6), .mv (.tmp 9), none, 0⟩, ⟨(some 10), .ex (.tmp 6) 0, none, 0⟩, ⟨(some 11), .ex (.tmp 6) 1, none, 0⟩, ⟨(some 12), .ex (.tmp 6) 2, none, 0⟩, ⟨(some 3), .mv (.tmp 10), none, 0⟩, ⟨(some 4), .mv (.tmp 11), none, 0⟩, ⟨(some 5), .mv (.tmp 12), none, 0⟩] none 0 []) (.seq (.reg 0 [⟨(some 13), .mv (.tmp 5), none, 0⟩, ⟨(some 14), .bin .eql (.tmp 13) (.const (.int .i64 0)), none, 0⟩, ⟨(some 15), .mv (.tmp 14), none, 0⟩, ⟨(some 16), .fa 1 (.tmp 1), (some (15, true)), 0⟩, ⟨(some 17), .ld 1 false (.tmp 16), (some (15, true)), 0⟩, ⟨(some 18), .cl 123 [(.tmp 17)], (some (15, true)), 0⟩, ⟨(some 19), .pick (.tmp 15) (.tmp 18) (.const (.bool false)), none, 0⟩, ⟨(some 2), .mv (.tmp 19), none, 0⟩] none 0 []) .ret)))
theorem gc70_ok : compF Try.prog Try.f70 = some (gc70.er, 20, [.tmp 2]) := by unfold gc70; kernel_rfl
set_option maxRecDepth 100000 in
set_option maxHeartbeats 4000000 in
theorem p_ref29_fine_v (a0 : Ref29Arrow) : CallsO Try.prog 70 [.agg [.s a0.From, .s a0.To]] V.b (p_ref29_fine a0) := by
  refine callsO_comp mix Try.func70 gc70_ok fun r H => ?_
  rw [p_ref29_fine] at H
  conv => whnf
  refine ask_c (p_ref23_Split_v _) H rfl rfl (fun v1 H => ?_); conv => whnf
  refine tst_d H (fun b2 H => ?_) (fun b2 H => ?_)
  · conv => whnf
    iterate 3 (refine Tst.F ?_; conv => whnf)
    exact fin0_c (enc := V.b) H (.inr rfl) (.cons (.tmp rfl) (.nil)) rfl rfl
  conv => whnf
  iterate 2 (refine Tst.T ?_; conv => whnf)
  refine ask_c (p_ref09_IsBare_v _) H rfl rfl (fun v3 H => ?_); conv => whnf
  refine Tst.T ?_; conv => whnf
  exact fin0_c (enc := V.b) H (.inr rfl) (.cons (.tmp rfl) (.nil)) rfl rfl
end Go.Proofs.Ythmgficajgedlaa
/- That the program's functions yield what the plain ones tell (written by a program of mine). -/
namespace Go.Proofs.Ythmgficajgedlaa
open Go.RowKit
def gc7 : BCode := (.seq (.reg 0 [⟨(some 6), .mv (.const (.bool false)), none, 0⟩] none 0 []) (.seq (.seq (.reg 0 [⟨(some 20), .mv (.tmp 0), none, 0⟩, ⟨(some 21), .lens (.tmp 20), none, 0⟩, ⟨(some 22), .bin .gtr (.tmp 21) (.const (.int .i64 60)), none, 0⟩] none 0 []) (.cond (.tmp 22) (.seq (.reg 0 [⟨(some 23), .cl 27 [], none, 0⟩, ⟨(some 6), .mv (.tmp 23), none, 0⟩] none 0 []) .ret) .skip)) (.seq (.reg 0 [⟨(some 7), .mv (.const (.slice none 0 0)), none, 0⟩] none 0 []) (.seq (.seq (.reg 0 [⟨(some 8), .mv (.const (.int .i64 0)), none, 0⟩] none 0 []) (.block 0 (.loop (.seq (.seq (.reg 0 [⟨(some 24), .mv (.tmp 8), none, 0⟩, ⟨(some 25), .mv (.tmp 0), none, 0⟩, ⟨(some 26), .lens (.tmp 25), none, 0⟩, ⟨(some 27), .bin .lss (.tmp 24) (.tmp 26), none, 0⟩] none 0 []) (.cond (.tmp 27) .skip (.exit 0))) (.seq (.block 1 (.reg 2 [⟨(some 31), .mv (.tmp 7), none, 0⟩, ⟨(some 32), .mv (.tmp 0), none, 0⟩, ⟨(some 33), .mv (.tmp 8), none, 0⟩, ⟨(some 34), .ixs 4 (.tmp 32) (.tmp 33), none, 0⟩, ⟨(some 35), .fa 0 (.tmp 34), none, 0⟩, ⟨(some 36), .ld 1 false (.tmp 35), none, 0⟩, ⟨(some 37), .bin .rem (.tmp 36) (.const (.int .u8 5)), none, 0⟩, ⟨(some 38), .bin .add (.const (.int .u8 97)) (.tmp 37), none, 0⟩, ⟨(some 39), .bs 1 1 [(.lit (.int .u8 0))] [(0, (.tmp 38))], none, 0⟩, ⟨(some 40), .b2s (.tmp 39), none, 1⟩, ⟨(some 41), .bin .add (.tmp 40) (.const (.string ⟨#[64, 120, 32, 114]⟩)), none, 1⟩, ⟨(some 42), .mv (.tmp 0), none, 1⟩, ⟨(some 43), .mv (.tmp 8), none, 1⟩, ⟨(some 44), .ixs 4 (.tmp 42) (.tmp 43), none, 1⟩, ⟨(some 45), .fa 1 (.tmp 44), none, 1⟩, ⟨(some 46), .ld 1 false (.tmp 45), none, 1⟩, ⟨(some 47), .bin .rem (.tmp 46) (.const (.int .u8 8)), none, 1⟩, ⟨(some 48), .bin .add (.const (.int .u8 112)) (.tmp 47), none, 1⟩, ⟨(some 49), .bs 1 1 [(.lit (.int .u8 0))] [(0, (.tmp 48))], none, 1⟩, ⟨(some 50), .b2s (.tmp 49), none, 2⟩, ⟨(some 51), .bin .add (.tmp 50) (.const (.string ⟨#[64, 121]⟩)), none, 2⟩, ⟨(some 52), .cl 42 [(.tmp 31), (.tmp 41), (.tmp 51)], none, 2⟩, ⟨(some 30), .mv (.tmp 52), none, 2⟩, ⟨(some 53), .ex (.tmp 30) 0, none, 2⟩, ⟨(some 54), .ex (.tmp 30) 1, none, 2⟩, ⟨(some 7), .mv (.tmp 53), none, 2⟩] (some [[], [], [], [2, 1], [1, 2, 3], [3, 2, 1, 4], [4, 1, 2, 3, 5], [5, 3, 2, 1, 4, 6], [6, 4, 1, 2, 3, 5, 7], [7, 5, 3, 2, 1, 4, 6, 8], [8, 6, 4, 1, 2, 3, 5, 7, 9], [], [], [12, 11], [11, 12, 13], [13, 12, 11, 14], [14, 11, 12, 13, 15], [15, 13, 12, 11, 14, 16], [16, 14, 11, 12, 13, 15, 17], [17, 15, 13, 12, 11, 14, 16, 18], [18, 16, 14, 11, 12, 13, 15, 17, 19], [19, 17, 15, 13, 12, 11, 14, 16, 18, 20, 9, 7, 5, 3, 2, 1, 4, 6, 8, 10, 0], [0, 10, 8, 6, 4, 1, 2, 3, 5, 7, 9, 20, 18, 16, 14, 11, 12, 13, 15, 17, 19, 21], [21, 19, 17, 15, 13, 12, 11, 14, 16, 18, 20, 9, 7, 5, 3, 2, 1, 4, 6, 8, 10, 0, 22], [21, 19, 17, 15, 13, 12, 11, 14, 16, 18, 20, 9, 7, 5, 3, 2, 1, 4, 6, 8, 10, 0, 22], [22, 0, 10, 8, 6, 4, 1, 2, 3, 5, 7, 9, 20, 18, 16, 14, 11, 12, 13, 15, 17, 19, 21, 23]]) 0 [])) (.reg 0 [⟨(some 28), .mv (.tmp 8), none, 0⟩, ⟨(some 29), .bin .add (.tmp 28) (.const (.int .i64 1)), none, 0⟩, ⟨(some 8), .mv (.tmp 29), none, 0⟩] none 0 [])))))) (.seq (.reg 2 [⟨(some 55), .mv (.tmp 1), none, 0⟩, ⟨(some 56), .bin .rem (.tmp 55) (.const (.int .u8 5)), none, 0⟩, ⟨(some 57), .bin .add (.const (.int .u8 97)) (.tmp 56), none, 0⟩, ⟨(some 58), .bs 1 1 [(.lit (.int .u8 0))] [(0, (.tmp 57))], none, 0⟩, ⟨(some 59), .b2s (.tmp 58), none, 1⟩, ⟨(some 60), .bin .add (.tmp 59) (.const (.string ⟨#[64, 120, 32, 114]⟩)), none, 1⟩, ⟨(some 61), .mv (.tmp 2), none, 1⟩, ⟨(some 62), .bin .rem (.tmp 61) (.const (.int .u8 8)), none, 1⟩, ⟨(some 63), .bin .add (.const (.int .u8 112)) (.tmp 62), none, 1⟩, ⟨(some 64), .bs 1 1 [(.lit (.int .u8 0))] [(0, (.tmp 63))], none, 1⟩, ⟨(some 65), .b2s (.tmp 64), none, 2⟩, ⟨(some 66), .bin .add (.tmp 65) (.const (.string ⟨#[64, 122]⟩)), none, 2⟩, ⟨(some 9), .mv (.tmp 60), none, 2⟩, ⟨(some 10), .mv (.tmp 66), none, 2⟩] (some [[], [0], [0, 1], [1, 0, 2], [2, 0, 1, 3], [3, 1, 0, 2, 4], [], [6], [6, 7], [7, 6, 8], [8, 6, 7, 9], [9, 7, 6, 8, 10], [4, 2, 0, 1, 3, 5], [5, 3, 1, 0, 2, 4, 12, 10, 8, 6, 7, 9, 11]]) 0 []) (.seq (.reg 0 [⟨(some 68), .mv (.tmp 7), none, 0⟩, ⟨(some 69), .mv (.tmp 9), none, 0⟩, ⟨(some 70), .mv (.tmp 10), none, 0⟩, ⟨(some 71), .cl 42 [(.tmp 68), (.tmp 69), (.tmp 70)], none, 0⟩, ⟨(some 67), .mv (.tmp 71), none, 0⟩, ⟨(some 72), .ex (.tmp 67) 0, none, 0⟩, ⟨(some 73), .ex (.tmp 67) 1, none, 0⟩, ⟨(some 11), .mv (.tmp 72), none, 0⟩, ⟨(some 12), .mv (.tmp 73), none, 0⟩] none 0 []) (.seq (.reg 0 [⟨(some 75), .mv (.tmp 11), none, 0⟩, ⟨(some 76), .mv (.tmp 9), none, 0⟩, ⟨(some 77), .mv (.tmp 10), none, 0⟩, ⟨(some 78), .cl 41 [(.tmp 75), (.tmp 76), (.tmp 77)], none, 0⟩, ⟨(some 74), .mv (.tmp 78), none, 0⟩, ⟨(some 79), .ex (.tmp 74) 0, none, 0⟩, ⟨(some 80), .ex (.tmp 74) 1, none, 0⟩, ⟨(some 13), .mv (.tmp 79), none, 0⟩, ⟨(some 14), .mv (.tmp 80), none, 0⟩] none 0 []) (.seq (.reg 0 [⟨(some 82), .mv (.tmp 7), none, 0⟩, ⟨(some 83), .mv (.tmp 9), none, 0⟩, ⟨(some 84), .cl 40 [(.tmp 82), (.tmp 83)], none, 0⟩, ⟨(some 81), .mv (.tmp 84), none, 0⟩, ⟨(some 85), .ex (.tmp 81) 0, none, 0⟩, ⟨(some 86), .ex (.tmp 81) 1, none, 0⟩, ⟨(some 15), .mv (.tmp 85), none, 0⟩, ⟨(some 16), .mv (.tmp 86), none, 0⟩] none 0 []) (.seq (.reg 0 [⟨(some 87), .mv (.tmp 7), none, 0⟩, ⟨(some 88), .mv (.tmp 9), none, 0⟩, ⟨(some 89), .cl 32 [(.tmp 87), (.tmp 88)], none, 0⟩, ⟨(some 17), .mv (.tmp 89), none, 0⟩] none 0 []) (.seq (.reg 1 [⟨(some 91), .mv (.tmp 11), none, 0⟩, ⟨(some 92), .mv (.tmp 1), none, 0⟩, ⟨(some 93), .bin .rem (.tmp 92) (.const (.int .u8 5)), none, 0⟩, ⟨(some 94), .bin .add (.const (.int .u8 97)) (.tmp 93), none, 0⟩, ⟨(some 95), .bs 1 1 [(.lit (.int .u8 0))] [(0, (.tmp 94))], none, 0⟩, ⟨(some 96), .b2s (.tmp 95), none, 1⟩, ⟨(some 97), .bin .add (.tmp 96) (.const (.string ⟨#[64, 120]⟩)), none, 1⟩, ⟨(some 98), .mv (.tmp 10), none, 1⟩, ⟨(some 99), .cl 43 [(.tmp 91), (.tmp 97), (.tmp 98)], none, 1⟩, ⟨(some 90), .mv (.tmp 99), none, 1⟩, ⟨(some 100), .ex (.tmp 90) 0, none, 1⟩, ⟨(some 101), .ex (.tmp 90) 1, none, 1⟩, ⟨(some 18), .mv (.tmp 100), none, 1⟩, ⟨(some 19), .mv (.tmp 101), none, 1⟩] none 0 []) (.seq (.seq (.reg 0 [⟨(some 102), .mv (.tmp 16), none, 0⟩, ⟨(some 103), .lens (.tmp 102), none, 0⟩, ⟨(some 104), .mv (.tmp 17), none, 0⟩, ⟨(some 105), .lens (.tmp 104), none, 0⟩, ⟨(some 106), .bin .neq (.tmp 103) (.tmp 105), none, 0⟩, ⟨(some 107), .mv (.tmp 106), none, 0⟩, ⟨(some 108), .mv (.tmp 15), (some (107, false)), 0⟩, ⟨(some 109), .lens (.tmp 108), (some (107, false)), 0⟩, ⟨(some 110), .mv (.tmp 7), (some (107, false)), 0⟩, ⟨(some 111), .lens (.tmp 110), (some (107, false)), 0⟩, ⟨(some 112), .mv (.tmp 17), (some (107, false)), 0⟩, ⟨(some 113), .lens (.tmp 112), (some (107, false)), 0⟩, ⟨(some 114), .bin .sub (.tmp 111) (.tmp 113), (some (107, false)), 0⟩, ⟨(some 115), .bin .neq (.tmp 109) (.tmp 114), (some (107, false)), 0⟩, ⟨(some 116), .pick (.tmp 107) (.const (.bool true)) (.tmp 115), none, 0⟩, ⟨(some 117), .mv (.tmp 116), none, 0⟩, ⟨(some 118), .mv (.tmp 15), (some (117, false)), 0⟩, ⟨(some 119), .mv (.tmp 9), (some (117, false)), 0⟩, ⟨(some 120), .cl 32 [(.tmp 118), (.tmp 119)], (some (117, false)), 0⟩, ⟨(some 121), .lens (.tmp 120), (some (117, false)), 0⟩, ⟨(some 122), .bin .neq (.tmp 121) (.const (.int .i64 0)), (some (117, false)), 0⟩, ⟨(some 123), .pick (.tmp 117) (.const (.bool true)) (.tmp 122), none, 0⟩] none 0 []) (.cond (.tmp 123) (.seq (.reg 0 [⟨(some 6), .mv (.const (.bool false)), none, 0⟩] none 0 []) .ret) .skip)) (.seq (.seq (.reg 0 [⟨(some 124), .mv (.tmp 12), none, 0⟩, ⟨(some 125), .bin .neq (.tmp 124) (.const (.int .i64 0)), none, 0⟩] none 0 []) (.cond (.tmp 125) (.seq (.reg 0 [⟨(some 126), .mv (.tmp 12), none, 0⟩, ⟨(some 127), .bin .eql (.tmp 126) (.const (.int .i64 7)), none, 0⟩, ⟨(some 128), .mv (.tmp 127), none, 0⟩, ⟨(some 129), .mv (.tmp 7), (some (128, true)), 0⟩, ⟨(some 130), .lens (.tmp 129), (some (128, true)), 0⟩, ⟨(some 131), .bin .eql (.tmp 130) (.const (.int .i64 32)), (some (128, true)), 0⟩, ⟨(some 132), .pick (.tmp 128) (.tmp 131) (.const (.bool false)), none, 0⟩, ⟨(some 133), .mv (.tmp 132), none, 0⟩, ⟨(some 134), .cl 27 [], (some (133, true)), 0⟩, ⟨(some 135), .pick (.tmp 133) (.tmp 134) (.const (.bool false)), none, 0⟩, ⟨(some 6), .mv (.tmp 135), none, 0⟩] none 0 []) .ret) .skip)) (.seq (.reg 0 [⟨(some 136), .mv (.tmp 14), none, 0⟩, ⟨(some 137), .mv (.tmp 136), none, 0⟩, ⟨(some 138), .mv (.tmp 13), (some (137, true)), 0⟩, ⟨(some 139), .mv (.tmp 7), (some (137, true)), 0⟩, ⟨(some 140), .cl 38 [(.tmp 138), (.tmp 139)], (some (137, true)), 0⟩, ⟨(some 141), .pick (.tmp 137) (.tmp 140) (.const (.bool false)), none, 0⟩, ⟨(some 142), .mv (.tmp 141), none, 0⟩, ⟨(some 143), .mv (.tmp 19), (some (142, true)), 0⟩, ⟨(some 144), .bin .eql (.tmp 143) (.const (.int .i64 1)), (some (142, true)), 0⟩, ⟨(some 145), .pick (.tmp 142) (.tmp 144) (.const (.bool false)), none, 0⟩, ⟨(some 146), .mv (.tmp 145), none, 0⟩, ⟨(some 147), .mv (.tmp 18), (some (146, true)), 0⟩, ⟨(some 148), .mv (.tmp 7), (some (146, true)), 0⟩, ⟨(some 149), .cl 38 [(.tmp 147), (.tmp 148)], (some (146, true)), 0⟩, ⟨(some 150), .pick (.tmp 146) (.tmp 149) (.const (.bool false)), none, 0⟩, ⟨(some 151), .mv (.tmp 150), none, 0⟩, ⟨(some 152), .cl 27 [], (some (151, true)), 0⟩, ⟨(some 153), .pick (.tmp 151) (.tmp 152) (.const (.bool false)), none, 0⟩, ⟨(some 6), .mv (.tmp 153), none, 0⟩] none 0 []) .ret)))))))))))))
set_option maxRecDepth 1000000 in
theorem gc7_ok : compF Try.prog Try.f7 = some (gc7.er, 154, [.tmp 6]) := by unfold gc7; kernel_rfl
set_option maxRecDepth 100000 in
set_option maxHeartbeats 4000000 in
theorem p_law29_DirsBack_v {u1 : Bool} (a0 : List Law29Deed) (a1 : Int) (a2 : Int) : CallsO Try.prog 7 [.sl (List.map Law29Deed.v a0) u1, .y8 a1, .y8 a2] V.b (p_law29_DirsBack a0 a1 a2) := by
  refine callsO_comp mix Try.func7 gc7_ok fun r H => ?_
  rw [p_law29_DirsBack] at H
  conv => whnf
  refine LenQ.M ?_; conv => whnf
  refine tst_c H (fun b1 H => ?_) (fun b1 H => ?_)
  · conv => whnf
    refine ask_c (p_law29_awake_v) H rfl rfl (fun v2 H => ?_); conv => whnf
    exact fin0_c (enc := V.b) H (.inr rfl) (.cons (.tmp rfl) (.nil)) rfl rfl
  conv => whnf
  obtain ⟨o4, HL5, HQ6⟩ := bind_c H
  refine loop_c [7, 8] [24, 25, 26, 27, 28, 29, 30, 31, 32, 33, 34, 35, 36, 37, 38, 39, 40, 41, 42, 43, 44, 45, 46, 47, 48, 49, 50, 51, 52, 53, 54] [24, 25, 26, 27, 28, 29, 30, 31, 32, 33, 34, 35, 36, 37, 38, 39, 40, 41, 42, 43, 44, 45, 46, 47, 48, 49, 50, 51, 52, 53, 54] (fun n vals st => (∃ y8, p_law29_DirsBack_l1  a0 n [] y8 = some o4 ∧ vals = [.sl (List.map Ref29Arrow.v []) true, .i y8] ∧ st = []) ∨ (∃ y17 y18, p_law29_DirsBack_l1  a0 n y17 y18 = some o4 ∧ vals = [.sl (List.map Ref29Arrow.v y17) false, .i y18] ∧ st = [])) fuel 0 [] (.inl (⟨_, HL5, rfl, rfl⟩)) (Nat.zero_le _) rfl (by kernel_rfl) (by kernel_rfl) rfl trivial ?_
  rintro (_ | n7) _ _ (⟨y8, H, rfl, rfl⟩ | ⟨y17, y18, H, rfl, rfl⟩)
  · rw [p_law29_DirsBack_l1] at H; cases H
  · rw [p_law29_DirsBack_l1] at H; cases H
  · rw [p_law29_DirsBack_l1] at H
    conv => whnf
    refine LenQ.M ?_; conv => whnf
    refine tst_c H (fun b9 H => ?_) (fun b9 H => ?_)
    · conv => whnf
      refine ixs_c (f := Law29Deed.v) H (fun _ => rfl) (fun x10 H => ?_); conv => whnf
      refine ⟨Nat.le_of_ble_eq_true rfl, ?_⟩; conv => whnf
      refine ⟨by decide, ?_⟩; conv => whnf
      refine Ari.w ?_; conv => whnf
      refine b2sO_c H rfl rfl rfl (fun s11 H => ?_); conv => whnf
      refine cat_c H (fun s12 H => ?_); conv => whnf
      refine ixs_c (f := Law29Deed.v) H (fun _ => rfl) (fun x13 H => ?_); conv => whnf
      refine ⟨Nat.le_of_ble_eq_true rfl, ?_⟩; conv => whnf
      refine ⟨by decide, ?_⟩; conv => whnf
      refine Ari.w ?_; conv => whnf
      refine b2sO_c H rfl rfl rfl (fun s14 H => ?_); conv => whnf
      refine cat_c H (fun s15 H => ?_); conv => whnf
      refine ask_c (p_dirs_Add_v _ _ _) H rfl rfl (fun v16 H => ?_); conv => whnf
      refine FootQ.mk ⟨rfl, ?_⟩; conv => whnf
      refine Ari.w ?_; conv => whnf
      exact again_c [24, 25, 26, 27, 28, 29, 30, 31, 32, 33, 34, 35, 36, 37, 38, 39, 40, 41, 42, 43, 44, 45, 46, 47, 48, 49, 50, 51, 52, 53, 54] n7 0 [] (.inr (⟨_, _, H, rfl, rfl⟩)) (Nat.lt_succ_self _) (Nat.zero_le _) rfl (by kernel_rfl) (by kernel_rfl) rfl trivial
    conv => whnf
    obtain rfl := Option.some.inj H
    have H := HQ6
    try dsimp only at H
    refine ⟨by decide, ?_⟩; conv => whnf
    refine Ari.w ?_; conv => whnf
    refine b2sO_c H rfl rfl rfl (fun s19 H => ?_); conv => whnf
    refine cat_c H (fun s20 H => ?_); conv => whnf
    refine ⟨by decide, ?_⟩; conv => whnf
    refine Ari.w ?_; conv => whnf
    refine b2sO_c H rfl rfl rfl (fun s21 H => ?_); conv => whnf
    refine cat_c H (fun s22 H => ?_); conv => whnf
    refine FootQ.mk ⟨rfl, ?_⟩; conv => whnf
    refine ask_c (p_dirs_Add_v _ _ _) H rfl rfl (fun v23 H => ?_); conv => whnf
    refine ask_c (p_dirs_Del_v _ _ _) H rfl rfl (fun v24 H => ?_); conv => whnf
    refine ask_c (p_dirs_Clear_v _ _) H rfl rfl (fun v25 H => ?_); conv => whnf
    refine ask_c (p_dirs_Of_v _ _) H rfl rfl (fun v26 H => ?_); conv => whnf
    refine ⟨by decide, ?_⟩; conv => whnf
    refine Ari.w ?_; conv => whnf
    refine b2sO_c H rfl rfl rfl (fun s27 H => ?_); conv => whnf
    refine cat_c H (fun s28 H => ?_); conv => whnf
    refine ask_c (p_dirs_Only_v _ _ _) H rfl rfl (fun v29 H => ?_); conv => whnf
    iterate 2 (refine LenQ.M ?_; conv => whnf)
    refine tst_c H (fun b30 H => ?_) (fun b30 H => ?_)
    · conv => whnf
      iterate 15 (refine Tst.T ?_; conv => whnf)
      exact fin0_c (enc := V.b) H (.inr rfl) (.cons (.tmp rfl) (.nil)) rfl rfl
    conv => whnf
    refine Tst.F ?_; conv => whnf
    refine LenQ.M ?_; conv => whnf
    iterate 2 (refine Tst.F ?_; conv => whnf)
    refine LenQ.ok ?_; conv => whnf
    iterate 2 (refine Tst.F ?_; conv => whnf)
    refine LenQ.M ?_; conv => whnf
    refine Tst.F ?_; conv => whnf
    refine Ari.w ?_; conv => whnf
    iterate 2 (refine Tst.F ?_; conv => whnf)
    refine tst_c H (fun b31 H => ?_) (fun b31 H => ?_)
    · conv => whnf
      iterate 6 (refine Tst.T ?_; conv => whnf)
      exact fin0_c (enc := V.b) H (.inr rfl) (.cons (.tmp rfl) (.nil)) rfl rfl
    conv => whnf
    iterate 2 (refine Tst.F ?_; conv => whnf)
    refine ask_c (p_dirs_Of_v _ _) H rfl rfl (fun v32 H => ?_); conv => whnf
    refine Tst.F ?_; conv => whnf
    refine LenQ.M ?_; conv => whnf
    iterate 2 (refine Tst.F ?_; conv => whnf)
    refine tst_c H (fun b33 H => ?_) (fun b33 H => ?_)
    · conv => whnf
      exact fin0_c (enc := V.b) H (.inr rfl) (.cons (.tmp rfl) (.nil)) rfl rfl
    conv => whnf
    refine tst_c H (fun b34 H => ?_) (fun b34 H => ?_)
    · conv => whnf
      refine tst_d H (fun b35 H => ?_) (fun b35 H => ?_)
      · conv => whnf
        iterate 5 (refine Tst.F ?_; conv => whnf)
        exact fin0_c (enc := V.b) H (.inr rfl) (.cons (.tmp rfl) (.nil)) rfl rfl
      conv => whnf
      refine Tst.T ?_; conv => whnf
      refine LenQ.ok ?_; conv => whnf
      iterate 2 (refine Tst.T ?_; conv => whnf)
      refine tst_d H (fun b36 H => ?_) (fun b36 H => ?_)
      · conv => whnf
        refine Tst.F ?_; conv => whnf
        exact fin0_c (enc := V.b) H (.inr rfl) (.cons (.tmp rfl) (.nil)) rfl rfl
      conv => whnf
      refine ask_c (p_law29_awake_v) H rfl rfl (fun v37 H => ?_); conv => whnf
      refine Tst.T ?_; conv => whnf
      exact fin0_c (enc := V.b) H (.inr rfl) (.cons (.tmp rfl) (.nil)) rfl rfl
    conv => whnf
    refine tst_d H (fun b38 H => ?_) (fun b38 H => ?_)
    · conv => whnf
      iterate 12 (refine Tst.F ?_; conv => whnf)
      exact fin0_c (enc := V.b) H (.inr rfl) (.cons (.tmp rfl) (.nil)) rfl rfl
    conv => whnf
    iterate 2 (refine Tst.T ?_; conv => whnf)
    refine ask_c (p_dirs_Same_v _ _) H rfl rfl (fun v39 H => ?_); conv => whnf
    refine Tst.T ?_; conv => whnf
    refine tst_d H (fun b40 H => ?_) (fun b40 H => ?_)
    · conv => whnf
      iterate 8 (refine Tst.F ?_; conv => whnf)
      exact fin0_c (enc := V.b) H (.inr rfl) (.cons (.tmp rfl) (.nil)) rfl rfl
    conv => whnf
    iterate 2 (refine Tst.T ?_; conv => whnf)
    refine tst_d H (fun b41 H => ?_) (fun b41 H => ?_)
    · conv => whnf
      iterate 5 (refine Tst.F ?_; conv => whnf)
      exact fin0_c (enc := V.b) H (.inr rfl) (.cons (.tmp rfl) (.nil)) rfl rfl
    conv => whnf
    iterate 2 (refine Tst.T ?_; conv => whnf)
    refine ask_c (p_dirs_Same_v _ _) H rfl rfl (fun v42 H => ?_); conv => whnf
    refine Tst.T ?_; conv => whnf
    refine tst_d H (fun b43 H => ?_) (fun b43 H => ?_)
    · conv => whnf
      refine Tst.F ?_; conv => whnf
      exact fin0_c (enc := V.b) H (.inr rfl) (.cons (.tmp rfl) (.nil)) rfl rfl
    conv => whnf
    refine ask_c (p_law29_awake_v) H rfl rfl (fun v44 H => ?_); conv => whnf
    refine Tst.T ?_; conv => whnf
    exact fin0_c (enc := V.b) H (.inr rfl) (.cons (.tmp rfl) (.nil)) rfl rfl
  rw [p_law29_DirsBack_l1] at H
  conv => whnf
  refine LenQ.M ?_; conv => whnf
  refine tst_c H (fun b45 H => ?_) (fun b45 H => ?_)
  · conv => whnf
    refine ixs_c (f := Law29Deed.v) H (fun _ => rfl) (fun x46 H => ?_); conv => whnf
    refine ⟨Nat.le_of_ble_eq_true rfl, ?_⟩; conv => whnf
    refine ⟨by decide, ?_⟩; conv => whnf
    refine Ari.w ?_; conv => whnf
    refine b2sO_c H rfl rfl rfl (fun s47 H => ?_); conv => whnf
    refine cat_c H (fun s48 H => ?_); conv => whnf
    refine ixs_c (f := Law29Deed.v) H (fun _ => rfl) (fun x49 H => ?_); conv => whnf
    refine ⟨Nat.le_of_ble_eq_true rfl, ?_⟩; conv => whnf
    refine ⟨by decide, ?_⟩; conv => whnf
    refine Ari.w ?_; conv => whnf
    refine b2sO_c H rfl rfl rfl (fun s50 H => ?_); conv => whnf
    refine cat_c H (fun s51 H => ?_); conv => whnf
    refine ask_c (p_dirs_Add_v _ _ _) H rfl rfl (fun v52 H => ?_); conv => whnf
    refine FootQ.mk ⟨rfl, ?_⟩; conv => whnf
    refine Ari.w ?_; conv => whnf
    exact again_c [24, 25, 26, 27, 28, 29, 30, 31, 32, 33, 34, 35, 36, 37, 38, 39, 40, 41, 42, 43, 44, 45, 46, 47, 48, 49, 50, 51, 52, 53, 54] n7 0 [] (.inr (⟨_, _, H, rfl, rfl⟩)) (Nat.lt_succ_self _) (Nat.zero_le _) rfl (by kernel_rfl) (by kernel_rfl) rfl trivial
  conv => whnf
  obtain rfl := Option.some.inj H
  have H := HQ6
  try dsimp only at H
  refine ⟨by decide, ?_⟩; conv => whnf
  refine Ari.w ?_; conv => whnf
  refine b2sO_c H rfl rfl rfl (fun s53 H => ?_); conv => whnf
  refine cat_c H (fun s54 H => ?_); conv => whnf
  refine ⟨by decide, ?_⟩; conv => whnf
  refine Ari.w ?_; conv => whnf
  refine b2sO_c H rfl rfl rfl (fun s55 H => ?_); conv => whnf
  refine cat_c H (fun s56 H => ?_); conv => whnf
  refine FootQ.mk ⟨rfl, ?_⟩; conv => whnf
  refine ask_c (p_dirs_Add_v _ _ _) H rfl rfl (fun v57 H => ?_); conv => whnf
  refine ask_c (p_dirs_Del_v _ _ _) H rfl rfl (fun v58 H => ?_); conv => whnf
  refine ask_c (p_dirs_Clear_v _ _) H rfl rfl (fun v59 H => ?_); conv => whnf
  refine ask_c (p_dirs_Of_v _ _) H rfl rfl (fun v60 H => ?_); conv => whnf
  refine ⟨by decide, ?_⟩; conv => whnf
  refine Ari.w ?_; conv => whnf
  refine b2sO_c H rfl rfl rfl (fun s61 H => ?_); conv => whnf
  refine cat_c H (fun s62 H => ?_); conv => whnf
  refine ask_c (p_dirs_Only_v _ _ _) H rfl rfl (fun v63 H => ?_); conv => whnf
  iterate 2 (refine LenQ.M ?_; conv => whnf)
  refine tst_c H (fun b64 H => ?_) (fun b64 H => ?_)
  · conv => whnf
    iterate 15 (refine Tst.T ?_; conv => whnf)
    exact fin0_c (enc := V.b) H (.inr rfl) (.cons (.tmp rfl) (.nil)) rfl rfl
  conv => whnf
  refine Tst.F ?_; conv => whnf
  refine LenQ.M ?_; conv => whnf
  iterate 2 (refine Tst.F ?_; conv => whnf)
  refine LenQ.M ?_; conv => whnf
  iterate 2 (refine Tst.F ?_; conv => whnf)
  refine LenQ.M ?_; conv => whnf
  refine Tst.F ?_; conv => whnf
  refine Ari.w ?_; conv => whnf
  iterate 2 (refine Tst.F ?_; conv => whnf)
  refine tst_c H (fun b65 H => ?_) (fun b65 H => ?_)
  · conv => whnf
    iterate 6 (refine Tst.T ?_; conv => whnf)
    exact fin0_c (enc := V.b) H (.inr rfl) (.cons (.tmp rfl) (.nil)) rfl rfl
  conv => whnf
  iterate 2 (refine Tst.F ?_; conv => whnf)
  refine ask_c (p_dirs_Of_v _ _) H rfl rfl (fun v66 H => ?_); conv => whnf
  refine Tst.F ?_; conv => whnf
  refine LenQ.M ?_; conv => whnf
  iterate 2 (refine Tst.F ?_; conv => whnf)
  refine tst_c H (fun b67 H => ?_) (fun b67 H => ?_)
  · conv => whnf
    exact fin0_c (enc := V.b) H (.inr rfl) (.cons (.tmp rfl) (.nil)) rfl rfl
  conv => whnf
  refine tst_c H (fun b68 H => ?_) (fun b68 H => ?_)
  · conv => whnf
    refine tst_d H (fun b69 H => ?_) (fun b69 H => ?_)
    · conv => whnf
      iterate 5 (refine Tst.F ?_; conv => whnf)
      exact fin0_c (enc := V.b) H (.inr rfl) (.cons (.tmp rfl) (.nil)) rfl rfl
    conv => whnf
    refine Tst.T ?_; conv => whnf
    refine LenQ.M ?_; conv => whnf
    iterate 2 (refine Tst.T ?_; conv => whnf)
    refine tst_d H (fun b70 H => ?_) (fun b70 H => ?_)
    · conv => whnf
      refine Tst.F ?_; conv => whnf
      exact fin0_c (enc := V.b) H (.inr rfl) (.cons (.tmp rfl) (.nil)) rfl rfl
    conv => whnf
    refine ask_c (p_law29_awake_v) H rfl rfl (fun v71 H => ?_); conv => whnf
    refine Tst.T ?_; conv => whnf
    exact fin0_c (enc := V.b) H (.inr rfl) (.cons (.tmp rfl) (.nil)) rfl rfl
  conv => whnf
  refine tst_d H (fun b72 H => ?_) (fun b72 H => ?_)
  · conv => whnf
    iterate 12 (refine Tst.F ?_; conv => whnf)
    exact fin0_c (enc := V.b) H (.inr rfl) (.cons (.tmp rfl) (.nil)) rfl rfl
  conv => whnf
  iterate 2 (refine Tst.T ?_; conv => whnf)
  refine ask_c (p_dirs_Same_v _ _) H rfl rfl (fun v73 H => ?_); conv => whnf
  refine Tst.T ?_; conv => whnf
  refine tst_d H (fun b74 H => ?_) (fun b74 H => ?_)
  · conv => whnf
    iterate 8 (refine Tst.F ?_; conv => whnf)
    exact fin0_c (enc := V.b) H (.inr rfl) (.cons (.tmp rfl) (.nil)) rfl rfl
  conv => whnf
  iterate 2 (refine Tst.T ?_; conv => whnf)
  refine tst_d H (fun b75 H => ?_) (fun b75 H => ?_)
  · conv => whnf
    iterate 5 (refine Tst.F ?_; conv => whnf)
    exact fin0_c (enc := V.b) H (.inr rfl) (.cons (.tmp rfl) (.nil)) rfl rfl
  conv => whnf
  iterate 2 (refine Tst.T ?_; conv => whnf)
  refine ask_c (p_dirs_Same_v _ _) H rfl rfl (fun v76 H => ?_); conv => whnf
  refine Tst.T ?_; conv => whnf
  refine tst_d H (fun b77 H => ?_) (fun b77 H => ?_)
  · conv => whnf
    refine Tst.F ?_; conv => whnf
    exact fin0_c (enc := V.b) H (.inr rfl) (.cons (.tmp rfl) (.nil)) rfl rfl
  conv => whnf
  refine ask_c (p_law29_awake_v) H rfl rfl (fun v78 H => ?_); conv => whnf
  refine Tst.T ?_; conv => whnf
  exact fin0_c (enc := V.b) H (.inr rfl) (.cons (.tmp rfl) (.nil)) rfl rfl
end Go.Proofs.Ythmgficajgedlaa
/- DirsBack: for every input the call returns true, and its arguments read as they did. -/
namespace Go.Proofs.Ythmgficajgedlaa
open Go.ChangeShapes Go.WideShapes Go.ChangeAt Go.RowKit Go.Joins Go.Deep
set_option maxRecDepth 100000 in
theorem dirsBack_lifted (os : Os) (started : os.Started) (H : Type) (enc : TypeId × Value → H) :
    ReturnsInHanded {} Try.checked os 7 .any (Rows.dirsBackSpec.pre6 enc Try.prog Try.f7 Rows.dirsBackRow.domain false) (Rows.dirsBackSpec.post enc Try.prog Try.f7 false true false false) := by
  refine returnsInHanded_of_change_shaped (C := Try.checked) own0 started (by kernel_rfl) Try.func7
    (ChangeSpec.witness6 (enc := enc) (C := Try.checked) false ⟨#[], #[.slice none 0 0, .int .u8 0, .int .u8 0], []⟩ 8 (by kernel_rfl) (by kernel_rfl) (by kernel_rfl) (by kernel_rfl)) ?_
  intro W base args ds gs before hval0 hW hcnd _ hsh _
  have hval : ∀ (j : Nat) t v, Try.f7.params[j]? = some t → args[j]? = some v → Value.okWide Try.prog W .any base t v := hval0
  have hW' := hW
  obtain ⟨p, q, hA0, hV, rfl, hfz, hnd⟩ := hW
  have hA : DataW.TrodAll enc Try.prog W 0 (fun _ => true) true Try.f7.params.toList args.toList ds p := hA0
  rw [Try.params7] at hA hval
  have hA2 := hA
  obtain ⟨v0, v1, v2, d0, d1, d2, p0, p1, p2, rfl, rfl, hp, h0, h1, h2⟩ := trodAll_three hA
  obtain ⟨rfl, rfl⟩ := trodVars_none hV
  obtain ⟨fu0, hf0⟩ := h0
  obtain ⟨q0, l0, k0, rfl⟩ := okWide_slice Try.underlying76 (hval 0 _ v0 rfl rfl)
  obtain ⟨a0, w0, r0⟩ := rd_T76 hf0
  have hx0 : Rep (MW W) noBk _ _ := r0.2 0 (by simp [Value.cells]) (by simp)
  obtain ⟨fu1, hf1⟩ := h1
  obtain ⟨q1, rfl⟩ := okWide_int Try.underlying5 (hval 1 _ v1 rfl rfl)
  obtain ⟨a1, w1, r1⟩ := rd_int Try.underlying5 hf1
  have hx1 : Rep (MW W) noBk _ _ := r1.2 0 (by simp [Value.cells]) (by simp)
  obtain ⟨fu2, hf2⟩ := h2
  obtain ⟨q2, rfl⟩ := okWide_int Try.underlying5 (hval 2 _ v2 rfl rfl)
  obtain ⟨a2, w2, r2⟩ := rd_int Try.underlying5 hf2
  have hx2 : Rep (MW W) noBk _ _ := r2.2 0 (by simp [Value.cells]) (by simp)
  refine (rep_one (callsO_true (p_law29_DirsBack_v a0 a1 a2) (dirsBack_w a0 a1 a2 w0 w1 w2)) (maxLen_cell W hsh) (repA3 hx0 hx1 hx2)).mono ?_
  rintro e W' ⟨rfl, bel⟩
  refine ⟨_, rfl, _, _, _, [], p, [], hW', ?_, ?_, ?_, ?_, ?_⟩
  · exact trodAll_mk1 (shut_bool Try.underlying4 true)
  · exact trodAll_below laid0 bel (by
      intro t ht
      simp at ht
      rcases ht with rfl | rfl <;> exact ⟨by kernel_rfl, of_decide_eq_true (by kernel_rfl)⟩) hA2
  · rfl
  · exact bel.frame _
  · exact fun h => by cases h
theorem dirsBack_holds : Rows.DirsBackSaid :=
  OpenClaim.holds_of_wide 7 Try.f7 rfl rfl rfl rfl rfl rfl rfl ⟨rfl, rfl, rfl, rfl, rfl⟩ rfl rfl rfl rfl rfl (by kernel_rfl) Try.func7 (by kernel_rfl)
    (of_decide_eq_true (by kernel_rfl)) (by unfold Func.isWrapper; first | (rw [if_pos (by decide +kernel)]; kernel_rfl) | (rw [if_neg (by decide +kernel)]; exact ⟨rfl, rfl⟩))
    (fun os started H enc _ => dirsBack_lifted os started H enc)
#print axioms dirsBack_holds
end Go.Proofs.Ythmgficajgedlaa
