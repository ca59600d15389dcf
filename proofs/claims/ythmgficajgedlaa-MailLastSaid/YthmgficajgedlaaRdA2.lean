/- MailLast: for every input the call returns true, and its arguments read as they did. -/
import Derived.Test.YthmgficajgedlaaRdA1
import Derived.Test.YthmgficajgedlaaRows
set_option linter.all false
/- MailLast in plain words. -/
namespace Go.Proofs.Ythmgficajgedlaa
open Go.RowKit
def repK (m : Nat) (p : PresPres) (z : ME) : ME := if isK (mkey m) z = true then ⟨mkey m, p⟩ else z
theorem repK_key (m : Nat) (p : PresPres) (z : ME) : (repK m p z).Key = z.Key := by
  unfold repK
  split
  · rename_i h; exact (isK_iff.1 h).symm
  · rfl
theorem repK_ne {m : Nat} {p : PresPres} {z : ME} (h : z.Key ≠ mkey m) : repK m p z = z := by
  unfold repK; rw [if_neg fun e => h (isK_iff.1 e)]
theorem repK_eq {m : Nat} {p : PresPres} {z : ME} (h : z.Key = mkey m) : repK m p z = ⟨mkey m, p⟩ := by
  unfold repK; rw [if_pos (isK_iff.2 h)]
theorem map_ne {m : Nat} {p : PresPres} {l : List ME} (h : ∀ x ∈ l, x.Key ≠ mkey m) : l.map (repK m p) = l :=
  (List.map_congr_left fun x hx => repK_ne (h x hx)).trans (List.map_id _)
def keepK (m : Nat) (z : ME) : Bool := !isK (mkey m) z
theorem keepK_iff {m : Nat} {z : ME} : keepK m z = true ↔ z.Key ≠ mkey m := by
  unfold keepK
  rw [Bool.not_eq_true', ← Bool.not_eq_true, isK_iff]
theorem put_old {a b l r : List ME} {y : ME} {k : ByteArray} {p : PresPres} {m : Nat} (h : Ok a b) (hx : Come ⟨k, p⟩ m) (he : a ++ b = l ++ y :: r) (hy : y.Key = mkey m) (hs : y.P.Seq < p.Seq) :
    ∃ a' b', p_mail_Put (a ++ b) k p = some (a' ++ b', 0) ∧ Ok a' b' ∧ (∀ x, x ∈ a' ++ b' ↔ x = ⟨k, p⟩ ∨ (x ∈ a ++ b ∧ x.Key ≠ mkey m)) ∧ (a' ++ b').length = (a ++ b).length := by
  have hn := h.n
  have hk : k = mkey m := hx.key
  subst hk
  have nod := h.nod
  rw [he, List.pairwise_append] at nod
  have hl : ∀ x ∈ l, x.Key ≠ mkey m := fun x hx => by rw [← hy]; exact nod.2.2 x hx y List.mem_cons_self
  have hr : ∀ x ∈ r, x.Key ≠ mkey m := fun x hx => by rw [← hy]; exact ((List.pairwise_cons.1 nod.2.1).1 x hx).symm
  have hone : ∀ z ∈ a ++ b, z.Key = mkey m → z = y := fun z hz e => by
    rw [he] at hz
    rcases List.mem_append.1 hz with hz | hz
    · exact absurd e (hl z hz)
    · rcases List.mem_cons.1 hz with rfl | hz
      · rfl
      · exact absurd e (hr z hz)
  have hlen : (l ++ y :: r).length ≤ 16 := by rw [← he]; exact hn
  have hf : p_mail_Find (a ++ b) (mkey m) = some (l.length : Int) := by
    rw [he, ← hy]; exact find_mid (fun x hx => by rw [hy]; exact hl x hx) (by omega)
  have hll : l.length ≤ 16 := by rw [List.length_append] at hlen; omega
  have P0 : p_mail_Put (a ++ b) (mkey m) p = bif (p.On == y.P.On) then some (l ++ ⟨mkey m, p⟩ :: r, 0) else
      (bif p.On then (insAt? (l ++ r) ((l ++ r).length : Int) (MailEntry.mk (mkey m) p)).bind fun v12 => some (v12, (0 : Int)) else (p_mail_Off (l ++ r)).bind fun v13 => (insAt? (l ++ r) v13 (MailEntry.mk (mkey m) p)).bind fun v14 => some (v14, (0 : Int))) := by
    unfold p_mail_Put
    rw [clone_ok (by omega), h.chk, mkey_ok hx.lt, pchk hx.fit, hf]
    simp only [Option.bind_some, bne_self_eq_false, cond_false, cond_true]
    rw [show ((l.length : Int) == (-1 : Int)) = false by simp, cond_false, he, at_mid rfl]
    simp only [Option.bind_some, p_pres_Newer]
    rw [decide_eq_true hs, w64_succ (by omega), del_mid (l := l) (r := r) (y := y) rfl (show ((l.length + 1 : Nat) : Int) = (l.length : Int) + 1 by omega) (by omega)]
    simp only [Option.bind_some, cond_true, Int.toNat_natCast]
    rw [hy, show List.set (l ++ y :: r) l.length (⟨mkey m, p⟩ : ME) = l ++ ⟨mkey m, p⟩ :: r by simp]
  rw [P0]
  cases ho : (p.On == y.P.On) with
  | true =>
    have hoo : p.On = y.P.On := by simpa using ho
    have hmap : a.map (repK m p) ++ b.map (repK m p) = l ++ ⟨mkey m, p⟩ :: r := by
      rw [← List.map_append, he, List.map_append, List.map_cons, map_ne hl, map_ne hr, repK_eq hy]
    refine ⟨a.map (repK m p), b.map (repK m p), by rw [hmap]; rfl, ⟨?_, ?_, ?_, ?_, ?_, ?_⟩, ?_, by simp⟩
    · simp only [List.length_map]; exact h.len
    · intro z hz
      rw [← List.map_append] at hz
      obtain ⟨w, hw, rfl⟩ := List.mem_map.1 hz
      rw [repK_key]; exact h.key w hw
    · rw [← List.map_append, List.pairwise_map]
      exact h.nod.imp fun {u v} huv => by rw [repK_key, repK_key]; exact huv
    · intro z hz
      obtain ⟨w, hw, rfl⟩ := List.mem_map.1 hz
      by_cases e : w.Key = mkey m
      · have := hone w (List.mem_append_left _ hw) e
        rw [repK_eq e]; show p.On = false
        rw [hoo, ← this]; exact h.offs w hw
      · rw [repK_ne e]; exact h.offs w hw
    · intro z hz
      obtain ⟨w, hw, rfl⟩ := List.mem_map.1 hz
      by_cases e : w.Key = mkey m
      · have := hone w (List.mem_append_right _ hw) e
        rw [repK_eq e]; show p.On = true
        rw [hoo, ← this]; exact h.ons w hw
      · rw [repK_ne e]; exact h.ons w hw
    · intro z hz
      rw [← List.map_append] at hz
      obtain ⟨w, hw, rfl⟩ := List.mem_map.1 hz
      by_cases e : w.Key = mkey m
      · rw [repK_eq e]; exact hx.fit
      · rw [repK_ne e]; exact h.fit w hw
    · intro z
      rw [hmap, he]
      simp only [List.mem_append, List.mem_cons]
      constructor
      · rintro (hz | rfl | hz)
        · exact .inr ⟨.inl hz, hl z hz⟩
        · exact .inl rfl
        · exact .inr ⟨.inr (.inr hz), hr z hz⟩
      · rintro (rfl | ⟨hz | rfl | hz, hne⟩)
        · exact .inr (.inl rfl)
        · exact .inl hz
        · exact absurd hy hne
        · exact .inr (.inr hz)
  | false =>
    have hfil : a.filter (keepK m) ++ b.filter (keepK m) = l ++ r := by
      rw [← List.filter_append, he, List.filter_append, List.filter_cons, if_neg (fun e => keepK_iff.1 e hy), List.filter_eq_self.2 fun x hx => keepK_iff.2 (hl x hx), List.filter_eq_self.2 fun x hx => keepK_iff.2 (hr x hx)]
    have hmem0 : ∀ z, z ∈ a.filter (keepK m) ++ b.filter (keepK m) ↔ z ∈ a ++ b ∧ z.Key ≠ mkey m := fun z => by
      rw [← List.filter_append, List.mem_filter, keepK_iff]
    have hl2 : (l ++ r).length + 1 = (a ++ b).length := by rw [he]; simp; omega
    have hl3 : (a.filter (keepK m)).length + (b.filter (keepK m)).length = (l ++ r).length := by rw [← List.length_append, hfil]
    have h0 : Ok (a.filter (keepK m)) (b.filter (keepK m)) := by
      refine ⟨by omega, fun z hz => h.key z ((hmem0 z).1 hz).1, ?_, fun z hz => h.offs z (List.mem_filter.1 hz).1, fun z hz => h.ons z (List.mem_filter.1 hz).1, fun z hz => h.fit z ((hmem0 z).1 hz).1⟩
      rw [← List.filter_append]; exact h.nod.filter _
    have hno : ∀ z ∈ a.filter (keepK m) ++ b.filter (keepK m), z.Key ≠ mkey m := fun z hz => ((hmem0 z).1 hz).2
    have hpe := put_end h0 (mkey m) p
    rw [hfil] at hpe
    refine ⟨_, _, by rw [cond_false]; exact hpe, ok_ins h0 (by omega) hx hno, fun z => ?_, ?_⟩
    · rw [← hmem0]
      unfold offA onA
      cases p.On <;> simp [or_comm, or_assoc, or_left_comm]
    · rw [← hl2, ← hl3]
      unfold offA onA
      cases p.On <;> simp <;> omega
theorem mem_new {a b : List ME} {x z : ME} : z ∈ offA a x ++ onA b x ↔ z = x ∨ z ∈ a ++ b := by
  unfold offA onA
  cases x.P.On <;> simp [or_comm, or_assoc, or_left_comm]
abbrev pz : PresPres := ⟨false, 0, 0, 0⟩
/-- the table says what waits. -/
structure Tab (st : List ME) (last : List PresPres) : Prop where
  len : last.length = 20
  has : ∀ x ∈ st, ∀ m, m < 20 → x.Key = mkey m → last[m]? = some x.P
  not : ∀ m, m < 20 → (∀ x ∈ st, x.Key ≠ mkey m) → last[m]? = some pz
theorem tab_put {st st' : List ME} {last : List PresPres} {p : PresPres} {m : Nat} (h : Tab st last) (hm : m < 20) (hx : ∀ x, x ∈ st' ↔ x = ⟨mkey m, p⟩ ∨ (x ∈ st ∧ x.Key ≠ mkey m)) : Tab st' (last.set m p) := by
  refine ⟨by rw [List.length_set]; exact h.len, fun x hx' n hn he => ?_, fun n hn hno => ?_⟩
  · rcases (hx x).1 hx' with rfl | ⟨h1, h2⟩
    · have := mkey_inj hm hn he
      subst this
      rw [List.getElem?_set, if_pos rfl, if_pos (by rw [h.len]; exact hm)]
    · have : m ≠ n := fun e => h2 (by rw [he, e])
      rw [List.getElem?_set, if_neg this]
      exact h.has x h1 n hn he
  · have : m ≠ n := fun e => hno ⟨mkey m, p⟩ ((hx _).2 (.inl rfl)) (by rw [e])
    rw [List.getElem?_set, if_neg this]
    exact h.not n hn fun x hx1 he => hno x ((hx x).2 (.inr ⟨hx1, fun e2 => this (mkey_inj hm hn (by rw [← e2, he]))⟩)) he
theorem tab_take {x : ME} {r : List ME} {last : List PresPres} {m : Nat} (h : Tab (x :: r) last) (hm : m < 20) (hx : x.Key = mkey m) (nod : (x :: r).Pairwise fun x y => x.Key ≠ y.Key) : Tab r (last.set m pz) := by
  have hne := (List.pairwise_cons.1 nod).1
  refine ⟨by rw [List.length_set]; exact h.len, fun z hz n hn he => ?_, fun n hn hno => ?_⟩
  · have : m ≠ n := fun e => hne z hz (by rw [hx, he, e])
    rw [List.getElem?_set, if_neg this]
    exact h.has z (List.mem_cons_of_mem _ hz) n hn he
  · by_cases e : m = n
    · rw [List.getElem?_set, if_pos e, if_pos (by rw [h.len]; exact hm)]
    · rw [List.getElem?_set, if_neg e]
      refine h.not n hn fun z hz he => ?_
      rcases List.mem_cons.1 hz with rfl | hz
      · exact e (mkey_inj hm hn (by rw [← hx, he]))
      · exact hno z hz he
structure MInv (st : List ME) (last : List PresPres) (w : Int) (s : Nat) : Prop where
  ok : ∃ a b, st = a ++ b ∧ Ok a b
  tab : Tab st last
  w : w = (st.length : Int)
  pos : ∀ x ∈ st, 1 ≤ x.P.Seq ∧ x.P.Seq ≤ (s : Int)
theorem arr_at {last : List PresPres} {m : Nat} {p : PresPres} (hl : last.length = 20) (h : last[m]? = some p) : arr? 20 last (m : Int) = some p := by
  unfold arr?; rw [if_pos hl, at_nat, h]
theorem mkey_b0 : ((List.range 20).all fun m => (match byte? (mkey m) 0 with | some c => c == 97 + (m : Int) | none => false) && (Int.tmod (w64 (IntKind.wrap .u8 ((97 + (m : Int)) - 97))) 20 == (m : Int)) && (mkey m).size == 5) = true := by kernel_rfl
theorem mkey_b {m : Nat} (h : m < 20) : byte? (mkey m) 0 = some (97 + (m : Int)) ∧ Int.tmod (w64 (IntKind.wrap .u8 ((97 + (m : Int)) - 97))) 20 = (m : Int) ∧ (mkey m).size = 5 := by
  have := List.all_eq_true.1 mkey_b0 m (List.mem_range.2 h)
  simp only [Bool.and_eq_true, beq_iff_eq] at this
  obtain ⟨⟨h1, h2⟩, h3⟩ := this
  refine ⟨?_, h2, h3⟩
  revert h1
  cases byte? (mkey m) 0 with
  | none => intro h; cases h
  | some c => intro h; rw [eq_of_beq h]
theorem ml2_l (l : List Law25Deed) {k : Nat} (hk : k < l.length) (s : Nat) {t : Nat} (ht : w64 (Int.tmod (l[k]).Take 3) = (t : Int)) (ht2 : t ≤ 100) : ∀ (n j F : Nat) (st : List ME) (w : Int) (last : List PresPres), j + n = t → n < F → MInv st last w s →
    ∃ w' st' c' last', p_law25_MailLast_l2 l k F w st j last = some (.inr (w', st', c', last')) ∧ MInv st' last' w' s
  | 0, j, F + 1, st, w, last, hj, hF, hI => by
    refine ⟨w, st, j, last, ?_, hI⟩
    rw [p_law25_MailLast_l2, at_lt hk]
    simp only [Option.bind_some]
    rw [ht, lt_ff (by omega)]; rfl
  | n + 1, j, F + 1, st, w, last, hj, hF, hI => by
    obtain ⟨⟨a, b, rfl, hok⟩, hT, hw, hp⟩ := hI
    rw [p_law25_MailLast_l2, at_lt hk]
    simp only [Option.bind_some]
    rw [ht, lt_tt (by omega)]
    simp only [cond_true]
    cases hst : a ++ b with
    | nil =>
      rw [hst] at hw hT hp
      have hw0 : w = 0 := hw
      subst hw0
      refine ⟨0, [], j, last, rfl, ⟨[], [], rfl, ok_nil⟩, hT, rfl, hp⟩
    | cons x r =>
      have hmx : x ∈ a ++ b := by rw [hst]; exact List.mem_cons_self
      obtain ⟨m, hm, hxk⟩ := hok.key x hmx
      obtain ⟨hb1, hb2, hb3⟩ := mkey_b hm
      have hlx := hT.has x hmx m hm hxk
      have harr := arr_at hT.len hlx
      obtain ⟨a2, b2, hr, hok2, hon⟩ := ok_tail hok hst
      have hn := hok.n
      rw [hst, List.length_cons] at hn
      have ht' := take_p hok hst
      rw [hst] at ht' hw hT hp
      rw [List.length_cons] at hw
      have hoff : x.P.On = true → p_mail_Off (x :: r) = some 0 := fun ho => by
        have := hok.off
        rw [hst, hon ho] at this; exact this
      have nod : (x :: r).Pairwise fun x y => x.Key ≠ y.Key := by rw [← hst]; exact hok.nod
      obtain ⟨w', st', c', last', g1, g2⟩ := ml2_l l hk s ht ht2 n (j + 1) F r (w - 1) (last.set m pz) (by omega) (by omega) ⟨⟨a2, b2, hr, hok2⟩, tab_take hT hm hxk nod, by omega, fun z hz => hp z (List.mem_cons_of_mem _ hz)⟩
      refine ⟨w', st', c', last', ?_, g2⟩
      rw [ht']
      simp only [Option.bind_some]
      rw [decide_eq_true (show (0 : Int) < w by omega)]
      simp only [bne_self_eq_false, cond_false, cond_true]
      rw [hxk, hb3, hb1, decide_eq_false (show ¬ ((5 : Nat) : Int) < 1 by omega)]
      simp only [Option.bind_some, cond_false]
      rw [hb2, harr]
      simp only [Option.bind_some, beq_self_eq_true, Bool.and_self, cond_true]
      rw [u8_nat (by omega), key25 (by omega), Nat.mod_eq_of_lt (by omega)]
      simp only [Option.bind_some, eqT_refl, cond_true, Int.toNat_natCast]
      rw [w64_succ (by omega), w64_id (show -9223372036854775808 ≤ w - 1 ∧ w - 1 ≤ 9223372036854775807 by omega), g1]
      cases ho : x.P.On with
      | true => rw [hoff ho]; rfl
      | false => rfl
end Go.Proofs.Ythmgficajgedlaa
/- MailLast in plain words: the deeds, one by one. -/
namespace Go.Proofs.Ythmgficajgedlaa
open Go.RowKit
theorem new_len (a b : List ME) (x : ME) : (offA a x ++ onA b x).length = (a ++ b).length + 1 := by
  unfold offA onA
  cases x.P.On <;> simp <;> omega
theorem ml1_l (l : List Law25Deed) (hl : l.length ≤ 80) (hd : ∀ d ∈ l, (0 ≤ d.Who ∧ d.Who ≤ 255) ∧ 0 ≤ d.Take ∧ d.Take ≤ 255) : ∀ (n k F : Nat) (st : List ME) (w : Int) (last : List PresPres), k + n = l.length → n < F → MInv st last w k →
    ∃ q, p_law25_MailLast_l1 l F st w k last = some (.inr q)
  | 0, k, F + 1, st, w, last, hk, hF, hI => by
    rw [p_law25_MailLast_l1, lt_ff (by omega)]; exact ⟨_, rfl⟩
  | n + 1, k, F + 1, st, w, last, hk, hF, hI => by
    have hlt : k < l.length := by omega
    obtain ⟨⟨d1, d2⟩, d3, d4⟩ := hd _ (List.getElem_mem hlt)
    obtain ⟨N, hN⟩ := Int.eq_ofNat_of_zero_le d1
    obtain ⟨M, hM⟩ := Int.eq_ofNat_of_zero_le d3
    have hN2 : N < 256 := by omega
    obtain ⟨m, hm⟩ : ∃ m, m = N % 20 := ⟨_, rfl⟩
    have hm20 : m < 20 := by omega
    have e1 : w64 (Int.tmod (N : Int) 20) = (m : Int) := by
      rw [Int.tmod_eq_emod_of_nonneg (by omega), w64_id (by omega)]; omega
    have e3 : w64 (Int.tmod (l[k]).Take 3) = ((M % 3 : Nat) : Int) := by
      rw [hM, Int.tmod_eq_emod_of_nonneg (by omega), w64_id (by omega)]; omega
    have ih := fun st w last h => ml1_l l hl hd n (k + 1) F st w last (by omega) (by omega) h
    have tail : ∀ (st2 : List ME) (w2 : Int) (last2 : List PresPres), MInv st2 last2 w2 (k + 1) → ∃ q, ((p_law25_MailLast_l2 l k fuel w2 st2 0 last2).bind fun o => match o with
        | .inl q => some (.inl q)
        | .inr q => (p_mail_Check q.2.1).bind fun v => bif (v != (0 : Int)) then some (.inl false) else bif ((q.2.1.length : Int) != q.1) then some (.inl false) else p_law25_MailLast_l1 l F q.2.1 q.1 (w64 ((k : Int) + (1 : Int))) q.2.2.2) = some (.inr q) := by
      intro st2 w2 last2 h2
      obtain ⟨w', st', c', last', g1, g2⟩ := ml2_l l hlt (k + 1) e3 (by omega) (M % 3) 0 fuel st2 w2 last2 (by omega) (by have := fuel_pos; omega) h2
      obtain ⟨q, hq⟩ := ih st' w' last' g2
      refine ⟨q, ?_⟩
      have z0 : ((0 : Nat) : Int) = 0 := rfl
      rw [z0] at g1
      obtain ⟨⟨a, b, rfl, hok⟩, _, hw, _⟩ := g2
      subst hw
      rw [g1]
      simp only [Option.bind_some]
      rw [hok.chk]
      simp only [Option.bind_some, bne_self_eq_false, cond_false]
      rw [w64_succ (by omega)]
      exact hq
    rw [p_law25_MailLast_l1, lt_tt hlt, at_lt hlt]
    simp only [cond_true, Option.bind_some]
    rw [hN, key25 hN2, ← hm, e1]
    simp only [Option.bind_some]
    have hw1 : w64 ((k : Int) + 1) = ((k + 1 : Nat) : Int) := w64_succ (by omega)
    obtain ⟨p, hp⟩ : ∃ p, p = PresPres.mk (l[k]).On 0 0 (w64 ((k : Int) + 1)) := ⟨_, rfl⟩
    rw [← hp]
    rw [hw1] at hp
    have hps : p.Seq = ((k + 1 : Nat) : Int) := by rw [hp]
    have hx : Come ⟨mkey m, p⟩ m := ⟨hm20, rfl, by rw [hp], by rw [hp], by show 0 ≤ p.Seq; omega, by show p.Seq ≤ 1000; omega⟩
    obtain ⟨⟨a, b, rfl, hok⟩, hT, hw, hpos⟩ := hI
    have hn := hok.n
    by_cases hex : ∃ y ∈ a ++ b, y.Key = mkey m
    · obtain ⟨y, hy1, hy2⟩ := hex
      obtain ⟨s, t, he⟩ := List.append_of_mem hy1
      have hq := hpos y hy1
      obtain ⟨a', b', g1, g2, g3, g4⟩ := put_old hok hx he hy2 (by omega)
      have harr := arr_at hT.len (hT.has y hy1 m hm20 hy2)
      rw [g1, harr]
      simp only [Option.bind_some]
      rw [decide_eq_true (show (0 : Int) < y.P.Seq by omega), show (y.P.Seq == (0 : Int)) = false by simp; omega]
      simp only [cond_true, cond_false, beq_self_eq_true, bne_self_eq_false, Int.toNat_natCast]
      refine tail _ _ _ ⟨⟨a', b', rfl, g2⟩, tab_put hT hm20 g3, by rw [g4]; exact hw, fun z hz => ?_⟩
      rcases (g3 z).1 hz with rfl | ⟨h1, _⟩
      · show 1 ≤ p.Seq ∧ p.Seq ≤ ((k + 1 : Nat) : Int)
        omega
      · have := hpos z h1; omega
    · have hno : ∀ y ∈ a ++ b, y.Key ≠ mkey m := fun y hy e => hex ⟨y, hy, e⟩
      have harr := arr_at hT.len (hT.not m hm20 hno)
      have hlen : (a ++ b).length = a.length + b.length := List.length_append
      by_cases hfull : a.length + b.length = 16
      · rw [put_full hok hx hno hfull, harr]
        simp only [Option.bind_some]
        rw [show decide ((0 : Int) < pz.Seq) = false from rfl, show ((7 : Int) == 0) = false from rfl, decide_eq_false (show ¬ w < 16 by omega)]
        simp only [cond_false, bne_self_eq_false]
        exact tail _ _ _ ⟨⟨a, b, rfl, hok⟩, hT, hw, fun z hz => by have := hpos z hz; omega⟩
      · rw [put_new hok hx hno (by have := hok.len; omega), harr]
        simp only [Option.bind_some]
        rw [show decide ((0 : Int) < pz.Seq) = false from rfl, decide_eq_true (show w < 16 by omega), show (pz.Seq == (0 : Int)) = true from rfl]
        simp only [cond_true, cond_false, beq_self_eq_true, bne_self_eq_false, Int.toNat_natCast]
        rw [w64_id (show -9223372036854775808 ≤ w + 1 ∧ w + 1 ≤ 9223372036854775807 by omega)]
        refine tail _ _ _ ⟨⟨_, _, rfl, ok_ins hok (by have := hok.len; omega) hx hno⟩, tab_put hT hm20 fun z => mem_new.trans (or_congr_right ⟨fun h => ⟨h, hno z h⟩, And.left⟩), by rw [new_len, hw]; rfl, fun z hz => ?_⟩
        rcases mem_new.1 hz with rfl | h1
        · show 1 ≤ p.Seq ∧ p.Seq ≤ ((k + 1 : Nat) : Int)
          omega
        · have := hpos z h1; omega
theorem tab_nil : Tab [] (List.replicate 20 (PresPres.mk false (0 : Int) (0 : Int) (0 : Int))) :=
  ⟨rfl, (fun _ h => by cases h), fun m hm _ => by rw [List.getElem?_replicate, if_pos hm]⟩
theorem mailLast_pure (l : List Law25Deed) (hd : ∀ d ∈ l, (0 ≤ d.Who ∧ d.Who ≤ 255) ∧ 0 ≤ d.Take ∧ d.Take ≤ 255) : p_law25_MailLast l = some true := by
  unfold p_law25_MailLast
  by_cases hl : 80 < l.length
  · rw [decide_eq_true (show (80 : Int) < (l.length : Int) by omega), aw25]; rfl
  · rw [decide_eq_false (show ¬ (80 : Int) < (l.length : Int) by omega)]
    obtain ⟨q, hq⟩ := ml1_l l (by omega) hd l.length 0 fuel [] 0 _ (by omega) (by have := fuel_pos; omega) ⟨⟨[], [], rfl, ok_nil⟩, tab_nil, rfl, fun _ h => by cases h⟩
    have z0 : ((0 : Nat) : Int) = 0 := rfl
    rw [z0] at hq
    rw [hq, aw25]; rfl
end Go.Proofs.Ythmgficajgedlaa
/- MailLast: what is read of its arguments. -/
namespace Go.Proofs.Ythmgficajgedlaa
open Go.RowKit
theorem mailLast_w (l : List Law25Deed) (w0 : ∀ z ∈ l, Law25Deed.Wf z) : p_law25_MailLast l = some true :=
  mailLast_pure l fun d hd => by
    obtain ⟨h1, h2⟩ := bounds_u8 (w0 d hd).Who
    obtain ⟨h3, h4⟩ := bounds_u8 (w0 d hd).Take
    omega
end Go.Proofs.Ythmgficajgedlaa
/- MailLast: for every input the call returns true, and its arguments read as they did. -/
namespace Go.Proofs.Ythmgficajgedlaa
open Go.ChangeShapes Go.WideShapes Go.ChangeAt Go.RowKit Go.Joins Go.Deep
set_option maxRecDepth 100000 in
theorem mailLast_lifted (os : Os) (started : os.Started) (H : Type) (enc : TypeId × Value → H) :
    ReturnsInHanded {} Try.checked os 8 .any (Rows.mailLastSpec.pre6 enc Try.prog Try.f8 Rows.mailLastRow.domain false) (Rows.mailLastSpec.post enc Try.prog Try.f8 false true false false) := by
  refine returnsInHanded_of_change_shaped (C := Try.checked) own0 started (by kernel_rfl) Try.func8
    (ChangeSpec.witness6 (enc := enc) (C := Try.checked) false ⟨#[], #[.slice none 0 0], []⟩ 8 (by kernel_rfl) (by kernel_rfl) (by kernel_rfl) (by kernel_rfl)) ?_
  intro W base args ds gs before hval0 hW hcnd _ hsh _
  have hval : ∀ (j : Nat) t v, Try.f8.params[j]? = some t → args[j]? = some v → Value.okWide Try.prog W .any base t v := hval0
  have hW' := hW
  obtain ⟨p, q, hA0, hV, rfl, hfz, hnd⟩ := hW
  have hA : DataW.TrodAll enc Try.prog W 0 (fun _ => true) true Try.f8.params.toList args.toList ds p := hA0
  rw [Try.params8] at hA hval
  have hA2 := hA
  obtain ⟨v0, d0, rfl, rfl, h0⟩ := trodAll_one hA
  obtain ⟨rfl, rfl⟩ := trodVars_none hV
  obtain ⟨fu0, hf0⟩ := h0
  obtain ⟨q0, l0, k0, rfl⟩ := okWide_slice Try.underlying92 (hval 0 _ v0 rfl rfl)
  obtain ⟨a0, w0, r0⟩ := rd_T92 hf0
  have hx0 : Rep (MW W) noBk _ _ := r0.2 0 (by simp [Value.cells]) (by simp)
  refine (rep_one (callsO_true (p_law25_MailLast_v a0) (mailLast_w a0 w0)) (maxLen_cell W hsh) (repA1 hx0)).mono ?_
  rintro e W' ⟨rfl, bel⟩
  refine ⟨_, rfl, _, _, _, [], p, [], hW', ?_, ?_, ?_, ?_, ?_⟩
  · exact trodAll_mk1 (shut_bool Try.underlying4 true)
  · exact trodAll_below laid0 bel (by
      intro t ht
      simp at ht
      rcases ht with rfl <;> exact ⟨by kernel_rfl, of_decide_eq_true (by kernel_rfl)⟩) hA2
  · rfl
  · exact bel.frame _
  · exact fun h => by cases h
theorem mailLast_holds : Rows.MailLastSaid :=
  OpenClaim.holds_of_wide 8 Try.f8 rfl rfl rfl rfl rfl rfl rfl ⟨rfl, rfl, rfl, rfl, rfl⟩ rfl rfl rfl rfl rfl (by kernel_rfl) Try.func8 (by kernel_rfl)
    (of_decide_eq_true (by kernel_rfl)) (by unfold Func.isWrapper; first | (rw [if_pos (by decide +kernel)]; kernel_rfl) | (rw [if_neg (by decide +kernel)]; exact ⟨rfl, rfl⟩))
    (fun os started H enc _ => mailLast_lifted os started H enc)
#print axioms mailLast_holds
end Go.Proofs.Ythmgficajgedlaa
