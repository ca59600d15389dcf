/- A part of the proof: 8 texts joined. -/
import Derived.Test.YthlhbgedidipkaaGreatVbA16
import Derived.KernelRfl
import Derived.Test.YthlhbgedidipkaaGreatVbA15
import Derived.Test.YthlhbgedidipkaaGreatVbA13
import Derived.Test.YthlhbgedidipkaaGreatVbA12
import Derived.Lib.SliceRun
import Derived.Test.YthlhbgedidipkaaGreatVbA14
set_option linter.all false
/- What is said is told; a whole snapshot, and its end. -/
namespace Go.Proofs.YthlhbgedidipkaaGreat
open Go.RowKit
theorem aw35 : p_law35_awake = some true := by kernel_rfl
theorem checkS_of {s : StzD} (h1 : knownN s.kind.toNat = true) (h2 : extraL s = false) (h3 : rangeL s = true) (h4 : s.name.size ≤ 24) (h5 : plainL s.name.data.toList = true) (h6 : isBareL s.user.data.toList = true) (h7 : resL s.res.data.toList = 0) : checkS s = 0 := by
  unfold checkS
  rw [if_neg (by simp [h1]), if_neg (by simp [h2]), if_neg (by simp [h3]), if_neg (by omega), if_neg (by simp [h5]), if_neg (by simp [h6]), h7]
theorem named_parts {u r : ByteArray} (h : namedL u r = true) : isBareL u.data.toList = true ∧ resL r.data.toList = 0 := by
  unfold namedL at h
  simp at h
  exact ⟨h.2, h.1⟩
theorem pres_bounds {p : PresPres} (h : presCheckL p = 0) : (0 ≤ p.Show ∧ p.Show ≤ 4) ∧ (-128 ≤ p.Prio ∧ p.Prio ≤ 127) ∧ (0 ≤ p.Seq ∧ p.Seq ≤ 1099511627776) ∧ (p.On = false → p.Show = 0 ∧ p.Prio = 0) := by
  obtain ⟨on, sh, prio, seq⟩ := p
  revert h
  simp only [presCheckL]
  grind
def sayV (u r : ByteArray) (p : PresPres) : StanzaStanza := if p.On = true then ⟨34, u, r, ⟨#[]⟩, p.Show, p.Prio, 0, p.Seq⟩ else ⟨35, u, r, ⟨#[]⟩, 0, 0, 0, p.Seq⟩
theorem say_v {u r : ByteArray} {p : PresPres} (hp : presCheckL p = 0) (hn : namedL u r = true) (hu : u.size ≤ 100000) (hr : r.size ≤ 100000) : p_pres_Say u r p = some (sayV u r p) := by
  unfold p_pres_Say sayV
  rw [presCheck_p, hp]
  simp only [Option.bind_some, bne_self_eq_false, cond_false]
  rw [named_p hu hr, hn]
  simp only [Option.bind_some, cond_true]
  cases p.On <;> rfl
theorem stz34 {u r : ByteArray} {sh prio seq : Int} (hn : namedL u r = true) (hu : u.size ≤ 100000) (hr : r.size ≤ 100000) (h1 : 0 ≤ sh ∧ sh ≤ 4) (h2 : -128 ≤ prio ∧ prio ≤ 127) (h3 : 0 ≤ seq ∧ seq ≤ 1099511627776) :
    p_stanza_Check ⟨34, u, r, ⟨#[]⟩, sh, prio, 0, seq⟩ = some 0 := by
  obtain ⟨hb, hz⟩ := named_parts hn
  have em : (⟨#[]⟩ : ByteArray).toList = [] := by simp
  have k34 : hasC 34 117 = true ∧ hasC 34 114 = true ∧ hasC 34 115 = true ∧ hasC 34 112 = true ∧ hasC 34 110 = true := by decide
  unfold p_stanza_Check
  rw [if_pos ⟨⟨by show (0 : Int) ≤ 34; omega, by show (34 : Int) ≤ 255; omega⟩, hu, hr, Nat.zero_le _⟩]
  congr 1
  refine checkS_of (by show knownN 34 = true; decide) ?_ ?_ (Nat.zero_le _) (by show plainL [] = true; decide) hb hz
  · have e : (stzOf ⟨34, u, r, ⟨#[]⟩, sh, prio, 0, seq⟩) = ⟨34, u, r, ⟨#[]⟩, sh, prio, 0, seq⟩ := rfl
    rw [e]
    simp only [extraL, k34.1, k34.2.1, k34.2.2.1, k34.2.2.2.1, k34.2.2.2.2, em]; simp
  · have e : (stzOf ⟨34, u, r, ⟨#[]⟩, sh, prio, 0, seq⟩) = ⟨34, u, r, ⟨#[]⟩, sh, prio, 0, seq⟩ := rfl
    rw [e]
    simp only [rangeL]; simp; omega
theorem stz35 {u r : ByteArray} {seq : Int} (hn : namedL u r = true) (hu : u.size ≤ 100000) (hr : r.size ≤ 100000) (h3 : 0 ≤ seq ∧ seq ≤ 1099511627776) :
    p_stanza_Check ⟨35, u, r, ⟨#[]⟩, 0, 0, 0, seq⟩ = some 0 := by
  obtain ⟨hb, hz⟩ := named_parts hn
  have em : (⟨#[]⟩ : ByteArray).toList = [] := by simp
  have k35 : hasC 35 117 = true ∧ hasC 35 114 = true ∧ hasC 35 110 = true := by decide
  unfold p_stanza_Check
  rw [if_pos ⟨⟨by show (0 : Int) ≤ 35; omega, by show (35 : Int) ≤ 255; omega⟩, hu, hr, Nat.zero_le _⟩]
  congr 1
  refine checkS_of (by show knownN 35 = true; decide) ?_ ?_ (Nat.zero_le _) (by show plainL [] = true; decide) hb hz
  · have e : (stzOf ⟨35, u, r, ⟨#[]⟩, 0, 0, 0, seq⟩) = ⟨35, u, r, ⟨#[]⟩, 0, 0, 0, seq⟩ := rfl
    rw [e]
    simp only [extraL, k35.1, k35.2.1, k35.2.2, em]; simp
  · have e : (stzOf ⟨35, u, r, ⟨#[]⟩, 0, 0, 0, seq⟩) = ⟨35, u, r, ⟨#[]⟩, 0, 0, 0, seq⟩ := rfl
    rw [e]
    simp only [rangeL]; simp; omega
theorem of_v {u r : ByteArray} {p : PresPres} (hp : presCheckL p = 0) (hn : namedL u r = true) (hu : u.size ≤ 100000) (hr : r.size ≤ 100000) : p_pres_Of (sayV u r p) = some (u, r, p, 0) := by
  obtain ⟨b1, b2, b3, b4⟩ := pres_bounds hp
  obtain ⟨on, sh, prio, seq⟩ := p
  cases on with
  | true =>
    have e : sayV u r ⟨true, sh, prio, seq⟩ = ⟨34, u, r, ⟨#[]⟩, sh, prio, 0, seq⟩ := rfl
    have k : ((34 : Int) != 34) = false := rfl
    have hp2 : presCheckL ⟨(34 : Int) == 34, sh, prio, seq⟩ = 0 := hp
    rw [e]
    unfold p_pres_Of
    simp only [k, cond_false]
    rw [stz34 hn hu hr b1 b2 b3, presCheck_p, hp2]
    rfl
  | false =>
    obtain ⟨q1, q2⟩ := b4 rfl
    have q1' : sh = 0 := q1
    have q2' : prio = 0 := q2
    subst q1'; subst q2'
    have e : sayV u r ⟨false, 0, 0, seq⟩ = ⟨35, u, r, ⟨#[]⟩, 0, 0, 0, seq⟩ := rfl
    have k : ((35 : Int) != 34) = true := rfl
    have k2 : ((35 : Int) != 35) = false := rfl
    have hp2 : presCheckL ⟨(35 : Int) == 34, 0, 0, seq⟩ = 0 := hp
    rw [e]
    unfold p_pres_Of
    simp only [k, k2, cond_false, cond_true]
    rw [stz35 hn hu hr b3, presCheck_p, hp2]
    rfl
theorem of_any (s : StanzaStanza) (hk : s.Kind = 34 ∨ s.Kind = 35) (hu : s.User.size ≤ 100) (hr : s.Res.size ≤ 100) (hm : s.Name.size ≤ 100) : ∃ u r p e, p_pres_Of s = some (u, r, p, e) ∧ (e = 0 → u = s.User ∧ r = s.Res) := by
  obtain ⟨c, hc⟩ : ∃ c, p_stanza_Check s = some c := ⟨_, if_pos ⟨by omega, by omega, by omega, by omega⟩⟩
  unfold p_pres_Of
  rcases hk with hk | hk
  · have k1 : (s.Kind != 34) = false := by rw [hk]; rfl
    rw [k1, hc]
    simp only [cond_false, Option.bind_some]
    by_cases h0 : c = 0
    · rw [h0, presCheck_p]
      simp only [bne_self_eq_false, cond_false, Option.bind_some]
      by_cases h1 : presCheckL ⟨s.Kind == 34, s.Show, s.Prio, s.N⟩ = 0
      · rw [h1]; exact ⟨_, _, _, _, rfl, fun _ => ⟨rfl, rfl⟩⟩
      · have h2 : (presCheckL ⟨s.Kind == 34, s.Show, s.Prio, s.N⟩ != 0) = true := by simpa using h1
        rw [h2]; exact ⟨_, _, _, _, rfl, fun h => absurd h h1⟩
    · have h2 : (c != 0) = true := by simpa using h0
      rw [h2]; exact ⟨_, _, _, _, rfl, fun h => absurd h h0⟩
  · have k1 : (s.Kind != 34) = true := by rw [hk]; rfl
    have k2 : (s.Kind != 35) = false := by rw [hk]; rfl
    rw [k1, k2, hc]
    simp only [cond_false, cond_true, Option.bind_some]
    by_cases h0 : c = 0
    · rw [h0, presCheck_p]
      simp only [bne_self_eq_false, cond_false, Option.bind_some]
      by_cases h1 : presCheckL ⟨s.Kind == 34, s.Show, s.Prio, s.N⟩ = 0
      · rw [h1]; exact ⟨_, _, _, _, rfl, fun _ => ⟨rfl, rfl⟩⟩
      · have h2 : (presCheckL ⟨s.Kind == 34, s.Show, s.Prio, s.N⟩ != 0) = true := by simpa using h1
        rw [h2]; exact ⟨_, _, _, _, rfl, fun h => absurd h h1⟩
    · have h2 : (c != 0) = true := by simpa using h0
      rw [h2]; exact ⟨_, _, _, _, rfl, fun h => absurd h h0⟩
theorem row_bad {st : Ref35State} {s : StanzaStanza} {u r : ByteArray} {p : PresPres} {e : Int} (ho : p_pres_Of s = some (u, r, p, e)) (he : e ≠ 0) : p_view_State_row st s = some st := by
  have h2 : (e != 0) = true := by simpa using he
  unfold p_view_State_row
  rw [ho]
  simp only [Option.bind_some, h2, cond_true]
theorem row_any {n : Nat} {st : Ref35State} (h : GoodV n st) (hn : n ≤ 64) (s : StanzaStanza) (hk : s.Kind = 34 ∨ s.Kind = 35) (hu : s.User.size ≤ 100) (hr : s.Res.size ≤ 100) (hm : s.Name.size ≤ 100) :
    ∃ st', p_view_State_row st s = some st' ∧ GoodV (n + 1) st' ∧ st'.Told = st.Told ∧ st.Odd ≤ st'.Odd := by
  obtain ⟨u, r, p, e, ho, he⟩ := of_any s hk hu hr hm
  by_cases h0 : e = 0
  · subst h0
    obtain ⟨rfl, rfl⟩ := he rfl
    exact ⟨_, row_p h hn ho (by omega) (by omega), h.row _ _, rfl, (odd_ok h _ _).1⟩
  · exact ⟨_, row_bad ho h0, h.more (Nat.le_succ n), rfl, Int.le_refl _⟩
theorem tell_any {n : Nat} {st : Ref35State} (h : GoodV n st) (hn : n ≤ 64) (s : StanzaStanza) (hu : s.User.size ≤ 100) (hr : s.Res.size ≤ 100) (hm : s.Name.size ≤ 100) :
    ∃ st', p_view_Tell st s = some st' ∧ GoodV (n + 1) st' ∧ st.Told ≤ st'.Told ∧ st.Odd ≤ st'.Odd := by
  have ut := upV_ok h.t0
  have g := h.up.more (Nat.le_succ n)
  rw [tell_0 h hn]
  cases k36 : s.Kind == 36 with
  | true => exact ⟨_, rfl, ⟨g.rs, g.ls, List.Pairwise.nil, g.cs, g.rn, g.ln, Nat.zero_le _, g.cn, fun _ => rfl, g.o0, g.t0⟩, ut.1, Int.le_refl _⟩
  | false =>
  cases k37 : s.Kind == 37 with
  | true =>
    refine ⟨_, rfl, g.done, ?_, ?_⟩
    · have : (doneV (upT st)).Told = upV st.Told := by unfold doneV; split <;> rfl
      rw [this]; exact ut.1
    · have : (doneV (upT st)).Odd = st.Odd := by unfold doneV; split <;> rfl
      rw [this]; exact Int.le_refl _
  | false =>
  cases k34 : s.Kind == 34 with
  | true =>
    obtain ⟨st', e, g2, t2, o2⟩ := row_any h.up hn s (.inl (by simpa using k34)) hu hr hm
    exact ⟨st', e, g2, by rw [t2]; exact ut.1, o2⟩
  | false =>
  cases k35 : s.Kind == 35 with
  | true =>
    obtain ⟨st', e, g2, t2, o2⟩ := row_any h.up hn s (.inr (by simpa using k35)) hu hr hm
    exact ⟨st', e, g2, by rw [t2]; exact ut.1, o2⟩
  | false =>
  cases k38 : s.Kind == 38 with
  | true => exact ⟨_, rfl, ⟨g.rs, g.ls, g.ss, srt_full g.cs _, g.rn, g.ln, g.sn, (put_len _).2 g.cn, g.an, g.o0, g.t0⟩, ut.1, Int.le_refl _⟩
  | false =>
  cases k39 : s.Kind == 39 with
  | true => exact ⟨_, rfl, ⟨g.rs, g.ls, g.ss, srt_filter g.cs _, g.rn, g.ln, g.sn, Nat.le_trans (List.length_filter_le _ _) g.cn, g.an, g.o0, g.t0⟩, ut.1, Int.le_refl _⟩
  | false => exact ⟨_, rfl, g, ut.1, Int.le_refl _⟩
end Go.Proofs.YthlhbgedidipkaaGreat

/- A whole snapshot, in plain words. -/
namespace Go.Proofs.YthlhbgedidipkaaGreat
open Go.RowKit
def ent (x : BookRow) : MailEntry := ⟨keyR x, x.P⟩
structure RowsOK (rows : List BookRow) : Prop where
  small : smallB rows
  chk : ∀ x ∈ rows, presCheckL x.P = 0 ∧ x.P.On = true ∧ namedL x.User x.Res = true
  ord : sortedR rows
  len : rows.length ≤ 16
theorem err_all : ∀ {rows : List BookRow}, errL rows = 0 → ∀ x ∈ rows, presCheckL x.P = 0 ∧ x.P.On = true
  | [], _, x, hx => by cases hx
  | r :: l, h, x, hx => by
    unfold errL at h
    by_cases h1 : presCheckL r.P = 0
    · rw [if_neg (by simpa using h1)] at h
      by_cases h2 : r.P.On = false
      · rw [if_pos h2] at h; omega
      · rw [if_neg h2] at h
        rcases List.mem_cons.1 hx with h3 | h3
        · subst h3; exact ⟨h1, by simpa using h2⟩
        · exact err_all h x h3
    · rw [if_pos h1] at h; exact absurd h h1
theorem rows_ok {seq : Int} {rows : List BookRow} (hc : bookCheck seq rows = 0) (hs : smallB rows) : RowsOK rows where
  small := hs
  ord := ord_sorted (check_ord hc)
  len := check_len hc
  chk := by
    have h1 : emptyL rows = false ∧ errL rows = 0 := by
      have h := hc
      unfold bookCheck at h
      cases he : emptyL rows with
      | true =>
        rw [if_pos he] at h
        split at h
        · omega
        · split at h <;> omega
      | false =>
        refine ⟨rfl, ?_⟩
        by_cases h0 : errL rows = 0
        · exact h0
        · exfalso
          rw [he, if_neg (show ¬ (false = true) by simp), if_pos h0] at h
          split at h
          · omega
          · split at h
            · omega
            · exact h0 h
    intro x hx
    obtain ⟨a, b⟩ := err_all h1.2 x hx
    refine ⟨a, b, ?_⟩
    cases hn : namedL x.User x.Res with
    | true => rfl
    | false =>
      have hk : keyR x = ⟨#[]⟩ := keyL_no hn
      have : emptyL rows = true := by
        unfold emptyL
        exact List.any_eq_true.2 ⟨x, hx, by rw [hk]; simp⟩
      rw [h1.1] at this; cases this
theorem key_ne {rows : List BookRow} (h : sortedR rows) {i j : Nat} (hi : i < rows.length) (hj : j < rows.length) (hk : keyR rows[i] = keyR rows[j]) : i = j := by
  rcases Nat.lt_trichotomy i j with h1 | h1 | h1
  · have := h i j hj h1
    unfold cmpR at this
    rw [hk, cmp_refl] at this; omega
  · exact h1
  · have := h j i hi h1
    unfold cmpR at this
    rw [hk, cmp_refl] at this; omega
theorem take_mem {rows : List BookRow} {j : Nat} (hj : j < rows.length) (x : BookRow) : x ∈ rows.take (j + 1) ↔ x ∈ rows.take j ∨ x = rows[j] := by
  rw [List.take_add_one, List.getElem?_eq_getElem hj, List.mem_append]
  show _ ∨ x ∈ [rows[j]] ↔ _
  rw [List.mem_singleton]
theorem has_iff {α : Type} {nm : α → ByteArray} {l : List α} (hs : Srt nm l) (k : ByteArray) : hasK nm l k = true ↔ ∃ y ∈ l, nm y = k := by
  constructor
  · intro h
    obtain ⟨hj, hk⟩ := has_yes h
    exact ⟨_, List.getElem_mem hj, hk⟩
  · rintro ⟨y, hy, hk⟩
    cases h : hasK nm l k with
    | true => rfl
    | false =>
      obtain ⟨i, hi, rfl⟩ := List.getElem_of_mem hy
      rcases Nat.lt_or_ge i (posK nm l k) with h1 | h1
      · have := pos_lt hi h1; rw [hk, cmpB_self] at this; omega
      · have := has_no hs h hi h1; rw [hk, cmpB_self] at this; omega
structure SnapV (rows : List BookRow) (n j : Nat) (st0 st : Ref35State) : Prop where
  good : GoodV (n + j) st
  anew : st.Anew = true
  seen : ∀ k, k ∈ st.Seen ↔ ∃ x ∈ rows.take j, k = keyR x
  rws : ∀ x ∈ rows.take j, ent x ∈ st.Rows
  last : (∀ y ∈ st0.Last, ∃ x ∈ rows, y = ent x) → (∀ y ∈ st.Last, ∃ x ∈ rows, y = ent x) ∧ st.Odd = st0.Odd
theorem say_kind {u r : ByteArray} {p : PresPres} (h : p.On = true) : (sayV u r p).Kind = 34 := by unfold sayV; rw [if_pos h]
theorem say_kind0 {u r : ByteArray} {p : PresPres} (h : p.On = false) : (sayV u r p).Kind = 35 := by unfold sayV; rw [if_neg (by simp [h])]
theorem tell_row {n : Nat} {st : Ref35State} (h : GoodV n st) (hn : n ≤ 64) {u r : ByteArray} {p : PresPres} (hp : presCheckL p = 0) (hm : namedL u r = true) (hu : u.size ≤ 100000) (hr : r.size ≤ 100000) :
    p_view_Tell st (sayV u r p) = some (rowV (upT st) (keyL u r) p) := by
  rw [tell_0 h hn]
  have k1 : ((34 : Int) == 36) = false := rfl
  have k2 : ((34 : Int) == 37) = false := rfl
  have k3 : ((34 : Int) == 34) = true := rfl
  have k4 : ((35 : Int) == 36) = false := rfl
  have k5 : ((35 : Int) == 37) = false := rfl
  have k6 : ((35 : Int) == 34) = false := rfl
  have k7 : ((35 : Int) == 35) = true := rfl
  cases ho : p.On with
  | true =>
    simp only [say_kind ho, k1, k2, k3, cond_false, cond_true]
    exact row_p h.up hn (of_v hp hm hu hr) hu hr
  | false =>
    simp only [say_kind0 ho, k4, k5, k6, k7, cond_false, cond_true]
    exact row_p h.up hn (of_v hp hm hu hr) hu hr
theorem snap_step {rows : List BookRow} (hr : RowsOK rows) {n j : Nat} {st0 st : Ref35State} (hn : n + j < 64) (hj : j < rows.length) (h : SnapV rows n j st0 st) :
    ∃ st', p_view_Tell st (sayV rows[j].User rows[j].Res rows[j].P) = some st' ∧ SnapV rows n (j + 1) st0 st' := by
  have hx := hr.chk _ (List.getElem_mem hj)
  have hz := hr.small _ (List.getElem_mem hj)
  have g := h.good
  have g1 := g.rn; have g2 := g.ln; have g3 := g.sn
  have hkk : keyL rows[j].User rows[j].Res = keyR rows[j] := rfl
  refine ⟨_, tell_row h.good (by omega) hx.1 hx.2.2 hz.1 hz.2, ?_⟩
  rw [hkk]
  refine ⟨g.up.row _ _, h.anew, fun k => ?_, fun x hxm => ?_, fun h0 => ?_⟩
  · show k ∈ (if st.Anew = true then inK idB st.Seen (keyR rows[j]) else st.Seen) ↔ _
    rw [if_pos h.anew, put_mem g.ss _ (by omega)]
    constructor
    · rintro (h1 | ⟨h1, _⟩)
      · exact ⟨_, (take_mem hj _).2 (.inr rfl), h1⟩
      · obtain ⟨x, hx1, hx2⟩ := (h.seen k).1 h1
        exact ⟨x, (take_mem hj _).2 (.inl hx1), hx2⟩
    · rintro ⟨x, hx1, hx2⟩
      rcases (take_mem hj x).1 hx1 with h1 | h1
      · by_cases h3 : k = keyR rows[j]
        · exact .inl h3
        · exact .inr ⟨(h.seen k).2 ⟨x, h1, hx2⟩, h3⟩
      · subst h1; exact .inl hx2
  · show ent x ∈ (if rows[j].P.On = true then inK MailEntry.Key st.Rows ⟨keyR rows[j], rows[j].P⟩ else _)
    rw [if_pos hx.2.1, put_mem g.rs _ (by omega)]
    rcases (take_mem hj x).1 hxm with h1 | h1
    · refine .inr ⟨h.rws x h1, fun h2 => ?_⟩
      obtain ⟨i, hi, rfl⟩ := List.getElem_of_mem h1
      rw [List.length_take] at hi
      rw [List.getElem_take] at h2
      have := key_ne hr.ord (show i < rows.length by omega) hj h2
      omega
    · subst h1; exact .inl rfl
  · obtain ⟨l1, l2⟩ := h.last h0
    constructor
    · intro y hy
      have hy' : y ∈ inK MailEntry.Key st.Last ⟨keyR rows[j], rows[j].P⟩ := hy
      rcases (put_mem g.ls _ (by omega) y).1 hy' with h1 | ⟨h1, _⟩
      · exact ⟨_, List.getElem_mem hj, h1⟩
      · exact l1 y h1
    · show oddV (upT st) (keyR rows[j]) rows[j].P = st0.Odd
      rw [← l2]
      show (if hasK MailEntry.Key st.Last (keyR rows[j]) = true then match st.Last[posK MailEntry.Key st.Last (keyR rows[j])]? with
        | some y => if rows[j].P.Seq < y.P.Seq ∨ (y.P.Seq = rows[j].P.Seq ∧ st.Anew = false) then upV st.Odd else st.Odd
        | none => st.Odd
      else st.Odd) = st.Odd
      cases hk : hasK MailEntry.Key st.Last (keyR rows[j]) with
      | false => rfl
      | true =>
        obtain ⟨hp, hk2⟩ := has_yes hk
        rw [if_pos rfl, List.getElem?_eq_getElem hp]
        obtain ⟨x, hx1, hx2⟩ := l1 _ (List.getElem_mem hp)
        obtain ⟨i, hi, rfl⟩ := List.getElem_of_mem hx1
        rw [hx2] at hk2
        have e := key_ne hr.ord hi hj hk2
        subst e
        simp only [hx2]
        show (if rows[i].P.Seq < rows[i].P.Seq ∨ (rows[i].P.Seq = rows[i].P.Seq ∧ st.Anew = false) then upV st.Odd else st.Odd) = st.Odd
        rw [if_neg (by simp [h.anew])]
def anewV (st : Ref35State) : Ref35State := ⟨st.Rows, st.Last, true, [], st.List, st.Odd, upV st.Told⟩
theorem tell_snap {n : Nat} {st : Ref35State} (h : GoodV n st) (hn : n ≤ 64) (m : Int) : p_view_Tell st ⟨36, ⟨#[]⟩, ⟨#[]⟩, ⟨#[]⟩, 0, 0, 0, m⟩ = some (anewV st) := by
  rw [tell_0 h hn]; rfl
theorem tell_done {n : Nat} {st : Ref35State} (h : GoodV n st) (hn : n ≤ 64) : p_view_Tell st ⟨37, ⟨#[]⟩, ⟨#[]⟩, ⟨#[]⟩, 0, 0, 0, 0⟩ = some (doneV (upT st)) := by
  rw [tell_0 h hn]; rfl
theorem GoodV.anew {n : Nat} {st : Ref35State} (h : GoodV n st) : GoodV n (anewV st) := by
  have g := h.up
  exact ⟨g.rs, g.ls, List.Pairwise.nil, g.cs, g.rn, g.ln, Nat.zero_le _, g.cn, fun _ => rfl, g.o0, g.t0⟩
theorem snap_start {rows : List BookRow} {n : Nat} {st : Ref35State} (h : GoodV n st) : SnapV rows n 0 st (anewV st) where
  good := h.anew
  anew := rfl
  seen := fun k => by simp [anewV]
  rws := fun x hx => by simp at hx
  last := fun h0 => ⟨h0, rfl⟩
theorem snap_end {rows : List BookRow} (hr : RowsOK rows) {n : Nat} {st0 st : Ref35State} (hn : n + rows.length ≤ 64) (h : SnapV rows n rows.length st0 st) :
    (doneV (upT st)).Rows = rows.map ent ∧ (doneV (upT st)).Anew = false ∧ GoodV (n + rows.length) (doneV (upT st)) ∧ (doneV (upT st)).Last = st.Last ∧ (doneV (upT st)).Odd = st.Odd := by
  have g := h.good
  have e : doneV (upT st) = ⟨st.Rows.filter fun x => hasK idB st.Seen x.Key, st.Last, false, [], st.List, st.Odd, upV st.Told⟩ := by
    unfold doneV
    rw [if_pos (show (upT st).Anew = true from h.anew)]; rfl
  refine ⟨?_, by rw [e], g.up.done, by rw [e], by rw [e]⟩
  rw [e]
  refine srt_ext (nm := MailEntry.Key) (srt_filter g.rs _) ?_ fun y => ?_
  · unfold Srt
    rw [List.pairwise_map, List.pairwise_iff_getElem]
    intro i j hi hj hij
    exact hr.ord i j hj hij
  · rw [List.mem_filter, has_iff g.ss, List.mem_map]
    constructor
    · rintro ⟨h1, k, hk1, hk2⟩
      obtain ⟨x, hx1, hx2⟩ := (h.seen k).1 hk1
      have hxr : x ∈ rows := List.mem_of_mem_take hx1
      refine ⟨x, hxr, ?_⟩
      have hk3 : k = y.Key := hk2
      exact srt_inj g.rs (h.rws x hx1) h1 (by rw [← hk3, hx2]; rfl)
    · rintro ⟨x, hx, rfl⟩
      have hx1 : x ∈ rows.take rows.length := by rw [List.take_length]; exact hx
      exact ⟨h.rws x hx1, keyR x, (h.seen _).2 ⟨x, hx1, rfl⟩, rfl⟩
theorem fits_l {rows : List BookRow} (hr : RowsOK rows) : ∀ (n k F : Nat), k + n = rows.length → n < F →
    p_slices_EqualFunc_view_Row_l1 (fun x0 x1 => p_view_Fits_1 x0 x1) rows (rows.map ent) (rows.length : Int) F k = some (.inr (rows.length : Int))
  | 0, k, F + 1, hk, hF => by
    have : k = rows.length := by omega
    rw [p_slices_EqualFunc_view_Row_l1, lt_ff (by omega), this]; rfl
  | n + 1, k, F + 1, hk, hF => by
    have hlt : k < rows.length := by omega
    have hl := hr.len
    have hlt2 : k < (rows.map ent).length := by rw [List.length_map]; exact hlt
    have hz := hr.small _ (List.getElem_mem hlt)
    have hf : p_view_Fits_1 (ent rows[k]) rows[k] = some true := by
      unfold p_view_Fits_1
      rw [key_p hz.1 hz.2]
      have e : (ent rows[k]).Key = keyL rows[k].User rows[k].Res := rfl
      have e2 : (ent rows[k]).P = rows[k].P := rfl
      rw [e, e2]
      simp
    rw [p_slices_EqualFunc_view_Row_l1, lt_tt hlt, at_lt hlt, at_lt hlt2, List.getElem_map]
    simp only [cond_true, Option.bind_some, hf]
    rw [w64_succ (by omega)]
    exact fits_l hr n (k + 1) F (by omega) (by omega)
theorem fits_p {rows : List BookRow} (hr : RowsOK rows) {st : Ref35State} (h : st.Rows = rows.map ent) : p_view_Fits st rows = some true := by
  have := fits_l hr rows.length 0 fuel (by omega) (by have := hr.len; have := fuel_pos; omega)
  have z0 : ((0 : Nat) : Int) = 0 := rfl
  rw [z0] at this
  unfold p_view_Fits p_slices_EqualFunc_view_Row
  rw [h, List.length_map, this]
  simp
theorem book35_l (st : BookState) (hn : st.Rows.length ≤ 1000) : ∀ (n k F : Nat) (acc : BookState), k + n = st.Rows.length → n < F → acc.Rows.length = k →
    p_law26_Book_l1 st F k acc = some ((st.Rows.length : Int), ⟨acc.Seq, acc.Rows ++ st.Rows.drop k⟩)
  | 0, k, F + 1, acc, hk, hF, ha => by
    have e : st.Rows.drop k = [] := List.drop_of_length_le (by omega)
    have : k = st.Rows.length := by omega
    rw [p_law26_Book_l1, lt_ff (by omega), e, this]; simp
  | n + 1, k, F + 1, acc, hk, hF, ha => by
    have hlt : k < st.Rows.length := by omega
    rw [p_law26_Book_l1, lt_tt hlt, at_lt hlt, drop_at hlt]
    simp only [cond_true, Option.bind_some]
    rw [app_ok (by simp; omega), w64_succ (by omega)]
    simp only [Option.bind_some]
    rw [book35_l st hn n (k + 1) F _ (by omega) (by omega) (by simp; omega)]
    simp only [List.append_assoc]; rfl
theorem book35_p (st : BookState) (hn : st.Rows.length ≤ 1000) : p_law26_Book st = some st := by
  unfold p_law26_Book
  have := book35_l st hn st.Rows.length 0 fuel ⟨st.Seq, []⟩ (by omega) (by have := fuel_pos; omega) rfl
  have z0 : ((0 : Nat) : Int) = 0 := rfl
  rw [z0, List.drop_zero] at this
  rw [this]; rfl
theorem good_0 : GoodV 0 ⟨[], [], false, [], [], 0, 0⟩ := ⟨List.Pairwise.nil, List.Pairwise.nil, List.Pairwise.nil, List.Pairwise.nil, Nat.zero_le _, Nat.zero_le _, Nat.zero_le _, Nat.zero_le _, fun _ => rfl, by decide, by decide⟩
end Go.Proofs.YthlhbgedidipkaaGreat

/- That the program's functions yield what the plain ones tell (written by a program of mine). -/
namespace Go.Proofs.YthlhbgedidipkaaGreat
open Go.RowKit
def gc149 : BCode := (.seq (.reg 0 [⟨(some 4),.mv (.const (.bool false)),none,0⟩] none 0 []) (.seq (.reg 0 [⟨(some 5),.mv (.tmp 1),none,0⟩,⟨(some 6),.cl 143 [(.tmp 5)],none,0⟩,⟨(some 7),.bin .eql (.tmp 6) (.const (.int .i64 0)),none,0⟩,⟨(some 8),.mv (.tmp 7),none,0⟩,⟨(some 9),.mv (.tmp 0),(some (8,true)),0⟩,⟨(some 10),.cl 104 [(.tmp 9)],(some (8,true)),0⟩,⟨(some 11),.pick (.tmp 8) (.tmp 10) (.const (.bool false)),none,0⟩,⟨(some 4),.mv (.tmp 11),none,0⟩] none 0 []) .ret))
theorem gc149_ok : compF Tryz.prog Tryz.f149 = some (gc149.er,12,[.tmp 4]) := by unfold gc149;kernel_rfl
set_option maxRecDepth 100000 in
set_option maxHeartbeats 4000000 in
theorem p_pres_named_v (a0 : ByteArray) (a1 : ByteArray) : CallsO Tryz.prog 149 [.s a0,.s a1] V.b (p_pres_named a0 a1) := by
 refine callsO_comp mix Tryz.func149 gc149_ok fun r H=>?_
 rw [p_pres_named] at H
 conv=>whnf
 refine ask_c (p_addr_Resource_v _) H rfl rfl (fun v1 H=>?_);conv=>whnf
 refine tst_d H (fun b2 H=>?_) (fun b2 H=>?_)
 ·conv=>whnf
  iterate 2 (refine Tst.F ?_;conv=>whnf)
  exact fin0_c (enc := V.b) H (.inr rfl) (.cons (.tmp rfl) (.nil)) rfl rfl
 conv=>whnf
 refine Tst.T ?_;conv=>whnf
 refine ask_c (p_addr_IsBare_v _) H rfl rfl (fun v3 H=>?_);conv=>whnf
 refine Tst.T ?_;conv=>whnf
 exact fin0_c (enc := V.b) H (.inr rfl) (.cons (.tmp rfl) (.nil)) rfl rfl
def gc85 : BCode := (.seq (.reg 0 [⟨(some 4),.mv (.const (.string ⟨#[]⟩)),none,0⟩] none 0 []) (.seq (.seq (.reg 0 [⟨(some 5),.mv (.tmp 0),none,0⟩,⟨(some 6),.mv (.tmp 1),none,0⟩,⟨(some 7),.cl 149 [(.tmp 5),(.tmp 6)],none,0⟩,⟨(some 8),.un .not (.tmp 7),none,0⟩] none 0 []) (.cond (.tmp 8) (.seq (.reg 0 [⟨(some 4),.mv (.const (.string ⟨#[]⟩)),none,0⟩] none 0 []) .ret) .skip)) (.seq (.reg 0 [⟨(some 9),.mv (.tmp 0),none,0⟩,⟨(some 10),.bin .add (.tmp 9) (.const (.string ⟨#[32]⟩)),none,0⟩,⟨(some 11),.mv (.tmp 1),none,0⟩,⟨(some 12),.bin .add (.tmp 10) (.tmp 11),none,0⟩,⟨(some 4),.mv (.tmp 12),none,0⟩] none 0 []) .ret)))
theorem gc85_ok : compF Tryz.prog Tryz.f85 = some (gc85.er,13,[.tmp 4]) := by unfold gc85;kernel_rfl
set_option maxRecDepth 100000 in
set_option maxHeartbeats 4000000 in
theorem p_pres_Key_v (a0 : ByteArray) (a1 : ByteArray) : CallsO Tryz.prog 85 [.s a0,.s a1] V.s (p_pres_Key a0 a1) := by
 refine callsO_comp mix Tryz.func85 gc85_ok fun r H=>?_
 rw [p_pres_Key] at H
 conv=>whnf
 refine ask_c (p_pres_named_v _ _) H rfl rfl (fun v1 H=>?_);conv=>whnf
 refine Tst.not ?_
 refine tst_d H (fun b2 H=>?_) (fun b2 H=>?_)
 ·conv=>whnf
  exact fin0_c (enc := V.s) H (.inr rfl) (.cons (.tmp rfl) (.nil)) rfl rfl
 conv=>whnf
 refine cat_c H (fun s3 H=>?_);conv=>whnf
 refine cat_c H (fun s4 H=>?_);conv=>whnf
 exact fin0_c (enc := V.s) H (.inr rfl) (.cons (.tmp rfl) (.nil)) rfl rfl
def gc218 : BCode := (.seq (.reg 0 [⟨(some 6),.mv (.const (.bool false)),none,0⟩] none 0 []) (.seq (.reg 0 [⟨(some 7),.mv (.tmp 1),none,0⟩,⟨(some 8),.mv (.tmp 0),none,0⟩,⟨(some 9),.bin .leq (.tmp 7) (.tmp 8),none,0⟩,⟨(some 10),.mv (.tmp 9),none,0⟩,⟨(some 11),.mv (.tmp 0),(some (10,true)),0⟩,⟨(some 12),.mv (.tmp 2),(some (10,true)),0⟩,⟨(some 13),.bin .leq (.tmp 11) (.tmp 12),(some (10,true)),0⟩,⟨(some 14),.pick (.tmp 10) (.tmp 13) (.const (.bool false)),none,0⟩,⟨(some 6),.mv (.tmp 14),none,0⟩] none 0 []) .ret))
theorem gc218_ok : compF Tryz.prog Tryz.f218 = some (gc218.er,15,[.tmp 6]) := by unfold gc218;kernel_rfl
set_option maxRecDepth 100000 in
set_option maxHeartbeats 4000000 in
theorem p_pres_in_v (a0 : Int) (a1 : Int) (a2 : Int) : CallsO Tryz.prog 218 [.i a0,.i a1,.i a2] V.b (p_pres_in a0 a1 a2) := by
 refine callsO_comp mix Tryz.func218 gc218_ok fun r H=>?_
 rw [p_pres_in] at H
 conv=>whnf
 refine tst_c H (fun b1 H=>?_) (fun b1 H=>?_)
 ·conv=>whnf
  iterate 3 (refine Tst.T ?_;conv=>whnf)
  exact fin0_c (enc := V.b) H (.inr rfl) (.cons (.tmp rfl) (.nil)) rfl rfl
 conv=>whnf
 iterate 3 (refine Tst.F ?_;conv=>whnf)
 exact fin0_c (enc := V.b) H (.inr rfl) (.cons (.tmp rfl) (.nil)) rfl rfl
def gc148 : BCode := (.seq (.reg 1 [⟨(some 1),.bx (.tmp 0),none,0⟩,⟨(some 2),.mv (.const (.int .i64 0)),none,1⟩] none 0 []) (.seq (.seq (.reg 0 [⟨(some 4),.fa 1 (.tmp 1),none,0⟩,⟨(some 5),.ld 1 false (.tmp 4),none,0⟩,⟨(some 6),.cl 218 [(.tmp 5),(.const (.int .i64 0)),(.const (.int .i64 4))],none,0⟩,⟨(some 7),.un .not (.tmp 6),none,0⟩,⟨(some 8),.mv (.tmp 7),none,0⟩,⟨(some 9),.fa 2 (.tmp 1),(some (8,false)),0⟩,⟨(some 10),.ld 1 false (.tmp 9),(some (8,false)),0⟩,⟨(some 11),.cl 218 [(.tmp 10),(.const (.int .i64 (-128))),(.const (.int .i64 127))],(some (8,false)),0⟩,⟨(some 12),.un .not (.tmp 11),(some (8,false)),0⟩,⟨(some 13),.pick (.tmp 8) (.const (.bool true)) (.tmp 12),none,0⟩,⟨(some 14),.mv (.tmp 13),none,0⟩,⟨(some 15),.fa 3 (.tmp 1),(some (14,false)),0⟩,⟨(some 16),.ld 1 false (.tmp 15),(some (14,false)),0⟩,⟨(some 17),.cl 218 [(.tmp 16),(.const (.int .i64 0)),(.const (.int .i64 1099511627776))],(some (14,false)),0⟩,⟨(some 18),.un .not (.tmp 17),(some (14,false)),0⟩,⟨(some 19),.pick (.tmp 14) (.const (.bool true)) (.tmp 18),none,0⟩] none 0 []) (.cond (.tmp 19) (.seq (.reg 0 [⟨(some 2),.mv (.const (.int .i64 8)),none,0⟩] none 0 []) .ret) .skip)) (.seq (.seq (.reg 1 [⟨(some 20),.fa 3 (.tmp 1),none,0⟩,⟨(some 21),.ld 1 false (.tmp 20),none,0⟩,⟨(some 22),.bd [(.lit (.bool false)),(.lit (.int .i64 0)),(.lit (.int .i64 0)),(.lit (.int .i64 0))] [(3,1,(.tmp 21))],none,0⟩,⟨(some 3),.al (.agg [(.lit (.bool false)),(.lit (.int .i64 0)),(.lit (.int .i64 0)),(.lit (.int .i64 0))]),none,0⟩,⟨none,.st 4 (.tmp 3) (.tmp 22),none,1⟩] none 0 []) (.seq (.reg 0 [⟨(some 23),.fa 0 (.tmp 1),none,0⟩,⟨(some 24),.ld 1 false (.tmp 23),none,0⟩,⟨(some 25),.un .not (.tmp 24),none,0⟩,⟨(some 26),.mv (.tmp 25),none,0⟩,⟨(some 27),.ld 4 true (.tmp 1),(some (26,true)),0⟩,⟨(some 28),.ld 4 true (.tmp 3),(some (26,true)),0⟩,⟨(some 29),.eqa true [0,1,1,1] (.tmp 27) (.tmp 28),(some (26,true)),0⟩,⟨(some 30),.pick (.tmp 26) (.tmp 29) (.const (.bool false)),none,0⟩] none 0 []) (.cond (.tmp 30) (.seq (.reg 0 [⟨(some 2),.mv (.const (.int .i64 4)),none,0⟩] none 0 []) .ret) .skip))) (.seq (.reg 0 [⟨(some 2),.mv (.const (.int .i64 0)),none,0⟩] none 0 []) .ret))))
theorem gc148_ok : compF Tryz.prog Tryz.f148 = some (gc148.er,31,[.tmp 2]) := by unfold gc148;kernel_rfl
set_option maxRecDepth 100000 in
set_option maxHeartbeats 4000000 in
theorem p_pres_Check_v (a0 : PresPres) : CallsO Tryz.prog 148 [.agg [.b a0.On,.i a0.Show,.i a0.Prio,.i a0.Seq]] V.i (p_pres_Check a0) := by
 refine callsO_comp mix Tryz.func148 gc148_ok fun r H=>?_
 rw [p_pres_Check] at H
 conv=>whnf
 refine ask_c (p_pres_in_v _ _ _) H rfl rfl (fun v1 H=>?_);conv=>whnf
 refine Tst.not ?_
 refine tst_d H (fun b2 H=>?_) (fun b2 H=>?_)
 ·conv=>whnf
  iterate 10 (refine Tst.T ?_;conv=>whnf)
  exact fin0_c (enc := V.i) H (.inr rfl) (.cons (.tmp rfl) (.nil)) rfl rfl
 conv=>whnf
 iterate 2 (refine Tst.F ?_;conv=>whnf)
 refine ask_c (p_pres_in_v _ _ _) H rfl rfl (fun v3 H=>?_);conv=>whnf
 iterate 2 (refine Tst.F ?_;conv=>whnf)
 refine Tst.not ?_
 refine tst_d H (fun b4 H=>?_) (fun b4 H=>?_)
 ·conv=>whnf
  iterate 5 (refine Tst.T ?_;conv=>whnf)
  exact fin0_c (enc := V.i) H (.inr rfl) (.cons (.tmp rfl) (.nil)) rfl rfl
 conv=>whnf
 iterate 2 (refine Tst.F ?_;conv=>whnf)
 refine ask_c (p_pres_in_v _ _ _) H rfl rfl (fun v5 H=>?_);conv=>whnf
 iterate 2 (refine Tst.F ?_;conv=>whnf)
 refine Tst.not ?_
 refine tst_d H (fun b6 H=>?_) (fun b6 H=>?_)
 ·conv=>whnf
  exact fin0_c (enc := V.i) H (.inr rfl) (.cons (.tmp rfl) (.nil)) rfl rfl
 conv=>whnf
 refine ⟨Nat.le_of_ble_eq_true rfl,?_⟩;conv=>whnf
 refine Tst.not ?_
 refine tst_c H (fun b7 H=>?_) (fun b7 H=>?_)
 ·conv=>whnf
  iterate 4 (refine Tst.F ?_;conv=>whnf)
  exact fin0_c (enc := V.i) H (.inr rfl) (.cons (.tmp rfl) (.nil)) rfl rfl
 conv=>whnf
 iterate 3 (refine Tst.T ?_;conv=>whnf)
 refine Tst.not ?_
 refine tst_c H (fun b8 H=>?_) (fun b8 H=>?_)
 ·conv=>whnf
  exact fin0_c (enc := V.i) H (.inr rfl) (.cons (.tmp rfl) (.nil)) rfl rfl
 conv=>whnf
 exact fin0_c (enc := V.i) H (.inr rfl) (.cons (.tmp rfl) (.nil)) rfl rfl
end Go.Proofs.YthlhbgedidipkaaGreat

/- That the program's functions yield what the plain ones tell (written by a program of mine). -/
namespace Go.Proofs.YthlhbgedidipkaaGreat
open Go.RowKit
def gc77 : BCode := (.seq (.reg 2 [⟨(some 5),.bx (.tmp 2),none,0⟩,⟨(some 6),.al (.agg [(.lit (.int .u8 0)),(.lit (.string ⟨#[]⟩)),(.lit (.string ⟨#[]⟩)),(.lit (.string ⟨#[]⟩)),(.lit (.int .i64 0)),(.lit (.int .i64 0)),(.lit (.int .i64 0)),(.lit (.int .i64 0))]),none,1⟩] none 0 []) (.seq (.seq (.reg 0 [⟨(some 8),.ld 4 true (.tmp 5),none,0⟩,⟨(some 9),.cl 148 [(.tmp 8)],none,0⟩,⟨(some 10),.bin .neq (.tmp 9) (.const (.int .i64 0)),none,0⟩,⟨(some 11),.mv (.tmp 10),none,0⟩,⟨(some 12),.mv (.tmp 0),(some (11,false)),0⟩,⟨(some 13),.mv (.tmp 1),(some (11,false)),0⟩,⟨(some 14),.cl 149 [(.tmp 12),(.tmp 13)],(some (11,false)),0⟩,⟨(some 15),.un .not (.tmp 14),(some (11,false)),0⟩,⟨(some 16),.pick (.tmp 11) (.const (.bool true)) (.tmp 15),none,0⟩] none 0 []) (.cond (.tmp 16) (.seq (.reg 0 [⟨(some 17),.bd [(.lit (.int .u8 0)),(.lit (.string ⟨#[]⟩)),(.lit (.string ⟨#[]⟩)),(.lit (.string ⟨#[]⟩)),(.lit (.int .i64 0)),(.lit (.int .i64 0)),(.lit (.int .i64 0)),(.lit (.int .i64 0))] [],none,0⟩,⟨none,.st 8 (.tmp 6) (.tmp 17),none,0⟩] none 0 []) .ret) .skip)) (.seq (.reg 1 [⟨(some 18),.mv (.tmp 0),none,0⟩,⟨(some 19),.mv (.tmp 1),none,0⟩,⟨(some 20),.fa 3 (.tmp 5),none,0⟩,⟨(some 21),.ld 1 false (.tmp 20),none,0⟩,⟨(some 22),.bd [(.lit (.int .u8 0)),(.lit (.string ⟨#[]⟩)),(.lit (.string ⟨#[]⟩)),(.lit (.string ⟨#[]⟩)),(.lit (.int .i64 0)),(.lit (.int .i64 0)),(.lit (.int .i64 0)),(.lit (.int .i64 0))] [(0,1,(.const (.int .u8 35))),(1,1,(.tmp 18)),(2,1,(.tmp 19)),(7,1,(.tmp 21))],none,0⟩,⟨(some 7),.al (.agg [(.lit (.int .u8 0)),(.lit (.string ⟨#[]⟩)),(.lit (.string ⟨#[]⟩)),(.lit (.string ⟨#[]⟩)),(.lit (.int .i64 0)),(.lit (.int .i64 0)),(.lit (.int .i64 0)),(.lit (.int .i64 0))]),none,0⟩,⟨none,.st 8 (.tmp 7) (.tmp 22),none,1⟩] none 0 []) (.seq (.seq (.reg 0 [⟨(some 23),.fa 0 (.tmp 5),none,0⟩,⟨(some 24),.ld 1 false (.tmp 23),none,0⟩] none 0 []) (.cond (.tmp 24) (.reg 0 [⟨(some 25),.fa 1 (.tmp 5),none,0⟩,⟨(some 26),.ld 1 false (.tmp 25),none,0⟩,⟨(some 27),.fa 2 (.tmp 5),none,0⟩,⟨(some 28),.ld 1 false (.tmp 27),none,0⟩,⟨(some 29),.fa 0 (.tmp 7),none,0⟩,⟨none,.st 1 (.tmp 29) (.const (.int .u8 34)),none,0⟩,⟨(some 30),.fa 4 (.tmp 7),none,0⟩,⟨none,.st 1 (.tmp 30) (.tmp 26),none,0⟩,⟨(some 31),.fa 5 (.tmp 7),none,0⟩,⟨none,.st 1 (.tmp 31) (.tmp 28),none,0⟩] (some [[],[0],[],[2],[],[4],[5,4,1,0],[0,1,4,5,6],[7,6,5,4,3,2,1,0],[0,1,2,3,4,5,6,7,8]]) 0 []) .skip)) (.seq (.reg 0 [⟨(some 32),.ld 8 true (.tmp 7),none,0⟩,⟨none,.st 8 (.tmp 6) (.tmp 32),none,0⟩] none 0 []) .ret)))))
theorem gc77_ok : compF Tryz.prog Tryz.f77 = some (gc77.er,33,[.cell 6 8 true]) := by unfold gc77;kernel_rfl
set_option maxRecDepth 100000 in
set_option maxHeartbeats 4000000 in
theorem p_pres_Say_v (a0 : ByteArray) (a1 : ByteArray) (a2 : PresPres) : CallsO Tryz.prog 77 [.s a0,.s a1,.agg [.b a2.On,.i a2.Show,.i a2.Prio,.i a2.Seq]] StanzaStanza.v (p_pres_Say a0 a1 a2) := by
 refine callsO_comp mix Tryz.func77 gc77_ok fun r H=>?_
 rw [p_pres_Say] at H
 conv=>whnf
 refine ask_c (p_pres_Check_v _) H rfl rfl (fun v1 H=>?_);conv=>whnf
 refine tst_c H (fun b2 H=>?_) (fun b2 H=>?_)
 ·conv=>whnf
  iterate 5 (refine Tst.T ?_;conv=>whnf)
  refine ⟨Nat.le_of_ble_eq_true rfl,?_⟩;conv=>whnf
  exact fin0_c (enc := StanzaStanza.v) H (.inr rfl) (.cons (.cell rfl rfl (Nat.le_of_ble_eq_true rfl)) (.nil)) rfl rfl
 conv=>whnf
 iterate 2 (refine Tst.F ?_;conv=>whnf)
 refine ask_c (p_pres_named_v _ _) H rfl rfl (fun v3 H=>?_);conv=>whnf
 iterate 2 (refine Tst.F ?_;conv=>whnf)
 refine Tst.not ?_
 refine tst_d H (fun b4 H=>?_) (fun b4 H=>?_)
 ·conv=>whnf
  refine ⟨Nat.le_of_ble_eq_true rfl,?_⟩;conv=>whnf
  exact fin0_c (enc := StanzaStanza.v) H (.inr rfl) (.cons (.cell rfl rfl (Nat.le_of_ble_eq_true rfl)) (.nil)) rfl rfl
 conv=>whnf
 refine ⟨Nat.le_of_ble_eq_true rfl,?_⟩;conv=>whnf
 refine tst_d H (fun b5 H=>?_) (fun b5 H=>?_)
 ·conv=>whnf
  refine ⟨Nat.le_of_ble_eq_true rfl,?_⟩;conv=>whnf
  exact fin0_c (enc := StanzaStanza.v) H (.inr rfl) (.cons (.cell rfl rfl (Nat.le_of_ble_eq_true rfl)) (.nil)) rfl rfl
 conv=>whnf
 refine ⟨Nat.le_of_ble_eq_true rfl,?_⟩;conv=>whnf
 refine ⟨Nat.le_of_ble_eq_true rfl,?_⟩;conv=>whnf
 refine ⟨Nat.le_of_ble_eq_true rfl,?_⟩;conv=>whnf
 refine FootQ.mk ⟨rfl,?_⟩;conv=>whnf
 refine ⟨Nat.le_of_ble_eq_true rfl,?_⟩;conv=>whnf
 exact fin0_c (enc := StanzaStanza.v) H (.inr rfl) (.cons (.cell rfl rfl (Nat.le_of_ble_eq_true rfl)) (.nil)) rfl rfl
end Go.Proofs.YthlhbgedidipkaaGreat

/- That the program's functions yield what the plain ones tell (written by a program of mine). -/
namespace Go.Proofs.YthlhbgedidipkaaGreat
open Go.RowKit
def gc191 : BCode := (.seq (.reg 0 [⟨(some 4),.mv (.const (.int .i64 0)),none,0⟩] none 0 []) (.seq (.seq (.reg 0 [⟨(some 6),.mv (.tmp 0),none,0⟩,⟨(some 7),.lens (.tmp 6),none,0⟩,⟨(some 8),.mv (.const (.int .i64 0)),none,0⟩] none 0 []) (.block 0 (.loop (.seq (.reg 0 [⟨(some 9),.bin .lss (.tmp 8) (.tmp 7),none,0⟩] none 0 []) (.seq (.cond (.tmp 9) .skip (.exit 0)) (.seq (.block 1 (.seq (.reg 0 [⟨(some 10),.mv (.tmp 8),none,0⟩,⟨(some 5),.mv (.tmp 10),none,0⟩] none 0 []) (.seq (.reg 0 [⟨(some 11),.mv (.tmp 1),none,0⟩,⟨(some 12),.mv (.tmp 0),none,0⟩,⟨(some 13),.mv (.tmp 5),none,0⟩,⟨(some 14),.ixs 5 (.tmp 12) (.tmp 13),none,0⟩,⟨(some 15),.ld 5 true (.tmp 14),none,0⟩,⟨(some 16),.cv (.tmp 11) [(.tmp 15)],none,0⟩] none 0 []) (.cond (.tmp 16) (.seq (.reg 0 [⟨(some 17),.mv (.tmp 5),none,0⟩,⟨(some 4),.mv (.tmp 17),none,0⟩] none 0 []) .ret) .skip)))) (.reg 0 [⟨(some 18),.bin .add (.tmp 8) (.const (.int .i64 1)),none,0⟩,⟨(some 8),.mv (.tmp 18),none,0⟩] none 0 []))))))) (.seq (.reg 0 [⟨(some 4),.mv (.const (.int .i64 (-1))),none,0⟩] none 0 []) .ret)))
theorem gc191_ok : compF Tryz.prog Tryz.f191 = some (gc191.er,19,[.tmp 4]) := by unfold gc191;kernel_rfl
set_option maxRecDepth 100000 in
set_option maxHeartbeats 4000000 in
theorem p_slices_IndexFunc_view_Row_v {u1 : Bool} (a0 : List MailEntry) (a1 : MailEntry → Option Bool) {a1_g : Nat} {a1_k : List V} (a1_h : Clo1 Tryz.prog a1_g a1_k MailEntry.v V.b a1) : CallsO Tryz.prog 191 [.sl (List.map MailEntry.v a0) u1,.clo (.func a1_g) a1_k] V.i (p_slices_IndexFunc_view_Row a0 a1) := by
 refine callsO_comp mix Tryz.func191 gc191_ok fun r H=>?_
 rw [p_slices_IndexFunc_view_Row] at H
 conv=>whnf
 refine LenQ.M ?_;conv=>whnf
 obtain ⟨o2,HL3,HQ4⟩ := bind_c H
 refine loop_c [4,8] [5,9,10,11,12,13,14,15,16,17,18] [5,9,10,11,12,13,14,15,16,17,18] (fun n vals st=>(∃ y6,p_slices_IndexFunc_view_Row_l1  a1 a0 (a0.length : Int) n y6 = some o2 ∧ vals = [.i (0 : Int),.i y6] ∧ st = [])) fuel 0 [] (⟨_,HL3,rfl,rfl⟩) (Nat.zero_le _) rfl (by simp only [maskF,setF,List.set_cons_zero,List.set_cons_succ,V.ren.renL,V.ren,renL_id _ a1_h.own] <;> rfl) (by simp only [maskF,setF,List.set_cons_zero,List.set_cons_succ,V.idlt.belowL,V.idlt,fun n=>idltL_up (n := n) _ a1_h.own] <;> rfl) rfl trivial ?_
 rintro (_ | n5) _ _ (⟨y6,H,rfl,rfl⟩)
 ·rw [p_slices_IndexFunc_view_Row_l1] at H;cases H
 rw [p_slices_IndexFunc_view_Row_l1] at H
 conv=>whnf
 refine tst_d H (fun b7 H=>?_) (fun b7 H=>?_)
 ·conv=>whnf
  obtain rfl := Option.some.inj H
  have H := HQ4
  try dsimp only at H
  exact fin0_c (enc := V.i) H (.inr rfl) (.cons (.tmp rfl) (.nil)) rfl rfl
 conv=>whnf
 refine ixs_c (f := MailEntry.v) H (fun _=>rfl) (fun x8 H=>?_);conv=>whnf
 refine askC_c a1_h H (.cons (fzagg (.cons (.id rfl) (.cons (.id rfl) (.cons (.id rfl) (.cons (.id rfl) (.cons (.id rfl) (.nil)))))) rfl) (.nil)) (fun v9 H=>?_);conv=>whnf
 refine tst_c H (fun b10 H=>?_) (fun b10 H=>?_)
 ·conv=>whnf
  obtain rfl := Option.some.inj H
  have H := HQ4
  try dsimp only at H
  exact fin0_c (enc := V.i) H (.inr rfl) (.cons (.tmp rfl) (.nil)) rfl rfl
 conv=>whnf
 refine Ari.w ?_;conv=>whnf
 exact again_c [5,9,10,11,12,13,14,15,16,17,18] n5 0 [] (⟨_,H,rfl,rfl⟩) (Nat.lt_succ_self _) (Nat.zero_le _) rfl (by simp only [maskF,setF,List.set_cons_zero,List.set_cons_succ,V.ren.renL,V.ren,renL_id _ a1_h.own] <;> rfl) (by simp only [maskF,setF,List.set_cons_zero,List.set_cons_succ,V.idlt.belowL,V.idlt,fun n=>idltL_up (n := n) _ a1_h.own] <;> rfl) rfl trivial
def gc265 : BCode := (.seq (.reg 0 [⟨(some 4),.mv (.const (.int .i64 0)),none,0⟩] none 0 []) (.seq (.seq (.reg 0 [⟨(some 6),.mv (.tmp 0),none,0⟩,⟨(some 7),.lens (.tmp 6),none,0⟩,⟨(some 8),.mv (.const (.int .i64 0)),none,0⟩] none 0 []) (.block 0 (.loop (.seq (.reg 0 [⟨(some 9),.bin .lss (.tmp 8) (.tmp 7),none,0⟩] none 0 []) (.seq (.cond (.tmp 9) .skip (.exit 0)) (.seq (.block 1 (.seq (.reg 0 [⟨(some 10),.mv (.tmp 8),none,0⟩,⟨(some 5),.mv (.tmp 10),none,0⟩] none 0 []) (.seq (.reg 0 [⟨(some 11),.mv (.tmp 1),none,0⟩,⟨(some 12),.mv (.tmp 0),none,0⟩,⟨(some 13),.mv (.tmp 5),none,0⟩,⟨(some 14),.ixs 4 (.tmp 12) (.tmp 13),none,0⟩,⟨(some 15),.ld 4 true (.tmp 14),none,0⟩,⟨(some 16),.cv (.tmp 11) [(.tmp 15)],none,0⟩] none 0 []) (.cond (.tmp 16) (.seq (.reg 0 [⟨(some 17),.mv (.tmp 5),none,0⟩,⟨(some 4),.mv (.tmp 17),none,0⟩] none 0 []) .ret) .skip)))) (.reg 0 [⟨(some 18),.bin .add (.tmp 8) (.const (.int .i64 1)),none,0⟩,⟨(some 8),.mv (.tmp 18),none,0⟩] none 0 []))))))) (.seq (.reg 0 [⟨(some 4),.mv (.const (.int .i64 (-1))),none,0⟩] none 0 []) .ret)))
theorem gc265_ok : compF Tryz.prog Tryz.f265 = some (gc265.er,19,[.tmp 4]) := by unfold gc265;kernel_rfl
set_option maxRecDepth 100000 in
set_option maxHeartbeats 4000000 in
theorem p_slices_IndexFunc_view_Contact_v {u1 : Bool} (a0 : List Ref35Contact) (a1 : Ref35Contact → Option Bool) {a1_g : Nat} {a1_k : List V} (a1_h : Clo1 Tryz.prog a1_g a1_k Ref35Contact.v V.b a1) : CallsO Tryz.prog 265 [.sl (List.map Ref35Contact.v a0) u1,.clo (.func a1_g) a1_k] V.i (p_slices_IndexFunc_view_Contact a0 a1) := by
 refine callsO_comp mix Tryz.func265 gc265_ok fun r H=>?_
 rw [p_slices_IndexFunc_view_Contact] at H
 conv=>whnf
 refine LenQ.M ?_;conv=>whnf
 obtain ⟨o2,HL3,HQ4⟩ := bind_c H
 refine loop_c [4,8] [5,9,10,11,12,13,14,15,16,17,18] [5,9,10,11,12,13,14,15,16,17,18] (fun n vals st=>(∃ y6,p_slices_IndexFunc_view_Contact_l1  a1 a0 (a0.length : Int) n y6 = some o2 ∧ vals = [.i (0 : Int),.i y6] ∧ st = [])) fuel 0 [] (⟨_,HL3,rfl,rfl⟩) (Nat.zero_le _) rfl (by simp only [maskF,setF,List.set_cons_zero,List.set_cons_succ,V.ren.renL,V.ren,renL_id _ a1_h.own] <;> rfl) (by simp only [maskF,setF,List.set_cons_zero,List.set_cons_succ,V.idlt.belowL,V.idlt,fun n=>idltL_up (n := n) _ a1_h.own] <;> rfl) rfl trivial ?_
 rintro (_ | n5) _ _ (⟨y6,H,rfl,rfl⟩)
 ·rw [p_slices_IndexFunc_view_Contact_l1] at H;cases H
 rw [p_slices_IndexFunc_view_Contact_l1] at H
 conv=>whnf
 refine tst_d H (fun b7 H=>?_) (fun b7 H=>?_)
 ·conv=>whnf
  obtain rfl := Option.some.inj H
  have H := HQ4
  try dsimp only at H
  exact fin0_c (enc := V.i) H (.inr rfl) (.cons (.tmp rfl) (.nil)) rfl rfl
 conv=>whnf
 refine ixs_c (f := Ref35Contact.v) H (fun _=>rfl) (fun x8 H=>?_);conv=>whnf
 refine askC_c a1_h H (.cons (fzagg (.cons (.id rfl) (.cons (.id rfl) (.cons (.id rfl) (.cons (.id rfl) (.nil))))) rfl) (.nil)) (fun v9 H=>?_);conv=>whnf
 refine tst_c H (fun b10 H=>?_) (fun b10 H=>?_)
 ·conv=>whnf
  obtain rfl := Option.some.inj H
  have H := HQ4
  try dsimp only at H
  exact fin0_c (enc := V.i) H (.inr rfl) (.cons (.tmp rfl) (.nil)) rfl rfl
 conv=>whnf
 refine Ari.w ?_;conv=>whnf
 exact again_c [5,9,10,11,12,13,14,15,16,17,18] n5 0 [] (⟨_,H,rfl,rfl⟩) (Nat.lt_succ_self _) (Nat.zero_le _) rfl (by simp only [maskF,setF,List.set_cons_zero,List.set_cons_succ,V.ren.renL,V.ren,renL_id _ a1_h.own] <;> rfl) (by simp only [maskF,setF,List.set_cons_zero,List.set_cons_succ,V.idlt.belowL,V.idlt,fun n=>idltL_up (n := n) _ a1_h.own] <;> rfl) rfl trivial
end Go.Proofs.YthlhbgedidipkaaGreat

/- slices.DeleteFunc at function 213. -/
namespace Go.Proofs.YthlhbgedidipkaaGreat
open Go.RowKit
def dc213 : BCode := (.seq (.reg 0 [⟨(some 4), .mv (.const (.slice none 0 0)), none, 0⟩] none 0 []) (.seq (.reg 0 [⟨(some 8), .mv (.tmp 0), none, 0⟩, ⟨(some 9), .mv (.tmp 1), none, 0⟩, ⟨(some 10), .cl 265 [(.tmp 8), (.tmp 9)], none, 0⟩, ⟨(some 5), .mv (.tmp 10), none, 0⟩] none 0 []) (.seq (.seq (.reg 0 [⟨(some 11), .mv (.tmp 5), none, 0⟩, ⟨(some 12), .bin .eql (.tmp 11) (.const (.int .i64 (-1))), none, 0⟩] none 0 []) (.cond (.tmp 12) (.seq (.reg 0 [⟨(some 13), .mv (.tmp 0), none, 0⟩, ⟨(some 4), .mv (.tmp 13), none, 0⟩] none 0 []) .ret) .skip)) (.seq (.seq (.reg 0 [⟨(some 14), .mv (.tmp 5), none, 0⟩, ⟨(some 15), .bin .add (.tmp 14) (.const (.int .i64 1)), none, 0⟩, ⟨(some 6), .mv (.tmp 15), none, 0⟩] none 0 []) (.block 0 (.loop (.seq (.seq (.reg 0 [⟨(some 16), .mv (.tmp 6), none, 0⟩, ⟨(some 17), .mv (.tmp 0), none, 0⟩, ⟨(some 18), .lens (.tmp 17), none, 0⟩, ⟨(some 19), .bin .lss (.tmp 16) (.tmp 18), none, 0⟩] none 0 []) (.cond (.tmp 19) .skip (.exit 0))) (.seq (.block 1 (.seq (.reg 1 [⟨(some 22), .mv (.tmp 0), none, 0⟩, ⟨(some 23), .mv (.tmp 6), none, 0⟩, ⟨(some 24), .ixs 4 (.tmp 22) (.tmp 23), none, 0⟩, ⟨(some 25), .ld 4 true (.tmp 24), none, 0⟩, ⟨(some 7), .al (.agg [(.lit (.string ⟨#[]⟩)), (.lit (.string ⟨#[]⟩)), (.lit (.int .i64 0)), (.lit (.int .i64 0))]), none, 0⟩, ⟨none, .st 4 (.tmp 7) (.tmp 25), none, 1⟩] none 0 []) (.seq (.reg 0 [⟨(some 26), .mv (.tmp 1), none, 0⟩, ⟨(some 27), .ld 4 true (.tmp 7), none, 0⟩, ⟨(some 28), .cv (.tmp 26) [(.tmp 27)], none, 0⟩, ⟨(some 29), .un .not (.tmp 28), none, 0⟩] none 0 []) (.cond (.tmp 29) (.seq (.reg 0 [⟨(some 30), .mv (.tmp 0), none, 0⟩, ⟨(some 31), .mv (.tmp 5), none, 0⟩, ⟨(some 32), .ld 4 true (.tmp 7), none, 0⟩, ⟨(some 33), .ixs 4 (.tmp 30) (.tmp 31), none, 0⟩, ⟨none, .st 4 (.tmp 33) (.tmp 32), none, 0⟩] none 0 []) (.reg 0 [⟨(some 34), .mv (.tmp 5), none, 0⟩, ⟨(some 35), .bin .add (.tmp 34) (.const (.int .i64 1)), none, 0⟩, ⟨(some 5), .mv (.tmp 35), none, 0⟩] none 0 [])) .skip)))) (.reg 0 [⟨(some 20), .mv (.tmp 6), none, 0⟩, ⟨(some 21), .bin .add (.tmp 20) (.const (.int .i64 1)), none, 0⟩, ⟨(some 6), .mv (.tmp 21), none, 0⟩] none 0 [])))))) (.seq (.reg 0 [⟨(some 36), .mv (.tmp 0), none, 0⟩, ⟨(some 37), .mv (.tmp 5), none, 0⟩, ⟨(some 38), .sls 4 (.tmp 36) (some (.tmp 37)) none none, none, 0⟩, ⟨none, .clr 4 (.tmp 38), none, 0⟩] none 0 []) (.seq (.reg 0 [⟨(some 39), .mv (.tmp 0), none, 0⟩, ⟨(some 40), .mv (.tmp 5), none, 0⟩, ⟨(some 41), .sls 4 (.tmp 39) none (some (.tmp 40)) none, none, 0⟩, ⟨(some 4), .mv (.tmp 41), none, 0⟩] none 0 []) .ret))))))
theorem dc213_ok : compF Tryz.prog Tryz.f213 = some (dc213.er, 42, [.tmp 4]) := by unfold dc213; kernel_rfl
theorem dfi213 (fn : Ref35Contact → Option Bool) (p : Ref35Contact → Bool) (rows : List Ref35Contact) (hn : rows.length ≤ 1000000) (hf : ∀ x ∈ rows, fn x = some (p x)) : ∀ (n k F : Nat), k + n = rows.length → n < F →
    p_slices_IndexFunc_view_Contact_l1 fn rows rows.length F k = some (if (rows.drop k).any p = true then .inl ((k + (rows.drop k).findIdx p : Nat) : Int) else .inr (rows.length : Int))
  | 0, k, F + 1, hk, hF => by
    have e : rows.drop k = [] := List.drop_of_length_le (by omega)
    have : k = rows.length := by omega
    rw [p_slices_IndexFunc_view_Contact_l1, lt_ff (by omega), e, this]; rfl
  | n + 1, k, F + 1, hk, hF => by
    have hlt : k < rows.length := by omega
    rw [p_slices_IndexFunc_view_Contact_l1, lt_tt hlt, at_lt hlt, drop_at hlt]
    simp only [cond_true, Option.bind_some, hf _ (List.getElem_mem hlt)]
    cases hp : p rows[k] with
    | true => rw [List.any_cons, hp, List.findIdx_cons, hp]; rfl
    | false =>
      simp only [cond_false]
      rw [w64_succ (by omega), dfi213 fn p rows hn hf n (k + 1) F (by omega) (by omega)]
      simp only [List.any_cons, hp, Bool.false_or, List.findIdx_cons, cond_false]
      split
      · congr 3; omega
      · rfl
theorem dfx213 {fn : Ref35Contact → Option Bool} (p : Ref35Contact → Bool) {rows : List Ref35Contact} (hn : rows.length ≤ 1000000) (hf : ∀ x ∈ rows, fn x = some (p x)) : p_slices_IndexFunc_view_Contact rows fn = some (if rows.any p = true then (rows.findIdx p : Int) else -1) := by
  unfold p_slices_IndexFunc_view_Contact
  have := dfi213 fn p rows hn hf rows.length 0 fuel (by omega) (by have := fuel_pos; omega)
  rw [show ((0 : Int)) = ((0 : Nat) : Int) from rfl, this, List.drop_zero]
  cases rows.any p <;> simp
set_option maxRecDepth 100000 in
set_option maxHeartbeats 4000000 in
theorem dfS213 (l : List Ref35Contact) {g : Nat} {caps : List V} {fn : Ref35Contact → Option Bool} (hc : Clo1 Tryz.prog g caps Ref35Contact.v V.b fn) (p : Ref35Contact → Bool) (hn : l.length ≤ 1000000) (hf : ∀ x ∈ l, fn x = some (p x)) :
    CallsS Tryz.prog 213 [.osl 0 0 l.length 4 false, .clo (.func g) caps] [.live (cellsM Ref35Contact.v l) 0] (.osl 0 0 (l.filter fun x => !p x).length 4 false) [.live (cellsM Ref35Contact.v (l.filter fun x => !p x)) 0] := by
  refine callsR_c (n0 := 1) mix Tryz.func213 dc213_ok rfl ?_
  conv => whnf
  refine askT_c (X := some) (r := if l.any p = true then (l.findIdx p : Int) else -1) [0] (p_slices_IndexFunc_view_Contact_v l fn hc) (by rw [dfx213 p hn hf]; rfl) (.cons (.c (fzown (f := Ref35Contact.v) (l := l) rfl rfl (fun _ => rfl) (fun _ => rfl))) (.cons (.c (.id (by exact hc.own))) .nil)) (fun _ => rfl) (fun x H => ?_)
  obtain rfl := Option.some.inj H
  conv => whnf
  by_cases hany : l.any p = true
  · rw [if_pos hany]
    have hk0 : l.findIdx p < l.length := List.findIdx_lt_length_of_exists (by simpa using hany)
    refine Tst.isF (beq_eq_false_iff_ne.2 (by omega)) ?_; conv => whnf
    refine Ari.w ?_; conv => whnf
    have hw : IntKind.i64.wrap ((l.findIdx p : Int) + 1) = ((l.findIdx p + 1 : Nat) : Int) := w64_succ (by omega)
    rw [hw]
    refine loop_c [5, 6] [7, 16, 17, 18, 19, 20, 21, 22, 23, 24, 25, 26, 27, 28, 29, 30, 31, 32, 33, 34, 35] [7, 16, 17, 18, 19, 20, 21, 22, 23, 24, 25, 26, 27, 28, 29, 30, 31, 32, 33, 34, 35] (fun n vals st => ∃ (i j : Nat) (y : List Ref35Contact), vals = [.i i, .i j] ∧ st = [.live (cellsM Ref35Contact.v y) 0] ∧ y.length = l.length ∧ i < j ∧ j ≤ l.length ∧ y.drop j = l.drop j ∧ y.take i = (l.take j).filter (fun x => !p x) ∧ i ≤ l.length ∧ n = l.length - j) (l.length - (l.findIdx p + 1)) 1 [] ⟨l.findIdx p, l.findIdx p + 1, l, rfl, rfl, rfl, by omega, by omega, rfl, df_start hk0, by omega, rfl⟩ (Nat.le_refl _) rfl
      (by simp only [maskF, setF, List.set_cons_zero, List.set_cons_succ, V.ren.renL, V.ren, renL_id _ hc.own] <;> rfl) (by simp only [maskF, setF, List.set_cons_zero, List.set_cons_succ, V.idlt.belowL, V.idlt, fun n => idltL_up (n := n) _ hc.own] <;> rfl) rfl (wkB_live0 rfl (cellsM_idlt (f := Ref35Contact.v) (fun _ => rfl) _) rfl trivial) ?_
    rintro n _ _ ⟨i, j, y, rfl, rfl, hyl, hij, hjl, hyd, hyt, hil, rfl⟩
    conv => whnf
    by_cases hj : j < l.length
    · refine Tst.isT (lt_tt hj) ?_; conv => whnf
      have hmem : l[j] ∈ l := List.getElem_mem hj
      have hx : y[(j : Int).toNat]? = some l[j] := by
        rw [Int.toNat_natCast]
        have h1 : (y.drop j)[0]? = (l.drop j)[0]? := by rw [hyd]
        rw [List.getElem?_drop, List.getElem?_drop, Nat.add_zero] at h1
        rw [h1, List.getElem?_eq_getElem hj]
      refine ⟨rfl, ⟨Int.natCast_nonneg _, by rw [Int.toNat_natCast]; exact hj, ?_⟩⟩; conv => whnf
      refine ldo_c (f := Ref35Contact.v) (es := 4) hx (fun _ => rfl) 0 (by omega) (by decide) ?_; conv => whnf
      refine ⟨Nat.le_of_ble_eq_true rfl, ?_⟩; conv => whnf
      refine askC_c (X := some) (r := p l[j]) (a := l[j]) hc (by rw [hf _ hmem]; rfl) (fza_ids rfl) (fun v H => ?_)
      obtain rfl := Option.some.inj H
      conv => whnf
      have hw1 : IntKind.i64.wrap ((j : Int) + 1) = ((j + 1 : Nat) : Int) := w64_succ (by omega)
      have hw2 : IntKind.i64.wrap ((i : Int) + 1) = ((i + 1 : Nat) : Int) := w64_succ (by omega)
      cases hp : p l[j] with
      | false =>
        refine Tst.isT rfl ?_; conv => whnf
        refine ⟨rfl, ⟨Int.natCast_nonneg _, by rw [Int.toNat_natCast]; omega, ?_⟩⟩; conv => whnf
        refine ⟨Nat.zero_le _, sto_c (f := Ref35Contact.v) (l := y) (n := i) (es := 4) (x := y[i]'(by omega)) (List.getElem?_eq_getElem (by omega)) (x' := l[j]) (fun _ => rfl) 0 (by rw [Int.toNat_natCast]; omega) (Nat.le_of_ble_eq_true rfl) (by rfl) ?_⟩; conv => whnf
        refine Ari.w ?_; conv => whnf
        refine Ari.w ?_; conv => whnf
        rw [hw1, hw2]
        have hd := df_keep hyl hij hj hyd hyt hp
        exact again_c [7, 16, 17, 18, 19, 20, 21, 22, 23, 24, 25, 26, 27, 28, 29, 30, 31, 32, 33, 34, 35] (l.length - (j + 1)) 1 [] ⟨i + 1, j + 1, y.set i l[j], rfl, rfl, by rw [List.length_set]; exact hyl, by omega, by omega, hd.1, hd.2, by omega, rfl⟩ (by omega) (Nat.le_refl _) rfl
          (by simp only [maskF, setF, List.set_cons_zero, List.set_cons_succ, V.ren.renL, V.ren, renL_id _ hc.own] <;> rfl) (by simp only [maskF, setF, List.set_cons_zero, List.set_cons_succ, V.idlt.belowL, V.idlt, fun n => idltL_up (n := n) _ hc.own] <;> rfl) rfl (wkB_live0 rfl (cellsM_idlt (f := Ref35Contact.v) (fun _ => rfl) _) rfl trivial)
      | true =>
        refine Tst.isF rfl ?_; conv => whnf
        refine Ari.w ?_; conv => whnf
        rw [hw1]
        have hd := df_skip hj hyd hyt hp
        exact again_c [7, 16, 17, 18, 19, 20, 21, 22, 23, 24, 25, 26, 27, 28, 29, 30, 31, 32, 33, 34, 35] (l.length - (j + 1)) 1 [] ⟨i, j + 1, y, rfl, rfl, hyl, by omega, by omega, hd.1, hd.2, hil, rfl⟩ (by omega) (Nat.le_refl _) rfl
          (by simp only [maskF, setF, List.set_cons_zero, List.set_cons_succ, V.ren.renL, V.ren, renL_id _ hc.own] <;> rfl) (by simp only [maskF, setF, List.set_cons_zero, List.set_cons_succ, V.idlt.belowL, V.idlt, fun n => idltL_up (n := n) _ hc.own] <;> rfl) rfl (wkB_live0 rfl (cellsM_idlt (f := Ref35Contact.v) (fun _ => rfl) _) rfl trivial)
    · refine Tst.isF (lt_ff (by omega)) ?_; conv => whnf
      have hjl' : j = l.length := by omega
      subst hjl'
      rw [List.take_length] at hyt
      have hfl : (l.filter fun x => !p x).length = i := by rw [← hyt, List.length_take]; omega
      refine ⟨rfl, sloT_c i rfl (by omega) ?_⟩; conv => whnf
      refine ⟨rfl, clr_c (cs' := cellsM Ref35Contact.v (l.filter fun x => !p x)) (Nat.zero_le _) (by rw [cellsM_len (f := Ref35Contact.v) (es := 4) (fun _ => rfl), hyl]; exact (Nat.zero_add _).symm ▸ Nat.mul_le_mul_right _ (by omega)) (by omega) (by rw [Nat.zero_add, ← hyt]; exact (cellsM_take (f := Ref35Contact.v) (es := 4) (fun _ => rfl) y i (by omega)).1.symm) ?_⟩; conv => whnf
      refine ⟨rfl, sloP_c i rfl (by omega) ?_⟩; conv => whnf
      rw [hfl]
      exact ⟨f_R0 (.inr rfl) (.cons (.tmp rfl) .nil) rfl rfl rfl rfl ⟨idltL_up _ (cellsM_idlt (f := Ref35Contact.v) (fun _ => rfl) _), trivial⟩⟩
  · rw [if_neg hany]
    refine Tst.isT rfl ?_; conv => whnf
    have hfe : (l.filter fun x => !p x) = l := List.filter_eq_self.2 fun x hx => by
      have := fun h => hany (List.any_eq_true.2 ⟨x, hx, h⟩)
      simpa using this
    rw [hfe]
    exact ⟨f_R0 (.inr rfl) (.cons (.tmp rfl) .nil) rfl rfl rfl rfl ⟨idltL_up _ (cellsM_idlt (f := Ref35Contact.v) (fun _ => rfl) _), trivial⟩⟩
theorem delF213_v : DelFSaid Tryz.prog 213 Ref35Contact.v 4 := fun l _ _ _ hc p hn hf => dfS213 l hc p hn hf
theorem delF213_n : DelFNil Tryz.prog 213 Ref35Contact.v := fun {g} {caps} {fn} hc => by
  refine callsO_comp mix Tryz.func213 dc213_ok (fun r H0 => ?_)
  conv => whnf
  refine askF_c (X := some) (r := (-1 : Int)) (p_slices_IndexFunc_view_Contact_v [] fn hc) (by rfl) (.cons (.c .slw) (.cons (.c (.id (by exact hc.own))) .nil)) (fun x H => ?_)
  obtain rfl := Option.some.inj H
  conv => whnf
  refine Tst.isT rfl ?_; conv => whnf
  exact fin0_c (enc := fun _ : Unit => V.sl [] true) H0 (.inr rfl) (.cons (.tmp rfl) .nil) rfl rfl
end Go.Proofs.YthlhbgedidipkaaGreat

/- slices.Clone at function 211. -/
namespace Go.Proofs.YthlhbgedidipkaaGreat
open Go.RowKit Go.Lib
set_option maxHeartbeats 4000000 in
set_option maxRecDepth 100000 in
theorem cloS211 (A : Addr) (n c : Nat) (cs : List Value) (w : World) (hn : 0 < n) (hbig : n ≤ 1000000) (hcl : cs.length = n * 4) (hcs : ∀ j v, cs[j]? = some v → w.cell? (A.add j) = some v) (h1 : ∀ v ∈ cs, v.oneCell' = true) :
    Calls Tryz.prog 211 #[.slice (some A) n c] w fun e w' => ∃ ZS : Array Value, e = .returned (.slice (some ⟨w.heap.size + 1, 0, none⟩) n (grownCap (w.alloc (.cells #[] 207)) n 0 207)) ∧ w' = (w.alloc (.cells #[] 207)).drew.alloc (.cells (cs.toArray ++ ZS) 207) ∧ grownCap (w.alloc (.cells #[] 207)) n 0 207 * 4 ≤ (cs.toArray ++ ZS).size := by
  have tS : Tryz.prog.underlying 122 = some (.slice 207) := by kernel_rfl
  have uS := run_underlying tS
  have qS : ∀ (w : World) (a : Option Addr) (n c n' c' : Nat), (binOp .eql 122 (.slice a n c) (.slice none n' c')).run Tryz.prog w = .ok (.bool a.isNone) w := fun w a n c n' c' => Lib.run_eql_slice_nil w _ _ a n c n' c' tS
  have mixed : Tryz.prog.follows .mixedOrders = true := mix
  obtain ⟨i0, z, hi0, hzs, hz0, hzc, hzb⟩ := infB_ok (P := Tryz.prog) (e := 207) (es := 4) (by kernel_rfl)
  have hsrc : Src Tryz.prog i0.size 122 (.slice (some A) n c) n cs (w.alloc (.cells #[] 207)) := by
    rw [hzs]
    exact Src.ofSlice _ tS A n c cs (by omega) (fun j u hj => Lib.cell?_alloc_some _ (hcs j u hj)) h1
  have hold : (Builtin.firstCells i0.size 0 (.slice (some ⟨w.heap.size, 0, none⟩) 0 0)).run Tryz.prog (w.alloc (.cells #[] 207)).drew = .ok ([] : List Value).toArray (w.alloc (.cells #[] 207)).drew := by
    rw [hzs]
    exact run_firstCells_some _ 4 0 ⟨w.heap.size, 0, none⟩ 0 0 [] (by simp) (fun j v hj => by simp at hj)
  have hrun : ∀ ty, (Builtin.append_ #[122, 122] ty #[.slice (some ⟨w.heap.size, 0, none⟩) 0 0, .slice (some A) n c]).run Tryz.prog (w.alloc (.cells #[] 207)) = _ := fun ty =>
    run_append_grow_src (w.alloc (.cells #[] 207)) 122 122 ty 207 i0 z tS hi0 hz0 (some ⟨w.heap.size, 0, none⟩) 0 0 [] hold _ n cs hsrc (by omega) (by omega) (growslice_fits (by omega) (grown_bound (by omega) hzb))
  simp only [Nat.zero_add, List.nil_append, World.size_alloc] at hrun
  have hge := grownCap_ge (w.alloc (.cells #[] 207)) n 0 207
  have hsz : grownCap (w.alloc (.cells #[] 207)) n 0 207 * 4 ≤ (cs.toArray ++ Builtin.zeroCells z.cells (grownCap (w.alloc (.cells #[] 207)) n 0 207 - n)).size := by
    simp only [Array.size_append, size_zeroCells, hzc, List.size_toArray, hcl]
    omega
  obtain ⟨ZS, hrun, hsz⟩ : ∃ ZS : Array Value, (∀ ty, (Builtin.append_ #[122, 122] ty #[.slice (some ⟨w.heap.size, 0, none⟩) 0 0, .slice (some A) n c]).run Tryz.prog (w.alloc (.cells #[] 207)) = .ok (.slice (some ⟨w.heap.size + 1, 0, none⟩) n (grownCap (w.alloc (.cells #[] 207)) n 0 207)) ((w.alloc (.cells #[] 207)).drew.alloc (.cells (cs.toArray ++ ZS) 207))) ∧ grownCap (w.alloc (.cells #[] 207)) n 0 207 * 4 ≤ (cs.toArray ++ ZS).size := ⟨_, hrun, hsz⟩
  have main : Calls Tryz.prog 211 #[.slice (some A) n c] w fun e w' => e = .returned (.slice (some ⟨w.heap.size + 1, 0, none⟩) n (grownCap (w.alloc (.cells #[] 207)) n 0 207)) ∧ w' = (w.alloc (.cells #[] 207)).drew.alloc (.cells (cs.toArray ++ ZS) 207) := by
    clear hsz hold hsrc hz0 hcs
    go_enter Tryz.func211, Tryz.ntmps211
    go_wp2_with (at_builtin; refine Lib.wpList_append_run _ rfl _ _ _ _ rfl _ _ rfl rfl _ _ (hrun _) ?_)
    go_ret
    exact ⟨rfl, rfl⟩
  refine main.mono ?_
  rintro e w' ⟨rfl, rfl⟩
  exact ⟨ZS, rfl, rfl, hsz⟩
set_option maxHeartbeats 4000000 in
set_option maxRecDepth 100000 in
theorem cloZ211 (A : Addr) (c : Nat) (w : World) : Calls Tryz.prog 211 #[.slice (some A) 0 c] w fun e w' => e = .returned (.slice (some ⟨w.heap.size, 0, none⟩) 0 0) ∧ ∃ q, w' = (w.alloc (.cells #[] 207)).drewN q := by
  have tS : Tryz.prog.underlying 122 = some (.slice 207) := by kernel_rfl
  have uS := run_underlying tS
  have qS : ∀ (w : World) (a : Option Addr) (n c n' c' : Nat), (binOp .eql 122 (.slice a n c) (.slice none n' c')).run Tryz.prog w = .ok (.bool a.isNone) w := fun w a n c n' c' => Lib.run_eql_slice_nil w _ _ a n c n' c' tS
  have mixed : Tryz.prog.follows .mixedOrders = true := mix
  obtain ⟨i0, z, hi0, hzs, hz0, hzc, hzb⟩ := infB_ok (P := Tryz.prog) (e := 207) (es := 4) (by kernel_rfl)
  have hsz : (Tryz.prog.info? 207).map (·.size) = some 4 := by rw [hi0]; simp [hzs]
  have hrun : ∀ ty, (Builtin.append_ #[122, 122] ty #[.slice (some ⟨w.heap.size, 0, none⟩) 0 0, .slice (some A) 0 c]).run Tryz.prog (w.alloc (.cells #[] 207)) = .ok (.slice (some ⟨w.heap.size, 0, none⟩) 0 0) (w.alloc (.cells #[] 207)) := fun ty => by
    have hl : ∀ (x : Addr) (W : World), (loadCells x 0).run Tryz.prog W = .ok #[] W := fun x W => by simpa using run_loadCells_list (P := Tryz.prog) W x [] (by simp)
    simp [Builtin.append_, uS, Builtin.lenOf, Builtin.firstCells, sizeOf, typeInfo, hi0, hl, storeCells]
  have main : Calls Tryz.prog 211 #[.slice (some A) 0 c] w fun e w' => e = .returned (.slice (some ⟨w.heap.size, 0, none⟩) 0 0) ∧ w' = w.alloc (.cells #[] 207) := by
    go_enter Tryz.func211, Tryz.ntmps211
    go_wp2_with (at_builtin; refine Lib.wpList_append_run _ rfl _ _ _ _ rfl _ _ rfl rfl _ _ (hrun _) ?_)
    go_ret
    exact ⟨rfl, rfl⟩
  refine main.mono ?_
  rintro e w' ⟨rfl, rfl⟩
  exact ⟨rfl, 0, rfl⟩
set_option maxHeartbeats 4000000 in
set_option maxRecDepth 100000 in
theorem cloN211 (n c : Nat) (w : World) : Calls Tryz.prog 211 #[.slice none n c] w fun e w' => e = .returned (.slice none 0 0) ∧ w' = w := by
  have tS : Tryz.prog.underlying 122 = some (.slice 207) := by kernel_rfl
  have uS := run_underlying tS
  have qS : ∀ (w : World) (a : Option Addr) (n c n' c' : Nat), (binOp .eql 122 (.slice a n c) (.slice none n' c')).run Tryz.prog w = .ok (.bool a.isNone) w := fun w a n c n' c' => Lib.run_eql_slice_nil w _ _ a n c n' c' tS
  have mixed : Tryz.prog.follows .mixedOrders = true := mix
  go_enter Tryz.func211, Tryz.ntmps211
  go_wp2
  go_ret
  exact ⟨rfl, rfl⟩
theorem cloR211_v : CloRoads Tryz.prog 211 4 207 := ⟨cloS211, cloZ211, cloN211⟩
end Go.Proofs.YthlhbgedidipkaaGreat

/- slices.Insert: its roads at function 212. -/
namespace Go.Proofs.YthlhbgedidipkaaGreat
open Go.RowKit Go.Lib
set_option maxHeartbeats 4000000 in
set_option maxRecDepth 100000 in
theorem insS212 (b n c i vb voff vc : Nat) (cs vs : List Value) (w : World) (tA tB : TypeId) (kA kB : Nat) (hi : i < n) (hroom : n + 1 ≤ c) (hbig : n + 1 ≤ 1000000) (hvb : vb ≠ b) (hcl : cs.length = n * 4) (hvl : vs.length = 4)
    (hcs : ∀ j v, cs[j]? = some v → w.cell? ⟨b, j, none⟩ = some v) (hsp : ∀ j, j < (n + 1) * 4 → (w.cell? ⟨b, j, none⟩).isSome = true) (hfz : ∀ j, j < (n + 1) * 4 → w.frozen? ⟨b, j, none⟩ = false)
    (hvs : ∀ j v, vs[j]? = some v → w.cell? ⟨vb, voff + j, none⟩ = some v) (h1c : ∀ v ∈ cs, v.oneCell' = true) (h1v : ∀ v ∈ vs, v.oneCell' = true)
    (hsa : w.shape? vb = some (tA, kA)) (hsb : w.shape? b = some (tB, kB)) (hkA : kA ≠ 0) (hkB : kB ≠ 0) (hfe : w.frozen? ⟨b, kB, none⟩ = false) :
    Calls Tryz.prog 212 #[.slice (some ⟨b, 0, none⟩) n c, .int .i64 i, .slice (some ⟨vb, voff, none⟩) 1 vc] w fun e w' =>
      e = .returned (.slice (some ⟨b, 0, none⟩) (n + 1) c) ∧ w' = (w.drew.setCells b ((i + 1) * 4) (cs.drop (i * 4))).setCells b (i * 4) vs := by
  have tS : Tryz.prog.underlying 122 = some (.slice 207) := by kernel_rfl
  have tV : Tryz.prog.underlying 122 = some (.slice 207) := by kernel_rfl
  have tI : Tryz.prog.underlying 3 = some (.int .i64) := by kernel_rfl
  have uS := run_underlying tS
  have uV := run_underlying tV
  have uI := run_underlying tI
  have mixed : Tryz.prog.follows .mixedOrders = true := mix
  obtain ⟨i0, z, hi0, hzs, hz0, hzc, hzb⟩ := infB_ok (P := Tryz.prog) (e := 207) (es := 4) (by kernel_rfl)
  have hsz : (Tryz.prog.info? 207).map (·.size) = some 4 := by rw [hi0]; simp [hzs]
  have hov : ∀ lb cb, (callFunc 263 #[.slice (some ⟨vb, voff, none⟩) 1 vc, .slice (some ⟨b, (i + 1) * 4, none⟩) lb cb]).run Tryz.prog w = .ok (.value (.bool false)) w := fun lb cb => by
    rw [run_callFunc_extern Tryz.func263 (by kernel_rfl) (by kernel_rfl) (by kernel_rfl) (e := Extern.SlicesOverlaps.overlaps #[122, 122] #[4]) (by kernel_rfl),
      run_overlaps_own w 122 4 207 tV 4 (fun w => by rw [← hzs]; exact run_sizeOf hi0 w) ⟨vb, voff, none⟩ ⟨b, (i + 1) * 4, none⟩ 1 vc lb cb hvb tA tB kA kB hsa hsb hkA hkB (hfz _ (by omega)) hfe]
    rfl
  have hdl : (cs.drop (i * 4)).length = (n - i) * 4 := by rw [List.length_drop, hcl]; omega
  have hz2 : ¬ ((i : Int) = (n : Int)) := by omega
  have hw1 : IntKind.i64.wrap ((i : Int) + 1) = (i : Int) + 1 := by rw [IntKind.wrap_i64]; omega
  have hwn : IntKind.i64.wrap ((n : Int) + 1) = (n : Int) + 1 := by rw [IntKind.wrap_i64]; omega
  have hb1 : (0 : Int) ≤ (i : Int) + 1 := by omega
  have hin : i ≤ n := by omega
  have htn : ((i : Int) + 1).toNat = i + 1 := by omega
  have htm : ((n : Int) + 1).toNat = n + 1 := by omega
  have hb2 : ¬ (c = i + 1) := by omega
  have hb3 : (i : Int) ≤ (n : Int) + 1 := by omega
  have hb4 : ¬ (c = i) := by omega
  have hb5 : ¬ ((c : Int) < (n : Int) + 1) := by omega
  have hb6 : (n : Int) + 1 ≤ (c : Int) := by omega
  have hm1 : Nat.min (n + 1 - i) (n - i) = n - i := by simp only [Nat.min_def]; split <;> omega
  have hm2 : Nat.min 1 (n + 1 - i) = 1 := by simp only [Nat.min_def]; split <;> omega
  have hcp1 : ∀ ty dc sc, (Builtin.copy_ #[122, 122] ty #[.slice (some ⟨b, (i + 1) * 4, none⟩) (n - i) dc, .slice (some ⟨b, i * 4, none⟩) (n + 1 - i) sc]).run Tryz.prog w.drew = .ok (goInt (Nat.min (n + 1 - i) (n - i))) (w.drew.setCells b ((i + 1) * 4) (cs.drop (i * 4))) := fun ty dc sc =>
    run_copy_es w.drew _ _ ty 207 4 b ((i + 1) * 4) (n - i) dc ⟨b, i * 4, none⟩ (n + 1 - i) sc (cs.drop (i * 4)) tS hsz (by rw [hm1]; exact hdl)
      (fun j v hj => by rw [Addr.add_lit]; exact hcs (i * 4 + j) v (by rwa [List.getElem?_drop] at hj))
      (fun j hj => hsp _ (by omega)) (fun j hj => hfz _ (by omega)) (fun v hv => h1c v (List.mem_of_mem_drop hv))
  obtain ⟨W1, hW1⟩ : ∃ W1, W1 = w.drew.setCells b ((i + 1) * 4) (cs.drop (i * 4)) := ⟨_, rfl⟩
  have hsp1 : ∀ k, k < (n + 1) * 4 → (W1.cell? ⟨b, k, none⟩).isSome = true := fun k hk => by
    rw [hW1]
    exact isSome_setCells b (cs.drop (i * 4)) ((i + 1) * 4) w.drew (fun j hj => hsp _ (by omega)) _ (hsp k hk)
  have hcp2 : ∀ (W : World), (∀ x, W.cell? x = W1.cell? x) → (∀ x, W.frozen? x = W1.frozen? x) → ∀ ty dc, (Builtin.copy_ #[122, 122] ty #[.slice (some ⟨b, i * 4, none⟩) (n + 1 - i) dc, .slice (some ⟨vb, voff, none⟩) 1 vc]).run Tryz.prog W = .ok (goInt (Nat.min 1 (n + 1 - i))) (W.setCells b (i * 4) vs) := fun W hWc hWf ty dc =>
    run_copy_es W _ _ ty 207 4 b (i * 4) (n + 1 - i) dc ⟨vb, voff, none⟩ 1 vc vs tS hsz (by rw [hm2, hvl])
      (fun j v hj => by
        rw [Addr.add_lit, hWc, hW1, World.cell?_setCells_out b _ _ _ _ (fun h _ => absurd h hvb)]
        exact hvs j v hj)
      (fun j hj => by rw [hWc]; exact hsp1 _ (by omega)) (fun j hj => by rw [hWf, hW1, World.frozen?_setCells]; exact hfz _ (by omega)) h1v
  rw [← hW1] at hcp1
  go_enter Tryz.func212, Tryz.ntmps212
  go_wp2_with (simp only [hov])
  go_region_law_o (refine step_copy_runI rfl _ _ 122 122 rfl _ _ (by simp [Act.eval, Act.put]) (by simp [Act.eval, Act.put]) (hcp1 _ _ _) ?_)
  go_wp2_with (at_builtin; refine wpList_copy_runI _ rfl _ _ 122 122 rfl _ _ rfl rfl (hcp2 _ (fun _ => rfl) (fun _ => rfl) _ _) ?_)
  go_ret
  first | exact ⟨rfl, rfl⟩ | exact ⟨rfl, by rw [hW1]⟩
set_option maxHeartbeats 4000000 in
set_option maxRecDepth 100000 in
theorem insE212 (b n c vb voff vc : Nat) (vs : List Value) (w : World) (hroom : n + 1 ≤ c) (hbig : n + 1 ≤ 1000000) (hvl : vs.length = 4)
    (hsp : ∀ j, j < 4 → (w.cell? ⟨b, n * 4 + j, none⟩).isSome = true) (hfz : ∀ j, j < 4 → w.frozen? ⟨b, n * 4 + j, none⟩ = false)
    (hvs : ∀ j v, vs[j]? = some v → w.cell? ⟨vb, voff + j, none⟩ = some v) (h1v : ∀ v ∈ vs, v.oneCell' = true) :
    Calls Tryz.prog 212 #[.slice (some ⟨b, 0, none⟩) n c, .int .i64 n, .slice (some ⟨vb, voff, none⟩) 1 vc] w fun e w' =>
      e = .returned (.slice (some ⟨b, 0, none⟩) (n + 1) c) ∧ w' = w.setCells b (n * 4) vs := by
  have tS : Tryz.prog.underlying 122 = some (.slice 207) := by kernel_rfl
  have tV : Tryz.prog.underlying 122 = some (.slice 207) := by kernel_rfl
  have tI : Tryz.prog.underlying 3 = some (.int .i64) := by kernel_rfl
  have uS := run_underlying tS
  have uV := run_underlying tV
  have uI := run_underlying tI
  have mixed : Tryz.prog.follows .mixedOrders = true := mix
  obtain ⟨i0, z, hi0, hzs, hz0, hzc, hzb⟩ := infB_ok (P := Tryz.prog) (e := 207) (es := 4) (by kernel_rfl)
  have hsz : (Tryz.prog.info? 207).map (·.size) = some 4 := by rw [hi0]; simp [hzs]
  have hsrc : Src Tryz.prog 4 122 (.slice (some ⟨vb, voff, none⟩) 1 vc) 1 vs w := Src.ofSlice w tV ⟨vb, voff, none⟩ 1 vc vs (by omega) (fun j u hj => by rw [Addr.add_lit]; exact hvs j u hj) h1v
  have hrun : ∀ ty, (Builtin.append_ #[122, 122] ty #[.slice (some ⟨b, 0, none⟩) n c, .slice (some ⟨vb, voff, none⟩) 1 vc]).run Tryz.prog w = _ := fun ty =>
    run_append_room_src w 122 122 ty 207 i0 tS hi0 b 0 n c _ 1 vs (by rw [hzs]; exact hsrc) hroom (by rw [hzs, hvl, Nat.zero_add]; exact hsp) (by rw [hzs, hvl, Nat.zero_add]; exact hfz)
  rw [hzs, Nat.zero_add] at hrun
  go_enter Tryz.func212, Tryz.ntmps212
  go_wp2_with (at_builtin; refine Lib.wpList_append_run _ rfl _ _ _ _ rfl _ _ rfl rfl _ _ (hrun _) ?_)
  all_goals (go_ret; exact ⟨rfl, rfl⟩)
set_option maxHeartbeats 4000000 in
set_option maxRecDepth 100000 in
theorem insG212 (base : Option Addr) (n c vb voff vc : Nat) (cs vs : List Value) (w : World) (hnc : n ≤ c) (hroom : c < n + 1) (hbig : n + 1 ≤ 1000000) (hcl : cs.length = n * 4) (hvl : vs.length = 4) (hnil : base = none → n = 0)
    (hcs : ∀ a, base = some a → ∀ j v, cs[j]? = some v → w.cell? (a.add j) = some v) (hvs : ∀ j v, vs[j]? = some v → w.cell? ⟨vb, voff + j, none⟩ = some v) (h1v : ∀ v ∈ vs, v.oneCell' = true) :
    Calls Tryz.prog 212 #[.slice base n c, .int .i64 n, .slice (some ⟨vb, voff, none⟩) 1 vc] w fun e w' =>
      ∃ zs : Array Value, e = .returned (.slice (some ⟨w.heap.size, 0, none⟩) (n + 1) (grownCap w (n + 1) c 207)) ∧ w' = w.drew.alloc (.cells ((cs ++ vs).toArray ++ zs) 207) := by
  have tS : Tryz.prog.underlying 122 = some (.slice 207) := by kernel_rfl
  have tV : Tryz.prog.underlying 122 = some (.slice 207) := by kernel_rfl
  have tI : Tryz.prog.underlying 3 = some (.int .i64) := by kernel_rfl
  have uS := run_underlying tS
  have uV := run_underlying tV
  have uI := run_underlying tI
  have mixed : Tryz.prog.follows .mixedOrders = true := mix
  obtain ⟨i0, z, hi0, hzs, hz0, hzc, hzb⟩ := infB_ok (P := Tryz.prog) (e := 207) (es := 4) (by kernel_rfl)
  have hsz : (Tryz.prog.info? 207).map (·.size) = some 4 := by rw [hi0]; simp [hzs]
  have hsrc : Src Tryz.prog i0.size 122 (.slice (some ⟨vb, voff, none⟩) 1 vc) 1 vs w := by
    rw [hzs]
    exact Src.ofSlice w tV ⟨vb, voff, none⟩ 1 vc vs (by omega) (fun j u hj => by rw [Addr.add_lit]; exact hvs j u hj) h1v
  have hold : (Builtin.firstCells i0.size n (.slice base n c)).run Tryz.prog w.drew = .ok cs.toArray w.drew := by
    rw [hzs]
    cases base with
    | none =>
      have h0 := hnil rfl
      subst h0
      rw [List.length_eq_zero_iff.1 (by omega : cs.length = 0)]
      exact run_firstCells_none w.drew 4 0 0 c
    | some a => exact run_firstCells_some w.drew 4 n a n c cs hcl (fun j v hj => hcs a rfl j v hj)
  have hrun : ∀ ty, (Builtin.append_ #[122, 122] ty #[.slice base n c, .slice (some ⟨vb, voff, none⟩) 1 vc]).run Tryz.prog w = _ := fun ty =>
    run_append_grow_src w 122 122 ty 207 i0 z tS hi0 hz0 base n c cs hold _ 1 vs hsrc hroom (by omega) (growslice_fits hroom (grown_bound hbig hzb))
  obtain ⟨ZS, hrun⟩ : ∃ ZS : Array Value, ∀ ty, (Builtin.append_ #[122, 122] ty #[.slice base n c, .slice (some ⟨vb, voff, none⟩) 1 vc]).run Tryz.prog w = .ok (.slice (some ⟨w.heap.size, 0, none⟩) (n + 1) (grownCap w (n + 1) c 207)) (w.drew.alloc (.cells ((cs ++ vs).toArray ++ ZS) 207)) := ⟨_, hrun⟩
  have main : Calls Tryz.prog 212 #[.slice base n c, .int .i64 n, .slice (some ⟨vb, voff, none⟩) 1 vc] w fun e w' =>
      e = .returned (.slice (some ⟨w.heap.size, 0, none⟩) (n + 1) (grownCap w (n + 1) c 207)) ∧ w' = w.drew.alloc (.cells ((cs ++ vs).toArray ++ ZS) 207) := by
    clear hz0 hold hsrc
    go_enter Tryz.func212, Tryz.ntmps212
    cases base with
    | none =>
      have h0 := hnil rfl
      subst h0
      go_wp2_with (at_builtin; refine Lib.wpList_append_run _ rfl _ _ _ _ rfl _ _ rfl rfl _ _ (hrun _) ?_)
      go_ret
      exact ⟨rfl, rfl⟩
    | some a =>
      obtain ⟨ab, ao, asp⟩ := a
      go_wp2_with (at_builtin; refine Lib.wpList_append_run _ rfl _ _ _ _ rfl _ _ rfl rfl _ _ (hrun _) ?_)
      all_goals (go_ret; exact ⟨rfl, rfl⟩)
  refine main.mono ?_
  rintro e w' ⟨rfl, rfl⟩
  exact ⟨ZS, rfl, rfl⟩
set_option maxHeartbeats 4000000 in
set_option maxRecDepth 100000 in
theorem insW212 (b n c i vb voff vc : Nat) (cs vs : List Value) (w : World) (hi : i < n) (hnc : n ≤ c) (hroom : c < n + 1) (hbig : n + 1 ≤ 1000000) (hcl : cs.length = n * 4) (hvl : vs.length = 4)
    (hcs : ∀ j v, cs[j]? = some v → w.cell? ⟨b, j, none⟩ = some v) (hvs : ∀ j v, vs[j]? = some v → w.cell? ⟨vb, voff + j, none⟩ = some v) (h1c : ∀ v ∈ cs, v.oneCell' = true) (h1v : ∀ v ∈ vs, v.oneCell' = true) :
    Calls Tryz.prog 212 #[.slice (some ⟨b, 0, none⟩) n c, .int .i64 i, .slice (some ⟨vb, voff, none⟩) 1 vc] w fun e w' =>
      ∃ ROW : Array Value, (n + 1) * 4 ≤ ROW.size ∧ (∀ (j : Nat) (v : Value), (cs.take (i * 4))[j]? = some v → ROW[j]? = some v) ∧ e = .returned (.slice (some ⟨w.heap.size, 0, none⟩) (n + 1) (grownCap w (n + 1) c 207)) ∧
        w' = (((w.alloc (.cells ROW 207)).drew.setCells w.heap.size (i * 4) vs).drew).setCells w.heap.size ((i + 1) * 4) (cs.drop (i * 4)) := by
  have tS : Tryz.prog.underlying 122 = some (.slice 207) := by kernel_rfl
  have tV : Tryz.prog.underlying 122 = some (.slice 207) := by kernel_rfl
  have tI : Tryz.prog.underlying 3 = some (.int .i64) := by kernel_rfl
  have uS := run_underlying tS
  have uV := run_underlying tV
  have uI := run_underlying tI
  have mixed : Tryz.prog.follows .mixedOrders = true := mix
  obtain ⟨i0, z, hi0, hzs, hz0, hzc, hzb⟩ := infB_ok (P := Tryz.prog) (e := 207) (es := 4) (by kernel_rfl)
  have hsz : (Tryz.prog.info? 207).map (·.size) = some 4 := by rw [hi0]; simp [hzs]
  have hz2 : ¬ ((i : Int) = (n : Int)) := by omega
  have hz3 : (c : Int) < (n : Int) + 1 := by omega
  have hbw : b < w.heap.size := block_lt_of_cell (hcs 0 _ (List.getElem?_eq_getElem (by omega)))
  have hvw : vb < w.heap.size := block_lt_of_cell (hvs 0 _ (List.getElem?_eq_getElem (by omega)))
  have hwk : IntKind.i64.wrap ((n : Int) + 1 - (i : Int)) = ((n + 1 - i : Nat) : Int) := by rw [IntKind.wrap_i64]; omega
  have hik : i + (n + 1 - i) = n + 1 := by omega
  have hold : (Builtin.firstCells i0.size i (.slice (some ⟨b, 0, none⟩) i c)).run Tryz.prog w.drew = .ok (cs.take (i * 4)).toArray w.drew := by
    rw [hzs]
    exact run_firstCells_some w.drew 4 i ⟨b, 0, none⟩ i c (cs.take (i * 4)) (by rw [List.length_take]; omega) (fun j v hj => by
      rw [Addr.add_lit, Nat.zero_add]
      rw [List.getElem?_take] at hj
      split at hj
      · exact hcs j v hj
      · cases hj)
  have hbk : (n + 1 - i) * i0.bytes ≤ 281474976710656 := by
    have : (n + 1 - i) * i0.bytes ≤ 1000000 * 1000 := Nat.mul_le_mul (by omega) hzb
    omega
  have hrz : ∀ ty, (Builtin.append_ #[122, 3] ty #[.slice (some ⟨b, 0, none⟩) i c, .int .i64 ((n + 1 - i : Nat) : Int)]).run Tryz.prog w =
      .ok (.slice (some ⟨w.heap.size, 0, none⟩) (n + 1) (grownCap w (n + 1) c 207)) (w.drew.alloc (.cells ((cs.take (i * 4)).toArray ++ Builtin.zeroCells z.cells (n + 1 - i) ++ Builtin.zeroCells z.cells (grownCap w (n + 1) c 207 - (n + 1))) 207)) := fun ty => by
    have h := Lib.run_append_grow_zeros w 122 3 ty 207 i0 z .i64 .i64 tS tI hi0 hz0 (some ⟨b, 0, none⟩) i c (cs.take (i * 4)) hold (n + 1 - i) (by omega) (by omega) (by omega) (by omega) hbk (by rw [hik]; exact growslice_fits hroom (grown_bound hbig hzb))
    rw [hik] at h
    exact h
  obtain ⟨G, hG⟩ : ∃ G, G = grownCap w (n + 1) c 207 := ⟨_, rfl⟩
  obtain ⟨ROW, hROW⟩ : ∃ ROW : Array Value, ROW = (cs.take (i * 4)).toArray ++ Builtin.zeroCells z.cells (n + 1 - i) ++ Builtin.zeroCells z.cells (G - (n + 1)) := ⟨_, rfl⟩
  rw [← hG] at hrz ⊢
  rw [← hROW] at hrz
  have hRl : (n + 1) * 4 ≤ ROW.size := by
    rw [hROW]
    simp only [Array.size_append, size_zeroCells, hzc, List.size_toArray, List.length_take]
    omega
  have hRt : ∀ (j : Nat) (v : Value), (cs.take (i * 4))[j]? = some v → ROW[j]? = some v := fun j v h => by
    have hl := (List.getElem?_eq_some_iff.1 h).1
    rw [hROW, Array.append_assoc, Array.getElem?_append_left (by simpa using hl), List.getElem?_toArray]
    exact h
  obtain ⟨W1, hW1⟩ : ∃ W1, W1 = w.drew.alloc (.cells ROW 207) := ⟨_, rfl⟩
  rw [← hW1] at hrz
  have hN : ∀ j, j < (n + 1) * 4 → (W1.cell? ⟨w.heap.size, j, none⟩).isSome = true := fun j hj => by
    rw [hW1, World.cell?_alloc_at (w := w.drew) ROW _ w.heap.size j rfl, Array.getElem?_eq_getElem (by omega)]; rfl
  have hNf : ∀ j, W1.frozen? ⟨w.heap.size, j, none⟩ = false := fun j => by rw [hW1]; exact World.frozen?_alloc_at (w := w.drew) ROW _ w.heap.size j rfl
  have hOb : ∀ j v, w.cell? ⟨b, j, none⟩ = some v → W1.cell? ⟨b, j, none⟩ = some v := fun j v h => by rw [hW1, World.cell?_alloc_past (w := w.drew) _ b j hbw]; exact h
  have hOv : ∀ j v, w.cell? ⟨vb, j, none⟩ = some v → W1.cell? ⟨vb, j, none⟩ = some v := fun j v h => by rw [hW1, World.cell?_alloc_past (w := w.drew) _ vb j hvw]; exact h
  have hmA : Nat.min 1 (n + 1 - i) = 1 := by simp only [Nat.min_def]; split <;> omega
  have hmB : Nat.min (n - i) (n - i) = n - i := Nat.min_self _
  have hcpA : ∀ (W : World), (∀ x, W.cell? x = W1.cell? x) → (∀ x, W.frozen? x = W1.frozen? x) → ∀ ty dc, (Builtin.copy_ #[122, 122] ty #[.slice (some ⟨w.heap.size, i * 4, none⟩) (n + 1 - i) dc, .slice (some ⟨vb, voff, none⟩) 1 vc]).run Tryz.prog W = .ok (goInt (Nat.min 1 (n + 1 - i))) (W.setCells w.heap.size (i * 4) vs) := fun W hWc hWf ty dc =>
    run_copy_es W _ _ ty 207 4 w.heap.size (i * 4) (n + 1 - i) dc ⟨vb, voff, none⟩ 1 vc vs tS hsz (by rw [hmA, hvl])
      (fun j v hj => by rw [Addr.add_lit, hWc]; exact hOv _ v (hvs j v hj))
      (fun j hj => by rw [hWc]; exact hN _ (by omega)) (fun j hj => by rw [hWf]; exact hNf _) h1v
  have hGn : n + 1 ≤ G := by rw [hG]; exact grownCap_ge w _ _ _
  have hGi : ¬ (G = i) := by omega
  have hGim : ¬ (G = i + 1) := by omega
  have hci : ¬ (c = i) := by omega
  have hbN : b ≠ w.heap.size := by omega
  have hdl : (cs.drop (i * 4)).length = (n - i) * 4 := by rw [List.length_drop, hcl]; omega
  have hcpB : ∀ (W : World), (∀ x, W.cell? x = (W1.setCells w.heap.size (i * 4) vs).cell? x) → (∀ x, W.frozen? x = (W1.setCells w.heap.size (i * 4) vs).frozen? x) → ∀ ty dc sc, (Builtin.copy_ #[122, 122] ty #[.slice (some ⟨w.heap.size, (i + 1) * 4, none⟩) (n - i) dc, .slice (some ⟨b, i * 4, none⟩) (n - i) sc]).run Tryz.prog W = .ok (goInt (Nat.min (n - i) (n - i))) (W.setCells w.heap.size ((i + 1) * 4) (cs.drop (i * 4))) := fun W hWc hWf ty dc sc =>
    run_copy_es W _ _ ty 207 4 w.heap.size ((i + 1) * 4) (n - i) dc ⟨b, i * 4, none⟩ (n - i) sc (cs.drop (i * 4)) tS hsz (by rw [hmB]; exact hdl)
      (fun j v hj => by
        rw [Addr.add_lit, hWc, World.cell?_setCells_out _ _ _ _ _ (fun h _ => absurd h hbN)]
        exact hOb _ v (hcs (i * 4 + j) v (by rwa [List.getElem?_drop] at hj)))
      (fun j hj => by rw [hWc]; exact isSome_setCells _ _ _ _ (fun t ht => hN _ (by omega)) _ (hN _ (by omega)))
      (fun j hj => by rw [hWf, World.frozen?_setCells]; exact hNf _) (fun v hv => h1c v (List.mem_of_mem_drop hv))
  subst hW1
  have hE1 : ∀ x, ((w.alloc (.cells ROW 207)).drew).cell? x = (w.drew.alloc (.cells ROW 207)).cell? x := fun x => rfl
  have hE2 : ∀ x, ((w.alloc (.cells ROW 207)).drew).frozen? x = (w.drew.alloc (.cells ROW 207)).frozen? x := fun x => rfl
  have hF1 : ∀ x, (((w.alloc (.cells ROW 207)).drew.setCells w.heap.size (i * 4) vs).drew).cell? x = ((w.drew.alloc (.cells ROW 207)).setCells w.heap.size (i * 4) vs).cell? x := fun x => rfl
  have hF2 : ∀ x, (((w.alloc (.cells ROW 207)).drew.setCells w.heap.size (i * 4) vs).drew).frozen? x = ((w.drew.alloc (.cells ROW 207)).setCells w.heap.size (i * 4) vs).frozen? x := fun x => rfl
  have hw1 : IntKind.i64.wrap ((i : Int) + 1) = (i : Int) + 1 := by rw [IntKind.wrap_i64]; omega
  have hwn : IntKind.i64.wrap ((n : Int) + 1) = (n : Int) + 1 := by rw [IntKind.wrap_i64]; omega
  have hb1 : (0 : Int) ≤ (i : Int) + 1 := by omega
  have hin : i ≤ n := by omega
  have htn : ((i : Int) + 1).toNat = i + 1 := by omega
  have hb3 : (i : Int) ≤ (n : Int) := by omega
  have main : Calls Tryz.prog 212 #[.slice (some ⟨b, 0, none⟩) n c, .int .i64 i, .slice (some ⟨vb, voff, none⟩) 1 vc] w fun e w' =>
      e = .returned (.slice (some ⟨w.heap.size, 0, none⟩) (n + 1) G) ∧ w' = (((w.alloc (.cells ROW 207)).drew.setCells w.heap.size (i * 4) vs).drew).setCells w.heap.size ((i + 1) * 4) (cs.drop (i * 4)) := by
    clear hik hold hROW hG hRl hRt hbk hz0
    go_enter Tryz.func212, Tryz.ntmps212
    go_wp2_with (first
      | (at_builtin; refine Lib.wpList_append_run _ rfl _ _ _ _ rfl _ _ rfl rfl _ _ (hrz _) ?_)
      | (at_builtin; refine wpList_copy_runI _ rfl _ _ 122 122 rfl _ _ rfl rfl (hcpA _ hE1 hE2 _ _) ?_))
    go_region_law_o (refine step_copy_runI rfl _ _ 122 122 rfl (.slice (some ⟨w.heap.size, (i + 1) * 4, none⟩) (n - i) (G - (i + 1))) (.slice (some ⟨b, i * 4, none⟩) (n - i) (c - i)) (by simp [Act.eval, Act.put]) (by simp [Act.eval, Act.put]) (hcpB _ hF1 hF2 3 (G - (i + 1)) (c - i)) ?_)
    go_wp2
    go_ret
    first | exact ⟨rfl, rfl⟩ | trace_state
  refine main.mono ?_
  rintro e w' ⟨rfl, rfl⟩
  exact ⟨ROW, hRl, hRt, rfl, rfl⟩
theorem insR212_v : InsRoads Tryz.prog 212 4 207 := ⟨insS212, insE212, insG212, insW212⟩
end Go.Proofs.YthlhbgedidipkaaGreat

