/- A part of the proof: 7 texts joined. -/
import Derived.Test.YtljeinlapkgjeaaQbA5
import Derived.Test.YtljeinlapkgjeaaQbA4
import Derived.Test.YtljeinlapkgjeaaQaA1
import Derived.KernelRfl
set_option linter.all false
/- stanza.Check in the abstract: Check. -/
namespace Go.Proofs.Ytljeinlapkgjeaa
open Go.RowKit
theorem ite_P {P : List UInt8 → Prop} {p : Prop} [Decidable p] {a b : List UInt8} (ha : P a) (hb : P b) : P (if p then a else b) := by split <;> assumption
theorem hasN_first (k : Nat) : (hasN k).any (· == 117) = ((hasN k).headD 0 == 117) := by
  unfold hasN
  repeat' (refine ite_P (P := fun l => l.any (· == 117) = (l.headD 0 == 117)) ?_ ?_)
  all_goals rfl
attribute [local irreducible] CallsS CallsV Callable
set_option maxHeartbeats 1000000 in
theorem stzCheck_v (s : StzD) (hu : s.user.size ≤ 100000) (hr : s.res.size ≤ 100000) (hn : s.name.size ≤ 100000) : CallsV Try.prog 35 [stzV s] (.i (checkS s)) := by
  refine callsV_comp mix Try.func35 ac35_ok ?_
  unfold ac35
  simp only [List.length_cons, List.length_nil, List.replicate_succ, List.replicate_zero, List.cons_append, List.nil_append, Nat.reduceAdd, Nat.reduceSub]
  have hc := has_v s.kind
  have hl := hasN_len s.kind.toNat
  have hb0 := ba_list (hasN s.kind.toNat)
  have hz := ba_size (hasN s.kind.toNat)
  have hL : hasC s.kind 117 = ((hasN s.kind.toNat).headD 0 == 117) := hasN_first _
  generalize hasN s.kind.toNat = L at *
  generalize ba L = u at *
  obtain ⟨b1, hb1⟩ : ∃ b, (!(u.toList == (⟨#[]⟩ : ByteArray).toList)) = b := ⟨_, rfl⟩
  have hpos : b1 = true → 0 < u.size := by
    intro h; subst hb1; rw [hz]; cases L with
    | nil =>
      have e : u.toList = (⟨#[]⟩ : ByteArray).toList := by
        have : u = ⟨#[]⟩ := by
          rcases u with ⟨⟨l⟩⟩
          simp at hb0; simp [hb0]
        rw [this]
      rw [e] at h; simp at h
    | cons => simp
  have hk1 : b1 = false → hasC s.kind 117 = false := by
    intro h; subst hb1; rw [hL]
    have e : u.toList = (⟨#[]⟩ : ByteArray).toList := by simpa using h
    cases L with
    | nil => rfl
    | cons c L =>
      have : u.data.toList = [] := by
        have e2 : u.toList = [] := by rw [e]; simp
        rw [(Go.toList_nil_iff_emptyBytes u).1 e2]; rfl
      rw [hb0] at this; cases this
  have hk2 : ∀ h : b1 = true, hasC s.kind 117 = (((u[0]'(hpos h)).toNat : Int) == 117) := by
    intro h
    rw [hL]
    have h0 := hpos h
    cases L with
    | nil => rw [hz] at h0; exact absurd h0 (by simp)
    | cons c L =>
      have : u[0] = c := by
        have e : u[0] = u.data.toList[0]'(by rw [hb0]; simp) := rfl
        rw [e]; simp [hb0]
      rw [this]
      show (c == 117) = _
      rw [Bool.eq_iff_iff]; simp only [beq_iff_eq, ← UInt8.toNat_inj]
      have : UInt8.toNat 117 = 117 := rfl
      omega
  repeat' (first | (first | refine w_blk ?_ | refine w_seq ?_ | refine w_reg (by (try simp only [List.length_cons, List.length_nil, Nat.reduceAdd]); rfl) (by (try simp only [List.replicate_succ, List.replicate_zero, List.cons_append, List.nil_append, List.append_nil]); rfl) (fun K' hK' => ?_) | refine w_condT rfl ?_ | refine w_condF rfl ?_ | (refine w_cond2 rfl (fun hb => ?_) (fun hb => ?_) <;> simp only [putF, List.set_cons_zero, List.set_cons_succ, evO, List.getD_cons_zero, List.getD_cons_succ, V.ofValue, ofC, V.cells, partV, List.drop_zero, List.drop_succ_cons, List.take_succ_cons, List.take_zero, Nat.reduceAdd, Nat.reduceMul, Nat.zero_add, Nat.add_zero, if_true, if_false, Bool.false_eq_true, List.nil_append, List.cons_append, List.append_nil, List.map_cons, List.map_nil, stzV, List.set, byteV, Nat.mul_one, hb1]) | refine w_ret ?_ | refine w_skip ?_ | refine w_exit ?_ | refine q_seqN ?_ | refine q_seqR ?_ | refine q_seqE ?_ | refine q_blkN ?_ | refine q_blkR ?_ | refine q_blkH ?_ | refine q_blkE rfl ?_ | refine q_loopR ?_ | refine q_loopE ?_ | (refine x_end ?_; refine hK' _ _ _ ?_; clear hK' K'; first | refine q_regT ?_ | refine q_regD rfl ?_)) | ((first | refine x_mv rfl ?_ | refine x_off rfl ?_ | refine x_ldP rfl rfl rfl (Nat.le_of_ble_eq_true rfl) ?_ | refine x_faP rfl rfl ?_ | refine x_ldE rfl rfl (Nat.le_of_ble_eq_true rfl) ?_ | refine x_faE rfl rfl (Nat.le_of_ble_eq_true rfl) ?_ | refine x_add rfl rfl rfl (by omega) ?_ | refine x_sub rfl rfl rfl (by omega) ?_ | refine x_cat rfl rfl rfl (by omega) ?_ | refine x_binI rfl rfl rfl rfl ?_ | refine x_binS rfl rfl rfl rfl ?_ | refine x_pick rfl rfl ?_ | refine x_un rfl rfl rfl ?_ | refine x_bx rfl rfl rfl ?_ | refine x_al rfl rfl rfl ?_ | refine x_st rfl rfl rfl rfl rfl (Nat.le_of_ble_eq_true rfl) (Nat.le_of_ble_eq_true rfl) ?_ | refine x_eqa rfl rfl rfl rfl rfl rfl ?_ | refine x_bd rfl rfl ?_ | refine x_ex rfl rfl rfl ?_ | refine x_fd rfl rfl (Nat.le_of_ble_eq_true rfl) ?_ | refine x_lenM rfl rfl ?_ | refine x_lenS rfl rfl ?_ | refine x_lent rfl rfl ?_ | refine x_lenO rfl rfl ?_ | refine x_binb rfl rfl rfl ?_ | refine x_cvs rfl rfl ?_ | refine x_cvi0 rfl rfl (by omega) ?_ | refine x_bs rfl rfl rfl rfl ?_ | refine x_mf rfl ?_ | refine x_s2b rfl rfl rfl ?_ | refine x_eqpP rfl rfl rfl ?_ | refine x_eqpN rfl rfl rfl ?_ | refine x_ncP rfl rfl ?_ | refine x_ncE rfl rfl ?_ | refine x_ncC rfl rfl ?_); simp only [putF, List.set_cons_zero, List.set_cons_succ, evO, List.getD_cons_zero, List.getD_cons_succ, V.ofValue, ofC, V.cells, partV, List.drop_zero, List.drop_succ_cons, List.take_succ_cons, List.take_zero, Nat.reduceAdd, Nat.reduceMul, Nat.zero_add, Nat.add_zero, if_true, if_false, Bool.false_eq_true, List.nil_append, List.cons_append, List.append_nil, List.map_cons, List.map_nil, stzV, List.set, byteV, Nat.mul_one, hb1]) | (refine x_cl0 rfl (hc) rfl rfl ?_; simp only [putF, List.set_cons_zero, List.set_cons_succ, evO, List.getD_cons_zero, List.getD_cons_succ, V.ofValue, ofC, V.cells, partV, List.drop_zero, List.drop_succ_cons, List.take_succ_cons, List.take_zero, Nat.reduceAdd, Nat.reduceMul, Nat.zero_add, Nat.add_zero, if_true, if_false, Bool.false_eq_true, List.nil_append, List.cons_append, List.append_nil, List.map_cons, List.map_nil, stzV, List.set, byteV, Nat.mul_one, hb1]) | (refine x_cl0 rfl (known_v s.kind) rfl rfl ?_; simp only [putF, List.set_cons_zero, List.set_cons_succ, evO, List.getD_cons_zero, List.getD_cons_succ, V.ofValue, ofC, V.cells, partV, List.drop_zero, List.drop_succ_cons, List.take_succ_cons, List.take_zero, Nat.reduceAdd, Nat.reduceMul, Nat.zero_add, Nat.add_zero, if_true, if_false, Bool.false_eq_true, List.nil_append, List.cons_append, List.append_nil, List.map_cons, List.map_nil, stzV, List.set, byteV, Nat.mul_one, hb1]) | (refine x_cl0 rfl (bare_v s) rfl rfl ?_; simp only [putF, List.set_cons_zero, List.set_cons_succ, evO, List.getD_cons_zero, List.getD_cons_succ, V.ofValue, ofC, V.cells, partV, List.drop_zero, List.drop_succ_cons, List.take_succ_cons, List.take_zero, Nat.reduceAdd, Nat.reduceMul, Nat.zero_add, Nat.add_zero, if_true, if_false, Bool.false_eq_true, List.nil_append, List.cons_append, List.append_nil, List.map_cons, List.map_nil, stzV, List.set, byteV, Nat.mul_one, hb1]) | (refine x_cl0 rfl (stzIn_v _ _ _) rfl rfl ?_; simp only [putF, List.set_cons_zero, List.set_cons_succ, evO, List.getD_cons_zero, List.getD_cons_succ, V.ofValue, ofC, V.cells, partV, List.drop_zero, List.drop_succ_cons, List.take_succ_cons, List.take_zero, Nat.reduceAdd, Nat.reduceMul, Nat.zero_add, Nat.add_zero, if_true, if_false, Bool.false_eq_true, List.nil_append, List.cons_append, List.append_nil, List.map_cons, List.map_nil, stzV, List.set, byteV, Nat.mul_one, hb1]) | (refine x_cl0 rfl (plain_v _ (by assumption)) rfl rfl ?_; simp only [putF, List.set_cons_zero, List.set_cons_succ, evO, List.getD_cons_zero, List.getD_cons_succ, V.ofValue, ofC, V.cells, partV, List.drop_zero, List.drop_succ_cons, List.take_succ_cons, List.take_zero, Nat.reduceAdd, Nat.reduceMul, Nat.zero_add, Nat.add_zero, if_true, if_false, Bool.false_eq_true, List.nil_append, List.cons_append, List.append_nil, List.map_cons, List.map_nil, stzV, List.set, byteV, Nat.mul_one, hb1]) | (refine x_cl0 rfl (isBare_v _ (by assumption)) rfl rfl ?_; simp only [putF, List.set_cons_zero, List.set_cons_succ, evO, List.getD_cons_zero, List.getD_cons_succ, V.ofValue, ofC, V.cells, partV, List.drop_zero, List.drop_succ_cons, List.take_succ_cons, List.take_zero, Nat.reduceAdd, Nat.reduceMul, Nat.zero_add, Nat.add_zero, if_true, if_false, Bool.false_eq_true, List.nil_append, List.cons_append, List.append_nil, List.map_cons, List.map_nil, stzV, List.set, byteV, Nat.mul_one, hb1]) | (refine x_cl0 rfl (res_v _ (by assumption)) rfl rfl ?_; simp only [putF, List.set_cons_zero, List.set_cons_succ, evO, List.getD_cons_zero, List.getD_cons_succ, V.ofValue, ofC, V.cells, partV, List.drop_zero, List.drop_succ_cons, List.take_succ_cons, List.take_zero, Nat.reduceAdd, Nat.reduceMul, Nat.zero_add, Nat.add_zero, if_true, if_false, Bool.false_eq_true, List.nil_append, List.cons_append, List.append_nil, List.map_cons, List.map_nil, stzV, List.set, byteV, Nat.mul_one, hb1]) | (refine x_ixt rfl rfl rfl (n := 0) rfl (hpos hb) ?_; simp only [putF, List.set_cons_zero, List.set_cons_succ, evO, List.getD_cons_zero, List.getD_cons_succ, V.ofValue, ofC, V.cells, partV, List.drop_zero, List.drop_succ_cons, List.take_succ_cons, List.take_zero, Nat.reduceAdd, Nat.reduceMul, Nat.zero_add, Nat.add_zero, if_true, if_false, Bool.false_eq_true, List.nil_append, List.cons_append, List.append_nil, List.map_cons, List.map_nil, stzV, List.set, byteV, Nat.mul_one, hb1]) | (refine x_case rfl (fun hb => ?_) (fun hb => ?_) <;> simp only [putF, List.set_cons_zero, List.set_cons_succ, evO, List.getD_cons_zero, List.getD_cons_succ, V.ofValue, ofC, V.cells, partV, List.drop_zero, List.drop_succ_cons, List.take_succ_cons, List.take_zero, Nat.reduceAdd, Nat.reduceMul, Nat.zero_add, Nat.add_zero, if_true, if_false, Bool.false_eq_true, List.nil_append, List.cons_append, List.append_nil, List.map_cons, List.map_nil, stzV, List.set, byteV, Nat.mul_one, hb1]))
  all_goals refine f_lit (by simp) rfl ?_
  all_goals
    clear hc hb0 hz hu hr hn hl
    unfold checkS rangeL
    first
    | (have h2 := (hk2 (by assumption)).trans (by first | assumption | exact eq_false_of_ne_true ‹_›); clear hk1 hk2 hL hb1; simp_all; done)
    | (have h2 := (hk2 (by assumption)).trans (by assumption); clear hk1 hk2 hL hb1; simp_all; omega)
    | (have h2 := hk1 (by assumption); clear hk1 hk2 hL hb1; simp_all; done)
    | (have h2 := hk1 (by assumption); clear hk1 hk2 hL hb1; simp_all; omega)
    | (clear hL hk1 hk2; generalize hasC s.kind 117 = h1 at *; simp_all; done)
    | (clear hL hk1 hk2; generalize hasC s.kind 117 = h1 at *; simp_all; omega)
    | (have h2 := hk1 (by assumption); clear hk1 hk2 hL hb1; simp_all; trace_state)
    | (have h2 := (hk2 (by assumption)).trans (by assumption); clear hk1 hk2 hL hb1; simp_all; trace_state)
end Go.Proofs.Ytljeinlapkgjeaa
/- Contracts that were proved by hand, as plain functions. -/
namespace Go.Proofs.Ytljeinlapkgjeaa
open Go.RowKit
theorem callsO_if {α : Type} {P : Program} {f : FuncId} {args : List V} {enc : α → V} {c : Prop} [Decidable c] {v : α} (h : c → CallsV P f args (enc v)) : CallsO P f args enc (if c then some v else none) := by
  intro r hr
  split at hr
  · cases hr; exact h ‹_›
  · cases hr
def p_addr_IsBare (s : ByteArray) : Option Bool := if s.size ≤ 100000 then some (isBareL s.data.toList) else none
theorem p_addr_IsBare_v (s : ByteArray) : CallsO Try.prog 60 [.s s] V.b (p_addr_IsBare s) := callsO_if fun h => isBare_v s h
def p_ref09_IsBare (s : ByteArray) : Option Bool := if s.size ≤ 100000 then some (isBareL s.data.toList) else none
theorem p_ref09_IsBare_v (s : ByteArray) : CallsO Try.prog 62 [.s s] V.b (p_ref09_IsBare s) := callsO_if fun h => refIsBare_v s h
def p_addr_Resource (s : ByteArray) : Option Int := if s.size ≤ 100000 then some (resL s.data.toList) else none
theorem p_addr_Resource_v (s : ByteArray) : CallsO Try.prog 61 [.s s] V.i (p_addr_Resource s) := callsO_if fun h => res_v s h
def p_ref09_Resource (s : ByteArray) : Option Int := if s.size ≤ 100000 then some (resL s.data.toList) else none
theorem p_ref09_Resource_v (s : ByteArray) : CallsO Try.prog 63 [.s s] V.i (p_ref09_Resource s) := callsO_if fun h => refRes_v s h
def p_utf_Plain (s : ByteArray) : Option Bool := if s.size ≤ 100000 then some (plainL s.data.toList) else none
theorem p_utf_Plain_v (s : ByteArray) : CallsO Try.prog 70 [.s s] V.b (p_utf_Plain s) := callsO_if fun h => plain_v s h
/-- strings.Cut at one byte. -/
def p_strings_Cut (s sep : ByteArray) : Option (ByteArray × ByteArray × Bool) :=
  match sep.data.toList with
  | [c] => if s.size ≤ 100000 then some (ba (s.data.toList.take (findL s.data.toList c)), ba (s.data.toList.drop (findL s.data.toList c + 1)), decide (findL s.data.toList c < s.data.toList.length)) else none
  | _ => none
theorem p_strings_Cut_v (s sep : ByteArray) : CallsO Try.prog 59 [.s s, .s sep] (fun r : ByteArray × ByteArray × Bool => .tup [V.s r.1, V.s r.2.1, V.b r.2.2]) (p_strings_Cut s sep) := by
  intro r hr
  unfold p_strings_Cut at hr
  split at hr
  · rename_i c hc
    split at hr
    · cases hr
      have e : sep = ⟨#[c]⟩ := by
        cases sep with
        | mk d => congr 1; exact Array.ext' hc
      subst e
      exact cut_v s c ‹_›
    · cases hr
  · cases hr
def p_strings_Compare (a b : ByteArray) : Option Int := some (Lib.compareBytes a.data.toList b.data.toList)
theorem p_strings_Compare_v (a b : ByteArray) : CallsO Try.prog 119 [.s a, .s b] V.i (p_strings_Compare a b) := by
  intro r hr
  cases hr
  exact callsV_old #[.string a, .string b] (fun _ _ h => lits_eq (vs := [.string a, .string b]) h) (fun w _ => ret_of ((Try.strings_Compare a b w).mono fun e w' h => ⟨h.1, h.2.symm⟩)) fun _ => .lit rfl
def stzOf (x : StanzaStanza) : StzD := { kind := UInt8.ofNat x.Kind.toNat, user := x.User, res := x.Res, name := x.Name, show_ := x.Show, prio := x.Prio, code := x.Code, n := x.N }
def stzFits (x : StanzaStanza) : Prop := (0 ≤ x.Kind ∧ x.Kind ≤ 255) ∧ x.User.size ≤ 100000 ∧ x.Res.size ≤ 100000 ∧ x.Name.size ≤ 100000
instance (x : StanzaStanza) : Decidable (stzFits x) := inferInstanceAs (Decidable (_ ∧ _))
theorem u8_of {k : Int} (h : 0 ≤ k ∧ k ≤ 255) : ((UInt8.ofNat k.toNat).toNat : Int) = k := by
  simp only [UInt8.toNat_ofNat']; omega
theorem stz_V {x : StanzaStanza} (h : stzFits x) : x.v = stzV (stzOf x) := by
  unfold StanzaStanza.v stzV stzOf
  simp only [V.u8, V.y8, u8_of h.1]
def p_stanza_Check (x : StanzaStanza) : Option Int := if stzFits x then some (checkS (stzOf x)) else none
theorem p_stanza_Check_v (x : StanzaStanza) : CallsO Try.prog 35 [x.v] V.i (p_stanza_Check x) := callsO_if fun h => by
  rw [stz_V h]; exact stzCheck_v (stzOf x) h.2.1 h.2.2.1 h.2.2.2
def p_ref10_Check (x : StanzaStanza) : Option Int := if stzFits x then some (checkS (stzOf x)) else none
theorem p_ref10_Check_v (x : StanzaStanza) : CallsO Try.prog 58 [x.v] V.i (p_ref10_Check x) := callsO_if fun h => by
  rw [stz_V h]; exact refStzCheck_v (stzOf x) h.2.1 h.2.2.1 h.2.2.2
end Go.Proofs.Ytljeinlapkgjeaa
/- Functions of the library that write into an own list. -/
namespace Go.Proofs.Ytljeinlapkgjeaa
open Go.RowKit
def compB (ss : List ByteArray) : List ByteArray := (Lib.compact (ss.map fun (s : ByteArray) => s.data.toList)).map fun l => ⟨l.toArray⟩
def compA (ss : List ByteArray) : List ByteArray := compB ss ++ List.replicate (ss.length - (compB ss).length) ⟨#[]⟩
theorem compB_le (ss : List ByteArray) : (compB ss).length ≤ ss.length := by
  unfold compB
  rw [List.length_map]
  have := Lib.compact_length_le (ss.map fun s => s.data.toList)
  rwa [List.length_map] at this
theorem compA_len (ss : List ByteArray) : (compA ss).length = ss.length := by
  have := compB_le ss
  unfold compA; rw [List.length_append, List.length_replicate]; omega
theorem strs_map (ss : List ByteArray) : Lib.strsOf (fun i => ss.getD i ⟨#[]⟩) ss.length = ss.map fun s => s.data.toList := by
  unfold Lib.strsOf
  apply List.ext_getElem
  · simp
  · intro i h1 h2
    simp at h1
    simp [h1]
theorem rep_str {m : Mem} {bk : Bks} {u : Value} {s : ByteArray} (h : Rep m bk u (.lit (.string s))) : u = .string s := by
  cases h; rfl
theorem cells_str (l : List ByteArray) : cellsM V.s l = l.map V.s := flatMap_one V.s l
def p_slices_Compact_string (ss : List ByteArray) : Option (List ByteArray) := if ss.length ≤ 1000 then some (compB ss) else none
theorem p_slices_Compact_string_v {id : Nat} (st : List Slot) (ss : List ByteArray) (fu : Bool) (hi : st[id]? = some (.live (cellsM V.s ss) 0)) : ∀ L, p_slices_Compact_string ss = some L → CallsS Try.prog 99 [.osl id 0 ss.length 1 fu] st (.osl id 0 L.length 1 false) (st.set id (.live (cellsM V.s L) 0)) := by
  intro L hL
  unfold p_slices_Compact_string at hL
  split at hL
  · rename_i hn
    cases hL
    rw [cells_str] at hi ⊢
    intro B m0 m bk w cargs hg hsim hargs
    obtain ⟨hsz, hrp⟩ := hargs
    obtain ⟨c, rfl⟩ : ∃ c, cargs = #[c] := by
      have h1 : cargs.size = 1 := hsz
      exact ⟨cargs[0], by apply Array.ext; simp [h1]; intro i a b; simp at b; subst b; rfl⟩
    have hr := hrp 0 (by simp) (by simp)
    simp only [List.getElem_cons_zero] at hr
    change Rep m bk c _ at hr
    cases hr with
    | @osl _ _ b sz off n cap es full hb hc hf hs =>
    obtain ⟨arr, t, lo, hi', hlv, hrep⟩ := sim_live hsim hi hb
    have hfit := hlv.fit
    have hsize := hlv.size
    rw [List.length_map] at hfit
    have hcell : ∀ i, i < ss.length → w.cell? ⟨b, 0 + i, none⟩ = some (.string (ss.getD i ⟨#[]⟩)) := by
      intro i h
      obtain ⟨u, hu, hr⟩ := hlv.rep i (by rw [List.length_map]; exact h)
      rw [List.getElem_map] at hr
      have := rep_str hr
      subst this
      simp only [World.cell?, hlv.heap, Nat.zero_add]
      rw [hu, List.getD_eq_getElem?_getD, List.getElem?_eq_getElem h]; rfl
    have hfroz : ∀ j, j < ss.length → w.frozen? ⟨b, 0 + j, none⟩ = false := fun j hj => by
      have := hlv.free
      simp only [World.frozen?, hlv.heap, Bool.and_eq_false_iff, decide_eq_false_iff_not]
      omega
    have h := Try.slices_Compact_string_cells b 0 ss.length cap (fun i => ss.getD i ⟨#[]⟩) w (by omega) hc hcell hfroz
    rw [strs_map] at h
    refine h.mono ?_
    rintro e w' ⟨rfl, q, rfl⟩
    have hvl : ((Lib.compact (ss.map fun (s : ByteArray) => s.data.toList) ++ List.replicate (ss.length - (Lib.compact (ss.map fun (s : ByteArray) => s.data.toList)).length) []).map encStr) = (compA ss).map Value.string := by
      unfold compA compB
      simp [List.map_append, List.map_map, List.map_replicate, Function.comp_def]
    rw [hvl]
    have hle := compB_le ss
    have hal := compA_len ss
    have hcl : (Lib.compact (ss.map fun (s : ByteArray) => s.data.toList)).length = (compB ss).length := by unfold compB; rw [List.length_map]
    rw [hcl]
    obtain ⟨⟨arr', g1, g2, g3⟩, g4, g5, g6, g7, g8⟩ := setCells_heap b t (lo, hi') ((compA ss).map Value.string) 0 (w.drewN q) arr hlv.heap (by simp; omega)
    have hsim2 : Sim B m0 m bk (w.drewN q) st := hsim.world (Nat.le_refl _) (fun _ _ => rfl)
    have hlv2 : LiveAt B m bk (w.drewN q) id (ss.map V.s) 0 b sz arr t lo hi' := ⟨hlv.at_, hlv.own, hlv.heap, hlv.size, hlv.free, hlv.fit, hlv.one, hlv.rep, hlv.mu, hlv.fz⟩
    refine ⟨_, rfl, m, bk, hsim2.write hi hlv2 g1 g2 g4 g5 (fun k hk => absurd hk (Nat.not_lt_zero _)) ?_ ?_ ?_, .osl hb (by omega) (fun h => by cases h) (by omega), fun _ _ h => h, fun _ _ h => h, ⟨by rw [g6]; rfl, by rw [g7]; rfl, by rw [g8]; rfl, by rw [g4]; exact Nat.le_refl _, fun k hk => g5 k (by have := hlv.own; omega)⟩⟩
    · rw [List.length_map]; omega
    · intro u hu
      obtain ⟨s, _, rfl⟩ := List.mem_map.1 hu
      rfl
    · intro k hk
      rw [List.length_map] at hk
      refine ⟨.string (compA ss)[k], ?_, ?_⟩
      · rw [g3, if_pos (by rw [List.length_map]; omega), Nat.sub_zero, List.getElem?_map, List.getElem?_eq_getElem (by omega)]; rfl
      · rw [List.getElem_map]
        have : (compA ss)[k] = (compB ss)[k] := by unfold compA; rw [List.getElem_append_left hk]
        rw [this]
        exact .lit rfl
  · cases hL
theorem compact_nil : CallsV Try.prog 99 [.sl [] true] (.sl [] true) := by
  intro m w cargs hg hm hargs
  obtain ⟨hsz, hrp⟩ := hargs
  obtain ⟨c, rfl⟩ : ∃ c, cargs = #[c] := by
    have h1 : cargs.size = 1 := hsz
    exact ⟨cargs[0], by apply Array.ext; simp [h1]; intro i a b; simp at b; subst b; rfl⟩
  have hr := hrp 0 (by simp) (by simp)
  change Rep m noBk c (.sl [] true) at hr
  obtain ⟨a, n, cap, rfl, hn⟩ : ∃ a n cap, c = .slice a n cap ∧ n = 0 := by
    cases hr with
    | sl hn => exact ⟨_, _, _, rfl, by simpa using hn⟩
    | slnil => exact ⟨_, _, _, rfl, rfl⟩
  subst hn
  refine (Try.slices_Compact_string_empty a cap w).mono ?_
  rintro e w' ⟨rfl, rfl⟩
  exact ⟨_, m, rfl, Below.refl _ _, hm, fun _ _ h => h, fun a u h => .inl h, hr⟩
theorem p_slices_Compact_string_v_n : CallsO Try.prog 99 [.sl (List.map V.s ([] : List ByteArray)) true] (fun l : List ByteArray => V.sl (l.map V.s) true) (p_slices_Compact_string []) := by
  intro r hr
  have e : p_slices_Compact_string [] = some [] := rfl
  rw [e] at hr; cases hr
  exact compact_nil
end Go.Proofs.Ytljeinlapkgjeaa
/- Plain functions (written by a program of mine). -/
namespace Go.Proofs.Ytljeinlapkgjeaa
open Go.RowKit
def p_pres_named (a0 : ByteArray) (a1 : ByteArray) : Option (Bool) :=
  (p_addr_Resource a1).bind fun v1 =>
  bif (v1 == (0 : Int)) then
    (p_addr_IsBare a0).bind fun v3 =>
    some v3
  else
  some false
def p_pres_Key (a0 : ByteArray) (a1 : ByteArray) : Option (ByteArray) :=
  (p_pres_named a0 a1).bind fun v1 =>
  bif v1 then
    (cat? a0 (⟨#[32]⟩ : ByteArray)).bind fun s3 =>
    (cat? s3 a1).bind fun s4 =>
    some s4
  else
  some (⟨#[]⟩ : ByteArray)
def p_book_Row_key (a0 : BookRow) : Option (ByteArray) :=
  (p_pres_Key a0.User a0.Res).bind fun v1 =>
  some v1
def p_book_Check_1 (a0 : BookRow) : Option (Bool) :=
  (p_book_Row_key a0).bind fun v1 =>
  some (v1.toList == (⟨#[]⟩ : ByteArray).toList)
def p_slices_IndexFunc_book_Row_l1 (a1 : BookRow → Option Bool) (z5 : List BookRow) (z6 : Int) : Nat → Int → Option (Int ⊕ Int)
  | 0, _ => none
  | n + 1, y7 =>
    bif (decide (y7 < z6)) then
      (at? z5 y7).bind fun x9 =>
      (a1 x9).bind fun v10 =>
      bif v10 then
        some (.inl y7)
      else
      p_slices_IndexFunc_book_Row_l1 a1 z5 z6 n (w64 (y7 + (1 : Int)))
    else
    some (.inr y7)
def p_slices_IndexFunc_book_Row (a0 : List BookRow) (a1 : BookRow → Option Bool) : Option (Int) :=
  (p_slices_IndexFunc_book_Row_l1 a1 a0 (a0.length : Int) fuel (0 : Int)).bind fun o12 => match o12 with
  | .inl q13 =>
    some q13
  | .inr q14 =>
    some (-1 : Int)
def p_slices_ContainsFunc_book_Row (a0 : List BookRow) (a1 : BookRow → Option Bool) : Option (Bool) :=
  (p_slices_IndexFunc_book_Row a0 a1).bind fun v1 =>
  some (decide ((0 : Int) ≤ v1))
def p_pres_in (a0 : Int) (a1 : Int) (a2 : Int) : Option (Bool) :=
  bif (decide (a1 ≤ a0)) then
    some (decide (a0 ≤ a2))
  else
  some false
def p_pres_Check (a0 : PresPres) : Option (Int) :=
  (p_pres_in a0.Show (0 : Int) (4 : Int)).bind fun v1 =>
  bif v1 then
    (p_pres_in a0.Prio (-128 : Int) (127 : Int)).bind fun v3 =>
    bif v3 then
      (p_pres_in a0.Seq (0 : Int) (1099511627776 : Int)).bind fun v5 =>
      bif v5 then
        bif a0.On then
          some (0 : Int)
        else
        bif ((a0.On == false) && ((a0.Show == (0 : Int)) && ((a0.Prio == (0 : Int)) && ((a0.Seq == a0.Seq) && true)))) then
          some (0 : Int)
        else
        some (4 : Int)
      else
      some (8 : Int)
    else
    some (8 : Int)
  else
  some (8 : Int)
def p_book_State_errors_l1 (z5 : List BookRow) (z6 : Int) : Nat → Int → Option (Int ⊕ Int)
  | 0, _ => none
  | n + 1, y7 =>
    bif (decide (y7 < z6)) then
      (at? z5 y7).bind fun x9 =>
      (p_pres_Check x9.P).bind fun v10 =>
      bif (v10 != (0 : Int)) then
        some (.inl v10)
      else
      bif x9.P.On then
        p_book_State_errors_l1 z5 z6 n (w64 (y7 + (1 : Int)))
      else
      some (.inl (4 : Int))
    else
    some (.inr y7)
def p_book_State_errors (a0 : BookState) : Option (Int) :=
  (p_book_State_errors_l1 a0.Rows (a0.Rows.length : Int) fuel (0 : Int)).bind fun o13 => match o13 with
  | .inl q14 =>
    some q14
  | .inr q15 =>
    some (0 : Int)
def p_book_State_ordered_1 (a0 : BookRow) (c0 : BookRow) : Option (Bool) :=
  some (a0.P.Seq == c0.P.Seq)
def p_book_State_ordered_l1 (z6 : List BookRow) (z7 : Int) (z9 : BookState) : Nat → Int → Option (Bool ⊕ Int)
  | 0, _ => none
  | n + 1, y8 =>
    bif (decide (y8 < z7)) then
      (at? z6 y8).bind fun x11 =>
      bif (decide (x11.P.Seq < (1 : Int))) then
        some (.inl false)
      else
      bif (decide (z9.Seq < x11.P.Seq)) then
        some (.inl false)
      else
      bif (decide ((0 : Int) < y8)) then
        (at? z9.Rows (w64 (y8 - (1 : Int)))).bind fun x15 =>
        (p_book_Row_key x15).bind fun v16 =>
        (p_book_Row_key x11).bind fun v17 =>
        bif (Op.bytesLess v16.toList v17.toList) then
          (cut? z9.Rows none (some y8)).bind fun x19 =>
          (p_slices_ContainsFunc_book_Row x19 (fun x0 => p_book_State_ordered_1 x0 x11)).bind fun v20 =>
          bif v20 then
            some (.inl false)
          else
          p_book_State_ordered_l1 z6 z7 z9 n (w64 (y8 + (1 : Int)))
        else
        some (.inl false)
      else
      (cut? z9.Rows none (some y8)).bind fun x22 =>
      (p_slices_ContainsFunc_book_Row x22 (fun x0 => p_book_State_ordered_1 x0 x11)).bind fun v23 =>
      bif v23 then
        some (.inl false)
      else
      p_book_State_ordered_l1 z6 z7 z9 n (w64 (y8 + (1 : Int)))
    else
    some (.inr y8)
def p_book_State_ordered (a0 : BookState) : Option (Bool) :=
  (p_book_State_ordered_l1 a0.Rows (a0.Rows.length : Int) a0 fuel (0 : Int)).bind fun o25 => match o25 with
  | .inl q26 =>
    some q26
  | .inr q27 =>
    some true
def p_book_State_many_l1 (z7 : ByteArray) (z9 : List BookRow) (z10 : Int) : Nat → Int → Int → Option ((Int × Int))
  | 0, _, _ => none
  | n + 1, y8, y11 =>
    bif (decide (y11 < z10)) then
      (at? z9 y11).bind fun x13 =>
      bif (x13.User.toList == z7.toList) then
        p_book_State_many_l1 z7 z9 z10 n (w64 (y8 + (1 : Int))) (w64 (y11 + (1 : Int)))
      else
      p_book_State_many_l1 z7 z9 z10 n y8 (w64 (y11 + (1 : Int)))
    else
    some (y8, y11)
def p_book_State_many (a0 : BookState) (a1 : ByteArray) : Option (Int) :=
  (p_book_State_many_l1 a1 a0.Rows (a0.Rows.length : Int) fuel (0 : Int) (0 : Int)).bind fun q16 =>
  some q16.1
def p_book_Check_2 (a0 : BookRow) (c0 : BookState) : Option (Bool) :=
  (p_book_State_many c0 a0.User).bind fun v1 =>
  some (decide ((3 : Int) < v1))
def p_book_Check (a0 : BookState) : Option (Int) :=
  bif (decide ((16 : Int) < (a0.Rows.length : Int))) then
    some (5 : Int)
  else
  bif (decide (a0.Seq < (0 : Int))) then
    some (8 : Int)
  else
  bif (decide ((1099511627776 : Int) < a0.Seq)) then
    some (8 : Int)
  else
  (p_slices_ContainsFunc_book_Row a0.Rows (fun x0 => p_book_Check_1 x0)).bind fun v4 =>
  bif v4 then
    some (11 : Int)
  else
  (p_book_State_errors a0).bind fun v6 =>
  bif (v6 != (0 : Int)) then
    some v6
  else
  (p_book_State_ordered a0).bind fun v8 =>
  bif v8 then
    (p_slices_ContainsFunc_book_Row a0.Rows (fun x0 => p_book_Check_2 x0 a0)).bind fun v10 =>
    bif v10 then
      some (7 : Int)
    else
    some (0 : Int)
  else
  some (10 : Int)
def p_book_State_find_1 (a0 : BookRow) (a1 : ByteArray) : Option (Int) :=
  (p_book_Row_key a0).bind fun v1 =>
  (p_strings_Compare v1 a1).bind fun v2 =>
  some v2
def p_slices_BinarySearchFunc_book_Row_l1 (a2 : BookRow → ByteArray → Option Int) (z8 : List BookRow) (z9 : ByteArray) : Nat → Int → Int → Option ((Int × Int))
  | 0, _, _ => none
  | n + 1, y11, y12 =>
    bif (decide (y11 < y12)) then
      (at? z8 (w64 (shrI .u64 (IntKind.wrap .u64 (w64 (y11 + y12))) (1 : Int)))).bind fun x14 =>
      (a2 x14 z9).bind fun v15 =>
      bif (decide (v15 < (0 : Int))) then
        p_slices_BinarySearchFunc_book_Row_l1 a2 z8 z9 n (w64 (w64 (shrI .u64 (IntKind.wrap .u64 (w64 (y11 + y12))) (1 : Int)) + (1 : Int))) y12
      else
      p_slices_BinarySearchFunc_book_Row_l1 a2 z8 z9 n y11 (w64 (shrI .u64 (IntKind.wrap .u64 (w64 (y11 + y12))) (1 : Int)))
    else
    some (y11, y12)
def p_slices_BinarySearchFunc_book_Row (a0 : List BookRow) (a1 : ByteArray) (a2 : BookRow → ByteArray → Option Int) : Option (Int × Bool) :=
  (p_slices_BinarySearchFunc_book_Row_l1 a2 a0 a1 fuel (0 : Int) (a0.length : Int)).bind fun q18 =>
  bif (decide (q18.1 < (a0.length : Int))) then
    (at? a0 q18.1).bind fun x20 =>
    (a2 x20 a1).bind fun v21 =>
    some (q18.1, (v21 == (0 : Int)))
  else
  some (q18.1, false)
def p_book_State_find (a0 : BookState) (a1 : ByteArray) : Option (Int × Bool) :=
  (p_slices_BinarySearchFunc_book_Row a0.Rows a1 (fun x0 x1 => p_book_State_find_1 x0 x1)).bind fun v1 =>
  some (v1.1, v1.2)
def p_book_Set (a0 : BookState) (a1 : ByteArray) (a2 : ByteArray) (a3 : Int) (a4 : Int) : Option (BookState × PresPres × Int) :=
  (p_book_Check a0).bind fun v1 =>
  bif (v1 != (0 : Int)) then
    some (a0, (PresPres.mk false (0 : Int) (0 : Int) (0 : Int)), v1)
  else
  (p_book_Row_key (BookRow.mk a1 a2 (PresPres.mk true a3 a4 (0 : Int)))).bind fun v3 =>
  bif (v3.toList == (⟨#[]⟩ : ByteArray).toList) then
    some (a0, (PresPres.mk false (0 : Int) (0 : Int) (0 : Int)), (11 : Int))
  else
  (p_pres_Check (PresPres.mk true a3 a4 (0 : Int))).bind fun v5 =>
  bif (v5 != (0 : Int)) then
    some (a0, (PresPres.mk false (0 : Int) (0 : Int) (0 : Int)), v5)
  else
  (p_book_Row_key (BookRow.mk a1 a2 (PresPres.mk true a3 a4 (0 : Int)))).bind fun v7 =>
  (p_book_State_find a0 v7).bind fun v8 =>
  bif v8.2 then
    bif (decide ((1099511627776 : Int) ≤ a0.Seq)) then
      some (a0, (PresPres.mk false (0 : Int) (0 : Int) (0 : Int)), (9 : Int))
    else
    (cut? a0.Rows (some v8.1) none).bind fun x11 =>
    (cut? a0.Rows (some (w64 (v8.1 + (1 : Int)))) none).bind fun x12 =>
    (cut? a0.Rows none (some v8.1)).bind fun x13 =>
    (app? x13 [(BookRow.mk a1 a2 (PresPres.mk true a3 a4 (w64 (a0.Seq + (1 : Int)))))]).bind fun l14 =>
    (app? l14 x12).bind fun l15 =>
    some ((BookState.mk (w64 (a0.Seq + (1 : Int))) l15), (PresPres.mk true a3 a4 (w64 (a0.Seq + (1 : Int)))), (0 : Int))
  else
  bif (decide ((16 : Int) ≤ (a0.Rows.length : Int))) then
    some (a0, (PresPres.mk false (0 : Int) (0 : Int) (0 : Int)), (7 : Int))
  else
  (p_book_State_many a0 a1).bind fun v17 =>
  bif (decide ((3 : Int) ≤ v17)) then
    some (a0, (PresPres.mk false (0 : Int) (0 : Int) (0 : Int)), (7 : Int))
  else
  bif (decide ((1099511627776 : Int) ≤ a0.Seq)) then
    some (a0, (PresPres.mk false (0 : Int) (0 : Int) (0 : Int)), (9 : Int))
  else
  (cut? a0.Rows (some v8.1) none).bind fun x20 =>
  (cut? a0.Rows none (some v8.1)).bind fun x21 =>
  (app? x21 [(BookRow.mk a1 a2 (PresPres.mk true a3 a4 (w64 (a0.Seq + (1 : Int)))))]).bind fun l22 =>
  (app? l22 x20).bind fun l23 =>
  some ((BookState.mk (w64 (a0.Seq + (1 : Int))) l23), (PresPres.mk true a3 a4 (w64 (a0.Seq + (1 : Int)))), (0 : Int))
def p_book_Off (a0 : BookState) (a1 : ByteArray) (a2 : ByteArray) : Option (BookState × PresPres × Int) :=
  (p_book_Check a0).bind fun v1 =>
  bif (v1 != (0 : Int)) then
    some (a0, (PresPres.mk false (0 : Int) (0 : Int) (0 : Int)), v1)
  else
  (p_pres_Key a1 a2).bind fun v3 =>
  (p_book_State_find a0 v3).bind fun v4 =>
  bif v4.2 then
    bif (v3.toList == (⟨#[]⟩ : ByteArray).toList) then
      some (a0, (PresPres.mk false (0 : Int) (0 : Int) (0 : Int)), (6 : Int))
    else
    bif (decide ((1099511627776 : Int) ≤ a0.Seq)) then
      some (a0, (PresPres.mk false (0 : Int) (0 : Int) (0 : Int)), (9 : Int))
    else
    (cut? a0.Rows none (some v4.1)).bind fun x8 =>
    (cut? a0.Rows (some (w64 (v4.1 + (1 : Int)))) none).bind fun x9 =>
    (app? x8 x9).bind fun l10 =>
    some ((BookState.mk (w64 (a0.Seq + (1 : Int))) l10), (PresPres.mk false (0 : Int) (0 : Int) (w64 (a0.Seq + (1 : Int)))), (0 : Int))
  else
  some (a0, (PresPres.mk false (0 : Int) (0 : Int) (0 : Int)), (6 : Int))
def p_book_Of_l1 (z9 : ByteArray) (z11 : List BookRow) (z12 : Int) : Nat → (List BookRow) → Int → Option (((List BookRow) × Int))
  | 0, _, _ => none
  | n + 1, y10, y13 =>
    bif (decide (y13 < z12)) then
      (at? z11 y13).bind fun x15 =>
      bif (x15.User.toList == z9.toList) then
        (app? y10 [x15]).bind fun l17 =>
        p_book_Of_l1 z9 z11 z12 n l17 (w64 (y13 + (1 : Int)))
      else
      p_book_Of_l1 z9 z11 z12 n y10 (w64 (y13 + (1 : Int)))
    else
    some (y10, y13)
def p_book_Of (a0 : BookState) (a1 : ByteArray) : Option ((List BookRow)) :=
  (p_book_Check a0).bind fun v1 =>
  bif (v1 != (0 : Int)) then
    some []
  else
  (p_book_Of_l1 a1 a0.Rows (a0.Rows.length : Int) fuel [] (0 : Int)).bind fun q19 =>
  some q19.1
def p_pres_Newer (a0 : PresPres) (a1 : PresPres) : Option (Bool) :=
  some (decide (a1.Seq < a0.Seq))
def p_pres_Better (a0 : PresPres) (a1 : PresPres) : Option (Bool) :=
  bif a0.On then
    bif a1.On then
      bif (a0.Prio == a1.Prio) then
        (p_pres_Newer a0 a1).bind fun v4 =>
        some v4
      else
      some (decide (a1.Prio < a0.Prio))
    else
    some (!a1.On)
  else
  some false
def p_pres_Best_l1 (z7 : List PresPres) (z9 : List PresPres) (z10 : Int) : Nat → Int → Int → Option ((Int × Int))
  | 0, _, _ => none
  | n + 1, y8, y11 =>
    bif (decide (y11 < z10)) then
      (at? z9 y11).bind fun x13 =>
      bif x13.On then
        bif (y8 == (-1 : Int)) then
          p_pres_Best_l1 z7 z9 z10 n y11 (w64 (y11 + (1 : Int)))
        else
        (at? z7 y8).bind fun x16 =>
        (p_pres_Better x13 x16).bind fun v17 =>
        bif v17 then
          p_pres_Best_l1 z7 z9 z10 n y11 (w64 (y11 + (1 : Int)))
        else
        p_pres_Best_l1 z7 z9 z10 n y8 (w64 (y11 + (1 : Int)))
      else
      p_pres_Best_l1 z7 z9 z10 n y8 (w64 (y11 + (1 : Int)))
    else
    some (y8, y11)
def p_pres_Best (a0 : List PresPres) : Option (Int) :=
  (p_pres_Best_l1 a0 a0 (a0.length : Int) fuel (-1 : Int) (0 : Int)).bind fun q20 =>
  some q20.1
def p_book_Best_l1 (z11 : List BookRow) (z12 : Int) : Nat → (List PresPres) → Int → Option (((List PresPres) × Int))
  | 0, _, _ => none
  | n + 1, y10, y13 =>
    bif (decide (y13 < z12)) then
      (at? z11 y13).bind fun x16 =>
      (app? y10 [x16.P]).bind fun l17 =>
      p_book_Best_l1 z11 z12 n l17 (w64 (y13 + (1 : Int)))
    else
    some (y10, y13)
def p_book_Best (a0 : BookState) (a1 : ByteArray) : Option (BookRow × Bool) :=
  (p_book_Of a0 a1).bind fun v1 =>
  (p_book_Best_l1 v1 (v1.length : Int) fuel [] (0 : Int)).bind fun q19 =>
  (p_pres_Best q19.1).bind fun v20 =>
  bif (decide (v20 < (0 : Int))) then
    some ((BookRow.mk (⟨#[]⟩ : ByteArray) (⟨#[]⟩ : ByteArray) (PresPres.mk false (0 : Int) (0 : Int) (0 : Int))), false)
  else
  (at? v1 v20).bind fun x22 =>
  some (x22, true)
def p_book_Next (a0 : BookState) (a1 : ByteArray) : Option (BookRow × Bool) :=
  (p_book_Check a0).bind fun v1 =>
  bif (v1 != (0 : Int)) then
    some ((BookRow.mk (⟨#[]⟩ : ByteArray) (⟨#[]⟩ : ByteArray) (PresPres.mk false (0 : Int) (0 : Int) (0 : Int))), false)
  else
  (p_book_State_find a0 a1).bind fun v3 =>
  bif v3.2 then
    bif (w64 (v3.1 + (1 : Int)) == (a0.Rows.length : Int)) then
      some ((BookRow.mk (⟨#[]⟩ : ByteArray) (⟨#[]⟩ : ByteArray) (PresPres.mk false (0 : Int) (0 : Int) (0 : Int))), false)
    else
    (at? a0.Rows (w64 (v3.1 + (1 : Int)))).bind fun x6 =>
    some (x6, true)
  else
  bif (v3.1 == (a0.Rows.length : Int)) then
    some ((BookRow.mk (⟨#[]⟩ : ByteArray) (⟨#[]⟩ : ByteArray) (PresPres.mk false (0 : Int) (0 : Int) (0 : Int))), false)
  else
  (at? a0.Rows v3.1).bind fun x8 =>
  some (x8, true)
def p_book_Get (a0 : BookState) (a1 : ByteArray) (a2 : ByteArray) : Option (PresPres × Bool) :=
  (p_pres_Key a1 a2).bind fun v1 =>
  bif (v1.toList == (⟨#[]⟩ : ByteArray).toList) then
    some ((PresPres.mk false (0 : Int) (0 : Int) (0 : Int)), false)
  else
  (p_book_Check a0).bind fun v3 =>
  bif (v3 != (0 : Int)) then
    some ((PresPres.mk false (0 : Int) (0 : Int) (0 : Int)), false)
  else
  (p_book_State_find a0 v1).bind fun v5 =>
  bif v5.2 then
    (at? a0.Rows v5.1).bind fun x7 =>
    some (x7.P, true)
  else
  some ((PresPres.mk false (0 : Int) (0 : Int) (0 : Int)), false)
def p_book_Users_l1 (z9 : List BookRow) (z10 : Int) : Nat → (List ByteArray) → Int → Option (((List ByteArray) × Int))
  | 0, _, _ => none
  | n + 1, y8, y11 =>
    bif (decide (y11 < z10)) then
      (at? z9 y11).bind fun x13 =>
      (app? y8 [x13.User]).bind fun l14 =>
      p_book_Users_l1 z9 z10 n l14 (w64 (y11 + (1 : Int)))
    else
    some (y8, y11)
def p_book_Users (a0 : BookState) : Option ((List ByteArray)) :=
  (p_book_Check a0).bind fun v1 =>
  bif (v1 != (0 : Int)) then
    some []
  else
  (p_book_Users_l1 a0.Rows (a0.Rows.length : Int) fuel [] (0 : Int)).bind fun q16 =>
  (p_slices_Compact_string q16.1).bind fun v17 =>
  some v17
def p_ref01_SameTexts_l1 (z6 : List ByteArray) (z7 : List ByteArray) : Nat → Int → Option (Bool ⊕ Int)
  | 0, _ => none
  | n + 1, y8 =>
    bif (decide (y8 < (z6.length : Int))) then
      (at? z6 y8).bind fun x10 =>
      (at? z7 y8).bind fun x11 =>
      bif (x10.toList == x11.toList) then
        p_ref01_SameTexts_l1 z6 z7 n (w64 (y8 + (1 : Int)))
      else
      some (.inl false)
    else
    some (.inr y8)
def p_ref01_SameTexts (a0 : List ByteArray) (a1 : List ByteArray) : Option (Bool) :=
  bif ((a0.length : Int) != (a1.length : Int)) then
    some false
  else
  (p_ref01_SameTexts_l1 a0 a1 fuel (0 : Int)).bind fun o13 => match o13 with
  | .inl q14 =>
    some q14
  | .inr q15 =>
    some true
def p_slices_Equal_book_Row_l1 (z7 : List BookRow) (z8 : List BookRow) (z9 : Int) : Nat → Int → Option (Bool ⊕ Int)
  | 0, _ => none
  | n + 1, y10 =>
    bif (decide (y10 < z9)) then
      (at? z7 y10).bind fun x12 =>
      (at? z8 y10).bind fun x13 =>
      bif ((x12.User.toList == x13.User.toList) && ((x12.Res.toList == x13.Res.toList) && ((x12.P.On == x13.P.On) && ((x12.P.Show == x13.P.Show) && ((x12.P.Prio == x13.P.Prio) && ((x12.P.Seq == x13.P.Seq) && true)))))) then
        p_slices_Equal_book_Row_l1 z7 z8 z9 n (w64 (y10 + (1 : Int)))
      else
      some (.inl false)
    else
    some (.inr y10)
def p_slices_Equal_book_Row (a0 : List BookRow) (a1 : List BookRow) : Option (Bool) :=
  bif ((a0.length : Int) != (a1.length : Int)) then
    some false
  else
  (p_slices_Equal_book_Row_l1 a0 a1 (a0.length : Int) fuel (0 : Int)).bind fun o15 => match o15 with
  | .inl q16 =>
    some q16
  | .inr q17 =>
    some true
def p_book_Same (a0 : BookState) (a1 : BookState) : Option (Bool) :=
  bif (a0.Seq == a1.Seq) then
    (p_slices_Equal_book_Row a0.Rows a1.Rows).bind fun v2 =>
    some v2
  else
  some false
def p_law24_awake : Option (Bool) :=
  (p_book_Set (BookState.mk (0 : Int) []) (⟨#[97, 64, 98]⟩ : ByteArray) (⟨#[120]⟩ : ByteArray) (1 : Int) (5 : Int)).bind fun v1 =>
  (p_book_Set v1.1 (⟨#[97, 64, 98]⟩ : ByteArray) (⟨#[121]⟩ : ByteArray) (0 : Int) (7 : Int)).bind fun v2 =>
  (p_book_Off v2.1 (⟨#[97, 64, 98]⟩ : ByteArray) (⟨#[120]⟩ : ByteArray)).bind fun v3 =>
  (p_book_Off v3.1 (⟨#[97, 64, 98]⟩ : ByteArray) (⟨#[120]⟩ : ByteArray)).bind fun v4 =>
  (p_book_Best v2.1 (⟨#[97, 64, 98]⟩ : ByteArray)).bind fun v5 =>
  (p_book_Next v2.1 (⟨#[97, 64, 98, 32, 120]⟩ : ByteArray)).bind fun v6 =>
  (p_book_Get v2.1 (⟨#[97, 64, 98]⟩ : ByteArray) (⟨#[120]⟩ : ByteArray)).bind fun v7 =>
  (p_book_Set v3.1 (⟨#[97]⟩ : ByteArray) (⟨#[]⟩ : ByteArray) (0 : Int) (0 : Int)).bind fun v8 =>
  bif ((v1.2.1.On == true) && ((v1.2.1.Show == (1 : Int)) && ((v1.2.1.Prio == (5 : Int)) && ((v1.2.1.Seq == (1 : Int)) && true)))) then
    bif (v1.2.2 == (0 : Int)) then
      bif (v2.2.1.Seq == (2 : Int)) then
        bif (v2.2.2 == (0 : Int)) then
          bif ((v3.2.1.On == false) && ((v3.2.1.Show == (0 : Int)) && ((v3.2.1.Prio == (0 : Int)) && ((v3.2.1.Seq == (3 : Int)) && true)))) then
            bif (v3.2.2 == (0 : Int)) then
              bif (v4.2.2 == (6 : Int)) then
                bif v5.2 then
                  bif (v5.1.Res.toList == (⟨#[121]⟩ : ByteArray).toList) then
                    bif v6.2 then
                      bif (v6.1.Res.toList == (⟨#[121]⟩ : ByteArray).toList) then
                        bif ((v7.1.On == v1.2.1.On) && ((v7.1.Show == v1.2.1.Show) && ((v7.1.Prio == v1.2.1.Prio) && ((v7.1.Seq == v1.2.1.Seq) && true)))) then
                          bif v7.2 then
                            bif (v8.2.2 == (11 : Int)) then
                              (p_book_Of v2.1 (⟨#[97, 64, 98]⟩ : ByteArray)).bind fun v23 =>
                              bif ((v23.length : Int) == (2 : Int)) then
                                (p_book_Users v2.1).bind fun v25 =>
                                (p_ref01_SameTexts v25 [(⟨#[97, 64, 98]⟩ : ByteArray)]).bind fun v26 =>
                                bif v26 then
                                  (p_book_Check v3.1).bind fun v28 =>
                                  bif (v28 == (0 : Int)) then
                                    (p_book_Check (BookState.mk (-1 : Int) [])).bind fun v30 =>
                                    bif (v30 == (8 : Int)) then
                                      (p_book_Same v2.1 v3.1).bind fun v32 =>
                                      bif v32 then
                                        some false
                                      else
                                      (p_book_Same v3.1 v3.1).bind fun v34 =>
                                      bif v34 then
                                        some true
                                      else
                                      some false
                                    else
                                    some false
                                  else
                                  some false
                                else
                                some false
                              else
                              some false
                            else
                            some false
                          else
                          some false
                        else
                        some false
                      else
                      some false
                    else
                    some false
                  else
                  some false
                else
                some false
              else
              some false
            else
            some false
          else
          some false
        else
        some false
      else
      some false
    else
    some false
  else
  some false
def p_law24_BookKeeps_l2 (z30 : List Law24Deed) (z31 : Int) (z38 : List PresPres) : Nat → Int → Int → Option ((Int × Int))
  | 0, _, _ => none
  | n + 1, y35, y36 =>
    bif (decide (y36 < (4 : Int))) then
      (at? z30 z31).bind fun x40 =>
      (arr? 20 z38 (w64 (w64 ((4 : Int) * w64 (Int.tmod x40.Who (5 : Int))) + y36))).bind fun x41 =>
      bif x41.On then
        p_law24_BookKeeps_l2 z30 z31 z38 n (w64 (y35 + (1 : Int))) (w64 (y36 + (1 : Int)))
      else
      p_law24_BookKeeps_l2 z30 z31 z38 n y35 (w64 (y36 + (1 : Int)))
    else
    some (y35, y36)
def p_law24_BookKeeps_l3 (z288 : BookState) (z290 : List PresPres) : Nat → Int → Int → Option (Bool ⊕ (Int × Int))
  | 0, _, _ => none
  | n + 1, y286, y287 =>
    bif (decide (y287 < (20 : Int))) then
      (text? [IntKind.wrap .u8 ((97 : Int) + IntKind.wrap .u8 (w64 (Int.tdiv y287 (4 : Int))))]).bind fun s292 =>
      (cat? s292 (⟨#[64, 120]⟩ : ByteArray)).bind fun s293 =>
      (text? [IntKind.wrap .u8 ((114 : Int) + IntKind.wrap .u8 (Int.tmod y287 (4 : Int)))]).bind fun s294 =>
      (p_book_Get z288 s293 s294).bind fun v295 =>
      (arr? 20 z290 y287).bind fun x296 =>
      bif (v295.2 != x296.On) then
        some (.inl false)
      else
      bif v295.2 then
        (arr? 20 z290 y287).bind fun x300 =>
        bif ((v295.1.On == x300.On) && ((v295.1.Show == x300.Show) && ((v295.1.Prio == x300.Prio) && ((v295.1.Seq == x300.Seq) && true)))) then
          p_law24_BookKeeps_l3 z288 z290 n (w64 (y286 + (1 : Int))) (w64 (y287 + (1 : Int)))
        else
        some (.inl false)
      else
      p_law24_BookKeeps_l3 z288 z290 n y286 (w64 (y287 + (1 : Int)))
    else
    some (.inr (y286, y287))
def p_law24_BookKeeps_l1 (z8 : List Law24Deed) : Nat → Int → BookState → (List PresPres) → Option (Bool ⊕ (Int × BookState × (List PresPres)))
  | 0, _, _, _ => none
  | n + 1, y9, y10, y11 =>
    bif (decide (y9 < (z8.length : Int))) then
      (at? z8 y9).bind fun x13 =>
      (text? [IntKind.wrap .u8 ((97 : Int) + (Int.tmod x13.Who (5 : Int)))]).bind fun s14 =>
      (cat? s14 (⟨#[64, 120]⟩ : ByteArray)).bind fun s15 =>
      (at? z8 y9).bind fun x16 =>
      (text? [IntKind.wrap .u8 ((114 : Int) + (Int.tmod x16.Res (4 : Int)))]).bind fun s17 =>
      (at? z8 y9).bind fun x18 =>
      (at? z8 y9).bind fun x19 =>
      (p_law24_BookKeeps_l2 z8 y9 y11 fuel (0 : Int) (0 : Int)).bind fun q45 =>
      (at? z8 y9).bind fun x46 =>
      bif x46.Off then
        (p_book_Off y10 s15 s17).bind fun v48 =>
        (arr? 20 y11 (w64 (w64 ((4 : Int) * w64 (Int.tmod x18.Who (5 : Int))) + w64 (Int.tmod x19.Res (4 : Int))))).bind fun x49 =>
        bif ((v48.2.2 == (0 : Int)) != x49.On) then
          some (.inl false)
        else
        bif (v48.2.2 == (0 : Int)) then
          bif v48.2.1.On then
            some (.inl false)
          else
          bif (decide (v48.2.1.Seq ≤ y10.Seq)) then
            some (.inl false)
          else
          bif (v48.2.1.Seq != v48.1.Seq) then
            some (.inl false)
          else
          (arr? 20 y11 (w64 (w64 ((4 : Int) * w64 (Int.tmod x18.Who (5 : Int))) + w64 (Int.tmod x19.Res (4 : Int))))).bind fun x56 =>
          (p_book_Check v48.1).bind fun v58 =>
          bif (v58 != (0 : Int)) then
            some (.inl false)
          else
          (p_law24_BookKeeps_l3 v48.1 (List.set y11 (Int.toNat (w64 (w64 ((4 : Int) * w64 (Int.tmod x18.Who (5 : Int))) + w64 (Int.tmod x19.Res (4 : Int))))) v48.2.1) fuel (0 : Int) (0 : Int)).bind fun o87 => match o87 with
          | .inl q88 =>
            some (.inl q88)
          | .inr q89 =>
            bif (q89.1 != (v48.1.Rows.length : Int)) then
              some (.inl false)
            else
            p_law24_BookKeeps_l1 z8 n (w64 (y9 + (1 : Int))) v48.1 (List.set y11 (Int.toNat (w64 (w64 ((4 : Int) * w64 (Int.tmod x18.Who (5 : Int))) + w64 (Int.tmod x19.Res (4 : Int))))) v48.2.1)
        else
        (p_book_Same v48.1 y10).bind fun v91 =>
        bif v91 then
          (p_book_Check v48.1).bind fun v93 =>
          bif (v93 != (0 : Int)) then
            some (.inl false)
          else
          (p_law24_BookKeeps_l3 v48.1 y11 fuel (0 : Int) (0 : Int)).bind fun o114 => match o114 with
          | .inl q115 =>
            some (.inl q115)
          | .inr q116 =>
            bif (q116.1 != (v48.1.Rows.length : Int)) then
              some (.inl false)
            else
            p_law24_BookKeeps_l1 z8 n (w64 (y9 + (1 : Int))) v48.1 y11
        else
        some (.inl false)
      else
      (at? z8 y9).bind fun x118 =>
      (p_book_Set y10 s15 s17 (w64 (Int.tmod x118.Show (5 : Int))) (0 : Int)).bind fun v119 =>
      (arr? 20 y11 (w64 (w64 ((4 : Int) * w64 (Int.tmod x18.Who (5 : Int))) + w64 (Int.tmod x19.Res (4 : Int))))).bind fun x120 =>
      bif x120.On then
        bif ((v119.2.2 == (0 : Int)) != true) then
          some (.inl false)
        else
        bif (v119.2.2 == (0 : Int)) then
          bif v119.2.1.On then
            (at? z8 y9).bind fun x126 =>
            bif (v119.2.1.Show != w64 (Int.tmod x126.Show (5 : Int))) then
              some (.inl false)
            else
            bif (decide (v119.2.1.Seq ≤ y10.Seq)) then
              some (.inl false)
            else
            bif (v119.2.1.Seq != v119.1.Seq) then
              some (.inl false)
            else
            (arr? 20 y11 (w64 (w64 ((4 : Int) * w64 (Int.tmod x18.Who (5 : Int))) + w64 (Int.tmod x19.Res (4 : Int))))).bind fun x130 =>
            (p_book_Check v119.1).bind fun v132 =>
            bif (v132 != (0 : Int)) then
              some (.inl false)
            else
            (p_law24_BookKeeps_l3 v119.1 (List.set y11 (Int.toNat (w64 (w64 ((4 : Int) * w64 (Int.tmod x18.Who (5 : Int))) + w64 (Int.tmod x19.Res (4 : Int))))) v119.2.1) fuel (0 : Int) (0 : Int)).bind fun o153 => match o153 with
            | .inl q154 =>
              some (.inl q154)
            | .inr q155 =>
              bif (q155.1 != (v119.1.Rows.length : Int)) then
                some (.inl false)
              else
              p_law24_BookKeeps_l1 z8 n (w64 (y9 + (1 : Int))) v119.1 (List.set y11 (Int.toNat (w64 (w64 ((4 : Int) * w64 (Int.tmod x18.Who (5 : Int))) + w64 (Int.tmod x19.Res (4 : Int))))) v119.2.1)
          else
          some (.inl false)
        else
        (p_book_Same v119.1 y10).bind fun v157 =>
        bif v157 then
          (p_book_Check v119.1).bind fun v159 =>
          bif (v159 != (0 : Int)) then
            some (.inl false)
          else
          (p_law24_BookKeeps_l3 v119.1 y11 fuel (0 : Int) (0 : Int)).bind fun o180 => match o180 with
          | .inl q181 =>
            some (.inl q181)
          | .inr q182 =>
            bif (q182.1 != (v119.1.Rows.length : Int)) then
              some (.inl false)
            else
            p_law24_BookKeeps_l1 z8 n (w64 (y9 + (1 : Int))) v119.1 y11
        else
        some (.inl false)
      else
      bif (decide (q45.1 < (3 : Int))) then
        bif ((v119.2.2 == (0 : Int)) != (decide ((y10.Rows.length : Int) < (16 : Int)))) then
          some (.inl false)
        else
        bif (v119.2.2 == (0 : Int)) then
          bif v119.2.1.On then
            (at? z8 y9).bind fun x188 =>
            bif (v119.2.1.Show != w64 (Int.tmod x188.Show (5 : Int))) then
              some (.inl false)
            else
            bif (decide (v119.2.1.Seq ≤ y10.Seq)) then
              some (.inl false)
            else
            bif (v119.2.1.Seq != v119.1.Seq) then
              some (.inl false)
            else
            (arr? 20 y11 (w64 (w64 ((4 : Int) * w64 (Int.tmod x18.Who (5 : Int))) + w64 (Int.tmod x19.Res (4 : Int))))).bind fun x192 =>
            (p_book_Check v119.1).bind fun v194 =>
            bif (v194 != (0 : Int)) then
              some (.inl false)
            else
            (p_law24_BookKeeps_l3 v119.1 (List.set y11 (Int.toNat (w64 (w64 ((4 : Int) * w64 (Int.tmod x18.Who (5 : Int))) + w64 (Int.tmod x19.Res (4 : Int))))) v119.2.1) fuel (0 : Int) (0 : Int)).bind fun o215 => match o215 with
            | .inl q216 =>
              some (.inl q216)
            | .inr q217 =>
              bif (q217.1 != (v119.1.Rows.length : Int)) then
                some (.inl false)
              else
              p_law24_BookKeeps_l1 z8 n (w64 (y9 + (1 : Int))) v119.1 (List.set y11 (Int.toNat (w64 (w64 ((4 : Int) * w64 (Int.tmod x18.Who (5 : Int))) + w64 (Int.tmod x19.Res (4 : Int))))) v119.2.1)
          else
          some (.inl false)
        else
        (p_book_Same v119.1 y10).bind fun v219 =>
        bif v219 then
          (p_book_Check v119.1).bind fun v221 =>
          bif (v221 != (0 : Int)) then
            some (.inl false)
          else
          (p_law24_BookKeeps_l3 v119.1 y11 fuel (0 : Int) (0 : Int)).bind fun o242 => match o242 with
          | .inl q243 =>
            some (.inl q243)
          | .inr q244 =>
            bif (q244.1 != (v119.1.Rows.length : Int)) then
              some (.inl false)
            else
            p_law24_BookKeeps_l1 z8 n (w64 (y9 + (1 : Int))) v119.1 y11
        else
        some (.inl false)
      else
      bif ((v119.2.2 == (0 : Int)) != false) then
        some (.inl false)
      else
      bif (v119.2.2 == (0 : Int)) then
        bif v119.2.1.On then
          (at? z8 y9).bind fun x249 =>
          bif (v119.2.1.Show != w64 (Int.tmod x249.Show (5 : Int))) then
            some (.inl false)
          else
          bif (decide (v119.2.1.Seq ≤ y10.Seq)) then
            some (.inl false)
          else
          bif (v119.2.1.Seq != v119.1.Seq) then
            some (.inl false)
          else
          (arr? 20 y11 (w64 (w64 ((4 : Int) * w64 (Int.tmod x18.Who (5 : Int))) + w64 (Int.tmod x19.Res (4 : Int))))).bind fun x253 =>
          (p_book_Check v119.1).bind fun v255 =>
          bif (v255 != (0 : Int)) then
            some (.inl false)
          else
          (p_law24_BookKeeps_l3 v119.1 (List.set y11 (Int.toNat (w64 (w64 ((4 : Int) * w64 (Int.tmod x18.Who (5 : Int))) + w64 (Int.tmod x19.Res (4 : Int))))) v119.2.1) fuel (0 : Int) (0 : Int)).bind fun o276 => match o276 with
          | .inl q277 =>
            some (.inl q277)
          | .inr q278 =>
            bif (q278.1 != (v119.1.Rows.length : Int)) then
              some (.inl false)
            else
            p_law24_BookKeeps_l1 z8 n (w64 (y9 + (1 : Int))) v119.1 (List.set y11 (Int.toNat (w64 (w64 ((4 : Int) * w64 (Int.tmod x18.Who (5 : Int))) + w64 (Int.tmod x19.Res (4 : Int))))) v119.2.1)
        else
        some (.inl false)
      else
      (p_book_Same v119.1 y10).bind fun v280 =>
      bif v280 then
        (p_book_Check v119.1).bind fun v282 =>
        bif (v282 != (0 : Int)) then
          some (.inl false)
        else
        (p_law24_BookKeeps_l3 v119.1 y11 fuel (0 : Int) (0 : Int)).bind fun o303 => match o303 with
        | .inl q304 =>
          some (.inl q304)
        | .inr q305 =>
          bif (q305.1 != (v119.1.Rows.length : Int)) then
            some (.inl false)
          else
          p_law24_BookKeeps_l1 z8 n (w64 (y9 + (1 : Int))) v119.1 y11
      else
      some (.inl false)
    else
    some (.inr (y9, y10, y11))
def p_law24_BookKeeps (a0 : List Law24Deed) : Option (Bool) :=
  bif (decide ((80 : Int) < (a0.length : Int))) then
    (p_law24_awake).bind fun v2 =>
    some v2
  else
  (p_law24_BookKeeps_l1 a0 fuel (0 : Int) (BookState.mk (0 : Int) []) (List.replicate 20 (PresPres.mk false (0 : Int) (0 : Int) (0 : Int)))).bind fun o307 => match o307 with
  | .inl q308 =>
    some q308
  | .inr q309 =>
    (p_law24_awake).bind fun v310 =>
    some v310
def p_law24_BookNext_l1 (z7 : List Law24Deed) : Nat → Int → BookState → Option ((Int × BookState))
  | 0, _, _ => none
  | n + 1, y8, y9 =>
    bif (decide (y8 < (z7.length : Int))) then
      (at? z7 y8).bind fun x11 =>
      (text? [IntKind.wrap .u8 ((97 : Int) + (Int.tmod x11.Who (5 : Int)))]).bind fun s12 =>
      (cat? s12 (⟨#[64, 120]⟩ : ByteArray)).bind fun s13 =>
      (at? z7 y8).bind fun x14 =>
      (text? [IntKind.wrap .u8 ((114 : Int) + (Int.tmod x14.Res (4 : Int)))]).bind fun s15 =>
      (at? z7 y8).bind fun x16 =>
      bif x16.Off then
        (p_book_Off y9 s13 s15).bind fun v18 =>
        p_law24_BookNext_l1 z7 n (w64 (y8 + (1 : Int))) v18.1
      else
      (at? z7 y8).bind fun x19 =>
      (p_book_Set y9 s13 s15 (w64 (Int.tmod x19.Show (5 : Int))) (1 : Int)).bind fun v20 =>
      p_law24_BookNext_l1 z7 n (w64 (y8 + (1 : Int))) v20.1
    else
    some (y8, y9)
def p_law24_BookNext_l2 (z31 : BookState) : Nat → ByteArray → Int → Int → Option (Bool ⊕ (ByteArray × Int × Int))
  | 0, _, _, _ => none
  | n + 1, y28, y29, y30 =>
    bif (decide (y30 < (30 : Int))) then
      (p_book_Next z31 y28).bind fun v33 =>
      bif v33.2 then
        bif (decide ((z31.Rows.length : Int) ≤ y29)) then
          some (.inl false)
        else
        (at? z31.Rows y29).bind fun x36 =>
        bif ((v33.1.User.toList == x36.User.toList) && ((v33.1.Res.toList == x36.Res.toList) && ((v33.1.P.On == x36.P.On) && ((v33.1.P.Show == x36.P.Show) && ((v33.1.P.Prio == x36.P.Prio) && ((v33.1.P.Seq == x36.P.Seq) && true)))))) then
          (p_pres_Key v33.1.User v33.1.Res).bind fun v38 =>
          p_law24_BookNext_l2 z31 n v38 (w64 (y29 + (1 : Int))) (w64 (y30 + (1 : Int)))
        else
        some (.inl false)
      else
      some (.inr (y28, y29, y30))
    else
    some (.inr (y28, y29, y30))
def p_law24_BookNext_l3 (z50 : List ByteArray) (z53 : BookState) : Nat → Int → Int → Option (Bool ⊕ (Int × Int))
  | 0, _, _ => none
  | n + 1, y51, y52 =>
    bif (decide (y52 < (z50.length : Int))) then
      (at? z50 y52).bind fun x55 =>
      (p_book_Of z53 x55).bind fun v56 =>
      (at? z50 y52).bind fun x57 =>
      (p_book_Best z53 x57).bind fun v58 =>
      bif v58.2 then
        (at? z50 y52).bind fun x60 =>
        bif (v58.1.User.toList == x60.toList) then
          bif ((v56.length : Int) == (0 : Int)) then
            some (.inl false)
          else
          bif (decide ((0 : Int) < y52)) then
            (at? z50 (w64 (y52 - (1 : Int)))).bind fun x64 =>
            (at? z50 y52).bind fun x65 =>
            bif (Op.bytesLess x64.toList x65.toList) then
              p_law24_BookNext_l3 z50 z53 n (w64 (y51 + (v56.length : Int))) (w64 (y52 + (1 : Int)))
            else
            some (.inl false)
          else
          p_law24_BookNext_l3 z50 z53 n (w64 (y51 + (v56.length : Int))) (w64 (y52 + (1 : Int)))
        else
        some (.inl false)
      else
      some (.inl false)
    else
    some (.inr (y51, y52))
def p_law24_BookNext (a0 : List Law24Deed) : Option (Bool) :=
  bif (decide ((40 : Int) < (a0.length : Int))) then
    (p_law24_awake).bind fun v2 =>
    some v2
  else
  (p_law24_BookNext_l1 a0 fuel (0 : Int) (BookState.mk (0 : Int) [])).bind fun q22 =>
  (p_law24_BookNext_l2 q22.2 fuel (⟨#[]⟩ : ByteArray) (0 : Int) (0 : Int)).bind fun o39 => match o39 with
  | .inl q40 =>
    some q40
  | .inr q41 =>
    (p_book_Users q22.2).bind fun v42 =>
    (p_law24_BookNext_l3 v42 q22.2 fuel (0 : Int) (0 : Int)).bind fun o67 => match o67 with
    | .inl q68 =>
      some q68
    | .inr q69 =>
      bif (q41.2.1 == (q22.2.Rows.length : Int)) then
        bif (q69.1 == q41.2.1) then
          (p_law24_awake).bind fun v72 =>
          some v72
        else
        some false
      else
      some false
end Go.Proofs.Ytljeinlapkgjeaa
/- Plain functions (written by a program of mine). -/
namespace Go.Proofs.Ytljeinlapkgjeaa
open Go.RowKit
def p_law24_BookKeeps_j_l2 (z30 : List Law24Deed) (z31 : Int) (z38 : List PresPres) : Nat → Int → Int → Option ((Int × Int))
  | 0, _, _ => none
  | n + 1, y35, y36 =>
    bif (decide (y36 < (4 : Int))) then
      (at? z30 z31).bind fun x40 =>
      (arr? 20 z38 (w64 (w64 ((4 : Int) * w64 (Int.tmod x40.Who (5 : Int))) + y36))).bind fun x41 =>
      bif x41.On then
        p_law24_BookKeeps_j_l2 z30 z31 z38 n (w64 (y35 + (1 : Int))) (w64 (y36 + (1 : Int)))
      else
      p_law24_BookKeeps_j_l2 z30 z31 z38 n y35 (w64 (y36 + (1 : Int)))
    else
    some (y35, y36)
def p_law24_BookKeeps_j_l3 (z102 : BookState) (z104 : List PresPres) : Nat → Int → Int → Option (Bool ⊕ (Int × Int))
  | 0, _, _ => none
  | n + 1, y100, y101 =>
    bif (decide (y101 < (20 : Int))) then
      (text? [IntKind.wrap .u8 ((97 : Int) + IntKind.wrap .u8 (w64 (Int.tdiv y101 (4 : Int))))]).bind fun s106 =>
      (cat? s106 (⟨#[64, 120]⟩ : ByteArray)).bind fun s107 =>
      (text? [IntKind.wrap .u8 ((114 : Int) + IntKind.wrap .u8 (Int.tmod y101 (4 : Int)))]).bind fun s108 =>
      (p_book_Get z102 s107 s108).bind fun v109 =>
      (arr? 20 z104 y101).bind fun x110 =>
      bif (v109.2 != x110.On) then
        some (.inl false)
      else
      bif v109.2 then
        (arr? 20 z104 y101).bind fun x114 =>
        bif ((v109.1.On == x114.On) && ((v109.1.Show == x114.Show) && ((v109.1.Prio == x114.Prio) && ((v109.1.Seq == x114.Seq) && true)))) then
          p_law24_BookKeeps_j_l3 z102 z104 n (w64 (y100 + (1 : Int))) (w64 (y101 + (1 : Int)))
        else
        some (.inl false)
      else
      p_law24_BookKeeps_j_l3 z102 z104 n y100 (w64 (y101 + (1 : Int)))
    else
    some (.inr (y100, y101))
def p_law24_BookKeeps_j_l1 (z8 : List Law24Deed) : Nat → Int → BookState → (List PresPres) → Option (Bool ⊕ (Int × BookState × (List PresPres)))
  | 0, _, _, _ => none
  | n + 1, y9, y10, y11 =>
    bif (decide (y9 < (z8.length : Int))) then
      (at? z8 y9).bind fun x13 =>
      (text? [IntKind.wrap .u8 ((97 : Int) + (Int.tmod x13.Who (5 : Int)))]).bind fun s14 =>
      (cat? s14 (⟨#[64, 120]⟩ : ByteArray)).bind fun s15 =>
      (at? z8 y9).bind fun x16 =>
      (text? [IntKind.wrap .u8 ((114 : Int) + (Int.tmod x16.Res (4 : Int)))]).bind fun s17 =>
      (at? z8 y9).bind fun x18 =>
      (at? z8 y9).bind fun x19 =>
      (p_law24_BookKeeps_j_l2 z8 y9 y11 fuel (0 : Int) (0 : Int)).bind fun q45 =>
      ((
        (at? z8 y9).bind fun x46 =>
        bif x46.Off then
          (p_book_Off y10 s15 s17).bind fun v48 =>
          (arr? 20 y11 (w64 (w64 ((4 : Int) * w64 (Int.tmod x18.Who (5 : Int))) + w64 (Int.tmod x19.Res (4 : Int))))).bind fun x49 =>
          bif ((v48.2.2 == (0 : Int)) != x49.On) then
            some (.inl false)
          else
          bif (v48.2.2 == (0 : Int)) then
            bif v48.2.1.On then
              some (.inl false)
            else
            some (.inr (v48.2.2, v48.1, v48.2.1))
          else
          some (.inr (v48.2.2, v48.1, v48.2.1))
        else
        (at? z8 y9).bind fun x54 =>
        (p_book_Set y10 s15 s17 (w64 (Int.tmod x54.Show (5 : Int))) (0 : Int)).bind fun v55 =>
        (arr? 20 y11 (w64 (w64 ((4 : Int) * w64 (Int.tmod x18.Who (5 : Int))) + w64 (Int.tmod x19.Res (4 : Int))))).bind fun x56 =>
        bif x56.On then
          bif ((v55.2.2 == (0 : Int)) != true) then
            some (.inl false)
          else
          bif (v55.2.2 == (0 : Int)) then
            bif v55.2.1.On then
              (at? z8 y9).bind fun x62 =>
              bif (v55.2.1.Show != w64 (Int.tmod x62.Show (5 : Int))) then
                some (.inl false)
              else
              some (.inr (v55.2.2, v55.1, v55.2.1))
            else
            some (.inl false)
          else
          some (.inr (v55.2.2, v55.1, v55.2.1))
        else
        bif (decide (q45.1 < (3 : Int))) then
          bif ((v55.2.2 == (0 : Int)) != (decide ((y10.Rows.length : Int) < (16 : Int)))) then
            some (.inl false)
          else
          bif (v55.2.2 == (0 : Int)) then
            bif v55.2.1.On then
              (at? z8 y9).bind fun x68 =>
              bif (v55.2.1.Show != w64 (Int.tmod x68.Show (5 : Int))) then
                some (.inl false)
              else
              some (.inr (v55.2.2, v55.1, v55.2.1))
            else
            some (.inl false)
          else
          some (.inr (v55.2.2, v55.1, v55.2.1))
        else
        bif ((v55.2.2 == (0 : Int)) != false) then
          some (.inl false)
        else
        bif (v55.2.2 == (0 : Int)) then
          bif v55.2.1.On then
            (at? z8 y9).bind fun x73 =>
            bif (v55.2.1.Show != w64 (Int.tmod x73.Show (5 : Int))) then
              some (.inl false)
            else
            some (.inr (v55.2.2, v55.1, v55.2.1))
          else
          some (.inl false)
        else
        some (.inr (v55.2.2, v55.1, v55.2.1))) : Option (Bool ⊕ (Int × BookState × PresPres))).bind fun o75 => match o75 with
      | .inl q76 =>
        some (.inl q76)
      | .inr q77 =>
        ((
          bif (q77.1 == (0 : Int)) then
            bif (decide (q77.2.2.Seq ≤ y10.Seq)) then
              some (.inl false)
            else
            bif (q77.2.2.Seq != q77.2.1.Seq) then
              some (.inl false)
            else
            (arr? 20 y11 (w64 (w64 ((4 : Int) * w64 (Int.tmod x18.Who (5 : Int))) + w64 (Int.tmod x19.Res (4 : Int))))).bind fun x81 =>
            some (.inr (List.set y11 (Int.toNat (w64 (w64 ((4 : Int) * w64 (Int.tmod x18.Who (5 : Int))) + w64 (Int.tmod x19.Res (4 : Int))))) q77.2.2))
          else
          (p_book_Same q77.2.1 y10).bind fun v83 =>
          bif v83 then
            some (.inr y11)
          else
          some (.inl false)) : Option (Bool ⊕ (List PresPres))).bind fun o85 => match o85 with
        | .inl q86 =>
          some (.inl q86)
        | .inr q87 =>
          (p_book_Check q77.2.1).bind fun v88 =>
          bif (v88 != (0 : Int)) then
            some (.inl false)
          else
          (p_law24_BookKeeps_j_l3 q77.2.1 q87 fuel (0 : Int) (0 : Int)).bind fun o117 => match o117 with
          | .inl q118 =>
            some (.inl q118)
          | .inr q119 =>
            bif (q119.1 != (q77.2.1.Rows.length : Int)) then
              some (.inl false)
            else
            p_law24_BookKeeps_j_l1 z8 n (w64 (y9 + (1 : Int))) q77.2.1 q87
    else
    some (.inr (y9, y10, y11))
def p_law24_BookKeeps_j (a0 : List Law24Deed) : Option (Bool) :=
  bif (decide ((80 : Int) < (a0.length : Int))) then
    (p_law24_awake).bind fun v2 =>
    some v2
  else
  (p_law24_BookKeeps_j_l1 a0 fuel (0 : Int) (BookState.mk (0 : Int) []) (List.replicate 20 (PresPres.mk false (0 : Int) (0 : Int) (0 : Int)))).bind fun o121 => match o121 with
  | .inl q122 =>
    some q122
  | .inr q123 =>
    (p_law24_awake).bind fun v124 =>
    some v124
end Go.Proofs.Ytljeinlapkgjeaa
/- Presences, keys and books in plain words. -/
namespace Go.Proofs.Ytljeinlapkgjeaa
open Go.RowKit
def presCheckL (p : PresPres) : Int :=
  if p.Show < 0 ∨ 4 < p.Show ∨ p.Prio < -128 ∨ 127 < p.Prio ∨ p.Seq < 0 ∨ 1099511627776 < p.Seq then 8
  else if p.On = false ∧ (p.Show ≠ 0 ∨ p.Prio ≠ 0) then 4 else 0
def newerL (a b : PresPres) : Bool := decide (b.Seq < a.Seq)
def betterL (a b : PresPres) : Bool :=
  if a.On = false then false else if b.On = false then true else if a.Prio = b.Prio then decide (b.Seq < a.Seq) else decide (b.Prio < a.Prio)
def bestTo (l : List PresPres) : Nat → Int
  | 0 => -1
  | k + 1 => let b := bestTo l k; let p := l.getD k ⟨false, 0, 0, 0⟩
    if p.On = true ∧ (b < 0 ∨ betterL p (l.getD b.toNat ⟨false, 0, 0, 0⟩) = true) then k else b
theorem bestTo_bd (l : List PresPres) (k : Nat) : -1 ≤ bestTo l k ∧ bestTo l k < k ∨ k = 0 ∧ bestTo l k = -1 := by
  induction k with
  | zero => exact .inr ⟨rfl, rfl⟩
  | succ k ih => left; simp only [bestTo]; split <;> omega
def lastTo (l : List PresPres) : Nat → PresPres
  | 0 => ⟨false, 0, 0, 0⟩
  | k + 1 => let p := l.getD k ⟨false, 0, 0, 0⟩; if k = 0 ∨ newerL p (lastTo l k) = true then p else lastTo l k
def namedL (u r : ByteArray) : Bool := decide (resL r.data.toList = 0) && isBareL u.data.toList
def keyL (u r : ByteArray) : ByteArray := if namedL u r = true then u ++ ⟨#[32]⟩ ++ r else ⟨#[]⟩
def sayD (u r : ByteArray) (p : PresPres) : StzD :=
  if presCheckL p ≠ 0 ∨ namedL u r = false then ⟨0, ⟨#[]⟩, ⟨#[]⟩, ⟨#[]⟩, 0, 0, 0, 0⟩
  else if p.On = true then ⟨34, u, r, ⟨#[]⟩, p.Show, p.Prio, 0, p.Seq⟩ else ⟨35, u, r, ⟨#[]⟩, 0, 0, 0, p.Seq⟩
theorem sayD_bad {u r : ByteArray} {p : PresPres} (h : presCheckL p ≠ 0 ∨ namedL u r = false) : sayD u r p = ⟨0, ⟨#[]⟩, ⟨#[]⟩, ⟨#[]⟩, 0, 0, 0, 0⟩ := if_pos h
theorem sayD_on {u r : ByteArray} {p : PresPres} (h : ¬ (presCheckL p ≠ 0 ∨ namedL u r = false)) (ho : p.On = true) : sayD u r p = ⟨34, u, r, ⟨#[]⟩, p.Show, p.Prio, 0, p.Seq⟩ := (if_neg h).trans (if_pos ho)
theorem sayD_off {u r : ByteArray} {p : PresPres} (h : ¬ (presCheckL p ≠ 0 ∨ namedL u r = false)) (ho : p.On = false) : sayD u r p = ⟨35, u, r, ⟨#[]⟩, 0, 0, 0, p.Seq⟩ := (if_neg h).trans (if_neg (by simp [ho]))
theorem keyL_ok {u r : ByteArray} (h : namedL u r = true) : keyL u r = u ++ ⟨#[32]⟩ ++ r := if_pos h
theorem keyL_no {u r : ByteArray} (h : namedL u r = false) : keyL u r = ⟨#[]⟩ := if_neg (by simp [h])
theorem namedL_1 {u r : ByteArray} (h : resL r.data.toList = 0) : namedL u r = isBareL u.data.toList := by simp [namedL, h]
theorem namedL_2 {u r : ByteArray} (h : ¬ resL r.data.toList = 0) : namedL u r = false := by simp [namedL, h]
theorem cat_sz (u r : ByteArray) (hu : u.size ≤ 100000) (hr : r.size ≤ 100000) : u.size + (⟨#[32]⟩ : ByteArray).size ≤ 4611686018427387904 ∧ (u ++ (⟨#[32]⟩ : ByteArray)).size + r.size ≤ 4611686018427387904 := by
  rw [ByteArray.size_append]
  have : (⟨#[32]⟩ : ByteArray).size = 1 := rfl
  omega
instance : Inhabited BookRow := ⟨⟨⟨#[]⟩, ⟨#[]⟩, ⟨false, 0, 0, 0⟩⟩⟩
instance : Inhabited PresPres := ⟨⟨false, 0, 0, 0⟩⟩
def keyR (r : BookRow) : ByteArray := keyL r.User r.Res
def smallR (r : BookRow) : Prop := r.User.size ≤ 100000 ∧ r.Res.size ≤ 100000
def manyL (rows : List BookRow) (u : ByteArray) : Nat := rows.countP fun r => r.User.toList == u.toList
theorem many_step (rows : List BookRow) (u : ByteArray) (k : Nat) (h : k < rows.length) : manyL (rows.take (k + 1)) u = manyL (rows.take k) u + (if (rows[k].User.toList == u.toList) = true then 1 else 0) := by
  unfold manyL; rw [List.take_succ_eq_append_getElem h, List.countP_append, List.countP_singleton]
def errL : List BookRow → Int
  | [] => 0
  | r :: l => if presCheckL r.P ≠ 0 then presCheckL r.P else if r.P.On = false then 4 else errL l
theorem err_at (rows : List BookRow) (k : Nat) (h : k < rows.length) : errL (rows.drop k) = if presCheckL rows[k].P ≠ 0 then presCheckL rows[k].P else if rows[k].P.On = false then 4 else errL (rows.drop (k + 1)) := by
  rw [List.drop_eq_getElem_cons h]; rfl
def idxL (p : BookRow → Bool) (rows : List BookRow) : Int := if rows.any p = true then (rows.findIdx p : Nat) else -1
theorem idx_hit (p : BookRow → Bool) (rows : List BookRow) (k : Nat) (h : k < rows.length) (hn : (rows.take k).any p = false) (hp : p rows[k] = true) : idxL p rows = (k : Nat) := by
  have ha : rows.any p = true := List.any_eq_true.2 ⟨_, List.getElem_mem h, hp⟩
  unfold idxL
  rw [if_pos ha]
  congr 1
  have h1 : ¬ rows.findIdx p < k := fun hlt => by
    have hx := List.findIdx_getElem (p := p) (xs := rows) (w := by omega)
    rw [List.any_eq_false] at hn
    exact hn _ (by rw [List.mem_take_iff_getElem]; exact ⟨rows.findIdx p, by omega, rfl⟩) hx
  have h2 : rows.findIdx p ≤ k := by
    rcases Nat.lt_or_ge k (rows.findIdx p) with hlt | hge
    · have := List.not_of_lt_findIdx hlt
      rw [hp] at this; simp at this
    · exact hge
  omega
theorem idx_step (p : BookRow → Bool) (rows : List BookRow) (k : Nat) (h : k < rows.length) (hn : (rows.take k).any p = false) (hp : p rows[k] = false) : (rows.take (k + 1)).any p = false := by
  rw [List.take_succ_eq_append_getElem h, List.any_append, hn]; simp [hp]
def lessR (a b : BookRow) : Bool := Op.bytesLess (keyR a).toList (keyR b).toList
def okAt (seq : Int) (rows : List BookRow) (i : Nat) : Bool :=
  match rows[i]? with
  | none => true
  | some x => decide (1 ≤ x.P.Seq) && decide (x.P.Seq ≤ seq) && (match i with | 0 => true | j + 1 => match rows[j]? with | some y => lessR y x | none => true) && !(rows.take i).any (fun o => o.P.Seq == x.P.Seq)
def ordL (seq : Int) (rows : List BookRow) : Bool := (List.range rows.length).all (okAt seq rows)
theorem okAt_0 {seq : Int} {rows : List BookRow} (h : 0 < rows.length) : okAt seq rows 0 = (decide ((1 : Int) ≤ rows[0].P.Seq) && decide (rows[0].P.Seq ≤ seq) && true && !(rows.take 0).any (fun o => o.P.Seq == rows[0].P.Seq)) := by
  simp only [okAt, List.getElem?_eq_getElem h]
theorem okAt_s {seq : Int} {rows : List BookRow} (j : Nat) (h : j + 1 < rows.length) : okAt seq rows (j + 1) = (decide (1 ≤ rows[j + 1].P.Seq) && decide (rows[j + 1].P.Seq ≤ seq) && lessR rows[j] rows[j + 1] && !(rows.take (j + 1)).any (fun o => o.P.Seq == rows[j + 1].P.Seq)) := by
  simp only [okAt, List.getElem?_eq_getElem h, List.getElem?_eq_getElem (show j < rows.length by omega)]
theorem ord_no {seq : Int} {rows : List BookRow} {k : Nat} (hk : k < rows.length) (h : okAt seq rows k = false) : ordL seq rows = false := by
  unfold ordL
  rw [List.all_eq_false]
  exact ⟨k, List.mem_range.2 hk, by rw [h]; simp⟩
theorem ord_yes {seq : Int} {rows : List BookRow} (h : ∀ i, i < rows.length → okAt seq rows i = true) : ordL seq rows = true := by
  unfold ordL
  rw [List.all_eq_true]
  exact fun i hi => h i (List.mem_range.1 hi)
def fullL (rows : List BookRow) : Bool := rows.any fun r => decide (3 < manyL rows r.User)
def emptyL (rows : List BookRow) : Bool := rows.any fun r => (keyR r).toList == (⟨#[]⟩ : ByteArray).toList
def bookCheck (seq : Int) (rows : List BookRow) : Int :=
  if 16 < rows.length then 5 else if seq < 0 ∨ 1099511627776 < seq then 8 else if emptyL rows = true then 11 else if errL rows ≠ 0 then errL rows else if ordL seq rows = false then 10 else if fullL rows = true then 7 else 0
def smallB (rows : List BookRow) : Prop := ∀ r ∈ rows, smallR r
def cmpR (r : BookRow) (k : ByteArray) : Int := Lib.compareBytes (keyR r).data.toList k.data.toList
/-- where a key stands: all rows ahead of it are less, none behind is. -/
structure StandsAt (rows : List BookRow) (k : ByteArray) (pos : Nat) : Prop where
  le : pos ≤ rows.length
  lt : ∀ i (h : i < rows.length), i < pos → cmpR rows[i] k < 0
  ge : ∀ i (h : i < rows.length), pos ≤ i → 0 ≤ cmpR rows[i] k
def foundB (rows : List BookRow) (k : ByteArray) (pos : Nat) : Bool := match rows[pos]? with
  | some r => cmpR r k == 0
  | none => false
end Go.Proofs.Ytljeinlapkgjeaa
/- Keys' order; what stands where; what Set, Off, Get and Next leave, in plain words. -/
namespace Go.Proofs.Ytljeinlapkgjeaa
open Go.RowKit
theorem cmp_less : ∀ (a b : List UInt8), Op.bytesLess a b = decide (Lib.compareBytes a b < 0)
  | [], [] => by simp [Op.bytesLess, Lib.compareBytes]
  | [], _ :: _ => by simp [Op.bytesLess, Lib.compareBytes]
  | _ :: _, [] => by simp [Op.bytesLess, Lib.compareBytes]
  | a :: xs, b :: ys => by
    unfold Op.bytesLess Lib.compareBytes
    rw [cmp_less xs ys]
    by_cases h : a < b
    · simp [h]
    · by_cases h2 : b < a
      · have hne : a ≠ b := fun e => by subst e; exact UInt8.lt_irrefl _ h2
        simp [h, h2, hne]
      · have e : a = b := by
          apply UInt8.toNat_inj.1
          rw [UInt8.lt_iff_toNat_lt] at h h2; omega
        subst e; simp [h]
theorem cmp_refl : ∀ a : List UInt8, Lib.compareBytes a a = 0
  | [] => by simp [Lib.compareBytes]
  | a :: xs => by unfold Lib.compareBytes; rw [if_neg (UInt8.lt_irrefl _), if_neg (UInt8.lt_irrefl _)]; exact cmp_refl xs
theorem cmp_eq0 : ∀ {a b : List UInt8}, Lib.compareBytes a b = 0 → a = b
  | [], [], _ => rfl
  | [], _ :: _, h => by simp [Lib.compareBytes] at h
  | _ :: _, [], h => by simp [Lib.compareBytes] at h
  | a :: xs, b :: ys, h => by
    unfold Lib.compareBytes at h
    split at h
    · omega
    · split at h
      · omega
      · rename_i h1 h2
        have e : a = b := by
          apply UInt8.toNat_inj.1
          rw [UInt8.lt_iff_toNat_lt] at h1 h2; omega
        rw [e, cmp_eq0 h]
theorem cmp_anti : ∀ (a b : List UInt8), Lib.compareBytes b a = - Lib.compareBytes a b
  | [], [] => by simp [Lib.compareBytes]
  | [], _ :: _ => by simp [Lib.compareBytes]
  | _ :: _, [] => by simp [Lib.compareBytes]
  | a :: xs, b :: ys => by
    unfold Lib.compareBytes
    rw [cmp_anti xs ys]
    by_cases h : a < b
    · have h2 : ¬ b < a := by rw [UInt8.lt_iff_toNat_lt] at h ⊢; omega
      simp [h, h2]
    · by_cases h2 : b < a
      · simp [h, h2]
      · simp [h, h2]
theorem cmp_trans : ∀ {a b c : List UInt8}, Lib.compareBytes a b < 0 → Lib.compareBytes b c < 0 → Lib.compareBytes a c < 0
  | [], [], _, h, _ => by simp [Lib.compareBytes] at h
  | _ :: _, [], _, h, _ => by simp [Lib.compareBytes] at h
  | _, _ :: _, [], _, h => by simp [Lib.compareBytes] at h
  | [], _ :: _, _ :: _, _, _ => by simp [Lib.compareBytes]
  | a :: xs, b :: ys, c :: cs, h1, h2 => by
    unfold Lib.compareBytes at h1 h2 ⊢
    by_cases x : a < b
    · by_cases y : b < c
      · rw [if_pos (UInt8.lt_trans x y)]; omega
      · rw [if_neg y] at h2
        by_cases z : c < b
        · rw [if_pos z] at h2; omega
        · have e : b = c := by
            apply UInt8.toNat_inj.1
            rw [UInt8.lt_iff_toNat_lt] at y z; omega
          subst e
          rw [if_pos x]; omega
    · rw [if_neg x] at h1
      by_cases x2 : b < a
      · rw [if_pos x2] at h1; omega
      · rw [if_neg x2] at h1
        have e : a = b := by
          apply UInt8.toNat_inj.1
          rw [UInt8.lt_iff_toNat_lt] at x x2; omega
        subst e
        by_cases y : a < c
        · rw [if_pos y]; omega
        · rw [if_neg y] at h2 ⊢
          by_cases z : c < a
          · rw [if_pos z] at h2; omega
          · rw [if_neg z] at h2 ⊢
            exact cmp_trans h1 h2
def sortedR (rows : List BookRow) : Prop := ∀ i j (hj : j < rows.length) (hi : i < j), cmpR rows[i] (keyR rows[j]) < 0
theorem sorted_next {rows : List BookRow} (h : ∀ i (hj : i + 1 < rows.length), lessR rows[i] rows[i + 1] = true) : sortedR rows := by
  intro i j hj hi
  induction j with
  | zero => omega
  | succ j ih =>
    have h1 := h j hj
    unfold lessR at h1
    rw [cmp_less, decide_eq_true_eq, ByteArray.toList_eq, ByteArray.toList_eq] at h1
    rcases Nat.lt_or_ge i j with h2 | h2
    · exact cmp_trans (ih (by omega) h2) h1
    · have : i = j := by omega
      subst this; exact h1
theorem okAt_all {seq : Int} {rows : List BookRow} (h : ordL seq rows = true) (i : Nat) (hi : i < rows.length) : okAt seq rows i = true := by
  unfold ordL at h
  rw [List.all_eq_true] at h
  exact h i (List.mem_range.2 hi)
theorem ord_sorted {seq : Int} {rows : List BookRow} (h : ordL seq rows = true) : sortedR rows := by
  refine sorted_next fun i hj => ?_
  have := okAt_all h (i + 1) hj
  rw [okAt_s i hj] at this
  simp only [Bool.and_eq_true] at this
  exact this.1.2
theorem check_ord {seq : Int} {rows : List BookRow} (h : bookCheck seq rows = 0) : ordL seq rows = true := by
  unfold bookCheck at h
  by_cases h0 : ordL seq rows = true
  · exact h0
  · exfalso
    have h1 : ordL seq rows = false := by simpa using h0
    repeat' split at h
    all_goals first | omega | contradiction
theorem check_len {seq : Int} {rows : List BookRow} (h : bookCheck seq rows = 0) : rows.length ≤ 16 := by
  unfold bookCheck at h
  by_cases h0 : 16 < rows.length
  · rw [if_pos h0] at h; omega
  · omega
theorem check_seq {seq : Int} {rows : List BookRow} (h : bookCheck seq rows = 0) : 0 ≤ seq ∧ seq ≤ 1099511627776 := by
  unfold bookCheck at h
  by_cases h0 : seq < 0 ∨ 1099511627776 < seq
  · rw [if_pos h0] at h; split at h <;> omega
  · omega
def posL (rows : List BookRow) (k : ByteArray) : Nat := rows.findIdx fun r => decide (0 ≤ cmpR r k)
theorem stands {rows : List BookRow} (hs : sortedR rows) (k : ByteArray) : StandsAt rows k (posL rows k) := by
  refine ⟨List.findIdx_le_length, fun i h hi => ?_, fun i h hi => ?_⟩
  · have := List.not_of_lt_findIdx hi
    simpa using this
  · have hx := List.findIdx_getElem (p := fun r => decide (0 ≤ cmpR r k)) (xs := rows) (w := Nat.lt_of_le_of_lt hi h)
    rw [decide_eq_true_eq] at hx
    rcases Nat.lt_or_ge (posL rows k) i with h2 | h2
    · have h3 := hs (posL rows k) i h h2
      have h4 := cmp_anti k.data.toList (keyR rows[posL rows k]).data.toList
      have hx' : 0 ≤ Lib.compareBytes (keyR rows[posL rows k]).data.toList k.data.toList := hx
      rcases Int.lt_or_le (Lib.compareBytes (keyR rows[i]).data.toList k.data.toList) 0 with h5 | h5
      · have := cmp_trans h3 h5; omega
      · exact h5
    · have e : i = posL rows k := by unfold posL at *; omega
      subst e; exact hx
def setL (seq : Int) (rows : List BookRow) (u r : ByteArray) (sh prio : Int) : Int × List BookRow × PresPres × Int :=
  let x : BookRow := ⟨u, r, ⟨true, sh, prio, 0⟩⟩
  let k := keyR x
  if bookCheck seq rows ≠ 0 then (seq, rows, ⟨false, 0, 0, 0⟩, bookCheck seq rows)
  else if (k.toList == (⟨#[]⟩ : ByteArray).toList) = true then (seq, rows, ⟨false, 0, 0, 0⟩, 11)
  else if presCheckL x.P ≠ 0 then (seq, rows, ⟨false, 0, 0, 0⟩, presCheckL x.P)
  else if foundB rows k (posL rows k) = false ∧ (16 ≤ rows.length ∨ 3 ≤ manyL rows u) then (seq, rows, ⟨false, 0, 0, 0⟩, 7)
  else if 1099511627776 ≤ seq then (seq, rows, ⟨false, 0, 0, 0⟩, 9)
  else (seq + 1, rows.take (posL rows k) ++ ⟨u, r, ⟨true, sh, prio, seq + 1⟩⟩ :: rows.drop (if foundB rows k (posL rows k) = true then posL rows k + 1 else posL rows k), ⟨true, sh, prio, seq + 1⟩, 0)
def offL (seq : Int) (rows : List BookRow) (u r : ByteArray) : Int × List BookRow × PresPres × Int :=
  let k := keyL u r
  if bookCheck seq rows ≠ 0 then (seq, rows, ⟨false, 0, 0, 0⟩, bookCheck seq rows)
  else if foundB rows k (posL rows k) = false ∨ (k.toList == (⟨#[]⟩ : ByteArray).toList) = true then (seq, rows, ⟨false, 0, 0, 0⟩, 6)
  else if 1099511627776 ≤ seq then (seq, rows, ⟨false, 0, 0, 0⟩, 9)
  else (seq + 1, rows.take (posL rows k) ++ rows.drop (posL rows k + 1), ⟨false, 0, 0, seq + 1⟩, 0)
def getL (seq : Int) (rows : List BookRow) (u r : ByteArray) : PresPres × Bool :=
  let k := keyL u r
  if (k.toList == (⟨#[]⟩ : ByteArray).toList) = true then (⟨false, 0, 0, 0⟩, false)
  else if bookCheck seq rows ≠ 0 then (⟨false, 0, 0, 0⟩, false)
  else if foundB rows k (posL rows k) = false then (⟨false, 0, 0, 0⟩, false)
  else ((rows.getD (posL rows k) default).P, true)
def rowAt (rows : List BookRow) (i : Nat) : BookRow × Bool := match rows[i]? with
  | some x => (x, true)
  | none => (⟨⟨#[]⟩, ⟨#[]⟩, ⟨false, 0, 0, 0⟩⟩, false)
theorem rowAt_lt {rows : List BookRow} {i : Nat} (h : i < rows.length) : rowAt rows i = (rows[i], true) := by unfold rowAt; rw [List.getElem?_eq_getElem h]
theorem rowAt_ge {rows : List BookRow} {i : Nat} (h : rows.length ≤ i) : rowAt rows i = (⟨⟨#[]⟩, ⟨#[]⟩, ⟨false, 0, 0, 0⟩⟩, false) := by unfold rowAt; rw [List.getElem?_eq_none h]
def nxtL (seq : Int) (rows : List BookRow) (k : ByteArray) : BookRow × Bool :=
  if bookCheck seq rows ≠ 0 then (⟨⟨#[]⟩, ⟨#[]⟩, ⟨false, 0, 0, 0⟩⟩, false)
  else rowAt rows (if foundB rows k (posL rows k) = true then posL rows k + 1 else posL rows k)
theorem found_lt {rows : List BookRow} {k : ByteArray} {pos : Nat} (h : foundB rows k pos = true) : pos < rows.length := by
  unfold foundB at h
  rcases Nat.lt_or_ge pos rows.length with h2 | h2
  · exact h2
  · rw [List.getElem?_eq_none h2] at h; simp at h
end Go.Proofs.Ytljeinlapkgjeaa
