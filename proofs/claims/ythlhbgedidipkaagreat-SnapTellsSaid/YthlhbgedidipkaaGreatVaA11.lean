/- A part of the proof: 5 texts joined. -/
import Derived.Test.YthlhbgedidipkaaGreatVaA9
import Derived.Test.YthlhbgedidipkaaGreatVaA2
import Derived.TacticsIn
import Derived.Test.YthlhbgedidipkaaGreatVaA10
import Derived.KernelRfl
import Derived.Shelf.Spec.SlicesInsertGrow
set_option linter.all false
/- An abstract walk holds in the round of a range over a function, too. -/
namespace Go.Proofs.YthlhbgedidipkaaGreat
open Go.RowKit
def _root_.Go.Code.scopes : Code → Bool
  | .scope _ => true
  | .seq a b => a.scopes || b.scopes
  | .cond _ a b => a.scopes || b.scopes
  | .block _ a => a.scopes
  | _ => false
section
variable {P : Program}
theorem callsIn_round {l n : Nat} {f : FuncId} {args : Array Value} {w : World} {R : Ending → World → Prop} (h : Calls P f args w R) : CallsIn (Fence.wide.inRound l) n P f args w R := by
  have := (callsIn_wide (n := n)).2 h
  exact ⟨trivial, fun cs hr => this.2 cs hr⟩
theorem rowsIn_round {l n : Nat} {row : String} {args : Array Value} {w : World} {R : Value → World → Prop} (h : Rows P row args w R) : RowsIn (Fence.wide.inRound l) n P row args w R :=
  fun c cs _ => let ⟨v, w', r, s⟩ := h c cs; ⟨v, w', r, stepsIn_wide.2 s⟩
theorem cop_defer {o : Op} {t : TypeId} {ao : AOp} (h : Cop P o t ao) : ∀ c, o ≠ .defer c := by
  intro c e
  subst e
  cases h
theorem upon_in {l n : Nat} {o : Oper} {a : Act} {w : World} {next next' : Act → World → Prop} {Q : Exit → Act → World → Prop} (hd : ∀ c, o.op ≠ .defer c) (hn : ∀ a w, next a w → next' a w) (h : o.wp P a w next Q) : o.wpIn (Fence.wide.inRound l) n P a w next' Q := by
  refine ⟨fun _ _ => trivial, ?_⟩
  rw [Fence.inRound_round, Oper.semAt_some l _ _ hd]
  unfold Oper.wp at h
  generalize (execOp a.eval o).run P w = r at h
  cases r with
  | ok x w' =>
    cases x with
    | enter f args =>
      refine ⟨fun hh => by simp [Fence.wide] at hh, callsIn_round (Calls.mono h fun e w'' he => ?_)⟩
      cases e <;> first | exact hn _ _ he | exact he
    | row row args => exact ⟨fun hh => by simp [Fence.wide] at hh, rowsIn_round (Rows.mono h fun _ _ he => hn _ _ he)⟩
    | _ => first | exact hn _ _ h | exact h.elim
  | halt x w' => cases x <;> exact h
theorem wpOps_in {l n : Nat} {ops : Array Oper} {Q : Exit → Act → World → Prop} (hQ : ¬ LetsOut Q) (hd : ∀ (i : Nat) (o : Oper), ops[i]? = some o → ∀ c, o.op ≠ .defer c) : ∀ (L : List Nat) (a : Act) (w : World), Go.wpOps P ops Q L a w → wpOpsIn (Fence.wide.inRound l) n P ops Q L a w
  | [], a, w, h => h
  | i :: rest, a, w, h => by
    unfold Go.wpOps at h
    unfold wpOpsIn
    cases ho : ops[i]? with
    | none => rw [ho] at h; exact wpOps_in hQ hd rest a w h
    | some o =>
      rw [ho] at h
      simp only at h ⊢
      split at h
      · rename_i hw
        rw [if_pos hw]
        rcases h with h | ⟨_, h⟩
        · exact upon_in (hd i o ho) (fun a w => wpOps_in hQ hd rest a w) h
        · exact absurd h hQ
      · rename_i hw
        rw [if_neg hw]
        exact ⟨fun _ _ => trivial, wpOps_in hQ hd rest _ w h⟩
end
section
variable {P : Program} {w0 : Org} {B : Nat} {m0 : Mem} {bk0 : Bks} {l n : Nat}
theorem postC_out {Q : AExit → List V → List Slot → Prop} : ¬ LetsOut (PostC B m0 bk0 w0 Q) := by
  rintro ⟨a, w, ae, fr, st, h, _⟩
  cases h
theorem match_defer {ops : Array Oper} {aos : List AOper} (hn : ops.size = aos.length) (hm : ∀ j (h : j < aos.length) (o : Oper), ops[j]? = some o → MatchOp P ops o aos[j]) : ∀ (i : Nat) (o : Oper), ops[i]? = some o → ∀ c, o.op ≠ .defer c := fun i o ho =>
  cop_defer (hm i (by have := (Array.getElem?_eq_some_iff.1 ho).1; omega) o ho).1
theorem reg_drawIn {ops : Array Oper} {aos : List AOper} {bef : List (List Nat)} {fps : List (List Nat × List Nat)} {base id : Nat} {Q : AExit → List V → List Slot → Prop} (hmix : P.follows .mixedOrders = true) (hreg : RegOK ops aos bef) (hfoot : FootOK bef fps) (hg : GM m0) (hn : ops.size = aos.length) (hmatch : ∀ j (h : j < aos.length) (o : Oper), ops[j]? = some o → MatchOp P ops o aos[j])
    {fr fr' : List V} {st st' : List Slot} (hrun : Run P base aos fr st fps fr' st') {a : Act} {w : World} (hcn : Cn B m0 bk0 w0 a w fr st) (hQ : Q .normal fr' st') : (Code.region id ops true).wpIn (Fence.wide.inRound l) n P (PostC B m0 bk0 w0 Q) a w := by
  obtain ⟨F, S, ht, h1, h2, h3, h4⟩ := run_trace hrun
  refine wpIn_region_draw fun t => wpOps_in postC_out (match_defer hn hmatch) _ _ _ ?_
  simp only [Region.schedule, hmix, Bool.true_or, if_true]
  refine wpAny_sound ops.size t _ a _ (reg_any hreg hfoot ht hg hn hmatch (by rw [h3, h4]; exact fun a w hc => ⟨.normal, fr', st', rfl, hc, hQ⟩) ops.size _ a _ ?_ ⟨fun j hj => ?_, by simp, fr, st, hcn.drew, by rw [h1], by rw [h2], fun t _ => by rw [h1], fun t i _ hl => ?_, fun k => ⟨0, Nat.zero_le _, by rw [h2], fun i hi _ => ?_⟩⟩)
  · exact Nat.le_trans (List.countP_le_length) (by simp)
  · have := listed_lt hj
    rw [Array.getD, dif_pos this] at hj
    simp at hj
  · have := listed_lt hl
    rw [Array.getD, dif_pos this] at hl
    simp at hl
  · constructor
    · intro hl
      have := listed_lt hl
      rw [Array.getD, dif_pos this] at hl
      simp at hl
    · omega
/-- codes with no loop in them. -/
def ACode.flat : ACode → Bool
  | .loop _ => false
  | .seq a b => a.flat && b.flat
  | .cond _ a b => a.flat && b.flat
  | .block _ a => a.flat
  | .raw _ => false
  | _ => true
theorem aw_soundIn {n0 : Nat} (hk0 : ∀ id x, bk0 id = some x → id < n0) (hmix : P.follows .mixedOrders = true) (hg : GM m0) {c : Code} {ac : ACode} (hm : MatchC P c ac) : ac.flat = true → c.scopes = false → ∀ (Q : AExit → List V → List Slot → Prop) (fr : List V) (st : List Slot) (a : Act) (w : World), Cn B m0 bk0 w0 a w fr st → AW P n0 ac Q fr st → c.wpIn (Fence.wide.inRound l) n P (PostC B m0 bk0 w0 Q) a w := by
  induction hm with
  | skip => intro _ _ Q fr st a w hc h; exact wpIn_skip ⟨.normal, fr, st, rfl, hc, h⟩
  | label => intro _ _ Q fr st a w hc h; exact wpIn_label ⟨.normal, fr, st, rfl, hc, h⟩
  | @regT id ops aos nc hn hm =>
    intro _ _ Q fr st a w hc h
    obtain ⟨st0, xr, hf, h⟩ := h
    obtain ⟨fps, fr', st', hr, hk⟩ := aops_run h
    refine wpIn_region (wpOps_in postC_out (match_defer hn hm) _ _ _ ?_)
    have := run_text (ops := ops) (Q := PostC B m0 bk0 w0 Q) hg aos 0 _ _ _ _ _ a w hr (by omega) (fun j h o ho => hm j h o (by simpa using ho)) ((hc.frz hf).room (nc + xr)) fun a w hc' => ⟨.normal, fr', st', rfl, hc', hk⟩
    rw [← hn] at this
    rw [List.range_eq_range']
    exact this
  | @regD id ops aos nc bef hn hm hr =>
    intro _ _ Q fr st a w hc h
    obtain ⟨st0, xr, hf, h⟩ := h
    obtain ⟨fps, fr', st', hrun, hk1, hk⟩ := aops_run h
    simp only [List.append_nil, List.reverse_reverse] at hk1
    exact reg_drawIn hmix hr (footB_ok hk1) hg hn hm hrun ((hc.frz hf).room (nc + xr)) hk
  | seq _ _ ih1 ih2 =>
    intro hfl hsc Q fr st a w hc h
    simp only [ACode.flat, Bool.and_eq_true] at hfl
    simp only [Code.scopes, Bool.or_eq_false_iff] at hsc
    refine wpIn_seq (Go.wpIn_mono (ih1 hfl.1 hsc.1 _ fr st a w hc h) ?_)
    rintro e a w ⟨ae, fr, st, h1, h2, h3⟩
    cases e <;> simp only [exitOf, Option.some.injEq, reduceCtorEq] at h1 <;> subst h1
    · rcases h3 with h3 | ⟨k, sg, fr', st', hw, h3⟩
      · exact ih2 hfl.2 hsc.2 Q fr st a w h2 h3
      · exact ih2 hfl.2 hsc.2 Q fr' st' a w (Cn.wk hk0 h2 hw) h3
    · exact ⟨_, fr, st, rfl, h2, h3⟩
    · exact ⟨_, fr, st, rfl, h2, h3⟩
  | @cond c x y _ _ _ _ ih1 ih2 =>
    intro hfl hsc Q fr st a w hc h
    simp only [ACode.flat, Bool.and_eq_true] at hfl
    simp only [Code.scopes, Bool.or_eq_false_iff] at hsc
    obtain ⟨t, he, h1, h2⟩ := h
    have hv : a.eval c = .bool t := by
      obtain ⟨m, bk, _, hfr, _, _⟩ := hc
      exact (he ▸ hfr.ev c).int
    exact wpIn_cond_split hv (fun e => ih1 hfl.1 hsc.1 Q fr st a w hc (h1 e)) (fun e => ih2 hfl.2 hsc.2 Q fr st a w hc (h2 e))
  | @block id x y _ ih =>
    intro hfl hsc Q fr st a w hc h
    refine wpIn_block (Go.wpIn_mono (ih hfl hsc _ fr st a w hc h) ?_)
    rintro e a w ⟨ae, fr, st, h1, h2, h3⟩
    cases e <;> simp only [exitOf, Option.some.injEq, reduceCtorEq] at h1 <;> subst h1
    · exact ⟨_, fr, st, rfl, h2, h3⟩
    · rename_i j
      by_cases e : j = id
      · simp only [e, if_true, Exit.inBlock] at h3 ⊢
        exact ⟨_, fr, st, rfl, h2, h3⟩
      · simp only [e, if_false, Exit.inBlock] at h3 ⊢
        exact ⟨_, fr, st, rfl, h2, h3⟩
    · exact ⟨_, fr, st, rfl, h2, h3⟩
  | loop => intro hfl; cases hfl
  | raw => intro hfl; cases hfl
  | scope => intro _ hsc; cases hsc
  | exit => intro _ _ Q fr st a w hc h; exact wpIn_exit ⟨_, fr, st, rfl, hc, h⟩
  | ret => intro _ _ Q fr st a w hc h; exact wpIn_ret ⟨_, fr, st, rfl, hc, h⟩
end
section
variable {P : Program} {w0 : Org} {w W W' : World} {B bs id sz : Nat} {m0 m : Mem} {bk bk0 : Bks} {a : Act} {fr : List V} {st : List Slot} {s : ByteArray}
theorem rep_lit1' {m : Mem} {bk : Bks} {c v : Value} (h : Rep m bk c (.lit v)) : c = v := by cases h; rfl
theorem text_block (hsim : Sim B m0 m bk w st) (hid : st[id]? = some (.live [.s s] 0)) (hbk : bk id = some (bs, sz)) : B ≤ bs ∧ (∀ k, m ⟨bs, k, none⟩ = none) ∧ ∃ arr T lo hi, w.heap[bs]? = some (.cells arr T (lo, hi)) ∧ arr.size = sz ∧ arr[0]? = some (.string s) ∧ hi ≤ lo := by
  obtain ⟨b, sz', arr, t, lo, hi, hl⟩ := hsim.blk id _ _ hid
  have e : some (b, sz') = some (bs, sz) := by rw [← hl.at_, hbk]
  simp only [Option.some.injEq, Prod.mk.injEq] at e
  obtain ⟨rfl, rfl⟩ := e
  obtain ⟨u, h1, h2⟩ := hl.rep 0 (by simp)
  have h3 : u = .string s := rep_lit1' h2
  exact ⟨hl.own, fun k => hl.mu k (Nat.zero_le _), arr, t, lo, hi, hl.heap, hl.size, by rw [h1, h3], hl.free⟩
theorem Sim.keepC {N : Nat} (hsim : Sim B m0 m bk W st) (hk : KeepC N B bs W W') (hid : st[id]? = some (.live [.s s] 0)) (hbk : bk id = some (bs, sz)) : ∃ s', Sim B m0 m bk W' (st.set id (.live [.s s'] 0)) := by
  obtain ⟨hB, hmu, arr, T, lo, hi, hb, hsz, h0, hfree⟩ := text_block hsim hid hbk
  obtain ⟨arr', s', hb', hsz', h0'⟩ := hk.self.self arr s T (lo, hi) hb h0
  have hlt := (List.getElem?_eq_some_iff.1 hid).1
  have old : ∀ (k : Nat) (cs : List V) (f : Nat), (st.set id (.live [.s s'] 0))[k]? = some (.live cs f) → ∃ cs f, st[k]? = some (.live cs f) := fun k cs f h => by
    by_cases e : k = id
    · subst e; exact ⟨_, _, hid⟩
    · rw [List.getElem?_set, if_neg (fun e2 => e e2.symm)] at h; exact ⟨_, _, h⟩
  refine ⟨s', ⟨Nat.le_trans hsim.base hk.size, fun a u hu => ?_, hsim.ext, hsim.old, fun k cs f h => ?_, fun i j ci fi cj fj x y h1 h2 hx hy he => ?_, fun k h => ?_⟩⟩
  · have hc := hsim.mem a u hu
    by_cases e : a.block = bs
    · exfalso
      unfold World.cell? at hc
      rw [e, hb] at hc
      simp only at hc
      split at hc
      · cases hc
      · rename_i hsp
        have : a = ⟨bs, a.off, none⟩ := by
          obtain ⟨b, o, sp⟩ := a
          simp only at e hsp
          subst e
          cases sp <;> simp at hsp ⊢
        rw [this, hmu] at hu; cases hu
    · cases ho : W.heap[a.block]? with
      | none => unfold World.cell? at hc; rw [ho] at hc; cases hc
      | some o =>
        cases o with
        | cells c t f =>
          rw [← hc]
          unfold World.cell?
          rw [ho, hk.cells _ _ _ _ e ho]
        | _ => unfold World.cell? at hc; rw [ho] at hc; cases hc
  · by_cases e : k = id
    · subst e
      rw [List.getElem?_set, if_pos rfl, if_pos hlt] at h
      simp only [Option.some.injEq, Slot.live.injEq] at h
      obtain ⟨rfl, rfl⟩ := h
      have hp : 0 < sz := by rw [← hsz]; exact (Array.getElem?_eq_some_iff.1 h0).1
      exact ⟨bs, sz, arr', T, lo, hi, ⟨hbk, hB, hb', hsz'.trans hsz, hfree, Nat.succ_le_of_lt hp, (fun u hu => by simp at hu; subst hu; rfl), fun j hj => by
        have : j = 0 := by simp at hj; exact hj
        subst this; exact ⟨.string s', h0', .lit rfl⟩, fun j _ => hmu j, fun j hj => absurd hj (Nat.not_lt_zero _)⟩⟩
    · rw [List.getElem?_set, if_neg (fun e2 => e e2.symm)] at h
      obtain ⟨b, sz, arr, t, lo', hi', hl⟩ := hsim.blk k cs f h
      have hne : b ≠ bs := fun e2 => e (hsim.inj k id _ _ _ _ _ _ h hid hl.at_ hbk e2)
      exact ⟨b, sz, arr, t, lo', hi', ⟨hl.at_, hl.own, hk.cells _ _ _ _ hne hl.heap, hl.size, hl.free, hl.fit, hl.one, hl.rep, hl.mu, hl.fz⟩⟩
  · obtain ⟨_, _, g1⟩ := old _ _ _ h1
    obtain ⟨_, _, g2⟩ := old _ _ _ h2
    exact hsim.inj i j _ _ _ _ x y g1 g2 hx hy he
  · refine hsim.nb k ?_
    by_cases e : k = id
    · subst e
      rw [List.getElem?_set, if_pos rfl, if_pos hlt] at h
      rcases h with h | h <;> cases h
    · rwa [List.getElem?_set, if_neg (fun e2 => e e2.symm)] at h
theorem Cn.keepC (h : Cn B m0 bk0 w0 a W fr st) (hk : KeepC w0.world.heap.size B bs W W') (hid : st[id]? = some (.live [.s s] 0)) (hbk : bk0 id = some (bs, sz)) (hd : a.defers = []) : ∃ s', Cn B m0 bk0 w0 a W' fr (st.set id (.live [.s s'] 0)) := by
  obtain ⟨m, bk, hsim, hfr, _, hb, hbkm⟩ := h
  have hbk' := hbkm _ _ hbk
  obtain ⟨hB, hmu, arr, T, lo, hi, hbb, hsz, ht0, _⟩ := text_block hsim hid hbk'
  obtain ⟨arr', s2, hs2, hsz2, _⟩ := hk.self.self arr s T (lo, hi) hbb ht0
  obtain ⟨s', hs⟩ := hsim.keepC hk hid hbk'
  refine ⟨s', m, bk, hs, hfr, by rw [hd]; exact .nil, ⟨hk.below (Nat.le_refl _) hb.toBelow, fun k c t lo' hi' h0 => ?_, fun k o h0 h1 => ?_⟩, hbkm⟩
  · obtain ⟨c', g1, g2⟩ := hb.shp k c t lo' hi' h0
    by_cases e : k = bs
    · subst e
      rw [hbb] at g1
      injection g1 with g1
      injection g1 with e1 e2 e3
      subst e1 e2
      injection e3 with e3 e4
      subst e3 e4
      exact ⟨_, hs2, by rw [← g2]; exact hsz2⟩
    · exact ⟨c', hk.cells _ _ _ _ e g1, g2⟩
  · exact hk.oth k o (Array.getElem?_eq_some_iff.1 h0).1 (hb.oth k o h0 h1) h1
end
section
variable {P : Program} {w0 : Org} {w W W' : World} {B bs id sz : Nat} {m0 m : Mem} {bk bk0 : Bks} {a : Act} {fr : List V} {st : List Slot} {s : ByteArray}
theorem FrRep.set1 {tmps : Array Value} (h : FrRep m bk tmps fr) {c : Value} {v : V} (hv : Rep m bk c v) (d : Nat) : FrRep m bk (tmps.setIfInBounds d c) (fr.set d v) :=
  FrRep.put (a := { tmps := tmps, defers := [] }) h hv (some d)
theorem FrRep.params : ∀ (ps : List Nat) (cs : List Value) (vs : List V) {tmps : Array Value} {fr : List V}, FrRep m bk tmps fr → RepL m bk cs vs → FrRep m bk ((ps.zip cs).foldl (fun t x => t.setIfInBounds x.1 x.2) tmps) ((ps.zip vs).foldl (fun t x => t.set x.1 x.2) fr)
  | [], _, _, _, _, h, _ => h
  | p :: ps, [], [], _, _, h, _ => h
  | p :: ps, c :: cs, v :: vs, _, _, h, hr => by
    have h0 := hr.2 0 (by simp) (by simp)
    exact FrRep.params ps cs vs (h.set1 h0 p) ⟨by have := hr.1; simpa using this, fun j h1 h2 => hr.2 (j + 1) (by simpa using h1) (by simpa using h2)⟩
  | p :: ps, [], v :: vs, _, _, h, hr => by have := hr.1; simp at this
  | p :: ps, c :: cs, [], _, _, h, hr => by have := hr.1; simp at this
/-- the walk starts anew from here. -/
theorem Cn.rebase (h : Cn B m0 bk0 w0 a W fr st) : ∃ m1 bk1, Sim B m1 m1 bk1 W st ∧ FrRep m1 bk1 a.tmps fr ∧ (∀ u v, m0 u = some v → m1 u = some v) ∧ (∀ i x, bk0 i = some x → bk1 i = some x) ∧ (∀ i x, bk1 i = some x → i < st.length) ∧
    (∀ a2 W2 fr2 st2, Cn B m1 bk1 ⟨W, false⟩ a2 W2 fr2 st2 → Cn B m0 bk0 w0 a2 W2 fr2 st2) := by
  obtain ⟨m, bk, hsim, hfr, hd, hb, hbk⟩ := h
  refine ⟨m, bk, ⟨hsim.base, hsim.mem, fun _ _ h => h, fun _ _ h => .inl h, hsim.blk, hsim.inj, hsim.nb⟩, hfr, hsim.ext, hbk, fun i x hx => ?_, ?_⟩
  · rcases Nat.lt_or_ge i st.length with g | g
    · exact g
    · rw [hsim.nb i (.inl (List.getElem?_eq_none g))] at hx; cases hx
  · rintro a2 W2 fr2 st2 ⟨m2, bk2, q1, q2, q3, q4, q5⟩
    have hd2 : a2.defers = [] := q3.none
    refine ⟨m2, bk2, ⟨q1.base, q1.mem, fun u v h => q1.ext u v (hsim.ext u v h), fun u v h => ?_, q1.blk, q1.inj, q1.nb⟩, q2, by rw [hd2]; exact .nil, hb.trans q4, fun i x h => q5 i x (hbk i x h)⟩
    rcases q1.old u v h with g | g
    · exact hsim.old u v g
    · exact .inr g
theorem Cn.start {m1 : Mem} {bk1 : Bks} {tmps : Array Value} (hs : Sim B m1 m1 bk1 W st) (hf : FrRep m1 bk1 tmps fr)  : Cn B m1 bk1 ⟨W, false⟩ { tmps := tmps, defers := [] } W fr st := ⟨m1, bk1, hs, hf, .nil, Bel.refl _ _, fun _ _ h => h⟩
theorem Cn.frame {m1 : Mem} {bk1 : Bks} {a2 : Act} {fr2 : List V} {tmps : Array Value} (h : Cn B m1 bk1 ⟨W, false⟩ a2 W' fr2 st) (hf : FrRep m1 bk1 tmps fr) : Cn B m1 bk1 ⟨W, false⟩ { tmps := tmps, defers := [] } W' fr st := by
  obtain ⟨m2, bk2, q1, q2, q3, q4, q5⟩ := h
  exact ⟨m2, bk2, q1, hf.mono q1.ext q5, .nil, q4, q5⟩
theorem Cn.bel (h : Cn B m0 bk0 w0 a W fr st) : Bel B w0.world W := by
  obtain ⟨m, bk, hsim, hfr, hd, hb, hbk⟩ := h
  exact hb
theorem Cn.base (h : Cn B m0 bk0 w0 a W fr st) : B ≤ W.heap.size := by
  obtain ⟨m, bk, hsim, hfr, hd, hb, hbk⟩ := h
  exact hsim.base
theorem keepsOthers_bel (h : Bel B W W') : KeepsOthers W W' := ⟨h.size, h.oth⟩
/-- a block that is fast whole stays what it is. -/
theorem Cn.fast (h : Cn B m0 bk0 w0 a W fr st) {k : Nat} {arr : Array Value} {T : TypeId} {f : Nat × Nat} (hk : w0.world.heap[k]? = some (.cells arr T f)) (hm : ∀ t, t < arr.size → m0 ⟨k, t, none⟩ = arr[t]?) : W.heap[k]? = some (.cells arr T f) := by
  obtain ⟨m, bk, hsim, hfr, hd, hb, hbk⟩ := h
  obtain ⟨c', g1, g2⟩ := hb.shp k arr T f.1 f.2 hk
  have : c' = arr := by
    apply Array.ext g2
    intro i h1 h2
    have e := hsim.mem ⟨k, i, none⟩ arr[i] (hsim.ext _ _ (by rw [hm i h2, Array.getElem?_eq_getElem h2]))
    simp only [World.cell?, g1] at e
    simpa [h1] using e
  rw [g1, this]
theorem Cn.text (h : Cn B m0 bk0 w0 a W fr st) (hid : st[id]? = some (.live [.s s] 0)) (hbk : bk0 id = some (bs, sz)) : ∃ arr T lo hi, W.heap[bs]? = some (.cells arr T (lo, hi)) ∧ arr.size = sz ∧ arr[0]? = some (.string s) := by
  obtain ⟨m, bk, hsim, hfr, hd, hb, hbkm⟩ := h
  obtain ⟨_, _, arr, T, lo, hi, g, g1, g2, _⟩ := text_block hsim hid (hbkm _ _ hbk)
  exact ⟨arr, T, lo, hi, g, g1, g2⟩
end
section
variable {P : Program} {w0 : Org} {w W W' : World} {B bs id sz : Nat} {m0 m : Mem} {bk bk0 : Bks} {a : Act} {fr : List V} {st : List Slot} {s : ByteArray}
/-- the walk starts anew where an iterator went on: what that laid meanwhile is fast. -/
theorem Cn.keepP {W0 : World} (h : Cn B m0 bk0 w0 a W0 fr st) (hgr : W0.grownBy W (some bs)) (hse : SelfS bs W0 W) (hbB : B ≤ bs) (hid : st[id]? = some (.live [.s s] 0)) (hbk : bk0 id = some (bs, sz)) (hd : a.defers = []) :
    ∃ (s' : ByteArray) (m1 : Mem) (bk1 : Bks), Sim B m1 m1 bk1 W (st.set id (.live [.s s'] 0)) ∧ FrRep m1 bk1 a.tmps fr ∧ (∀ u v, m0 u = some v → m1 u = some v) ∧ (∀ i x, bk0 i = some x → bk1 i = some x) ∧ (∀ i x, bk1 i = some x → i < (st.set id (.live [.s s'] 0)).length) ∧
      (∀ a2 W2 fr2 st2, Cn B m1 bk1 ⟨W, false⟩ a2 W2 fr2 st2 → Cn B m0 bk0 w0 a2 W2 fr2 st2) ∧ (∀ k, W0.heap.size ≤ k → ∀ t u, W.cell? ⟨k, t, none⟩ = some u → m1 ⟨k, t, none⟩ = some u) ∧ (∀ u v, m1 u = some v → m0 u = some v ∨ B ≤ u.block) := by
  obtain ⟨s1, hc1⟩ := h.keepC (KeepC.of_grown hgr hse h.base hbB) hid hbk hd
  have hbel := hc1.bel
  obtain ⟨m, bk, hsim, hfr, hdf, hb, hbkm⟩ := h
  have hkc : KeepC w0.world.heap.size B bs W0 W := KeepC.of_grown hgr hse hsim.base hbB
  obtain ⟨s', hs⟩ := hsim.keepC hkc hid (hbkm _ _ hbk)
  let m1 : Mem := fun x => if W0.heap.size ≤ x.block then W.cell? x else m x
  have mge : ∀ x, W0.heap.size ≤ x.block → m1 x = W.cell? x := fun x h => if_pos h
  have mlt : ∀ x, ¬ W0.heap.size ≤ x.block → m1 x = m x := fun x h => if_neg h
  have mle : ∀ x u, m x = some u → m1 x = some u := fun x u hu => by
    by_cases ho : W0.heap.size ≤ x.block
    · rw [mge x ho]; exact hs.mem x u hu
    · rw [mlt x ho]; exact hu
  have lows : ∀ k c g, (st.set id (.live [.s s'] 0))[k]? = some (.live c g) → ∀ x, bk k = some x → x.1 < W0.heap.size := fun k c g hk x hx => by
    have : ∃ c g, st[k]? = some (.live c g) := by
      by_cases e : k = id
      · subst e; exact ⟨_, _, hid⟩
      · rw [List.getElem?_set, if_neg (fun e2 => e e2.symm)] at hk; exact ⟨_, _, hk⟩
    obtain ⟨c2, g2, h2⟩ := this
    obtain ⟨b, sz, arr, t, lo, hi, hl⟩ := hsim.blk k c2 g2 h2
    rw [hl.at_] at hx
    injection hx with hx
    subst hx
    exact lt_of_some hl.heap
  have hnb : ∀ i x, bk i = some x → i < (st.set id (.live [.s s'] 0)).length := fun i x hx => by
    rcases Nat.lt_or_ge i (st.set id (.live [.s s'] 0)).length with g | g
    · exact g
    · rw [hs.nb i (.inl (List.getElem?_eq_none g))] at hx; cases hx
  have hold : ∀ u v, m1 u = some v → m0 u = some v ∨ B ≤ u.block := fun u v g => by
    by_cases ho : W0.heap.size ≤ u.block
    · exact .inr (Nat.le_trans hsim.base ho)
    · rw [mlt u ho] at g
      exact hs.old u v g
  refine ⟨s', m1, bk, ⟨hs.base, fun x u hu => ?_, fun _ _ h => h, fun _ _ h => .inl h, fun k c g hk => ?_, hs.inj, hs.nb⟩, hfr.mono mle fun _ _ h => h, fun u v h => mle _ _ (hs.ext u v h), hbkm, hnb, ?_, fun k hk t u hu => by rw [mge _ hk]; exact hu, hold⟩
  · by_cases ho : W0.heap.size ≤ x.block
    · rw [mge x ho] at hu; exact hu
    · rw [mlt x ho] at hu; exact hs.mem x u hu
  · obtain ⟨b, sz, arr, t, lo, hi, hl⟩ := hs.blk k c g hk
    have hlt := lows k c g hk _ hl.at_
    simp only at hlt
    exact ⟨b, sz, arr, t, lo, hi, ⟨hl.at_, hl.own, hl.heap, hl.size, hl.free, hl.fit, hl.one, fun j hj => by
      obtain ⟨u, q1, q2⟩ := hl.rep j hj
      exact ⟨u, q1, q2.mono mle fun _ _ h => h⟩, fun j hj => by rw [mlt _ (by simp only; omega)]; exact hl.mu j hj, fun j hj => by rw [mlt _ (by simp only; omega)]; exact hl.fz j hj⟩⟩
  · rintro a2 W2 fr2 st2 ⟨m2, bk2, q1, q2, q3, q4, q5⟩
    have hd2 : a2.defers = [] := q3.none
    refine ⟨m2, bk2, ⟨q1.base, q1.mem, fun u v h => q1.ext u v (mle _ _ (hs.ext u v h)), fun u v h => ?_, q1.blk, q1.inj, q1.nb⟩, q2, by rw [hd2]; exact .nil, hbel.trans q4, fun i x h => q5 i x (hbkm i x h)⟩
    rcases q1.old u v h with g | g
    · exact hold u v g
    · exact .inr g
theorem Cn.keepR {m1 : Mem} {bk1 : Bks} {w1 : Org} (h : Cn B m1 bk1 w1 a W fr st) (hk : KeepC w0.world.heap.size B bs W W') (hid : st[id]? = some (.live [.s s] 0)) (hbk : bk1 id = some (bs, sz)) (hb : Bel B w0.world W') (hm : ∀ u v, m0 u = some v → m1 u = some v) (hb2 : ∀ i x, bk0 i = some x → bk1 i = some x) (hold : ∀ u v, m1 u = some v → m0 u = some v ∨ B ≤ u.block) :
    ∃ (s' : ByteArray) (m3 : Mem) (bk3 : Bks), Sim B m3 m3 bk3 W' (st.set id (.live [.s s'] 0)) ∧ FrRep m3 bk3 a.tmps fr ∧ (∀ u v, m1 u = some v → m3 u = some v) ∧ (∀ i x, bk1 i = some x → bk3 i = some x) ∧ (∀ i x, bk3 i = some x → i < st.length) ∧
      (∀ a2 W2 fr2 st2, Cn B m3 bk3 ⟨W', false⟩ a2 W2 fr2 st2 → Cn B m0 bk0 w0 a2 W2 fr2 st2) := by
  obtain ⟨m, bk, hsim, hfr, hdf, _, hbkm⟩ := h
  obtain ⟨s', hs⟩ := hsim.keepC hk hid (hbkm _ _ hbk)
  refine ⟨s', m, bk, ⟨hs.base, hs.mem, fun _ _ h => h, fun _ _ h => .inl h, hs.blk, hs.inj, hs.nb⟩, hfr, hs.ext, hbkm, fun i x hx => ?_, ?_⟩
  · rcases Nat.lt_or_ge i st.length with g | g
    · exact g
    · rw [hsim.nb i (.inl (List.getElem?_eq_none g))] at hx; cases hx
  · rintro a2 W2 fr2 st2 ⟨m2, bk2, q1, q2, q3, q4, q5⟩
    have hd2 : a2.defers = [] := q3.none
    refine ⟨m2, bk2, ⟨q1.base, q1.mem, fun u v h => q1.ext u v (hs.ext u v (hm u v h)), fun u v h => ?_, q1.blk, q1.inj, q1.nb⟩, q2, by rw [hd2]; exact .nil, hb.trans q4, fun i x h => q5 i x (hbkm i x (hb2 i x h))⟩
    rcases q1.old u v h with g | g
    · rcases hs.old u v g with g | g
      · exact hold u v g
      · exact .inr g
    · exact .inr g
end
/-- an iterator's contract, told by slots: slot id is the cell that it writes; it reads what is fast. -/
def ItS {α : Type} (P : Program) (gf : Nat) (caps : List V) (st : List Slot) (id : Nat) (encs : α → List Value) (xs : List α) : Prop :=
  ∀ (B : Nat) (m0 m : Mem) (bk : Bks) (w : World) (lb : Array Value), GM m → Sim B m0 m bk w st → RepA m bk lb caps →
    ∃ (bs sz : Nat), bk id = some (bs, sz) ∧ bs < w.heap.size ∧
      IterC P gf lb bs m B (fun x => (encs x).toArray) xs (fun W => W.heap[bs]? = w.heap[bs]? ∧ ∀ a u, m a = some u → W.cell? a = some u)
theorem set_self {l : List Slot} {i : Nat} {x : Slot} (h : l[i]? = some x) : l.set i x = l := by
  obtain ⟨h1, h2⟩ := List.getElem?_eq_some_iff.1 h
  rw [← h2, List.set_getElem_self]
theorem params_eq (ps : Array Nat) (cs : Array Value) (tmps : Array Value) : (ps.zip cs).foldl (fun t (x : Nat × Value) => t.setIfInBounds x.1 x.2) tmps = (ps.toList.zip cs.toList).foldl (fun t x => t.setIfInBounds x.1 x.2) tmps := by
  rw [← Array.foldl_toList, Array.toList_zip]
/-- THE CALLER's LAW, abstractly. -/
theorem range_sound {P : Program} {B : Nat} {m0 : Mem} {bk0 : Bks} {w0 : Org} {α : Type} (hmix : P.follows .mixedOrders = true) (hg : GM m0) {g : Operand} {ps : Array Tmp} {assign body : Code} {x y : ACode} (h1 : MatchC P assign x) (h2 : MatchC P body y) (f1 : x.flat = true) (f2 : y.flat = true) (s1 : assign.scopes = false) (s2' : body.scopes = false)
    {gf id : Nat} {caps : List V} {encs : α → List Value} {aen : α → List V} {xs : List α} {fr : List V} {st : List Slot} {a : Act} {w : World} {Q : AExit → List V → List Slot → Prop}
    (eg : ∀ args w, (callFunc gf args).run P w = .ok (.enter gf args) w) (hf : evO fr g = .clo (.func gf) caps) (hit : ItS P gf caps st id encs xs) (haen : ∀ z (m : Mem) (bk : Bks), RepL m bk (encs z) (aen z)) (hps : ∀ z, (encs z).length = ps.size)
    (J : List α → List Slot → Prop) (hJ : ∀ pre st1 (s : ByteArray), J pre st1 → J pre (st1.set id (.live [.s s] 0))) (hJt : ∀ pre st1, J pre st1 → ∃ s : ByteArray, st1[id]? = some (.live [.s s] 0)) (h0 : J [] st)
    (hround : ∀ pre z post st1, xs = pre ++ z :: post → J pre st1 → AW P st1.length x (fun e fr1 st2 => e = .normal ∧ st2[id]? = st1[id]? ∧ ∀ s : ByteArray, AW P st2.length y (fun e _ st3 => st3[id]? = some (.live [.s s] 0) ∧ (e = .normal → ∃ n sg st4, Wk st.length n sg fr fr st3 st4 ∧ J (pre ++ [z]) st4) ∧ (e ≠ .normal → ∀ s' : ByteArray, Q e fr (st3.set id (.live [.s s'] 0)))) fr1 (st2.set id (.live [.s s] 0))) ((ps.toList.zip (aen z)).foldl (fun t x => t.set x.1 x.2) fr) st1)
    (hdone : ∀ st1, J xs st1 → Q .normal fr st1)
    (hcn : Cn B m0 bk0 w0 a w fr st) (hmk : w0.mark = true) : (Code.rangeFunc g ps assign body).wp P (PostC B m0 bk0 w0 Q) a w := by
  obtain ⟨m, bk, hsim, hfr, hm, hbk, hlen, hback⟩ := hcn.rebase
  have hgm : GM m := by obtain ⟨n, hn⟩ := hg; exact ⟨n, hm _ _ hn⟩
  obtain ⟨lb, hge, hlb⟩ : ∃ lb, a.eval g = .func (.func gf) #[] lb ∧ RepA m bk lb caps := by
    have := hfr.ev g
    rw [hf] at this
    generalize a.eval g = c at this
    cases this with
    | clo hl h => exact ⟨_, rfl, hl, h⟩
  obtain ⟨bs, sz, hbs, hlt, hI⟩ := hit B m m bk w lb hgm hsim hlb
  obtain ⟨sA, hsA⟩ := hJt _ _ h0
  have hB := (text_block hsim hsA hbs).1
  -- what a piece of the walk leaves, told from where it began
  have keepK : ∀ {W W1 : World} {a1 a2 : Act} {fr1 fr2 : List V} {sta stb : List Slot} {s : ByteArray}, Cn B m bk ⟨w, false⟩ a1 W fr1 sta → Cn B m bk ⟨w, false⟩ a2 W1 fr2 stb → Bel B W W1 → sta[id]? = some (.live [.s s] 0) → stb[id]? = some (.live [.s s] 0) → (∀ (arr : Array Value) (s : ByteArray) (t : TypeId) (f : Nat × Nat), W.heap[bs]? = some (.cells arr t f) → arr[0]? = some (.string s) → ∃ arr' : Array Value, W1.heap[bs]? = some (.cells arr' t f) ∧ arr'.size = arr.size ∧ arr'[0]? = some (.string s)) ∧ (∀ u v, m u = some v → W.cell? u = some v → W1.cell? u = some v) := by
    intro W W1 a1 a2 fr1 fr2 sta stb s hc1 hc2 hb hs1 hs2
    refine ⟨fun arr s' t f h1 h2 => ?_, fun a u hm _ => by obtain ⟨m2, bk2, q1, _, _, _, _⟩ := hc2; exact q1.mem a u (q1.ext a u hm)⟩
    obtain ⟨a1, T, lo, hi, g1, g2, g3⟩ := hc1.text hs1 hbs
    obtain ⟨a2, T', lo', hi', k1, k2, k3⟩ := hc2.text hs2 hbs
    rw [g1] at h1
    injection h1 with h1
    injection h1 with e1 e2 e3
    subst e1 e2 e3
    obtain ⟨c', x1, x2⟩ := hb.shp _ _ _ _ _ g1
    rw [k1] at x1
    injection x1 with x1
    injection x1 with y1 y2 y3
    subst y2
    rw [y3] at k1
    rw [g3] at h2
    simp only [Option.some.injEq, Value.string.injEq] at h2
    subst h2
    exact ⟨a2, k1, by rw [k2, g2], k3⟩
  have fin : ∀ (D : Nat) (W : World) (st1 : List Slot), Cn B m bk ⟨w, false⟩ { tmps := a.tmps, defers := [] } W fr st1 → W.heap[D]? = some (.deferred (some [])) → w.heap.size ≤ D → w0.mark = true → Cn B m0 bk0 w0 { a with defers := { target := .collected D, args := #[] } :: a.defers } W fr st1 := by
    intro D W st1 hc hD hDs hmk
    have h1 := hcn.bel.size
    obtain ⟨m2, bk2, q1, q2, q3, q4, q5⟩ := hback _ _ _ _ hc
    exact ⟨m2, bk2, q1, q2, hcn.defers.cons hc.bel hmk hD hDs (Nat.le_trans h1 hDs) (Nat.le_trans hsim.base hDs), q4, q5⟩
  refine (wpIn_wide (n := 3)).1 (rangeIter (gf := gf) (lb := lb) hge eg (bs := bs) (B := B) hI (fun z => by simpa using hps z) hsim.base hB hlt (fun W' hbW => ⟨hbW.block _ hlt, fun a u hm => cell_keep (hbW.block _ (World.block_lt_of_cell? w a (hsim.mem a u hm))) (hsim.mem a u hm)⟩)
    (fun pre W => ∃ st1, Cn B m bk ⟨w, false⟩ { tmps := a.tmps, defers := [] } W fr st1 ∧ J pre st1)
    (fun c _ W => ∃ e st1, Cn B m bk ⟨w, false⟩ { tmps := a.tmps, defers := [] } W fr st1 ∧ (∀ s' : ByteArray, Q e fr (st1.set id (.live [.s s'] 0))) ∧ ((c = .ret ∧ e = .ret) ∨ ∃ j, c = .exit j ∧ e = .exit j) ∧ ∃ s : ByteArray, st1[id]? = some (.live [.s s] 0))
    ?stI ?stIx ⟨st, Cn.start hsim hfr, h0⟩ ?round ?done ?stop)
  case stI =>
    rintro pre W W' ⟨st1, hc, hj⟩ hk
    obtain ⟨s, hs⟩ := hJt _ _ hj
    obtain ⟨s', hc'⟩ := hc.keepC hk hs hbs rfl
    exact ⟨_, hc', hJ _ _ _ hj⟩
  case stIx =>
    rintro c pre W W' ⟨e, st1, hc, hq, hce, s, hs⟩ hk
    obtain ⟨s', hc'⟩ := hc.keepC hk hs hbs rfl
    refine ⟨e, _, hc', fun s2 => ?_, hce, s', ?_⟩
    · rw [List.set_set]; exact hq s2
    · rw [List.getElem?_set, if_pos rfl, if_pos (List.getElem?_eq_some_iff.1 hs).1]
  case done =>
    rintro D W ⟨st1, hc, hj⟩ hD hDs
    exact ⟨.normal, fr, st1, rfl, fin D W st1 hc hD hDs hmk, hdone _ hj⟩
  case stop =>
    rintro D c pre post W hx ⟨e, st1, hc, hq, hce, s, hs⟩ hD hDs
    have hq' := hq s
    rw [set_self hs] at hq'
    rcases hce with ⟨rfl, rfl⟩ | ⟨j, rfl, rfl⟩
    · exact wpIn_ret ⟨.ret, fr, st1, rfl, fin D W st1 hc hD hDs hmk, hq'⟩
    · exact wpIn_exit ⟨.exit j, fr, st1, rfl, fin D W st1 hc hD hDs hmk, hq'⟩
  case round =>
    rintro l pre z post W0 W hx ⟨st0, hc0, hj0⟩ hgr hse hBW hsz
    obtain ⟨s0, hs0⟩ := hJt _ _ hj0
    obtain ⟨sx, m1, bk1, r1, r2, r3, r4, r5, r6, r7, r8⟩ := hc0.keepP hgr hse hB hs0 hbs rfl
    have hj := hJ _ _ sx hj0
    generalize hst1 : st0.set id (.live [.s sx] 0) = st1 at hj r1 r5
    obtain ⟨s, hs⟩ := hJt _ _ hj
    have hr := hround pre z post st1 hx hj
    have hc := r6 _ _ _ _ (Cn.start r1 r2)
    have hg1 : GM m1 := by obtain ⟨n, hn⟩ := hgm; exact ⟨n, r3 _ _ hn⟩
    have prv : ∀ k c t f, W0.heap.size ≤ k → W.heap[k]? = some (.cells c t f) → ∀ i, i < c.size → m1 ⟨k, i, none⟩ = c[i]? := fun k c t f h1 h2 i hi => by
      have : W.cell? ⟨k, i, none⟩ = some c[i] := by simp [World.cell?, h2, hi]
      rw [r7 k h1 i _ this, Array.getElem?_eq_getElem hi]
    have hcp := Cn.start r1 (FrRep.params ps.toList (encs z) (aen z) r2 (haen z m1 bk1))
    have ha := aw_soundIn (l := l) (n := 3 - 1 - 1) r5 hmix hg1 h1 f1 s1 _ _ st1 _ W hcp hr
    have e := params_eq ps (encs z).toArray a.tmps
    simp only at e
    rw [← e] at ha
    refine Go.wpIn_mono ha ?_
    rintro e a1 W1 ⟨ae, fr1, st2, q1, q2, q3, q4, q5⟩
    subst q3
    have he : e = .normal := by cases e <;> simp only [exitOf, Option.some.injEq, reduceCtorEq] at q1 <;> rfl
    subst he
    have hb1 : Bel B W W1 := q2.bel
    have hc1 := r6 _ _ _ _ (q2.frame r2)
    have hs2 : st2[id]? = some (.live [.s s] 0) := q4.trans hs
    have pS : ∀ k c t f, Since W0 W k → W.heap[k]? = some (.cells c t f) → W1.heap[k]? = some (.cells c t f) := fun k c t f hs h => q2.fast (w0 := ⟨W, false⟩) h (prv k c t f hs.1 h)
    have kk1 := keepK hc hc1 hb1 hs hs2
    refine ⟨keepsOthers_bel hb1, ⟨hb1.toBelow, kk1.1, kk1.2, pS⟩, fun W2 hk hsz2 => ?_⟩
    -- the body
    have hc1a := r6 _ _ _ _ q2
    have hd1 : a1.defers = [] := by
      obtain ⟨_, _, _, _, hd, _, _⟩ := q2
      exact hd.none
    obtain ⟨s2a, hc2a⟩ := hc1a.keepC hk hs2 hbs hd1
    obtain ⟨s2, m3, bk3, t1, t2, t3, t4, t5, t6⟩ := q2.keepR (w0 := ⟨w, false⟩) (m0 := m) (bk0 := bk) hk hs2 (r4 _ _ hbs) hc2a.bel r3 r4 r8
    have hs22 : (st2.set id (.live [.s s2] 0))[id]? = some (.live [.s s2] 0) := by rw [List.getElem?_set, if_pos rfl, if_pos (List.getElem?_eq_some_iff.1 hs2).1]
    have hc2 := t6 _ _ _ _ (Cn.start t1 t2)
    have hg3 : GM m3 := by obtain ⟨n, hn⟩ := hgm; exact ⟨n, t3 _ _ (r3 _ _ hn)⟩
    have hb := aw_soundIn (l := l) (n := 3 - 1 - 1) t5 hmix hg3 h2 f2 s2' _ _ _ _ W2 (Cn.start t1 t2) (q5 s2)
    have ea : a1 = { tmps := a1.tmps, defers := [] } := by
      cases a1; simp only at hd1; rw [hd1]
    rw [ea]
    refine Go.wpIn_mono hb ?_
    rintro e3 a3 W3 ⟨ae3, fr3, st3, p1, p2, p3, p4, p5⟩
    have hc3 := t6 _ _ _ _ (p2.frame (hfr.mono (fun u v h => t3 u v (r3 u v h)) (fun i x h => t4 i x (r4 i x h))))
    have hb3 : Bel B W2 W3 := p2.bel
    have hko := keepsOthers_bel hb3
    have kk3 := keepK hc2 hc3 hb3 hs22 p3
    have hkk : KeepK B bs m (Since W0 W) W2 W3 := ⟨hb3.toBelow, kk3.1, kk3.2, fun k c t f hs h => by
      obtain ⟨h0, c0, t0, f0, hw⟩ := hs
      have e1 := pS k c0 t0 f0 ⟨h0, _, _, _, hw⟩ hw
      have hkb : k ≠ bs := by
        rintro rfl
        obtain ⟨a0, T, lo, hi, g, _⟩ := hc0.text hs0 hbs
        have := lt_of_some g
        omega
      have e2 := hk.cells _ _ _ _ hkb e1
      rw [h] at e2
      injection e2 with e2
      injection e2 with x1 x2 x3
      subst x1 x2 x3
      exact p2.fast (w0 := ⟨W2, false⟩) h fun i hi => by
        have := prv k c t f h0 hw i hi
        have hc3' : m1 ⟨k, i, none⟩ = some c[i] := by rw [this, Array.getElem?_eq_getElem hi]
        rw [t3 _ _ hc3', Array.getElem?_eq_getElem hi]⟩
    cases e3 <;> simp only [exitOf, Option.some.injEq, reduceCtorEq] at p1 <;> subst p1
    · obtain ⟨nn, sg, st4, hw, hj4⟩ := p4 rfl
      exact ⟨hko, hkk, st4, Cn.wk hlen hc3 hw, hj4⟩
    · exact ⟨hko, _, st3, hc3, p5 (by simp), .inr ⟨_, rfl, rfl⟩, s2, p3⟩
    · exact ⟨hko, _, st3, hc3, p5 (by simp), .inl ⟨rfl, rfl⟩, s2, p3⟩
end Go.Proofs.YthlhbgedidipkaaGreat
/- A range over a function, as a question of the walk. -/
namespace Go.Proofs.YthlhbgedidipkaaGreat
open Go.RowKit
/-- the ranges over functions in a code, in order. -/
def _root_.Go.Code.ranges : Code → List Code
  | .rangeFunc f ps a b => [.rangeFunc f ps a b]
  | .seq a b => a.ranges ++ b.ranges
  | .cond _ a b => a.ranges ++ b.ranges
  | .block _ a => a.ranges
  | .loop a => a.ranges
  | .scope a => a.ranges
  | _ => []
def rangeAt (fn : Func) (i : Nat) : Code := match fn.body with
  | some c => c.ranges.getD i .skip
  | none => .skip
def rangeAsg : Code → Code
  | .rangeFunc _ _ a _ => a
  | c => c
def rangeBody : Code → Code
  | .rangeFunc _ _ _ b => b
  | c => c
/-- the end of a round. -/
structure RoundEnd (n0 id : Nat) (s : ByteArray) (J : List Slot → Prop) (Q : AExit → List V → List Slot → Prop) (fr : List V) (e : AExit) (st3 : List Slot) : Prop where
  out : st3[id]? = some (.live [.s s] 0) ∧ (e = .normal → ∃ n sg st4, Wk n0 n sg fr fr st3 st4 ∧ J st4) ∧ (e ≠ .normal → ∀ s' : ByteArray, Q e fr (st3.set id (.live [.s s'] 0)))
/-- between the parameters' taking over and the body. -/
structure BodyAt (P : Program) (y : BCode) (n0 id : Nat) (st1 : List Slot) (J : List Slot → Prop) (Q : AExit → List V → List Slot → Prop) (fr fr1 : List V) (st2 : List Slot) : Prop where
  same : st2[id]? = st1[id]?
  next : ∀ s : ByteArray, wpC P st2.length y (fun e _ st3 => RoundEnd n0 id s J Q fr e st3) fr1 (st2.set id (.live [.s s] 0))
def asgQ (P : Program) (y : BCode) (n0 id : Nat) (st1 : List Slot) (J : List Slot → Prop) (Q : AExit → List V → List Slot → Prop) (fr : List V) : AExit → List V → List Slot → Prop := fun e fr1 st2 => match e with
  | .normal => BodyAt P y n0 id st1 J Q fr fr1 st2
  | _ => False
theorem range_c {P : Program} {n0 : Nat} {α : Type} {g : Operand} {ps : Array Tmp} {assign body : Code} {x y : BCode} {Q : AExit → List V → List Slot → Prop} {fr : List V} {st : List Slot} {gf id : Nat} {caps : List V} {encs : α → List Value} {aen : α → List V} {xs : List α}
    (hmix : P.follows .mixedOrders = true) (hx : comp P assign = some x.er) (hy : comp P body = some y.er) (f1 : x.er.flat = true) (f2 : y.er.flat = true) (s1 : assign.scopes = false) (s2 : body.scopes = false)
    (eg : ∀ args w, (callFunc gf args).run P w = .ok (.enter gf args) w) (hf : evO fr g = .clo (.func gf) caps) (hit : ItS P gf caps st id encs xs) (haen : ∀ z (m : Mem) (bk : Bks), RepL m bk (encs z) (aen z)) (hps : ∀ z, (encs z).length = ps.size)
    (J : List α → List Slot → Prop) (hJ : ∀ pre st1 (s : ByteArray), J pre st1 → J pre (st1.set id (.live [.s s] 0))) (hJt : ∀ pre st1, J pre st1 → ∃ s : ByteArray, st1[id]? = some (.live [.s s] 0)) (h0 : J [] st)
    (hround : ∀ pre z post st1, xs = pre ++ z :: post → J pre st1 → wpC P st1.length x (asgQ P y st.length id st1 (J (pre ++ [z])) Q fr) ((ps.toList.zip (aen z)).foldl (fun t x => t.set x.1 x.2) fr) st1)
    (hdone : ∀ st1, J xs st1 → Q .normal fr st1) : RawQ P n0 (.rangeFunc g ps assign body) Q fr st :=
  ⟨fun Q' hq B m0 bk0 w0 a w hg hmk _ hcn => range_sound hmix hg (comp_ok hx) (comp_ok hy) f1 f2 s1 s2 eg hf hit haen hps J hJ hJt h0 (fun pre z post st1 hxs hj => wpC_ok (fun e fr1 st2 h => by
    cases e with
    | normal =>
      refine ⟨rfl, h.same, fun s => wpC_ok (fun e fr3 st3 h => ?_) (h.next s)⟩
      exact ⟨h.out.1, h.out.2.1, fun he s' => hq _ _ _ (h.out.2.2 he s')⟩
    | _ => exact h.elim) (hround pre z post st1 hxs hj)) (fun st1 hj => hq _ _ _ (hdone st1 hj)) hcn hmk⟩
end Go.Proofs.YthlhbgedidipkaaGreat
/- The codes of function 19. -/
namespace Go.Proofs.YthlhbgedidipkaaGreat
open Go.RowKit
def dc19 (c : Code) : BCode := (.seq (.reg 2 [⟨(some 2),.bx (.tmp 0),none,0⟩,⟨(some 3),.bx (.tmp 1),none,1⟩,⟨(some 4),.mv (.const (.slice none 0 0)),none,2⟩] none 0 []) (.seq (.reg 1 [⟨(some 5),.al (.sl [] true),none,0⟩] none 0 []) (.seq (.seq (.reg 0 [⟨(some 8),.ld 2 true (.tmp 2),none,0⟩,⟨(some 9),.ld 2 true (.tmp 3),none,0⟩,⟨(some 10),.cl 88 [(.tmp 8),(.tmp 9),(.const (.string ⟨#[]⟩))],none,0⟩] none 0 []) (.block 0 (.raw c))) (.seq (.reg 0 [⟨(some 17),.ld 1 false (.tmp 5),none,0⟩,⟨(some 4),.mv (.tmp 17),none,0⟩] none 0 []) .ret))))
def da19 : BCode := (.reg 1 [⟨(some 7),.al (.agg [(.lit (.string ⟨#[]⟩)),(.lit (.string ⟨#[]⟩)),(.lit (.bool false)),(.lit (.int .i64 0)),(.lit (.int .i64 0)),(.lit (.int .i64 0))]),none,0⟩,⟨none,.st 6 (.tmp 7) (.tmp 12),none,1⟩] none 0 [])
def db19 : BCode := (.block 1 (.reg 2 [⟨(some 13),.ld 1 false (.tmp 5),none,0⟩,⟨(some 14),.ld 6 true (.tmp 7),none,0⟩,⟨(some 15),.bs 6 1 [(.lit (.string ⟨#[]⟩)),(.lit (.string ⟨#[]⟩)),(.lit (.bool false)),(.lit (.int .i64 0)),(.lit (.int .i64 0)),(.lit (.int .i64 0))] [(0,(.tmp 14))],none,0⟩,⟨(some 16),.ap 6 64 (.tmp 13) (.tmp 15),none,1⟩,⟨none,.st 1 (.tmp 5) (.tmp 16),none,2⟩] none 0 []))
theorem dc19_ok : compF Tryz.prog Tryz.f19 = some ((dc19 (rangeAt Tryz.f19 0)).er,18,[.tmp 4]) := by unfold dc19;kernel_rfl
theorem rg19 : rangeAt Tryz.f19 0 = .rangeFunc (.tmp 10) #[11,12] (rangeAsg (rangeAt Tryz.f19 0)) (rangeBody (rangeAt Tryz.f19 0)) := by kernel_rfl
theorem da19_ok : comp Tryz.prog (rangeAsg (rangeAt Tryz.f19 0)) = some da19.er := by unfold da19;kernel_rfl
theorem db19_ok : comp Tryz.prog (rangeBody (rangeAt Tryz.f19 0)) = some db19.er := by unfold db19;kernel_rfl
theorem fl19 : da19.er.flat = true ∧ db19.er.flat = true := ⟨rfl,rfl⟩
theorem sc19 : (rangeAsg (rangeAt Tryz.f19 0)).scopes = false ∧ (rangeBody (rangeAt Tryz.f19 0)).scopes = false := ⟨by kernel_rfl,by kernel_rfl⟩
end Go.Proofs.YthlhbgedidipkaaGreat
/- slices.Insert: what is of no type: its four roads as laws on memory, and what they come to on lists. -/
namespace Go.Proofs.YthlhbgedidipkaaGreat
open Go.RowKit
theorem run_copy_es {P : Program} (w : World) (dT sT ty elem : TypeId) (es b o dLen dCap : Nat) (a : Addr) (sLen sCap : Nat) (cs : List Value)
    (hu : P.underlying dT = some (.slice elem)) (hs : (P.info? elem).map (·.size) = some es) (hn : cs.length = Nat.min sLen dLen * es)
    (hsrc : ∀ j v, cs[j]? = some v → w.cell? (a.add j) = some v) (hc : ∀ j, j < cs.length → (w.cell? ⟨b, o + j, none⟩).isSome = true) (hf : ∀ j, j < cs.length → w.frozen? ⟨b, o + j, none⟩ = false) (h1 : ∀ v ∈ cs, v.oneCell' = true) :
    (Builtin.copy_ #[dT, sT] ty #[.slice (some ⟨b, o, none⟩) dLen dCap, .slice (some a) sLen sCap]).run P w = .ok (goInt (Nat.min sLen dLen)) (w.setCells b o cs) := by
  have hl := run_loadCells_list (P := P) w a cs hsrc
  have hst := run_storeCells_cells (P := P) b o cs 0 w (by simpa using hc) (by simpa using hf) h1
  rw [hn] at hl
  cases hq : P.info? elem with
  | none => simp [hq] at hs
  | some i =>
    have hi : i.size = es := by simpa [hq] using hs
    simp [Builtin.copy_, run_underlying hu, Builtin.lenOf, Builtin.firstCells, sizeOf, typeInfo, hq, hi, hl, hst]
theorem run_overlaps_own {P : Program} (w : World) (tS tR e : TypeId) (ht : P.underlying tS = some (.slice e)) (size : Nat) (hz : ∀ w, (Go.sizeOf e).run P w = .ok size w)
    (a b : Addr) (la ca lb cb : Nat) (hne : a.block ≠ b.block) (tA tB : TypeId) (kA kB : Nat)
    (hsa : w.shape? a.block = some (tA, kA)) (hsb : w.shape? b.block = some (tB, kB)) (hkA : kA ≠ 0) (hkB : kB ≠ 0)
    (hfb : w.frozen? b = false) (hfe : w.frozen? { block := b.block, off := kB } = false) :
    (Extern.SlicesOverlaps.overlaps #[tS, tS] #[tR] #[.slice (some a) la ca, .slice (some b) lb cb]).run P w = .ok (.bool false) w := by
  have hnb : (a.block != b.block) = true := by simpa using hne
  have hnb' : (a.block == b.block) = false := by simpa using hne
  change Sem.run P (α := Value) (do
    let some t := (#[tS, tS] : Array TypeId)[0]? | stuck "slices.overlaps: no parameter types"
    let .slice elem ← underlying t | stuck "slices.overlaps: slice type expected"
    let size ← sizeOf elem
    match (some a : Option Addr), (some b : Option Addr) with
    | some a, some b =>
      if la = 0 ∨ lb = 0 ∨ size = 0 then pure (Value.bool false)
      else if a.block != b.block && (← frozen a) && (← frozen b) then unsupported .addressObserved
      else do
        if a.block != b.block then do
          noView a; noView b
          if ← mayBeOne a b then return Value.bool ((← choose (.extern "sameAddr.stringBytes" 2)) == 1)
        pure (Value.bool (a.block == b.block && a.off < b.off + lb * size && b.off < a.off + la * size))
    | _, _ => pure (Value.bool false)) w = _
  by_cases h0 : la = 0 ∨ lb = 0 ∨ size = 0
  · simp [run_underlying ht, hz, h0]
  · cases kB with
    | zero => exact absurd rfl hkB
    | succ kB =>
      cases kA with
      | zero => exact absurd rfl hkA
      | succ kA =>
        cases hfa : w.frozen? a <;> cases hfa2 : w.frozen? { block := a.block, off := kA + 1 } <;> simp [run_underlying ht, hz, h0, hnb, hnb', frozen, noView, viewAt, mayBeOne, stringish, shape, Sem.run, hsa, hsb, hfa, hfa2, hfb, hfe]
def infB (P : Program) (e : TypeId) (es : Nat) : Bool := match P.info? e with
  | some i => i.size == es && (match i.zero with | some z => z.cells.size == es | none => false) && decide (i.bytes ≤ 1000)
  | none => false
theorem infB_ok {P : Program} {e : TypeId} {es : Nat} (h : infB P e es = true) : ∃ i z, P.info? e = some i ∧ i.size = es ∧ i.zero = some z ∧ z.cells.size = es ∧ i.bytes ≤ 1000 := by
  unfold infB at h
  split at h
  · rename_i i hi
    simp only [Bool.and_eq_true, beq_iff_eq, decide_eq_true_eq] at h
    obtain ⟨⟨h1, h2⟩, h3⟩ := h
    split at h2
    · rename_i z hz
      exact ⟨i, z, hi, h1, hz, by simpa using h2, h3⟩
    · cases h2
  · cases h
/-- the four roads of slices.Insert at one element, es cells each. -/
structure InsRoads (P : Program) (k : FuncId) (es : Nat) (E : TypeId) : Prop where
  shift : ∀ (b n c i vb voff vc : Nat) (cs vs : List Value) (w : World) (tA tB : TypeId) (kA kB : Nat), i < n → n + 1 ≤ c → n + 1 ≤ 1000000 → vb ≠ b → cs.length = n * es → vs.length = es →
    (∀ j v, cs[j]? = some v → w.cell? ⟨b, j, none⟩ = some v) → (∀ j, j < (n + 1) * es → (w.cell? ⟨b, j, none⟩).isSome = true) → (∀ j, j < (n + 1) * es → w.frozen? ⟨b, j, none⟩ = false) →
    (∀ j v, vs[j]? = some v → w.cell? ⟨vb, voff + j, none⟩ = some v) → (∀ v ∈ cs, v.oneCell' = true) → (∀ v ∈ vs, v.oneCell' = true) →
    w.shape? vb = some (tA, kA) → w.shape? b = some (tB, kB) → kA ≠ 0 → kB ≠ 0 → w.frozen? ⟨b, kB, none⟩ = false →
    Calls P k #[.slice (some ⟨b, 0, none⟩) n c, .int .i64 i, .slice (some ⟨vb, voff, none⟩) 1 vc] w fun e w' =>
      e = .returned (.slice (some ⟨b, 0, none⟩) (n + 1) c) ∧ w' = (w.drew.setCells b ((i + 1) * es) (cs.drop (i * es))).setCells b (i * es) vs
  end_room : ∀ (b n c vb voff vc : Nat) (vs : List Value) (w : World), n + 1 ≤ c → n + 1 ≤ 1000000 → vs.length = es →
    (∀ j, j < es → (w.cell? ⟨b, n * es + j, none⟩).isSome = true) → (∀ j, j < es → w.frozen? ⟨b, n * es + j, none⟩ = false) →
    (∀ j v, vs[j]? = some v → w.cell? ⟨vb, voff + j, none⟩ = some v) → (∀ v ∈ vs, v.oneCell' = true) →
    Calls P k #[.slice (some ⟨b, 0, none⟩) n c, .int .i64 n, .slice (some ⟨vb, voff, none⟩) 1 vc] w fun e w' =>
      e = .returned (.slice (some ⟨b, 0, none⟩) (n + 1) c) ∧ w' = w.setCells b (n * es) vs
  end_grow : ∀ (base : Option Addr) (n c vb voff vc : Nat) (cs vs : List Value) (w : World), n ≤ c → c < n + 1 → n + 1 ≤ 1000000 → cs.length = n * es → vs.length = es → (base = none → n = 0) →
    (∀ a, base = some a → ∀ j v, cs[j]? = some v → w.cell? (a.add j) = some v) → (∀ j v, vs[j]? = some v → w.cell? ⟨vb, voff + j, none⟩ = some v) → (∀ v ∈ vs, v.oneCell' = true) →
    Calls P k #[.slice base n c, .int .i64 n, .slice (some ⟨vb, voff, none⟩) 1 vc] w fun e w' =>
      ∃ zs : Array Value, e = .returned (.slice (some ⟨w.heap.size, 0, none⟩) (n + 1) (grownCap w (n + 1) c E)) ∧ w' = w.drew.alloc (.cells ((cs ++ vs).toArray ++ zs) E)
  grow : ∀ (b n c i vb voff vc : Nat) (cs vs : List Value) (w : World), i < n → n ≤ c → c < n + 1 → n + 1 ≤ 1000000 → cs.length = n * es → vs.length = es →
    (∀ j v, cs[j]? = some v → w.cell? ⟨b, j, none⟩ = some v) → (∀ j v, vs[j]? = some v → w.cell? ⟨vb, voff + j, none⟩ = some v) → (∀ v ∈ cs, v.oneCell' = true) → (∀ v ∈ vs, v.oneCell' = true) →
    Calls P k #[.slice (some ⟨b, 0, none⟩) n c, .int .i64 i, .slice (some ⟨vb, voff, none⟩) 1 vc] w fun e w' =>
      ∃ ROW : Array Value, (n + 1) * es ≤ ROW.size ∧ (∀ (j : Nat) (v : Value), (cs.take (i * es))[j]? = some v → ROW[j]? = some v) ∧ e = .returned (.slice (some ⟨w.heap.size, 0, none⟩) (n + 1) (grownCap w (n + 1) c E)) ∧
        w' = (((w.alloc (.cells ROW E)).drew.setCells w.heap.size (i * es) vs).drew).setCells w.heap.size ((i + 1) * es) (cs.drop (i * es))
/-- own cells, written and then read as a plain list. -/
theorem place_aft {P : Program} {B : Nat} {m0 m : Mem} {bk : Bks} {w w' : World} {st : List Slot} {id b sz cap es : Nat} {cs : List V} {xs : List V} (hsim : Sim B m0 m bk w' (st.set id (.live cs 0))) (hid : id < st.length) (hbk : bk id = some (b, sz)) (hc : xs.length ≤ cap) (hs : cap * es ≤ sz)
    (hcs : cs = xs.flatMap V.cells) (hes : ∀ x ∈ xs, x.cells.length = es) (h0 : V.idlt.belowL 0 cs = true) (hb : Bel B w w') : Aft B m0 m bk w (st.set id .dead) (.sl xs false) (.slice (some ⟨b, 0, none⟩) xs.length cap) w' := by
  have hi : (st.set id (.live cs 0))[id]? = some (.live cs 0) := by rw [List.getElem?_set, if_pos rfl, if_pos hid]
  obtain ⟨m', g1, g2⟩ := hsim.freeze hi (Nat.zero_le _) (Nat.le_refl cs.length)
  rw [List.set_set] at g1
  have hi2 : (st.set id (.live cs cs.length))[id]? = some (.live cs cs.length) := by rw [List.getElem?_set, if_pos rfl, if_pos hid]
  have hlen : (xs.flatMap V.cells).length = xs.length * es := by
    rw [List.length_flatMap, show xs.map (fun x => x.cells.length) = xs.map (fun _ => es) from List.map_congr_left hes, List.map_const']
    simp
  have hr : Rep m' bk (.slice (some ⟨b, 0, none⟩) xs.length cap) (.osl id 0 xs.length es false) := .osl hbk hc (fun e => by cases e) (by omega)
  have hf : FzC (st.set id (.live cs cs.length)) (.osl id 0 xs.length es false) (.sl xs false) [id] :=
    .osl (fun e => by cases e) hi2 (by rw [hcs]; omega) (by rw [hcs]; omega) rfl hes (by rw [hcs, List.drop_zero, ← hlen, List.take_length]) (hcs ▸ h0)
  have hr2 := hf.rep g1 hr
  have g3 := g1.dead id (by rw [hi2]; simp)
  rw [List.set_set] at g3
  exact ⟨m', bk, g3, hr2.mono (fun _ _ h => h) (fun _ _ h => by cases h), g2, fun _ _ h => h, hb⟩
def insAt? {α : Type} (l : List α) (at_ : Int) (x : α) : Option (List α) := if 0 ≤ at_ ∧ at_ ≤ l.length ∧ l.length + 1 ≤ 1000000 then some (l.take at_.toNat ++ x :: l.drop at_.toNat) else none
theorem rep_lit1 {m : Mem} {bk : Bks} {c v : Value} (h : Rep m bk c (.lit v)) : c = v := by cases h; rfl
theorem cargs3 {cargs : Array Value} (h : cargs.size = 3) : ∃ a b c, cargs = #[a, b, c] :=
  ⟨cargs[0], cargs[1], cargs[2], by apply Array.ext; simp [h]; intro i a b; simp at b; match i, b with | 0, _ => rfl | 1, _ => rfl | 2, _ => rfl⟩
theorem cellsM_take {α : Type} {f : α → V} {es : Nat} (hes : ∀ a, (f a).cells.length = es) (l : List α) (i : Nat) (hi : i ≤ l.length) : cellsM f (l.take i) = (cellsM f l).take (i * es) ∧ cellsM f (l.drop i) = (cellsM f l).drop (i * es) := by
  have h1 : cellsM f l = cellsM f (l.take i) ++ cellsM f (l.drop i) := by rw [← cellsM_app', List.take_append_drop]
  have h2 : (cellsM f (l.take i)).length = i * es := by rw [cellsM_len hes, List.length_take, Nat.min_eq_left hi]
  constructor
  · rw [h1, ← h2, List.take_left]
  · rw [h1, ← h2, List.drop_left]
theorem ins_get (cs vs : List Value) (p k : Nat) (hp : p ≤ cs.length) : (cs.take p ++ vs ++ cs.drop p)[k]? = if k < p then cs[k]? else if k < p + vs.length then vs[k - p]? else (cs.drop p)[k - p - vs.length]? := by
  have hl : (cs.take p).length = p := by rw [List.length_take]; omega
  rw [List.append_assoc, List.getElem?_append, hl]
  by_cases h : k < p
  · rw [if_pos h, if_pos h, List.getElem?_take, if_pos h]
  · rw [if_neg h, if_neg h, List.getElem?_append]
    by_cases h2 : k - p < vs.length
    · rw [if_pos h2, if_pos (by omega)]
    · rw [if_neg h2, if_neg (by omega)]
theorem ins_of {P : Program} {k : FuncId} {es : Nat} {E : TypeId} (hR : InsRoads P k es E) (hes0 : 0 < es) {α : Type} {f : α → V} (hes : ∀ a, (f a).cells.length = es) (hone : ∀ a, ∀ u ∈ (f a).cells, u.one = true) (h0 : ∀ a, V.idlt.belowL 0 (f a).cells = true)
    {id : Nat} {st : List Slot} (l : List α) (fu fv : Bool) (at_ : Int) (x : α) (hi : st[id]? = some (.live (cellsM f l) 0)) : ∀ L, insAt? l at_ x = some L → CallsS P k [.osl id 0 l.length es fu, .i at_, .sl [f x] fv] st (.sl (L.map f) false) (st.set id .dead) := by
  intro L hL
  unfold insAt? at hL
  split at hL
  · rename_i hb
    obtain ⟨hb0, hb1, hb2⟩ := hb
    obtain ⟨i, rfl⟩ := Int.eq_ofNat_of_zero_le hb0
    simp only [Option.some.injEq, Int.toNat_natCast] at hL
    have hin : i ≤ l.length := by omega
    intro B m0 m bk w cargs hg hsim hargs
    obtain ⟨hsz, hrp⟩ := hargs
    obtain ⟨c0, c1, c2, rfl⟩ := cargs3 hsz
    have hr0 : Rep m bk c0 (.osl id 0 l.length es fu) := hrp 0 (by simp) (by simp)
    have hr1 : Rep m bk c1 (.i i) := hrp 1 (by simp) (by simp)
    have hr2 : Rep m bk c2 (.sl [f x] fv) := hrp 2 (by simp) (by simp)
    have e1 := rep_lit1 hr1
    subst e1
    obtain ⟨vb, vo, vc, us, rfl, hvm, hvr⟩ : ∃ (vb vo vc : Nat) (us : Nat → Value), c2 = .slice (some ⟨vb, vo, none⟩) 1 vc ∧ (∀ j, j < es → m ⟨vb, vo + j, none⟩ = some (us j)) ∧ (∀ j (hj : j < (f x).cells.length), Rep m noBk (us j) (f x).cells[j]) := by
      cases hr2 with
      | @sl _ b o n cap es' _ _ us hn hcc hf hes' h1 hm hr =>
        have e : [f x].flatMap V.cells = (f x).cells := by simp
        refine ⟨b, o, cap, us, by rw [hn]; rfl, fun j hj => hm j (by rw [e, hes]; exact hj), fun j hj => ?_⟩
        have := hr j (by rw [e]; exact hj)
        simpa only [e] using this
    cases hr0 with
    | @osl _ _ b sz _ n cap _ _ hbk hcap hful hszc =>
    obtain ⟨arr, t, lo, hi', hlv, hrep⟩ := sim_live hsim hi hbk
    have hM := cellsM_len hes l
    have hfit := hlv.fit
    have hsize := hlv.size
    have hfree := hlv.free
    rw [hM] at hfit hrep
    generalize hq : l.length * es = q at *
    obtain ⟨p, hp⟩ : ∃ p, p = i * es := ⟨_, rfl⟩
    have hpq : p ≤ q := by rw [hp, ← hq]; exact Nat.mul_le_mul_right _ hin
    have hi1 : (i + 1) * es = p + es := by rw [Nat.succ_mul, hp]
    have hn1 : (l.length + 1) * es = q + es := by rw [Nat.succ_mul, hq]
    obtain ⟨cs, hcsd⟩ : ∃ cs, cs = arr.toList.take q := ⟨_, rfl⟩
    obtain ⟨vs, hvsd⟩ : ∃ vs, vs = (List.range es).map us := ⟨_, rfl⟩
    rw [← hcsd] at hrep
    have hcl : cs.length = q := by rw [hcsd]; simp; omega
    have hvl : vs.length = es := by rw [hvsd]; simp
    have hca : ∀ j, j < q → cs[j]? = arr[j]? := fun j hj => by rw [hcsd, List.getElem?_take, if_pos hj, Array.getElem?_toList]
    have hcell : ∀ j, w.cell? ⟨b, j, none⟩ = arr[j]? := fun j => by simp [World.cell?, hlv.heap]
    have hcs : ∀ j v, cs[j]? = some v → w.cell? ⟨b, j, none⟩ = some v := fun j v h => by
      have hj : j < q := by have := (List.getElem?_eq_some_iff.1 h).1; omega
      rw [hcell, ← hca j hj, h]
    have hvs : ∀ j v, vs[j]? = some v → w.cell? ⟨vb, vo + j, none⟩ = some v := fun j v h => by
      have hj : j < es := by have := (List.getElem?_eq_some_iff.1 h).1; omega
      rw [hvsd, List.getElem?_map, List.getElem?_range hj] at h
      rw [← h]
      exact hsim.mem _ _ (hvm j hj)
    have hvb : vb ≠ b := by
      intro e
      have h1 := hvm 0 hes0
      rw [e] at h1
      rw [hlv.mu _ (Nat.zero_le _)] at h1
      cases h1
    have h1c : ∀ v ∈ cs, v.oneCell' = true := rep_one_cells hrep hlv.one
    have hrv : RepL m noBk vs (f x).cells := ⟨by rw [hvl, hes], fun j g1 g2 => by
      have := hvr j g2
      simpa only [hvsd, List.getElem_map, List.getElem_range] using this⟩
    have h1v : ∀ v ∈ vs, v.oneCell' = true := rep_one_cells hrv (hone x)
    have hfz : ∀ j, w.frozen? ⟨b, j, none⟩ = false := fun j => by
      simp only [World.frozen?, hlv.heap, Bool.and_eq_false_iff, decide_eq_false_iff_not]
      omega
    have hct := cellsM_take hes l i hin
    have hcM : cellsM f L = (cellsM f l).take p ++ (f x).cells ++ (cellsM f l).drop p := by
      rw [← hL, cellsM_app', hct.1, ← hp, List.append_assoc]
      have : cellsM f (x :: l.drop i) = (f x).cells ++ cellsM f (l.drop i) := by unfold cellsM; rw [List.flatMap_cons]
      rw [this, hct.2, ← hp]
    have hLl : (L.map f).length = l.length + 1 := by rw [← hL]; simp; omega
    have hML : (cellsM f L).length = q + es := by rw [cellsM_len hes, ← hn1]; congr 1; simpa using hLl
    have hvals : RepL m bk (cs.take p ++ vs ++ cs.drop p) (cellsM f L) := by
      rw [hcM]
      exact ((hrep.take p).append ⟨hrv.1, fun j g1 g2 => (hrv.2 j g1 g2).mono (fun _ _ h => h) fun _ _ h => by cases h⟩).append (hrep.drop p)
    obtain ⟨vals, hvd⟩ : ∃ vals, vals = cs.take p ++ vs ++ cs.drop p := ⟨_, rfl⟩
    have hget := fun k => ins_get cs vs p k (by omega)
    rw [← hvd] at hvals
    simp only [← hvd] at hget
    have hvll : vals.length = q + es := by rw [hvals.1, hML]
    have hone' : ∀ u ∈ cellsM f L, u.one = true := fun u hu => by
      unfold cellsM at hu
      obtain ⟨a, _, ha⟩ := List.mem_flatMap.1 hu
      exact hone a u ha
    have h0' : V.idlt.belowL 0 (cellsM f L) = true := cellsM_idlt h0 L
    have hxs : ∀ y ∈ L.map f, y.cells.length = es := fun y hy => by obtain ⟨a, _, rfl⟩ := List.mem_map.1 hy; exact hes a
    have PL : ∀ (w' : World) (arr' : Array Value), l.length + 1 ≤ cap → w'.heap[b]? = some (.cells arr' t (lo, hi')) → arr'.size = arr.size → w'.heap.size = w.heap.size → (∀ k, k ≠ b → w'.heap[k]? = w.heap[k]?) → w'.os = w.os → w'.tape = w.tape → w'.output = w.output →
        (∀ k, k < q + es → arr'[k]? = vals[k]?) → Aft B m0 m bk w (st.set id .dead) (.sl (L.map f) false) (.slice (some ⟨b, 0, none⟩) (l.length + 1) cap) w' := by
      intro w' arr' hroom g1 g2 g4 g5 g6 g7 g8 ga
      have hmul : (l.length + 1) * es ≤ cap * es := Nat.mul_le_mul_right _ hroom
      have hw := hsim.write (cs' := cellsM f L) hi hlv g1 g2 g4 g5 (fun k hk => absurd hk (Nat.not_lt_zero _)) (by omega) hone' (fun k hk => by
        have hk' : k < vals.length := by omega
        refine ⟨vals[k], ?_, hvals.2 k hk' hk⟩
        rw [ga k (by omega), List.getElem?_eq_getElem hk'])
      have := place_aft (xs := L.map f) (cap := cap) (es := es) (P := P) (w := w) (B := B) hw (List.getElem?_eq_some_iff.1 hi).1 hbk (by rw [hLl]; exact hroom) (by omega) (cellsM_map f L).symm hxs h0' (Bel.write g6 g7 g8 hlv.heap g1 g2 g4 g5 hlv.own)
      rwa [hLl] at this
    have GR : ∀ (w' : World) (arr' : Array Value) (E' : TypeId) (cap' : Nat), l.length + 1 ≤ cap' → Below w.heap.size w w' → w'.heap[w.heap.size]? = some (.cells arr' E' (0, 0)) → q + es ≤ arr'.size → (∀ k, k < q + es → arr'[k]? = vals[k]?) →
        Aft B m0 m bk w (st.set id .dead) (.sl (L.map f) false) (.slice (some ⟨w.heap.size, 0, none⟩) (l.length + 1) cap') w' := by
      intro w' arr' E' cap' hroom hbel hh hsz' ga
      have hd := hsim.dead id (by rw [hi]; simp)
      have := row_aft (xs := L.map f) (full := false) (cap := cap') (es := es) hd hbel hh (by rw [hLl]; exact hroom) (fun e => by cases e) hxs (by rw [cellsM_map]; exact hone') (by rw [cellsM_map, hML]; exact hsz') (fun k hk => by
        rw [cellsM_map] at hk
        have hk' : k < vals.length := by omega
        refine ⟨vals[k], by rw [ga k (by omega), List.getElem?_eq_getElem hk'], ?_⟩
        simp only [cellsM_map]
        exact (hvals.2 k hk' hk).zero (belowL_get h0' k hk))
      rwa [hLl] at this
    have hshb : w.shape? b = some (t, arr.size) := by simp [World.shape?, hlv.heap]
    obtain ⟨tA, kA, hsa, hkA⟩ : ∃ tA kA, w.shape? vb = some (tA, kA) ∧ kA ≠ 0 := by
      have h := hsim.mem _ _ (hvm 0 hes0)
      simp only [World.cell?] at h
      split at h
      · rename_i c e fr hc
        refine ⟨e, c.size, by simp [World.shape?, hc], ?_⟩
        have h' : c[vo + 0]? = some (us 0) := h
        obtain ⟨hl, _⟩ := Array.getElem?_eq_some_iff.1 h'
        omega
      · cases h
    have fr_of : ∀ (k : Nat) (a : Array Value), arr.size ≤ a.size → True := fun _ _ _ => trivial
    by_cases hend : i = l.length
    · subst hend
      have hpq' : p = q := by rw [hp, hq]
      by_cases hroom : l.length + 1 ≤ cap
      · have hmul : (l.length + 1) * es ≤ cap * es := Nat.mul_le_mul_right _ hroom
        have h := hR.end_room b l.length cap vb vo vc vs w hroom hb2 hvl (fun j hj => by rw [hq, hcell]; have : q + j < arr.size := by omega
                                                                                         simp [this]) (fun j hj => hfz _) hvs h1v
        refine h.mono ?_
        rintro e w' ⟨rfl, rfl⟩
        rw [hq]
        obtain ⟨⟨arr', g1, g2, g3⟩, g4, g5, g6, g7, g8⟩ := setCells_heap b t (lo, hi') vs q w arr hlv.heap (by omega)
        refine ⟨_, rfl, PL _ arr' hroom g1 g2 g4 g5 g6 g7 g8 fun k hk => ?_⟩
        rw [g3, hget]
        by_cases h1 : k < p
        · rw [if_neg (by omega), if_pos h1, hca k (by omega)]
        · rw [if_neg h1, if_pos (by omega), if_pos (by omega), hpq']
      · have h := hR.end_grow (some ⟨b, 0, none⟩) l.length cap vb vo vc cs vs w hcap (by omega) hb2 (by rw [hcl, hq]) hvl (fun e => by cases e) (fun a ha j v hj => by
          simp only [Option.some.injEq] at ha
          subst ha
          rw [Addr.add_lit, Nat.zero_add]
          exact hcs j v hj) hvs h1v
        refine h.mono ?_
        rintro e w' ⟨zs, rfl, rfl⟩
        refine ⟨_, rfl, GR _ _ E _ (grownCap_ge w _ _ _) (((Below.refl w.heap.size w).drew).alloc (Nat.le_refl _) _) (by show (w.heap.push _)[w.heap.size]? = _; rw [Array.getElem?_push_size]) (by simp; omega) fun k hk => ?_⟩
        rw [hget, Array.getElem?_append_left (by simp; omega), List.getElem?_toArray, List.getElem?_append, hcl]
        by_cases h1 : k < q
        · rw [if_pos h1, if_pos (by omega)]
        · rw [if_neg h1, if_neg (by omega), if_pos (by omega), hpq']
    · have hlt : i < l.length := by omega
      have hdl : (cs.drop p).length = q - p := by rw [List.length_drop, hcl]
      have hpq2 : p + es ≤ q := by
        have : (i + 1) * es ≤ l.length * es := Nat.mul_le_mul_right _ (by omega)
        omega
      by_cases hroom : l.length + 1 ≤ cap
      · have hmul : (l.length + 1) * es ≤ cap * es := Nat.mul_le_mul_right _ hroom
        have h := hR.shift b l.length cap i vb vo vc cs vs w tA t kA arr.size hlt hroom hb2 hvb (by rw [hcl, hq]) hvl hcs (fun j hj => by
          rw [hcell]
          have : j < arr.size := by omega
          simp [this]) (fun j hj => hfz _) hvs h1c h1v hsa hshb hkA (by omega) (hfz _)
        refine h.mono ?_
        rintro e w' ⟨rfl, rfl⟩
        rw [hi1, ← hp]
        obtain ⟨⟨arr1, a1, a2, a3⟩, a4, a5, a6, a7, a8⟩ := setCells_heap b t (lo, hi') (cs.drop p) (p + es) w.drew arr hlv.heap (by omega)
        obtain ⟨⟨arr', g1, g2, g3⟩, g4, g5, g6, g7, g8⟩ := setCells_heap b t (lo, hi') vs p _ arr1 a1 (by omega)
        refine ⟨_, rfl, PL _ arr' hroom g1 (g2.trans a2) (g4.trans a4) (fun k hk => (g5 k hk).trans (a5 k hk)) (g6.trans a6) (g7.trans a7) (g8.trans a8) fun k hk => ?_⟩
        rw [g3, a3, hget]
        by_cases h1 : k < p
        · rw [if_neg (by omega), if_neg (by omega), if_pos h1, hca k (by omega)]
        · rw [if_neg h1]
          by_cases h2 : k < p + vs.length
          · rw [if_pos (by omega), if_pos h2]
          · rw [if_neg (by omega), if_neg h2, if_pos (by omega)]
            congr 1
            omega
      · have h := hR.grow b l.length cap i vb vo vc cs vs w hlt hcap (by omega) hb2 (by rw [hcl, hq]) hvl hcs hvs h1c h1v
        refine h.mono ?_
        rintro e w' ⟨ROW, r1, r2, rfl, rfl⟩
        rw [hi1, ← hp]
        rw [hn1] at r1
        rw [← hp] at r2
        have hh0 : (w.alloc (.cells ROW E)).drew.heap[w.heap.size]? = some (.cells ROW E (0, 0)) := by show (w.heap.push _)[w.heap.size]? = _; rw [Array.getElem?_push_size]
        obtain ⟨⟨arr1, a1, a2, a3⟩, a4, a5, a6, a7, a8⟩ := setCells_heap w.heap.size E (0, 0) vs p _ ROW hh0 (by omega)
        obtain ⟨⟨arr', g1, g2, g3⟩, g4, g5, g6, g7, g8⟩ := setCells_heap w.heap.size E (0, 0) (cs.drop p) (p + es) (((w.alloc (.cells ROW E)).drew.setCells w.heap.size p vs).drew) arr1 a1 (by omega)
        have hs0 : (w.alloc (.cells ROW E)).drew.heap.size = w.heap.size + 1 := by show (w.heap.push _).size = _; simp
        refine ⟨_, rfl, GR _ arr' E _ (grownCap_ge w _ _ _) ⟨(g6.trans a6), (g7.trans a7), (g8.trans a8), ?_, fun k hk => ?_⟩ g1 (by rw [g2, a2]; exact r1) fun k hk => ?_⟩
        · rw [g4]
          show w.heap.size ≤ ((w.alloc (.cells ROW E)).drew.setCells w.heap.size p vs).heap.size
          rw [a4, hs0]; omega
        · rw [g5 k (by omega)]
          show ((w.alloc (.cells ROW E)).drew.setCells w.heap.size p vs).heap[k]? = _
          rw [a5 k (by omega)]
          show (w.heap.push _)[k]? = _
          rw [Array.getElem?_push, if_neg (by omega)]
        · rw [g3, a3, hget]
          by_cases h1 : k < p
          · rw [if_neg (by omega), if_neg (by omega), if_pos h1]
            have hk' : k < cs.length := by omega
            rw [List.getElem?_eq_getElem hk']
            exact r2 k _ (by rw [List.getElem?_take, if_pos h1, List.getElem?_eq_getElem hk'])
          · rw [if_neg h1]
            by_cases h2 : k < p + vs.length
            · rw [if_neg (by omega), if_pos (by omega), if_pos h2]
            · rw [if_pos (by omega), if_neg h2]
              congr 1
              omega
  · cases hL
/-- .. and in nothing. -/
theorem ins_nil {P : Program} {k : FuncId} {es : Nat} {E : TypeId} (hR : InsRoads P k es E) (hes0 : 0 < es) {α : Type} {f : α → V} (hes : ∀ a, (f a).cells.length = es) (hone : ∀ a, ∀ u ∈ (f a).cells, u.one = true) (h0 : ∀ a, V.idlt.belowL 0 (f a).cells = true)
    (fv : Bool) (at_ : Int) (x : α) : CallsO P k [.sl (List.map f []) true, .i at_, .sl [f x] fv] (fun L : List α => V.sl (L.map f) false) (insAt? [] at_ x) := by
  intro L hL
  unfold insAt? at hL
  split at hL
  · rename_i hb
    obtain ⟨hb0, hb1, hb2⟩ := hb
    have ha : at_ = 0 := by simp at hb1; omega
    subst ha
    simp only [Option.some.injEq] at hL
    simp at hL
    subst hL
    intro m w cargs hg hm hargs
    obtain ⟨hsz, hrp⟩ := hargs
    obtain ⟨c0, c1, c2, rfl⟩ := cargs3 hsz
    have hr0 : Rep m noBk c0 (.sl [] true) := hrp 0 (by simp) (by simp)
    have hr1 : Rep m noBk c1 (.i 0) := hrp 1 (by simp) (by simp)
    have hr2 : Rep m noBk c2 (.sl [f x] fv) := hrp 2 (by simp) (by simp)
    have e1 := rep_lit1 hr1
    subst e1
    obtain ⟨vb, vo, vc, us, rfl, hvm, hvr⟩ : ∃ (vb vo vc : Nat) (us : Nat → Value), c2 = .slice (some ⟨vb, vo, none⟩) 1 vc ∧ (∀ j, j < es → m ⟨vb, vo + j, none⟩ = some (us j)) ∧ (∀ j (hj : j < (f x).cells.length), Rep m noBk (us j) (f x).cells[j]) := by
      cases hr2 with
      | @sl _ b o n cap es' _ _ us hn hcc hf hes' h1 hm hr =>
        have e : [f x].flatMap V.cells = (f x).cells := by simp
        refine ⟨b, o, cap, us, by rw [hn]; rfl, fun j hj => hm j (by rw [e, hes]; exact hj), fun j hj => ?_⟩
        have := hr j (by rw [e]; exact hj)
        simpa only [e] using this
    obtain ⟨a, n, cap, rfl, hn, hca⟩ : ∃ a n cap, c0 = .slice a n cap ∧ n = 0 ∧ cap = 0 := by
      cases hr0 with
      | sl hn _ hf => exact ⟨_, _, _, rfl, by simpa using hn, by rw [hf rfl]; simpa using hn⟩
      | slnil hf => exact ⟨_, _, _, rfl, rfl, hf rfl⟩
    subst hn hca
    obtain ⟨vs, hvsd⟩ : ∃ vs, vs = (List.range es).map us := ⟨_, rfl⟩
    have hvl : vs.length = es := by rw [hvsd]; simp
    have hvs : ∀ j v, vs[j]? = some v → w.cell? ⟨vb, vo + j, none⟩ = some v := fun j v h => by
      have hj : j < es := by have := (List.getElem?_eq_some_iff.1 h).1; omega
      rw [hvsd, List.getElem?_map, List.getElem?_range hj] at h
      rw [← h]
      exact hm _ _ (hvm j hj)
    have hrv : RepL m noBk vs (f x).cells := ⟨by rw [hvl, hes], fun j g1 g2 => by
      have := hvr j g2
      simpa only [hvsd, List.getElem_map, List.getElem_range] using this⟩
    have h1v : ∀ v ∈ vs, v.oneCell' = true := rep_one_cells hrv (hone x)
    have h := hR.end_grow a 0 0 vb vo vc [] vs w (Nat.le_refl _) (by omega) (by omega) (by simp) hvl (fun _ => rfl) (fun _ _ j v hj => by simp at hj) hvs h1v
    refine h.mono ?_
    rintro e w' ⟨zs, rfl, rfl⟩
    have hsim : Sim w.heap.size m m noBk w [] := ⟨Nat.le_refl _, hm, fun _ _ h => h, fun _ _ h => .inl h, fun _ _ _ h => by simp at h, fun _ _ _ _ _ _ _ _ h => by simp at h, fun _ _ => rfl⟩
    have hcx : [f x].flatMap V.cells = (f x).cells := by simp
    obtain ⟨m', bk', g1, g2, g3, g4, g5⟩ := row_aft (xs := [f x]) (full := false) (cap := grownCap w 1 0 E) (es := es) hsim (w' := w.drew.alloc (.cells (([] ++ vs).toArray ++ zs) E)) (((Below.refl w.heap.size w).drew).alloc (Nat.le_refl _) _) (by show (w.heap.push _)[w.heap.size]? = _; rw [Array.getElem?_push_size]) (grownCap_ge w 1 0 E) (fun e => by cases e)
      (fun y hy => by rw [List.mem_singleton.1 hy]; exact hes x) (by rw [hcx]; exact hone x) (by rw [hcx, hes]; simp; omega) (fun k hk => by
        rw [hcx] at hk
        have hk' : k < vs.length := by rw [hvl, ← hes x]; exact hk
        refine ⟨vs[k], by rw [Array.getElem?_append_left (by simpa using hk')]; simp [hk'], ?_⟩
        simp only [hcx]
        exact hrv.2 k hk' hk)
    exact ⟨_, m', rfl, g5.toBelow, g1.mem, g3, fun a u h => (g1.old a u h), (g2.zero (by rfl)), ⟩
  · cases hL
end Go.Proofs.YthlhbgedidipkaaGreat
/- Own lists: slices.Clone, what slices.Insert leaves, calls that only read an own list. -/
namespace Go.Proofs.YthlhbgedidipkaaGreat
open Go.RowKit
/-- slices.Clone at elements of es cells. -/
structure CloRoads (P : Program) (k : FuncId) (es : Nat) (E : TypeId) : Prop where
  some_ : ∀ (A : Addr) (n c : Nat) (cs : List Value) (w : World), 0 < n → n ≤ 1000000 → cs.length = n * es → (∀ j v, cs[j]? = some v → w.cell? (A.add j) = some v) → (∀ v ∈ cs, v.oneCell' = true) →
    Calls P k #[.slice (some A) n c] w fun e w' => ∃ ZS : Array Value, e = .returned (.slice (some ⟨w.heap.size + 1, 0, none⟩) n (grownCap (w.alloc (.cells #[] E)) n 0 E)) ∧ w' = (w.alloc (.cells #[] E)).drew.alloc (.cells (cs.toArray ++ ZS) E) ∧ grownCap (w.alloc (.cells #[] E)) n 0 E * es ≤ (cs.toArray ++ ZS).size
  zero_ : ∀ (A : Addr) (c : Nat) (w : World), Calls P k #[.slice (some A) 0 c] w fun e w' => e = .returned (.slice (some ⟨w.heap.size, 0, none⟩) 0 0) ∧ ∃ q, w' = (w.alloc (.cells #[] E)).drewN q
  nil_ : ∀ (n c : Nat) (w : World), Calls P k #[.slice none n c] w fun e w' => e = .returned (.slice none 0 0) ∧ w' = w
def clone? {α : Type} (l : List α) : Option (List α) := if l.length ≤ 1000000 then some l else none
theorem cargs1 {cargs : Array Value} (h : cargs.size = 1) : ∃ a, cargs = #[a] :=
  ⟨cargs[0], by apply Array.ext; simp [h]; intro i a b; simp at b; subst b; rfl⟩
theorem clo_ne {P : Program} {k : FuncId} {es : Nat} {E : TypeId} (hR : CloRoads P k es E) {α : Type} {f : α → V} (hes : ∀ a, (f a).cells.length = es) (hone : ∀ a, ∀ u ∈ (f a).cells, u.one = true)
    {id : Nat} {st : List Slot} (l : List α) (fu : Bool) (hne : l ≠ []) (hl : l.length ≤ 1000000) (hi : st[id]? = some .fresh) : CallsS P k [.sl (l.map f) fu] st (.osl id 0 l.length es false) (st.set id (.live (cellsM f l) 0)) := by
  intro B m0 m bk w cargs hg hsim hargs
  obtain ⟨hsz, hrp⟩ := hargs
  obtain ⟨c0, rfl⟩ := cargs1 hsz
  have hr0 : Rep m bk c0 (.sl (l.map f) fu) := hrp 0 (by simp) (by simp)
  have hpos : 0 < l.length := List.length_pos_iff.2 hne
  obtain ⟨b, o, cap, us, rfl, hvm, hvr⟩ : ∃ (b o cap : Nat) (us : Nat → Value), c0 = .slice (some ⟨b, o, none⟩) l.length cap ∧ (∀ j, j < (cellsM f l).length → m ⟨b, o + j, none⟩ = some (us j)) ∧ (∀ j (hj : j < (cellsM f l).length), Rep m noBk (us j) (cellsM f l)[j]) := by
    generalize hxs : l.map f = xs at hr0
    cases hr0 with
    | @sl _ b o n cap es' _ _ us hn hcc hf hes' h1 hm hr =>
      subst hxs
      rw [cellsM_map] at hm
      refine ⟨b, o, cap, us, by rw [hn]; simp, hm, fun j hj => ?_⟩
      have := hr j (by rw [cellsM_map]; exact hj)
      simpa only [cellsM_map] using this
    | slnil => simp at hxs; exact absurd hxs hne
  have hM := cellsM_len hes l
  obtain ⟨cs, hcsd⟩ : ∃ cs, cs = (List.range (cellsM f l).length).map us := ⟨_, rfl⟩
  have hcl : cs.length = (cellsM f l).length := by rw [hcsd]; simp
  have hone' : ∀ u ∈ cellsM f l, u.one = true := fun u hu => by
    unfold cellsM at hu
    obtain ⟨a, _, ha⟩ := List.mem_flatMap.1 hu
    exact hone a u ha
  have hrc : RepL m noBk cs (cellsM f l) := ⟨hcl, fun j g1 g2 => by
    have := hvr j g2
    simpa only [hcsd, List.getElem_map, List.getElem_range] using this⟩
  have h := hR.some_ ⟨b, o, none⟩ l.length cap cs w hpos hl (by rw [hcl, hM]) (fun j v hj => by
    have hj' : j < (cellsM f l).length := by have := (List.getElem?_eq_some_iff.1 hj).1; omega
    rw [hcsd, List.getElem?_map, List.getElem?_range hj'] at hj
    rw [Addr.add_lit, ← hj]
    exact hsim.mem _ _ (hvm j hj')) (rep_one_cells hrc hone')
  refine h.mono ?_
  rintro e w' ⟨ZS, rfl, rfl, hcap⟩
  have hb1 : Bel B w (w.alloc (.cells #[] E)) := (Bel.refl B w).alloc hsim.base _
  have hsim1 : Sim B m0 m bk (w.alloc (.cells #[] E)) st := hsim.world (by simp) (fun k hk => by show (w.heap.push _)[k]? = _; rw [Array.getElem?_push, if_neg (by omega)])
  obtain ⟨m', bk', g1, g2, g3, g4, g5⟩ := make_aft (w' := (w.alloc (.cells #[] E)).drew.alloc (.cells (cs.toArray ++ ZS) E)) (lo := 0) (hi := 0) (t := E) (arr := cs.toArray ++ ZS) (c := .slice (some ⟨w.heap.size + 1, 0, none⟩) l.length (grownCap (w.alloc (.cells #[] E)) l.length 0 E)) (v := .osl id 0 l.length es false) (cs := cellsM f l) hsim1 hi (.inr rfl) (Nat.le_refl _)
    (by
      rw [← hcl]
      simp only [Array.toList_append, List.take_left]
      exact ⟨hrc.1, fun j a b => (hrc.2 j a b).mono (fun _ _ h => h) fun _ _ h => by cases h⟩) hone'
    (.osl (b := w.heap.size + 1) (sz := (cs.toArray ++ ZS).size) (by simp [newBk]) (grownCap_ge _ _ _ _) (fun e => by cases e) (by rw [Nat.zero_add]; exact hcap))
  exact ⟨_, rfl, m', bk', g1, g2, g3, g4, hb1.trans g5⟩
theorem clo_nil {P : Program} {k : FuncId} {es : Nat} {E : TypeId} (hR : CloRoads P k es E) {α : Type} {f : α → V} (fu : Bool) : CallsV P k [.sl (List.map f ([] : List α)) fu] (.sl (List.map f ([] : List α)) true) := by
  intro m w cargs hg hm hargs
  obtain ⟨hsz, hrp⟩ := hargs
  obtain ⟨c0, rfl⟩ := cargs1 hsz
  have hr0 : Rep m noBk c0 (.sl [] fu) := hrp 0 (by simp) (by simp)
  obtain ⟨a, cap, rfl⟩ : ∃ a cap, c0 = .slice a 0 cap := by
    cases hr0 with
    | sl hn => exact ⟨_, _, by rw [hn]; rfl⟩
    | slnil => exact ⟨_, _, rfl⟩
  cases a with
  | none =>
    refine (hR.nil_ 0 cap w).mono ?_
    rintro e w' ⟨rfl, rfl⟩
    exact ⟨_, m, rfl, Below.refl _ _, hm, fun _ _ h => h, fun a u h => .inl h, .slnil fun _ => rfl⟩
  | some A =>
    refine (hR.zero_ A cap w).mono ?_
    rintro e w' ⟨rfl, q, rfl⟩
    have hb : Below w.heap.size w ((w.alloc (.cells #[] E)).drewN q) := by
      have h := (Below.refl w.heap.size w).alloc (Nat.le_refl _) (.cells #[] E)
      exact ⟨h.1, h.2, h.3, h.4, h.5⟩
    refine ⟨_, m, rfl, hb, fun a u h => ?_, fun _ _ h => h, fun a u h => .inl h, .slnil fun _ => rfl⟩
    have g := hm a u h
    rw [← g]
    exact World.cell?_of_block (w := w) (hb.block _ (cell_lt g))
section
variable {β : Type} {r : β} {P : Program} {st : List Slot}
theorem clone_c {k : FuncId} {es : Nat} {E : TypeId} (hR : CloRoads P k es E) {α : Type} {f : α → V} {l : List α} {X : List α → Option β} {K : V → List Nat → List Nat → List Slot → Prop} {id : Nat} {fu : Bool} (H : (clone? l).bind X = some r) (hes : ∀ a, (f a).cells.length = es) (hone : ∀ a, (f a).cells.all V.one = true)
    (hf : st[id]? = some .fresh) (hA : X [] = some r → K (.sl (List.map f []) true) [] [] st) (hB : ∀ L, X L = some r → ssetK st id (.live (cellsM f L) 0) fun st' => K (.osl id 0 L.length es false) [] [id] st') : Ask P k [.sl (l.map f) fu] st K := by
  obtain ⟨L, hL, H⟩ := bind_c H
  unfold clone? at hL
  split at hL
  · rename_i hl
    simp only [Option.some.injEq] at hL
    subst hL
    by_cases hne : l = []
    · subst hne
      exact Ask_V0 (clo_nil hR fu) rfl rfl (hA H)
    · have := hB l H
      rw [ssetK_eq] at this
      exact Ask_L (rd := []) (ef := [(id, .live (cellsM f l) 0)]) (fun st2 hl2 h2 => clo_ne hR hes (fun a u hu => List.all_eq_true.1 (hone a) u hu) l fu hne hl ((h2 id (.inr (by simp))).trans hf)) this
  · cases hL
theorem callsS_fz3 {f : FuncId} {a0 a1 a2 a2' v : V} {st' : List Slot} {rd : List Nat} (hf : FzC st a2 a2' rd) (h : CallsS P f [a0, a1, a2'] st v st') : CallsS P f [a0, a1, a2] st v st' := by
  intro B m0 m bk w cargs hg hsim hargs
  refine h B m0 m bk w cargs hg hsim ⟨hargs.1, fun j h1 h2 => ?_⟩
  rcases j with _ | _ | _ | j
  · exact hargs.2 0 h1 (by simp)
  · exact hargs.2 1 h1 (by simp)
  · exact (hf.rep hsim (hargs.2 2 h1 (by simp))).mono (fun _ _ h => h) fun _ _ h => by cases h
  · exact absurd h2 (by simp)
theorem insO_c {k : FuncId} {es : Nat} {E : TypeId} (hR : InsRoads P k es E) {α : Type} {f : α → V} {l : List α} {x : α} {at_ : Int} {X : List α → Option β} {K : V → List Nat → List Nat → List Slot → Prop} {i j fz : Nat} {fu fv : Bool} (H : (insAt? l at_ x).bind X = some r) (hes0 : 0 < es) (hes : ∀ a, (f a).cells.length = es) (hone : ∀ a, (f a).cells.all V.one = true) (h0 : ∀ a, V.idlt.belowL 0 (f a).cells = true)
    (hi : st[i]? = some (.live (cellsM f l) 0)) (hj : st[j]? = some (.live (cellsM f [x]) fz)) (hz : fz = (cellsM f [x]).length) (h : ∀ L, X L = some r → ssetK st i .dead fun st' => K (.sl (L.map f) false) [j] [i] st') : Ask P k [.osl i 0 l.length es fu, .i at_, .osl j 0 1 es fv] st K := by
  obtain ⟨L, hL, H⟩ := bind_c H
  have := h L H
  rw [ssetK_eq] at this
  exact Ask_L (rd := [j]) (ef := [(i, .dead)]) (fun st2 hl2 h2 => by
    have hf : FzC st2 (.osl j 0 1 es fv) (.sl [f x] false) [j] := fzown (l := [x]) ((h2 j (.inl (by simp))).trans hj) hz hes h0
    exact callsS_fz3 hf (ins_of hR hes0 hes (fun a u hu => List.all_eq_true.1 (hone a) u hu) h0 l fu false at_ x ((h2 i (.inr (by simp))).trans hi) L hL)) this
end
theorem insN_v {P : Program} {k : FuncId} {es : Nat} {E : TypeId} (hR : InsRoads P k es E) (hes0 : 0 < es) {α : Type} {f : α → V} (hes : ∀ a, (f a).cells.length = es) (hone : ∀ a, (f a).cells.all V.one = true) (h0 : ∀ a, V.idlt.belowL 0 (f a).cells = true)
    (fv : Bool) (at_ : Int) (x : α) : CallsO P k [.sl (List.map f []) true, .i at_, .sl (List.map f [x]) fv] (fun L : List α => V.sl (L.map f) false) (insAt? [] at_ x) := ins_nil hR hes0 hes (fun a u hu => List.all_eq_true.1 (hone a) u hu) h0 fv at_ x
theorem nil_at {α β : Type} {A : Prop} {j : Int} {X : α → Option β} {r : β} (H : (at? ([] : List α) j).bind X = some r) : A := by
  have e : at? ([] : List α) j = none := by unfold at?; split <;> simp
  rw [e] at H; cases H
/-- own lists, read for the time of a call. -/
def frzAt : List Slot → Nat → List Slot
  | [], _ => []
  | .live cs 0 :: l, 0 => .live cs cs.length :: l
  | .live cs (f + 1) :: l, 0 => .live cs (max (f + 1) cs.length) :: l
  | .fresh :: l, 0 => .fresh :: l
  | .dead :: l, 0 => .dead :: l
  | s :: l, i + 1 => s :: frzAt l i
def frzAll : List Slot → List Nat → List Slot
  | st, [] => st
  | st, i :: is => frzAll (frzAt st i) is
theorem frzAt_frz : ∀ (l : List Slot) (i : Nat), frzAt l i = l ∨ ∃ cs f, l[i]? = some (.live cs f) ∧ f ≤ cs.length ∧ frzAt l i = l.set i (.live cs cs.length)
  | [], i => .inl rfl
  | .live cs 0 :: l, 0 => .inr ⟨cs, 0, rfl, Nat.zero_le _, rfl⟩
  | .live cs (f + 1) :: l, 0 => by
    by_cases h : f + 1 ≤ cs.length
    · exact .inr ⟨cs, f + 1, rfl, h, by rw [frzAt, Nat.max_eq_right h]; rfl⟩
    · exact .inl (by rw [frzAt, Nat.max_eq_left (by omega)])
  | .fresh :: l, 0 => .inl rfl
  | .dead :: l, 0 => .inl rfl
  | s :: l, i + 1 => by
    have e : frzAt (s :: l) (i + 1) = s :: frzAt l i := by
      cases s with
      | live cs f => cases f <;> rfl
      | _ => rfl
    rcases frzAt_frz l i with h | ⟨cs, f, h1, h2, h3⟩
    · exact .inl (by rw [e, h])
    · exact .inr ⟨cs, f, by simpa using h1, h2, by rw [e, h3]; rfl⟩
theorem Sim.frzAll {B : Nat} {m0 : Mem} {bk : Bks} {w : World} : ∀ (is : List Nat) {st : List Slot} {m : Mem}, Sim B m0 m bk w st → ∃ m', Sim B m0 m' bk w (frzAll st is) ∧ ∀ a u, m a = some u → m' a = some u
  | [], st, m, h => ⟨m, h, fun _ _ h => h⟩
  | i :: is, st, m, h => by
    rw [Proofs.YthlhbgedidipkaaGreat.frzAll]
    rcases frzAt_frz st i with e | ⟨cs, f, h1, h2, e⟩
    · rw [e]; exact Sim.frzAll is h
    · obtain ⟨m1, g1, g2⟩ := h.freeze h1 h2 (Nat.le_refl _)
      rw [e]
      obtain ⟨m2, g3, g4⟩ := Sim.frzAll is g1
      exact ⟨m2, g3, fun a u h => g4 _ _ (g2 _ _ h)⟩
def V.litD : V → Bool
  | .lit _ => true
  | .agg cs | .tup cs => litL cs
  | .sl [] _ => true
  | _ => false
where litL : List V → Bool
  | [] => true
  | v :: vs => v.litD && litL vs
theorem litL_get : ∀ {l : List V}, V.litD.litL l = true → ∀ j (h : j < l.length), l[j].litD = true
  | v :: l, h, 0, _ => by simp [V.litD.litL] at h; simpa using h.1
  | v :: l, h, j + 1, hj => by simp [V.litD.litL] at h; simpa using litL_get h.2 j (by simpa using hj)
theorem Rep.litD {m : Mem} {bk : Bks} {c : Value} {v : V} (h : Rep m bk c v) : v.litD = true → ∀ (m' : Mem) (bk' : Bks), Rep m' bk' c v := by
  induction h with
  | lit h => intro _ _ _; exact .lit h
  | agg hl h1 _ ih => intro hv m' bk'; exact .agg hl h1 fun j a b => ih j a b (litL_get (by simpa [V.litD] using hv) j b) m' bk'
  | tup hl _ ih => intro hv m' bk'; exact .tup hl fun j a b => ih j a b (litL_get (by simpa [V.litD] using hv) j b) m' bk'
  | @sl bk b o n cap es full xs us hn hc hf hes h1 hm h _ =>
    intro hv m' bk'
    cases xs with
    | nil => exact .sl (us := us) hn hc hf hes h1 (fun k hk => absurd hk (by simp)) (fun k hk => absurd hk (by simp))
    | cons x xs => simp [V.litD] at hv
  | slnil hf => intro _ _ _; exact .slnil hf
  | _ => intro hv; simp [V.litD] at hv
theorem callsS_tmp {P : Program} {f : FuncId} {vs vs' : List V} {v : V} {st : List Slot} {rd : List Nat} (is : List Nat) (ha : FzA (frzAll st is) vs vs' rd) (h : CallsV P f vs' v) (hv : v.litD = true) : CallsS P f vs st v st := by
  intro B m0 m bk w cargs hg hsim hargs
  obtain ⟨m1, g1, g2⟩ := hsim.frzAll is
  have hr : RepL m1 bk cargs.toList vs := ⟨by simpa using hargs.1, fun j a b => by
    have := (hargs.2 j (by simpa using a) b).mono g2 (fun _ _ h => h)
    simpa using this⟩
  have hg1 : GM m1 := by obtain ⟨n, hn⟩ := hg; exact ⟨n, g2 _ _ hn⟩
  have ht := (ha.rep g1 hr).toA
  rw [Array.toArray_toList] at ht
  refine (h m1 w cargs hg1 g1.mem ht).mono ?_
  rintro e w' ⟨c, m', rfl, hb, _, _, _, hrc⟩
  exact ⟨c, rfl, m, bk, hsim.world hb.size (fun k hk => hb.block k hk), hrc.litD hv m bk, fun _ _ h => h, fun _ _ h => h, Bel.of hb hsim.base⟩
theorem frzAt_get : ∀ (l l2 : List Slot) (i k : Nat), l2[k]? = l[k]? → (frzAt l2 i)[k]? = (frzAt l i)[k]? := by
  have one : ∀ (l : List Slot) (i k : Nat), (frzAt l i)[k]? = if i = k then (l[k]?).map fun s => (frzAt [s] 0).headD .dead else l[k]? := by
    intro l
    induction l with
    | nil => intro i k; simp [frzAt]
    | cons s l ih =>
      intro i k
      cases i with
      | zero =>
        have e : frzAt (s :: l) 0 = (frzAt [s] 0).headD .dead :: l := by
          cases s with
          | live cs f => cases f <;> rfl
          | _ => rfl
        rw [e]
        cases k with
        | zero => simp
        | succ k => simp
      | succ i =>
        have e : frzAt (s :: l) (i + 1) = s :: frzAt l i := by
          cases s with
          | live cs f => cases f <;> rfl
          | _ => rfl
        rw [e]
        cases k with
        | zero => simp
        | succ k => simp only [List.getElem?_cons_succ, ih, Nat.add_right_cancel_iff]
  intro l l2 i k h
  rw [one, one, h]
theorem frzAll_get : ∀ (is : List Nat) (l l2 : List Slot) (k : Nat), l2[k]? = l[k]? → (frzAll l2 is)[k]? = (frzAll l is)[k]?
  | [], _, _, _, h => h
  | i :: is, l, l2, k, h => frzAll_get is _ _ k (frzAt_get l l2 i k h)
theorem askT_c {β : Type} {r : β} {P : Program} {st : List Slot} {α : Type} {enc : α → V} {m : Option α} {X : α → Option β} {f : Nat} {vs vs' : List V} {rd : List Nat} {k : V → List Nat → List Nat → List Slot → Prop} (is : List Nat) (hc : CallsO P f vs' enc m) (H : m.bind X = some r) (ha : FzA (frzAll st is) vs vs' rd) (hv : ∀ x, (enc x).litD = true)
    (h : ∀ x, X x = some r → k (enc x) rd [] st) : Ask P f vs st k := by
  obtain ⟨x, hx, H⟩ := bind_c H
  exact Ask_L (rd := rd) (ef := []) (fun st2 _ h2 => callsS_tmp is (ha.congr fun k hk => frzAll_get is _ _ k (h2 k (.inl hk))) (hc x hx) (hv x)) (h x H)
end Go.Proofs.YthlhbgedidipkaaGreat
