/- A part of the proof: 5 texts joined. -/
import Derived.Test.YthmgficajgedlaaGreatRaA10
import Derived.Shelf.Spec.SlicesInsertGrow
import Derived.KernelRfl
set_option linter.all false
/- slices.Insert: what is of no type: its four roads as laws on memory, and what they come to on lists. -/
namespace Go.Proofs.YthmgficajgedlaaGreat
open Go.RowKit
theorem run_copy_es {P : Program} (w : World) (dT sT ty elem : TypeId) (es b o dLen dCap : Nat) (a : Addr) (sLen sCap : Nat) (cs : List Value)
    (hu : P.underlying dT = some (.slice elem)) (hs : (P.info? elem).map (·.size) = some es) (hn : cs.length = Nat.min sLen dLen * es)
    (hsrc : ∀ j v, cs[j]? = some v → w.cell? (a.add j) = some v) (hc : ∀ j, j < cs.length → (w.cell? ⟨b, o + j, none⟩).isSome = true) (hf : ∀ j, j < cs.length → w.frozen? ⟨b, o + j, none⟩ = false) (h1 : ∀ v ∈ cs, v.oneCell' = true) :
    (Builtin.copy_ #[dT, sT] ty #[.slice (some ⟨b, o, none⟩) dLen dCap, .slice (some a) sLen sCap]).run P w = .ok (goInt (Nat.min sLen dLen)) (w.setCells b o cs) := by
  have hl := run_loadCells_list (P := P) w a cs hsrc
  have hst := run_storeCells_cells (P := P) b o cs 0 w (by simpa using hc) (by simpa using hf) h1
  rw [hn] at hl
  cases hq : P.info? elem with
  | none => simp [hq] at hs
  | some i =>
    have hi : i.size = es := by simpa [hq] using hs
    simp [Builtin.copy_, run_underlying hu, Builtin.lenOf, Builtin.firstCells, sizeOf, typeInfo, hq, hi, hl, hst]
theorem run_overlaps_own {P : Program} (w : World) (tS tR e : TypeId) (ht : P.underlying tS = some (.slice e)) (size : Nat) (hz : ∀ w, (Go.sizeOf e).run P w = .ok size w)
    (a b : Addr) (la ca lb cb : Nat) (hne : a.block ≠ b.block) (tA tB : TypeId) (kA kB : Nat)
    (hsa : w.shape? a.block = some (tA, kA)) (hsb : w.shape? b.block = some (tB, kB)) (hkA : kA ≠ 0) (hkB : kB ≠ 0)
    (hfb : w.frozen? b = false) (hfe : w.frozen? { block := b.block, off := kB } = false) :
    (Extern.SlicesOverlaps.overlaps #[tS, tS] #[tR] #[.slice (some a) la ca, .slice (some b) lb cb]).run P w = .ok (.bool false) w := by
  have hnb : (a.block != b.block) = true := by simpa using hne
  have hnb' : (a.block == b.block) = false := by simpa using hne
  change Sem.run P (α := Value) (do
    let some t := (#[tS, tS] : Array TypeId)[0]? | stuck "slices.overlaps: no parameter types"
    let .slice elem ← underlying t | stuck "slices.overlaps: slice type expected"
    let size ← sizeOf elem
    match (some a : Option Addr), (some b : Option Addr) with
    | some a, some b =>
      if la = 0 ∨ lb = 0 ∨ size = 0 then pure (Value.bool false)
      else if a.block != b.block && (← frozen a) && (← frozen b) then unsupported .addressObserved
      else do
        if a.block != b.block then do
          noView a; noView b
          if ← mayBeOne a b then return Value.bool ((← choose (.extern "sameAddr.stringBytes" 2)) == 1)
        pure (Value.bool (a.block == b.block && a.off < b.off + lb * size && b.off < a.off + la * size))
    | _, _ => pure (Value.bool false)) w = _
  by_cases h0 : la = 0 ∨ lb = 0 ∨ size = 0
  · simp [run_underlying ht, hz, h0]
  · cases kB with
    | zero => exact absurd rfl hkB
    | succ kB =>
      cases kA with
      | zero => exact absurd rfl hkA
      | succ kA =>
        cases hfa : w.frozen? a <;> cases hfa2 : w.frozen? { block := a.block, off := kA + 1 } <;> simp [run_underlying ht, hz, h0, hnb, hnb', frozen, noView, viewAt, mayBeOne, stringish, shape, Sem.run, hsa, hsb, hfa, hfa2, hfb, hfe]
def infB (P : Program) (e : TypeId) (es : Nat) : Bool := match P.info? e with
  | some i => i.size == es && (match i.zero with | some z => z.cells.size == es | none => false) && decide (i.bytes ≤ 1000)
  | none => false
theorem infB_ok {P : Program} {e : TypeId} {es : Nat} (h : infB P e es = true) : ∃ i z, P.info? e = some i ∧ i.size = es ∧ i.zero = some z ∧ z.cells.size = es ∧ i.bytes ≤ 1000 := by
  unfold infB at h
  split at h
  · rename_i i hi
    simp only [Bool.and_eq_true, beq_iff_eq, decide_eq_true_eq] at h
    obtain ⟨⟨h1, h2⟩, h3⟩ := h
    split at h2
    · rename_i z hz
      exact ⟨i, z, hi, h1, hz, by simpa using h2, h3⟩
    · cases h2
  · cases h
/-- the four roads of slices.Insert at one element, es cells each. -/
structure InsRoads (P : Program) (k : FuncId) (es : Nat) (E : TypeId) : Prop where
  shift : ∀ (b n c i vb voff vc : Nat) (cs vs : List Value) (w : World) (tA tB : TypeId) (kA kB : Nat), i < n → n + 1 ≤ c → n + 1 ≤ 1000000 → vb ≠ b → cs.length = n * es → vs.length = es →
    (∀ j v, cs[j]? = some v → w.cell? ⟨b, j, none⟩ = some v) → (∀ j, j < (n + 1) * es → (w.cell? ⟨b, j, none⟩).isSome = true) → (∀ j, j < (n + 1) * es → w.frozen? ⟨b, j, none⟩ = false) →
    (∀ j v, vs[j]? = some v → w.cell? ⟨vb, voff + j, none⟩ = some v) → (∀ v ∈ cs, v.oneCell' = true) → (∀ v ∈ vs, v.oneCell' = true) →
    w.shape? vb = some (tA, kA) → w.shape? b = some (tB, kB) → kA ≠ 0 → kB ≠ 0 → w.frozen? ⟨b, kB, none⟩ = false →
    Calls P k #[.slice (some ⟨b, 0, none⟩) n c, .int .i64 i, .slice (some ⟨vb, voff, none⟩) 1 vc] w fun e w' =>
      e = .returned (.slice (some ⟨b, 0, none⟩) (n + 1) c) ∧ w' = (w.drew.setCells b ((i + 1) * es) (cs.drop (i * es))).setCells b (i * es) vs
  end_room : ∀ (b n c vb voff vc : Nat) (vs : List Value) (w : World), n + 1 ≤ c → n + 1 ≤ 1000000 → vs.length = es →
    (∀ j, j < es → (w.cell? ⟨b, n * es + j, none⟩).isSome = true) → (∀ j, j < es → w.frozen? ⟨b, n * es + j, none⟩ = false) →
    (∀ j v, vs[j]? = some v → w.cell? ⟨vb, voff + j, none⟩ = some v) → (∀ v ∈ vs, v.oneCell' = true) →
    Calls P k #[.slice (some ⟨b, 0, none⟩) n c, .int .i64 n, .slice (some ⟨vb, voff, none⟩) 1 vc] w fun e w' =>
      e = .returned (.slice (some ⟨b, 0, none⟩) (n + 1) c) ∧ w' = w.setCells b (n * es) vs
  end_grow : ∀ (base : Option Addr) (n c vb voff vc : Nat) (cs vs : List Value) (w : World), n ≤ c → c < n + 1 → n + 1 ≤ 1000000 → cs.length = n * es → vs.length = es → (base = none → n = 0) →
    (∀ a, base = some a → ∀ j v, cs[j]? = some v → w.cell? (a.add j) = some v) → (∀ j v, vs[j]? = some v → w.cell? ⟨vb, voff + j, none⟩ = some v) → (∀ v ∈ vs, v.oneCell' = true) →
    Calls P k #[.slice base n c, .int .i64 n, .slice (some ⟨vb, voff, none⟩) 1 vc] w fun e w' =>
      ∃ zs : Array Value, e = .returned (.slice (some ⟨w.heap.size, 0, none⟩) (n + 1) (grownCap w (n + 1) c E)) ∧ w' = w.drew.alloc (.cells ((cs ++ vs).toArray ++ zs) E)
  grow : ∀ (b n c i vb voff vc : Nat) (cs vs : List Value) (w : World), i < n → n ≤ c → c < n + 1 → n + 1 ≤ 1000000 → cs.length = n * es → vs.length = es →
    (∀ j v, cs[j]? = some v → w.cell? ⟨b, j, none⟩ = some v) → (∀ j v, vs[j]? = some v → w.cell? ⟨vb, voff + j, none⟩ = some v) → (∀ v ∈ cs, v.oneCell' = true) → (∀ v ∈ vs, v.oneCell' = true) →
    Calls P k #[.slice (some ⟨b, 0, none⟩) n c, .int .i64 i, .slice (some ⟨vb, voff, none⟩) 1 vc] w fun e w' =>
      ∃ ROW : Array Value, (n + 1) * es ≤ ROW.size ∧ (∀ (j : Nat) (v : Value), (cs.take (i * es))[j]? = some v → ROW[j]? = some v) ∧ e = .returned (.slice (some ⟨w.heap.size, 0, none⟩) (n + 1) (grownCap w (n + 1) c E)) ∧
        w' = (((w.alloc (.cells ROW E)).drew.setCells w.heap.size (i * es) vs).drew).setCells w.heap.size ((i + 1) * es) (cs.drop (i * es))
/-- own cells, written and then read as a plain list. -/
theorem place_aft {P : Program} {B : Nat} {m0 m : Mem} {bk : Bks} {w w' : World} {st : List Slot} {id b sz cap es : Nat} {cs : List V} {xs : List V} (hsim : Sim B m0 m bk w' (st.set id (.live cs 0))) (hid : id < st.length) (hbk : bk id = some (b, sz)) (hc : xs.length ≤ cap) (hs : cap * es ≤ sz)
    (hcs : cs = xs.flatMap V.cells) (hes : ∀ x ∈ xs, x.cells.length = es) (h0 : V.idlt.belowL 0 cs = true) (hb : Below B w w') : Aft B m0 m bk w (st.set id .dead) (.sl xs false) (.slice (some ⟨b, 0, none⟩) xs.length cap) w' := by
  have hi : (st.set id (.live cs 0))[id]? = some (.live cs 0) := by rw [List.getElem?_set, if_pos rfl, if_pos hid]
  obtain ⟨m', g1, g2⟩ := hsim.freeze hi (Nat.zero_le _) (Nat.le_refl cs.length)
  rw [List.set_set] at g1
  have hi2 : (st.set id (.live cs cs.length))[id]? = some (.live cs cs.length) := by rw [List.getElem?_set, if_pos rfl, if_pos hid]
  have hlen : (xs.flatMap V.cells).length = xs.length * es := by
    rw [List.length_flatMap, show xs.map (fun x => x.cells.length) = xs.map (fun _ => es) from List.map_congr_left hes, List.map_const']
    simp
  have hr : Rep m' bk (.slice (some ⟨b, 0, none⟩) xs.length cap) (.osl id 0 xs.length es false) := .osl hbk hc (fun e => by cases e) (by omega)
  have hf : FzC (st.set id (.live cs cs.length)) (.osl id 0 xs.length es false) (.sl xs false) [id] :=
    .osl (fun e => by cases e) hi2 (by rw [hcs]; omega) (by rw [hcs]; omega) rfl hes (by rw [hcs, List.drop_zero, ← hlen, List.take_length]) (hcs ▸ h0)
  have hr2 := hf.rep g1 hr
  have g3 := g1.dead id (by rw [hi2]; simp)
  rw [List.set_set] at g3
  exact ⟨m', bk, g3, hr2.mono (fun _ _ h => h) (fun _ _ h => by cases h), g2, fun _ _ h => h, hb⟩
def insAt? {α : Type} (l : List α) (at_ : Int) (x : α) : Option (List α) := if 0 ≤ at_ ∧ at_ ≤ l.length ∧ l.length + 1 ≤ 1000000 then some (l.take at_.toNat ++ x :: l.drop at_.toNat) else none
theorem rep_lit1 {m : Mem} {bk : Bks} {c v : Value} (h : Rep m bk c (.lit v)) : c = v := by cases h; rfl
theorem cargs3 {cargs : Array Value} (h : cargs.size = 3) : ∃ a b c, cargs = #[a, b, c] :=
  ⟨cargs[0], cargs[1], cargs[2], by apply Array.ext; simp [h]; intro i a b; simp at b; match i, b with | 0, _ => rfl | 1, _ => rfl | 2, _ => rfl⟩
theorem cellsM_take {α : Type} {f : α → V} {es : Nat} (hes : ∀ a, (f a).cells.length = es) (l : List α) (i : Nat) (hi : i ≤ l.length) : cellsM f (l.take i) = (cellsM f l).take (i * es) ∧ cellsM f (l.drop i) = (cellsM f l).drop (i * es) := by
  have h1 : cellsM f l = cellsM f (l.take i) ++ cellsM f (l.drop i) := by rw [← cellsM_app', List.take_append_drop]
  have h2 : (cellsM f (l.take i)).length = i * es := by rw [cellsM_len hes, List.length_take, Nat.min_eq_left hi]
  constructor
  · rw [h1, ← h2, List.take_left]
  · rw [h1, ← h2, List.drop_left]
theorem ins_get (cs vs : List Value) (p k : Nat) (hp : p ≤ cs.length) : (cs.take p ++ vs ++ cs.drop p)[k]? = if k < p then cs[k]? else if k < p + vs.length then vs[k - p]? else (cs.drop p)[k - p - vs.length]? := by
  have hl : (cs.take p).length = p := by rw [List.length_take]; omega
  rw [List.append_assoc, List.getElem?_append, hl]
  by_cases h : k < p
  · rw [if_pos h, if_pos h, List.getElem?_take, if_pos h]
  · rw [if_neg h, if_neg h, List.getElem?_append]
    by_cases h2 : k - p < vs.length
    · rw [if_pos h2, if_pos (by omega)]
    · rw [if_neg h2, if_neg (by omega)]
theorem ins_of {P : Program} {k : FuncId} {es : Nat} {E : TypeId} (hR : InsRoads P k es E) (hes0 : 0 < es) {α : Type} {f : α → V} (hes : ∀ a, (f a).cells.length = es) (hone : ∀ a, ∀ u ∈ (f a).cells, u.one = true) (h0 : ∀ a, V.idlt.belowL 0 (f a).cells = true)
    {id : Nat} {st : List Slot} (l : List α) (fu fv : Bool) (at_ : Int) (x : α) (hi : st[id]? = some (.live (cellsM f l) 0)) : ∀ L, insAt? l at_ x = some L → CallsS P k [.osl id 0 l.length es fu, .i at_, .sl [f x] fv] st (.sl (L.map f) false) (st.set id .dead) := by
  intro L hL
  unfold insAt? at hL
  split at hL
  · rename_i hb
    obtain ⟨hb0, hb1, hb2⟩ := hb
    obtain ⟨i, rfl⟩ := Int.eq_ofNat_of_zero_le hb0
    simp only [Option.some.injEq, Int.toNat_natCast] at hL
    have hin : i ≤ l.length := by omega
    intro B m0 m bk w cargs hg hsim hargs
    obtain ⟨hsz, hrp⟩ := hargs
    obtain ⟨c0, c1, c2, rfl⟩ := cargs3 hsz
    have hr0 : Rep m bk c0 (.osl id 0 l.length es fu) := hrp 0 (by simp) (by simp)
    have hr1 : Rep m bk c1 (.i i) := hrp 1 (by simp) (by simp)
    have hr2 : Rep m bk c2 (.sl [f x] fv) := hrp 2 (by simp) (by simp)
    have e1 := rep_lit1 hr1
    subst e1
    obtain ⟨vb, vo, vc, us, rfl, hvm, hvr⟩ : ∃ (vb vo vc : Nat) (us : Nat → Value), c2 = .slice (some ⟨vb, vo, none⟩) 1 vc ∧ (∀ j, j < es → m ⟨vb, vo + j, none⟩ = some (us j)) ∧ (∀ j (hj : j < (f x).cells.length), Rep m noBk (us j) (f x).cells[j]) := by
      cases hr2 with
      | @sl _ b o n cap es' _ _ us hn hcc hf hes' h1 hm hr =>
        have e : [f x].flatMap V.cells = (f x).cells := by simp
        refine ⟨b, o, cap, us, by rw [hn]; rfl, fun j hj => hm j (by rw [e, hes]; exact hj), fun j hj => ?_⟩
        have := hr j (by rw [e]; exact hj)
        simpa only [e] using this
    cases hr0 with
    | @osl _ _ b sz _ n cap _ _ hbk hcap hful hszc =>
    obtain ⟨arr, t, lo, hi', hlv, hrep⟩ := sim_live hsim hi hbk
    have hM := cellsM_len hes l
    have hfit := hlv.fit
    have hsize := hlv.size
    have hfree := hlv.free
    rw [hM] at hfit hrep
    generalize hq : l.length * es = q at *
    obtain ⟨p, hp⟩ : ∃ p, p = i * es := ⟨_, rfl⟩
    have hpq : p ≤ q := by rw [hp, ← hq]; exact Nat.mul_le_mul_right _ hin
    have hi1 : (i + 1) * es = p + es := by rw [Nat.succ_mul, hp]
    have hn1 : (l.length + 1) * es = q + es := by rw [Nat.succ_mul, hq]
    obtain ⟨cs, hcsd⟩ : ∃ cs, cs = arr.toList.take q := ⟨_, rfl⟩
    obtain ⟨vs, hvsd⟩ : ∃ vs, vs = (List.range es).map us := ⟨_, rfl⟩
    rw [← hcsd] at hrep
    have hcl : cs.length = q := by rw [hcsd]; simp; omega
    have hvl : vs.length = es := by rw [hvsd]; simp
    have hca : ∀ j, j < q → cs[j]? = arr[j]? := fun j hj => by rw [hcsd, List.getElem?_take, if_pos hj, Array.getElem?_toList]
    have hcell : ∀ j, w.cell? ⟨b, j, none⟩ = arr[j]? := fun j => by simp [World.cell?, hlv.heap]
    have hcs : ∀ j v, cs[j]? = some v → w.cell? ⟨b, j, none⟩ = some v := fun j v h => by
      have hj : j < q := by have := (List.getElem?_eq_some_iff.1 h).1; omega
      rw [hcell, ← hca j hj, h]
    have hvs : ∀ j v, vs[j]? = some v → w.cell? ⟨vb, vo + j, none⟩ = some v := fun j v h => by
      have hj : j < es := by have := (List.getElem?_eq_some_iff.1 h).1; omega
      rw [hvsd, List.getElem?_map, List.getElem?_range hj] at h
      rw [← h]
      exact hsim.mem _ _ (hvm j hj)
    have hvb : vb ≠ b := by
      intro e
      have h1 := hvm 0 hes0
      rw [e] at h1
      rw [hlv.mu _ (Nat.zero_le _)] at h1
      cases h1
    have h1c : ∀ v ∈ cs, v.oneCell' = true := rep_one_cells hrep hlv.one
    have hrv : RepL m noBk vs (f x).cells := ⟨by rw [hvl, hes], fun j g1 g2 => by
      have := hvr j g2
      simpa only [hvsd, List.getElem_map, List.getElem_range] using this⟩
    have h1v : ∀ v ∈ vs, v.oneCell' = true := rep_one_cells hrv (hone x)
    have hfz : ∀ j, w.frozen? ⟨b, j, none⟩ = false := fun j => by
      simp only [World.frozen?, hlv.heap, Bool.and_eq_false_iff, decide_eq_false_iff_not]
      omega
    have hct := cellsM_take hes l i hin
    have hcM : cellsM f L = (cellsM f l).take p ++ (f x).cells ++ (cellsM f l).drop p := by
      rw [← hL, cellsM_app', hct.1, ← hp, List.append_assoc]
      have : cellsM f (x :: l.drop i) = (f x).cells ++ cellsM f (l.drop i) := by unfold cellsM; rw [List.flatMap_cons]
      rw [this, hct.2, ← hp]
    have hLl : (L.map f).length = l.length + 1 := by rw [← hL]; simp; omega
    have hML : (cellsM f L).length = q + es := by rw [cellsM_len hes, ← hn1]; congr 1; simpa using hLl
    have hvals : RepL m bk (cs.take p ++ vs ++ cs.drop p) (cellsM f L) := by
      rw [hcM]
      exact ((hrep.take p).append ⟨hrv.1, fun j g1 g2 => (hrv.2 j g1 g2).mono (fun _ _ h => h) fun _ _ h => by cases h⟩).append (hrep.drop p)
    obtain ⟨vals, hvd⟩ : ∃ vals, vals = cs.take p ++ vs ++ cs.drop p := ⟨_, rfl⟩
    have hget := fun k => ins_get cs vs p k (by omega)
    rw [← hvd] at hvals
    simp only [← hvd] at hget
    have hvll : vals.length = q + es := by rw [hvals.1, hML]
    have hone' : ∀ u ∈ cellsM f L, u.one = true := fun u hu => by
      unfold cellsM at hu
      obtain ⟨a, _, ha⟩ := List.mem_flatMap.1 hu
      exact hone a u ha
    have h0' : V.idlt.belowL 0 (cellsM f L) = true := cellsM_idlt h0 L
    have hxs : ∀ y ∈ L.map f, y.cells.length = es := fun y hy => by obtain ⟨a, _, rfl⟩ := List.mem_map.1 hy; exact hes a
    have PL : ∀ (w' : World) (arr' : Array Value), l.length + 1 ≤ cap → w'.heap[b]? = some (.cells arr' t (lo, hi')) → arr'.size = arr.size → w'.heap.size = w.heap.size → (∀ k, k ≠ b → w'.heap[k]? = w.heap[k]?) → w'.os = w.os → w'.tape = w.tape → w'.output = w.output →
        (∀ k, k < q + es → arr'[k]? = vals[k]?) → Aft B m0 m bk w (st.set id .dead) (.sl (L.map f) false) (.slice (some ⟨b, 0, none⟩) (l.length + 1) cap) w' := by
      intro w' arr' hroom g1 g2 g4 g5 g6 g7 g8 ga
      have hmul : (l.length + 1) * es ≤ cap * es := Nat.mul_le_mul_right _ hroom
      have hw := hsim.write (cs' := cellsM f L) hi hlv g1 g2 g4 g5 (fun k hk => absurd hk (Nat.not_lt_zero _)) (by omega) hone' (fun k hk => by
        have hk' : k < vals.length := by omega
        refine ⟨vals[k], ?_, hvals.2 k hk' hk⟩
        rw [ga k (by omega), List.getElem?_eq_getElem hk'])
      have := place_aft (xs := L.map f) (cap := cap) (es := es) (P := P) (w := w) (B := B) hw (List.getElem?_eq_some_iff.1 hi).1 hbk (by rw [hLl]; exact hroom) (by omega) (cellsM_map f L).symm hxs h0' ⟨g6, g7, g8, by rw [g4]; exact Nat.le_refl _, fun k hk => g5 k (by have := hlv.own; omega)⟩
      rwa [hLl] at this
    have GR : ∀ (w' : World) (arr' : Array Value) (E' : TypeId) (cap' : Nat), l.length + 1 ≤ cap' → Below w.heap.size w w' → w'.heap[w.heap.size]? = some (.cells arr' E' (0, 0)) → q + es ≤ arr'.size → (∀ k, k < q + es → arr'[k]? = vals[k]?) →
        Aft B m0 m bk w (st.set id .dead) (.sl (L.map f) false) (.slice (some ⟨w.heap.size, 0, none⟩) (l.length + 1) cap') w' := by
      intro w' arr' E' cap' hroom hbel hh hsz' ga
      have hd := hsim.dead id (by rw [hi]; simp)
      have := row_aft (xs := L.map f) (full := false) (cap := cap') (es := es) hd hbel hh (by rw [hLl]; exact hroom) (fun e => by cases e) hxs (by rw [cellsM_map]; exact hone') (by rw [cellsM_map, hML]; exact hsz') (fun k hk => by
        rw [cellsM_map] at hk
        have hk' : k < vals.length := by omega
        refine ⟨vals[k], by rw [ga k (by omega), List.getElem?_eq_getElem hk'], ?_⟩
        simp only [cellsM_map]
        exact (hvals.2 k hk' hk).zero (belowL_get h0' k hk))
      rwa [hLl] at this
    have hshb : w.shape? b = some (t, arr.size) := by simp [World.shape?, hlv.heap]
    obtain ⟨tA, kA, hsa, hkA⟩ : ∃ tA kA, w.shape? vb = some (tA, kA) ∧ kA ≠ 0 := by
      have h := hsim.mem _ _ (hvm 0 hes0)
      simp only [World.cell?] at h
      split at h
      · rename_i c e fr hc
        refine ⟨e, c.size, by simp [World.shape?, hc], ?_⟩
        have h' : c[vo + 0]? = some (us 0) := h
        obtain ⟨hl, _⟩ := Array.getElem?_eq_some_iff.1 h'
        omega
      · cases h
    have fr_of : ∀ (k : Nat) (a : Array Value), arr.size ≤ a.size → True := fun _ _ _ => trivial
    by_cases hend : i = l.length
    · subst hend
      have hpq' : p = q := by rw [hp, hq]
      by_cases hroom : l.length + 1 ≤ cap
      · have hmul : (l.length + 1) * es ≤ cap * es := Nat.mul_le_mul_right _ hroom
        have h := hR.end_room b l.length cap vb vo vc vs w hroom hb2 hvl (fun j hj => by rw [hq, hcell]; have : q + j < arr.size := by omega
                                                                                         simp [this]) (fun j hj => hfz _) hvs h1v
        refine h.mono ?_
        rintro e w' ⟨rfl, rfl⟩
        rw [hq]
        obtain ⟨⟨arr', g1, g2, g3⟩, g4, g5, g6, g7, g8⟩ := setCells_heap b t (lo, hi') vs q w arr hlv.heap (by omega)
        refine ⟨_, rfl, PL _ arr' hroom g1 g2 g4 g5 g6 g7 g8 fun k hk => ?_⟩
        rw [g3, hget]
        by_cases h1 : k < p
        · rw [if_neg (by omega), if_pos h1, hca k (by omega)]
        · rw [if_neg h1, if_pos (by omega), if_pos (by omega), hpq']
      · have h := hR.end_grow (some ⟨b, 0, none⟩) l.length cap vb vo vc cs vs w hcap (by omega) hb2 (by rw [hcl, hq]) hvl (fun e => by cases e) (fun a ha j v hj => by
          simp only [Option.some.injEq] at ha
          subst ha
          rw [Addr.add_lit, Nat.zero_add]
          exact hcs j v hj) hvs h1v
        refine h.mono ?_
        rintro e w' ⟨zs, rfl, rfl⟩
        refine ⟨_, rfl, GR _ _ E _ (grownCap_ge w _ _ _) (((Below.refl w.heap.size w).drew).alloc (Nat.le_refl _) _) (by show (w.heap.push _)[w.heap.size]? = _; rw [Array.getElem?_push_size]) (by simp; omega) fun k hk => ?_⟩
        rw [hget, Array.getElem?_append_left (by simp; omega), List.getElem?_toArray, List.getElem?_append, hcl]
        by_cases h1 : k < q
        · rw [if_pos h1, if_pos (by omega)]
        · rw [if_neg h1, if_neg (by omega), if_pos (by omega), hpq']
    · have hlt : i < l.length := by omega
      have hdl : (cs.drop p).length = q - p := by rw [List.length_drop, hcl]
      have hpq2 : p + es ≤ q := by
        have : (i + 1) * es ≤ l.length * es := Nat.mul_le_mul_right _ (by omega)
        omega
      by_cases hroom : l.length + 1 ≤ cap
      · have hmul : (l.length + 1) * es ≤ cap * es := Nat.mul_le_mul_right _ hroom
        have h := hR.shift b l.length cap i vb vo vc cs vs w tA t kA arr.size hlt hroom hb2 hvb (by rw [hcl, hq]) hvl hcs (fun j hj => by
          rw [hcell]
          have : j < arr.size := by omega
          simp [this]) (fun j hj => hfz _) hvs h1c h1v hsa hshb hkA (by omega) (hfz _)
        refine h.mono ?_
        rintro e w' ⟨rfl, rfl⟩
        rw [hi1, ← hp]
        obtain ⟨⟨arr1, a1, a2, a3⟩, a4, a5, a6, a7, a8⟩ := setCells_heap b t (lo, hi') (cs.drop p) (p + es) w.drew arr hlv.heap (by omega)
        obtain ⟨⟨arr', g1, g2, g3⟩, g4, g5, g6, g7, g8⟩ := setCells_heap b t (lo, hi') vs p _ arr1 a1 (by omega)
        refine ⟨_, rfl, PL _ arr' hroom g1 (g2.trans a2) (g4.trans a4) (fun k hk => (g5 k hk).trans (a5 k hk)) (g6.trans a6) (g7.trans a7) (g8.trans a8) fun k hk => ?_⟩
        rw [g3, a3, hget]
        by_cases h1 : k < p
        · rw [if_neg (by omega), if_neg (by omega), if_pos h1, hca k (by omega)]
        · rw [if_neg h1]
          by_cases h2 : k < p + vs.length
          · rw [if_pos (by omega), if_pos h2]
          · rw [if_neg (by omega), if_neg h2, if_pos (by omega)]
            congr 1
            omega
      · have h := hR.grow b l.length cap i vb vo vc cs vs w hlt hcap (by omega) hb2 (by rw [hcl, hq]) hvl hcs hvs h1c h1v
        refine h.mono ?_
        rintro e w' ⟨ROW, r1, r2, rfl, rfl⟩
        rw [hi1, ← hp]
        rw [hn1] at r1
        rw [← hp] at r2
        have hh0 : (w.alloc (.cells ROW E)).drew.heap[w.heap.size]? = some (.cells ROW E (0, 0)) := by show (w.heap.push _)[w.heap.size]? = _; rw [Array.getElem?_push_size]
        obtain ⟨⟨arr1, a1, a2, a3⟩, a4, a5, a6, a7, a8⟩ := setCells_heap w.heap.size E (0, 0) vs p _ ROW hh0 (by omega)
        obtain ⟨⟨arr', g1, g2, g3⟩, g4, g5, g6, g7, g8⟩ := setCells_heap w.heap.size E (0, 0) (cs.drop p) (p + es) (((w.alloc (.cells ROW E)).drew.setCells w.heap.size p vs).drew) arr1 a1 (by omega)
        have hs0 : (w.alloc (.cells ROW E)).drew.heap.size = w.heap.size + 1 := by show (w.heap.push _).size = _; simp
        refine ⟨_, rfl, GR _ arr' E _ (grownCap_ge w _ _ _) ⟨(g6.trans a6), (g7.trans a7), (g8.trans a8), ?_, fun k hk => ?_⟩ g1 (by rw [g2, a2]; exact r1) fun k hk => ?_⟩
        · rw [g4]
          show w.heap.size ≤ ((w.alloc (.cells ROW E)).drew.setCells w.heap.size p vs).heap.size
          rw [a4, hs0]; omega
        · rw [g5 k (by omega)]
          show ((w.alloc (.cells ROW E)).drew.setCells w.heap.size p vs).heap[k]? = _
          rw [a5 k (by omega)]
          show (w.heap.push _)[k]? = _
          rw [Array.getElem?_push, if_neg (by omega)]
        · rw [g3, a3, hget]
          by_cases h1 : k < p
          · rw [if_neg (by omega), if_neg (by omega), if_pos h1]
            have hk' : k < cs.length := by omega
            rw [List.getElem?_eq_getElem hk']
            exact r2 k _ (by rw [List.getElem?_take, if_pos h1, List.getElem?_eq_getElem hk'])
          · rw [if_neg h1]
            by_cases h2 : k < p + vs.length
            · rw [if_neg (by omega), if_pos (by omega), if_pos h2]
            · rw [if_pos (by omega), if_neg h2]
              congr 1
              omega
  · cases hL
/-- .. and in nothing. -/
theorem ins_nil {P : Program} {k : FuncId} {es : Nat} {E : TypeId} (hR : InsRoads P k es E) (hes0 : 0 < es) {α : Type} {f : α → V} (hes : ∀ a, (f a).cells.length = es) (hone : ∀ a, ∀ u ∈ (f a).cells, u.one = true) (h0 : ∀ a, V.idlt.belowL 0 (f a).cells = true)
    (fv : Bool) (at_ : Int) (x : α) : CallsO P k [.sl (List.map f []) true, .i at_, .sl [f x] fv] (fun L : List α => V.sl (L.map f) false) (insAt? [] at_ x) := by
  intro L hL
  unfold insAt? at hL
  split at hL
  · rename_i hb
    obtain ⟨hb0, hb1, hb2⟩ := hb
    have ha : at_ = 0 := by simp at hb1; omega
    subst ha
    simp only [Option.some.injEq] at hL
    simp at hL
    subst hL
    intro m w cargs hg hm hargs
    obtain ⟨hsz, hrp⟩ := hargs
    obtain ⟨c0, c1, c2, rfl⟩ := cargs3 hsz
    have hr0 : Rep m noBk c0 (.sl [] true) := hrp 0 (by simp) (by simp)
    have hr1 : Rep m noBk c1 (.i 0) := hrp 1 (by simp) (by simp)
    have hr2 : Rep m noBk c2 (.sl [f x] fv) := hrp 2 (by simp) (by simp)
    have e1 := rep_lit1 hr1
    subst e1
    obtain ⟨vb, vo, vc, us, rfl, hvm, hvr⟩ : ∃ (vb vo vc : Nat) (us : Nat → Value), c2 = .slice (some ⟨vb, vo, none⟩) 1 vc ∧ (∀ j, j < es → m ⟨vb, vo + j, none⟩ = some (us j)) ∧ (∀ j (hj : j < (f x).cells.length), Rep m noBk (us j) (f x).cells[j]) := by
      cases hr2 with
      | @sl _ b o n cap es' _ _ us hn hcc hf hes' h1 hm hr =>
        have e : [f x].flatMap V.cells = (f x).cells := by simp
        refine ⟨b, o, cap, us, by rw [hn]; rfl, fun j hj => hm j (by rw [e, hes]; exact hj), fun j hj => ?_⟩
        have := hr j (by rw [e]; exact hj)
        simpa only [e] using this
    obtain ⟨a, n, cap, rfl, hn, hca⟩ : ∃ a n cap, c0 = .slice a n cap ∧ n = 0 ∧ cap = 0 := by
      cases hr0 with
      | sl hn _ hf => exact ⟨_, _, _, rfl, by simpa using hn, by rw [hf rfl]; simpa using hn⟩
      | slnil hf => exact ⟨_, _, _, rfl, rfl, hf rfl⟩
    subst hn hca
    obtain ⟨vs, hvsd⟩ : ∃ vs, vs = (List.range es).map us := ⟨_, rfl⟩
    have hvl : vs.length = es := by rw [hvsd]; simp
    have hvs : ∀ j v, vs[j]? = some v → w.cell? ⟨vb, vo + j, none⟩ = some v := fun j v h => by
      have hj : j < es := by have := (List.getElem?_eq_some_iff.1 h).1; omega
      rw [hvsd, List.getElem?_map, List.getElem?_range hj] at h
      rw [← h]
      exact hm _ _ (hvm j hj)
    have hrv : RepL m noBk vs (f x).cells := ⟨by rw [hvl, hes], fun j g1 g2 => by
      have := hvr j g2
      simpa only [hvsd, List.getElem_map, List.getElem_range] using this⟩
    have h1v : ∀ v ∈ vs, v.oneCell' = true := rep_one_cells hrv (hone x)
    have h := hR.end_grow a 0 0 vb vo vc [] vs w (Nat.le_refl _) (by omega) (by omega) (by simp) hvl (fun _ => rfl) (fun _ _ j v hj => by simp at hj) hvs h1v
    refine h.mono ?_
    rintro e w' ⟨zs, rfl, rfl⟩
    have hsim : Sim w.heap.size m m noBk w [] := ⟨Nat.le_refl _, hm, fun _ _ h => h, fun _ _ h => .inl h, fun _ _ _ h => by simp at h, fun _ _ _ _ _ _ _ _ h => by simp at h, fun _ _ => rfl⟩
    have hcx : [f x].flatMap V.cells = (f x).cells := by simp
    obtain ⟨m', bk', g1, g2, g3, g4, g5⟩ := row_aft (xs := [f x]) (full := false) (cap := grownCap w 1 0 E) (es := es) hsim (w' := w.drew.alloc (.cells (([] ++ vs).toArray ++ zs) E)) (((Below.refl w.heap.size w).drew).alloc (Nat.le_refl _) _) (by show (w.heap.push _)[w.heap.size]? = _; rw [Array.getElem?_push_size]) (grownCap_ge w 1 0 E) (fun e => by cases e)
      (fun y hy => by rw [List.mem_singleton.1 hy]; exact hes x) (by rw [hcx]; exact hone x) (by rw [hcx, hes]; simp; omega) (fun k hk => by
        rw [hcx] at hk
        have hk' : k < vs.length := by rw [hvl, ← hes x]; exact hk
        refine ⟨vs[k], by rw [Array.getElem?_append_left (by simpa using hk')]; simp [hk'], ?_⟩
        simp only [hcx]
        exact hrv.2 k hk' hk)
    exact ⟨_, m', rfl, g5, g1.mem, g3, fun a u h => (g1.old a u h), (g2.zero (by rfl)), ⟩
  · cases hL
end Go.Proofs.YthmgficajgedlaaGreat
/- Own lists: slices.Clone, what slices.Insert leaves, calls that only read an own list. -/
namespace Go.Proofs.YthmgficajgedlaaGreat
open Go.RowKit
/-- slices.Clone at elements of es cells. -/
structure CloRoads (P : Program) (k : FuncId) (es : Nat) (E : TypeId) : Prop where
  some_ : ∀ (A : Addr) (n c : Nat) (cs : List Value) (w : World), 0 < n → n ≤ 1000000 → cs.length = n * es → (∀ j v, cs[j]? = some v → w.cell? (A.add j) = some v) → (∀ v ∈ cs, v.oneCell' = true) →
    Calls P k #[.slice (some A) n c] w fun e w' => ∃ ZS : Array Value, e = .returned (.slice (some ⟨w.heap.size + 1, 0, none⟩) n (grownCap (w.alloc (.cells #[] E)) n 0 E)) ∧ w' = (w.alloc (.cells #[] E)).drew.alloc (.cells (cs.toArray ++ ZS) E) ∧ grownCap (w.alloc (.cells #[] E)) n 0 E * es ≤ (cs.toArray ++ ZS).size
  zero_ : ∀ (A : Addr) (c : Nat) (w : World), Calls P k #[.slice (some A) 0 c] w fun e w' => e = .returned (.slice (some ⟨w.heap.size, 0, none⟩) 0 0) ∧ ∃ q, w' = (w.alloc (.cells #[] E)).drewN q
  nil_ : ∀ (n c : Nat) (w : World), Calls P k #[.slice none n c] w fun e w' => e = .returned (.slice none 0 0) ∧ w' = w
def clone? {α : Type} (l : List α) : Option (List α) := if l.length ≤ 1000000 then some l else none
theorem cargs1 {cargs : Array Value} (h : cargs.size = 1) : ∃ a, cargs = #[a] :=
  ⟨cargs[0], by apply Array.ext; simp [h]; intro i a b; simp at b; subst b; rfl⟩
theorem clo_ne {P : Program} {k : FuncId} {es : Nat} {E : TypeId} (hR : CloRoads P k es E) {α : Type} {f : α → V} (hes : ∀ a, (f a).cells.length = es) (hone : ∀ a, ∀ u ∈ (f a).cells, u.one = true)
    {id : Nat} {st : List Slot} (l : List α) (fu : Bool) (hne : l ≠ []) (hl : l.length ≤ 1000000) (hi : st[id]? = some .fresh) : CallsS P k [.sl (l.map f) fu] st (.osl id 0 l.length es false) (st.set id (.live (cellsM f l) 0)) := by
  intro B m0 m bk w cargs hg hsim hargs
  obtain ⟨hsz, hrp⟩ := hargs
  obtain ⟨c0, rfl⟩ := cargs1 hsz
  have hr0 : Rep m bk c0 (.sl (l.map f) fu) := hrp 0 (by simp) (by simp)
  have hpos : 0 < l.length := List.length_pos_iff.2 hne
  obtain ⟨b, o, cap, us, rfl, hvm, hvr⟩ : ∃ (b o cap : Nat) (us : Nat → Value), c0 = .slice (some ⟨b, o, none⟩) l.length cap ∧ (∀ j, j < (cellsM f l).length → m ⟨b, o + j, none⟩ = some (us j)) ∧ (∀ j (hj : j < (cellsM f l).length), Rep m noBk (us j) (cellsM f l)[j]) := by
    generalize hxs : l.map f = xs at hr0
    cases hr0 with
    | @sl _ b o n cap es' _ _ us hn hcc hf hes' h1 hm hr =>
      subst hxs
      rw [cellsM_map] at hm
      refine ⟨b, o, cap, us, by rw [hn]; simp, hm, fun j hj => ?_⟩
      have := hr j (by rw [cellsM_map]; exact hj)
      simpa only [cellsM_map] using this
    | slnil => simp at hxs; exact absurd hxs hne
  have hM := cellsM_len hes l
  obtain ⟨cs, hcsd⟩ : ∃ cs, cs = (List.range (cellsM f l).length).map us := ⟨_, rfl⟩
  have hcl : cs.length = (cellsM f l).length := by rw [hcsd]; simp
  have hone' : ∀ u ∈ cellsM f l, u.one = true := fun u hu => by
    unfold cellsM at hu
    obtain ⟨a, _, ha⟩ := List.mem_flatMap.1 hu
    exact hone a u ha
  have hrc : RepL m noBk cs (cellsM f l) := ⟨hcl, fun j g1 g2 => by
    have := hvr j g2
    simpa only [hcsd, List.getElem_map, List.getElem_range] using this⟩
  have h := hR.some_ ⟨b, o, none⟩ l.length cap cs w hpos hl (by rw [hcl, hM]) (fun j v hj => by
    have hj' : j < (cellsM f l).length := by have := (List.getElem?_eq_some_iff.1 hj).1; omega
    rw [hcsd, List.getElem?_map, List.getElem?_range hj'] at hj
    rw [Addr.add_lit, ← hj]
    exact hsim.mem _ _ (hvm j hj')) (rep_one_cells hrc hone')
  refine h.mono ?_
  rintro e w' ⟨ZS, rfl, rfl, hcap⟩
  have hb1 : Below B w (w.alloc (.cells #[] E)) := (Below.refl B w).alloc hsim.base _
  have hsim1 : Sim B m0 m bk (w.alloc (.cells #[] E)) st := hsim.world (by simp) (fun k hk => by show (w.heap.push _)[k]? = _; rw [Array.getElem?_push, if_neg (by omega)])
  obtain ⟨m', bk', g1, g2, g3, g4, g5⟩ := make_aft (w' := (w.alloc (.cells #[] E)).drew.alloc (.cells (cs.toArray ++ ZS) E)) (lo := 0) (hi := 0) (t := E) (arr := cs.toArray ++ ZS) (c := .slice (some ⟨w.heap.size + 1, 0, none⟩) l.length (grownCap (w.alloc (.cells #[] E)) l.length 0 E)) (v := .osl id 0 l.length es false) (cs := cellsM f l) hsim1 hi (.inr rfl) (Nat.le_refl _)
    (by
      rw [← hcl]
      simp only [Array.toList_append, List.take_left]
      exact ⟨hrc.1, fun j a b => (hrc.2 j a b).mono (fun _ _ h => h) fun _ _ h => by cases h⟩) hone'
    (.osl (b := w.heap.size + 1) (sz := (cs.toArray ++ ZS).size) (by simp [newBk]) (grownCap_ge _ _ _ _) (fun e => by cases e) (by rw [Nat.zero_add]; exact hcap))
  exact ⟨_, rfl, m', bk', g1, g2, g3, g4, hb1.trans g5⟩
theorem clo_nil {P : Program} {k : FuncId} {es : Nat} {E : TypeId} (hR : CloRoads P k es E) {α : Type} {f : α → V} (fu : Bool) : CallsV P k [.sl (List.map f ([] : List α)) fu] (.sl (List.map f ([] : List α)) true) := by
  intro m w cargs hg hm hargs
  obtain ⟨hsz, hrp⟩ := hargs
  obtain ⟨c0, rfl⟩ := cargs1 hsz
  have hr0 : Rep m noBk c0 (.sl [] fu) := hrp 0 (by simp) (by simp)
  obtain ⟨a, cap, rfl⟩ : ∃ a cap, c0 = .slice a 0 cap := by
    cases hr0 with
    | sl hn => exact ⟨_, _, by rw [hn]; rfl⟩
    | slnil => exact ⟨_, _, rfl⟩
  cases a with
  | none =>
    refine (hR.nil_ 0 cap w).mono ?_
    rintro e w' ⟨rfl, rfl⟩
    exact ⟨_, m, rfl, Below.refl _ _, hm, fun _ _ h => h, fun a u h => .inl h, .slnil fun _ => rfl⟩
  | some A =>
    refine (hR.zero_ A cap w).mono ?_
    rintro e w' ⟨rfl, q, rfl⟩
    have hb : Below w.heap.size w ((w.alloc (.cells #[] E)).drewN q) := by
      have h := (Below.refl w.heap.size w).alloc (Nat.le_refl _) (.cells #[] E)
      exact ⟨h.1, h.2, h.3, h.4, h.5⟩
    refine ⟨_, m, rfl, hb, fun a u h => ?_, fun _ _ h => h, fun a u h => .inl h, .slnil fun _ => rfl⟩
    have g := hm a u h
    rw [← g]
    exact World.cell?_of_block (w := w) (hb.block _ (cell_lt g))
section
variable {β : Type} {r : β} {P : Program} {st : List Slot}
theorem clone_c {k : FuncId} {es : Nat} {E : TypeId} (hR : CloRoads P k es E) {α : Type} {f : α → V} {l : List α} {X : List α → Option β} {K : V → List Nat → List Nat → List Slot → Prop} {id : Nat} {fu : Bool} (H : (clone? l).bind X = some r) (hes : ∀ a, (f a).cells.length = es) (hone : ∀ a, (f a).cells.all V.one = true)
    (hf : st[id]? = some .fresh) (hA : X [] = some r → K (.sl (List.map f []) true) [] [] st) (hB : ∀ L, X L = some r → ssetK st id (.live (cellsM f L) 0) fun st' => K (.osl id 0 L.length es false) [] [id] st') : Ask P k [.sl (l.map f) fu] st K := by
  obtain ⟨L, hL, H⟩ := bind_c H
  unfold clone? at hL
  split at hL
  · rename_i hl
    simp only [Option.some.injEq] at hL
    subst hL
    by_cases hne : l = []
    · subst hne
      exact Ask_V0 (clo_nil hR fu) rfl rfl (hA H)
    · have := hB l H
      rw [ssetK_eq] at this
      exact Ask_L (rd := []) (ef := [(id, .live (cellsM f l) 0)]) (fun st2 hl2 h2 => clo_ne hR hes (fun a u hu => List.all_eq_true.1 (hone a) u hu) l fu hne hl ((h2 id (.inr (by simp))).trans hf)) this
  · cases hL
theorem callsS_fz3 {f : FuncId} {a0 a1 a2 a2' v : V} {st' : List Slot} {rd : List Nat} (hf : FzC st a2 a2' rd) (h : CallsS P f [a0, a1, a2'] st v st') : CallsS P f [a0, a1, a2] st v st' := by
  intro B m0 m bk w cargs hg hsim hargs
  refine h B m0 m bk w cargs hg hsim ⟨hargs.1, fun j h1 h2 => ?_⟩
  rcases j with _ | _ | _ | j
  · exact hargs.2 0 h1 (by simp)
  · exact hargs.2 1 h1 (by simp)
  · exact (hf.rep hsim (hargs.2 2 h1 (by simp))).mono (fun _ _ h => h) fun _ _ h => by cases h
  · exact absurd h2 (by simp)
theorem insO_c {k : FuncId} {es : Nat} {E : TypeId} (hR : InsRoads P k es E) {α : Type} {f : α → V} {l : List α} {x : α} {at_ : Int} {X : List α → Option β} {K : V → List Nat → List Nat → List Slot → Prop} {i j fz : Nat} {fu fv : Bool} (H : (insAt? l at_ x).bind X = some r) (hes0 : 0 < es) (hes : ∀ a, (f a).cells.length = es) (hone : ∀ a, (f a).cells.all V.one = true) (h0 : ∀ a, V.idlt.belowL 0 (f a).cells = true)
    (hi : st[i]? = some (.live (cellsM f l) 0)) (hj : st[j]? = some (.live (cellsM f [x]) fz)) (hz : fz = (cellsM f [x]).length) (h : ∀ L, X L = some r → ssetK st i .dead fun st' => K (.sl (L.map f) false) [j] [i] st') : Ask P k [.osl i 0 l.length es fu, .i at_, .osl j 0 1 es fv] st K := by
  obtain ⟨L, hL, H⟩ := bind_c H
  have := h L H
  rw [ssetK_eq] at this
  exact Ask_L (rd := [j]) (ef := [(i, .dead)]) (fun st2 hl2 h2 => by
    have hf : FzC st2 (.osl j 0 1 es fv) (.sl [f x] false) [j] := fzown (l := [x]) ((h2 j (.inl (by simp))).trans hj) hz hes h0
    exact callsS_fz3 hf (ins_of hR hes0 hes (fun a u hu => List.all_eq_true.1 (hone a) u hu) h0 l fu false at_ x ((h2 i (.inr (by simp))).trans hi) L hL)) this
end
theorem insN_v {P : Program} {k : FuncId} {es : Nat} {E : TypeId} (hR : InsRoads P k es E) (hes0 : 0 < es) {α : Type} {f : α → V} (hes : ∀ a, (f a).cells.length = es) (hone : ∀ a, (f a).cells.all V.one = true) (h0 : ∀ a, V.idlt.belowL 0 (f a).cells = true)
    (fv : Bool) (at_ : Int) (x : α) : CallsO P k [.sl (List.map f []) true, .i at_, .sl (List.map f [x]) fv] (fun L : List α => V.sl (L.map f) false) (insAt? [] at_ x) := ins_nil hR hes0 hes (fun a u hu => List.all_eq_true.1 (hone a) u hu) h0 fv at_ x
theorem nil_at {α β : Type} {A : Prop} {j : Int} {X : α → Option β} {r : β} (H : (at? ([] : List α) j).bind X = some r) : A := by
  have e : at? ([] : List α) j = none := by unfold at?; split <;> simp
  rw [e] at H; cases H
/-- own lists, read for the time of a call. -/
def frzAt : List Slot → Nat → List Slot
  | [], _ => []
  | .live cs 0 :: l, 0 => .live cs cs.length :: l
  | .live cs (f + 1) :: l, 0 => .live cs (max (f + 1) cs.length) :: l
  | .fresh :: l, 0 => .fresh :: l
  | .dead :: l, 0 => .dead :: l
  | s :: l, i + 1 => s :: frzAt l i
def frzAll : List Slot → List Nat → List Slot
  | st, [] => st
  | st, i :: is => frzAll (frzAt st i) is
theorem frzAt_frz : ∀ (l : List Slot) (i : Nat), frzAt l i = l ∨ ∃ cs f, l[i]? = some (.live cs f) ∧ f ≤ cs.length ∧ frzAt l i = l.set i (.live cs cs.length)
  | [], i => .inl rfl
  | .live cs 0 :: l, 0 => .inr ⟨cs, 0, rfl, Nat.zero_le _, rfl⟩
  | .live cs (f + 1) :: l, 0 => by
    by_cases h : f + 1 ≤ cs.length
    · exact .inr ⟨cs, f + 1, rfl, h, by rw [frzAt, Nat.max_eq_right h]; rfl⟩
    · exact .inl (by rw [frzAt, Nat.max_eq_left (by omega)])
  | .fresh :: l, 0 => .inl rfl
  | .dead :: l, 0 => .inl rfl
  | s :: l, i + 1 => by
    have e : frzAt (s :: l) (i + 1) = s :: frzAt l i := by
      cases s with
      | live cs f => cases f <;> rfl
      | _ => rfl
    rcases frzAt_frz l i with h | ⟨cs, f, h1, h2, h3⟩
    · exact .inl (by rw [e, h])
    · exact .inr ⟨cs, f, by simpa using h1, h2, by rw [e, h3]; rfl⟩
theorem Sim.frzAll {B : Nat} {m0 : Mem} {bk : Bks} {w : World} : ∀ (is : List Nat) {st : List Slot} {m : Mem}, Sim B m0 m bk w st → ∃ m', Sim B m0 m' bk w (frzAll st is) ∧ ∀ a u, m a = some u → m' a = some u
  | [], st, m, h => ⟨m, h, fun _ _ h => h⟩
  | i :: is, st, m, h => by
    rw [Proofs.YthmgficajgedlaaGreat.frzAll]
    rcases frzAt_frz st i with e | ⟨cs, f, h1, h2, e⟩
    · rw [e]; exact Sim.frzAll is h
    · obtain ⟨m1, g1, g2⟩ := h.freeze h1 h2 (Nat.le_refl _)
      rw [e]
      obtain ⟨m2, g3, g4⟩ := Sim.frzAll is g1
      exact ⟨m2, g3, fun a u h => g4 _ _ (g2 _ _ h)⟩
def V.litD : V → Bool
  | .lit _ => true
  | .agg cs | .tup cs => litL cs
  | _ => false
where litL : List V → Bool
  | [] => true
  | v :: vs => v.litD && litL vs
theorem litL_get : ∀ {l : List V}, V.litD.litL l = true → ∀ j (h : j < l.length), l[j].litD = true
  | v :: l, h, 0, _ => by simp [V.litD.litL] at h; simpa using h.1
  | v :: l, h, j + 1, hj => by simp [V.litD.litL] at h; simpa using litL_get h.2 j (by simpa using hj)
theorem Rep.litD {m : Mem} {bk : Bks} {c : Value} {v : V} (h : Rep m bk c v) : v.litD = true → ∀ (m' : Mem) (bk' : Bks), Rep m' bk' c v := by
  induction h with
  | lit h => intro _ _ _; exact .lit h
  | agg hl h1 _ ih => intro hv m' bk'; exact .agg hl h1 fun j a b => ih j a b (litL_get (by simpa [V.litD] using hv) j b) m' bk'
  | tup hl _ ih => intro hv m' bk'; exact .tup hl fun j a b => ih j a b (litL_get (by simpa [V.litD] using hv) j b) m' bk'
  | _ => intro hv; simp [V.litD] at hv
theorem callsS_tmp {P : Program} {f : FuncId} {vs vs' : List V} {v : V} {st : List Slot} {rd : List Nat} (is : List Nat) (ha : FzA (frzAll st is) vs vs' rd) (h : CallsV P f vs' v) (hv : v.litD = true) : CallsS P f vs st v st := by
  intro B m0 m bk w cargs hg hsim hargs
  obtain ⟨m1, g1, g2⟩ := hsim.frzAll is
  have hr : RepL m1 bk cargs.toList vs := ⟨by simpa using hargs.1, fun j a b => by
    have := (hargs.2 j (by simpa using a) b).mono g2 (fun _ _ h => h)
    simpa using this⟩
  have hg1 : GM m1 := by obtain ⟨n, hn⟩ := hg; exact ⟨n, g2 _ _ hn⟩
  have ht := (ha.rep g1 hr).toA
  rw [Array.toArray_toList] at ht
  refine (h m1 w cargs hg1 g1.mem ht).mono ?_
  rintro e w' ⟨c, m', rfl, hb, _, _, _, hrc⟩
  exact ⟨c, rfl, m, bk, hsim.world hb.size (fun k hk => hb.block k hk), hrc.litD hv m bk, fun _ _ h => h, fun _ _ h => h, hb.mono hsim.base⟩
theorem frzAt_get : ∀ (l l2 : List Slot) (i k : Nat), l2[k]? = l[k]? → (frzAt l2 i)[k]? = (frzAt l i)[k]? := by
  have one : ∀ (l : List Slot) (i k : Nat), (frzAt l i)[k]? = if i = k then (l[k]?).map fun s => (frzAt [s] 0).headD .dead else l[k]? := by
    intro l
    induction l with
    | nil => intro i k; simp [frzAt]
    | cons s l ih =>
      intro i k
      cases i with
      | zero =>
        have e : frzAt (s :: l) 0 = (frzAt [s] 0).headD .dead :: l := by
          cases s with
          | live cs f => cases f <;> rfl
          | _ => rfl
        rw [e]
        cases k with
        | zero => simp
        | succ k => simp
      | succ i =>
        have e : frzAt (s :: l) (i + 1) = s :: frzAt l i := by
          cases s with
          | live cs f => cases f <;> rfl
          | _ => rfl
        rw [e]
        cases k with
        | zero => simp
        | succ k => simp only [List.getElem?_cons_succ, ih, Nat.add_right_cancel_iff]
  intro l l2 i k h
  rw [one, one, h]
theorem frzAll_get : ∀ (is : List Nat) (l l2 : List Slot) (k : Nat), l2[k]? = l[k]? → (frzAll l2 is)[k]? = (frzAll l is)[k]?
  | [], _, _, _, h => h
  | i :: is, l, l2, k, h => frzAll_get is _ _ k (frzAt_get l l2 i k h)
theorem askT_c {β : Type} {r : β} {P : Program} {st : List Slot} {α : Type} {enc : α → V} {m : Option α} {X : α → Option β} {f : Nat} {vs vs' : List V} {rd : List Nat} {k : V → List Nat → List Nat → List Slot → Prop} (is : List Nat) (hc : CallsO P f vs' enc m) (H : m.bind X = some r) (ha : FzA (frzAll st is) vs vs' rd) (hv : ∀ x, (enc x).litD = true)
    (h : ∀ x, X x = some r → k (enc x) rd [] st) : Ask P f vs st k := by
  obtain ⟨x, hx, H⟩ := bind_c H
  exact Ask_L (rd := rd) (ef := []) (fun st2 _ h2 => callsS_tmp is (ha.congr fun k hk => frzAll_get is _ _ k (h2 k (.inl hk))) (hc x hx) (hv x)) (h x H)
end Go.Proofs.YthmgficajgedlaaGreat
/- Plain functions (written by a program of mine). -/
namespace Go.Proofs.YthmgficajgedlaaGreat
open Go.RowKit
def p_ref29_Light_l1 (z5 : List Ref29Arrow) : Nat → Int → Option (Bool ⊕ Int)
  | 0, _ => none
  | n + 1, y6 =>
    bif (decide (y6 < (z5.length : Int))) then
      (at? z5 y6).bind fun x8 =>
      bif (decide ((100 : Int) < (x8.From.size : Int))) then
        some (.inl false)
      else
      (at? z5 y6).bind fun x10 =>
      bif (decide ((100 : Int) < (x10.To.size : Int))) then
        some (.inl false)
      else
      p_ref29_Light_l1 z5 n (w64 (y6 + (1 : Int)))
    else
    some (.inr y6)
def p_ref29_Light (a0 : List Ref29Arrow) : Option (Bool) :=
  bif (decide ((40 : Int) < (a0.length : Int))) then
    some false
  else
  (p_ref29_Light_l1 a0 fuel (0 : Int)).bind fun o12 => match o12 with
  | .inl q13 =>
    some q13
  | .inr q14 =>
    some true
def p_pres_Split (a0 : ByteArray) : Option (ByteArray × ByteArray × Int) :=
  (p_strings_Cut a0 (⟨#[32]⟩ : ByteArray)).bind fun v1 =>
  bif v1.2.2 then
    (p_addr_IsBare v1.1).bind fun v3 =>
    bif v3 then
      (p_addr_Resource v1.2.1).bind fun v5 =>
      bif (v5 != (0 : Int)) then
        some ((⟨#[]⟩ : ByteArray), (⟨#[]⟩ : ByteArray), v5)
      else
      some (v1.1, v1.2.1, (0 : Int))
    else
    some ((⟨#[]⟩ : ByteArray), (⟨#[]⟩ : ByteArray), (11 : Int))
  else
  some ((⟨#[]⟩ : ByteArray), (⟨#[]⟩ : ByteArray), (4 : Int))
def p_dirs_Arrow_user (a0 : Ref29Arrow) : Option (ByteArray × Bool) :=
  (p_pres_Split a0.From).bind fun v1 =>
  some (v1.1, (v1.2.2 == (0 : Int)))
def p_dirs_Arrow_wrong (a0 : Ref29Arrow) : Option (Bool) :=
  (p_dirs_Arrow_user a0).bind fun v1 =>
  bif v1.2 then
    (p_addr_IsBare a0.To).bind fun v3 =>
    some (!v3)
  else
  some true
def p_slices_IndexFunc_dirs_State_dirs_Arrow__l1 (a1 : Ref29Arrow → Option Bool) (z5 : List Ref29Arrow) (z6 : Int) : Nat → Int → Option (Int ⊕ Int)
  | 0, _ => none
  | n + 1, y7 =>
    bif (decide (y7 < z6)) then
      (at? z5 y7).bind fun x9 =>
      (a1 x9).bind fun v10 =>
      bif v10 then
        some (.inl y7)
      else
      p_slices_IndexFunc_dirs_State_dirs_Arrow__l1 a1 z5 z6 n (w64 (y7 + (1 : Int)))
    else
    some (.inr y7)
def p_slices_IndexFunc_dirs_State_dirs_Arrow_ (a0 : List Ref29Arrow) (a1 : Ref29Arrow → Option Bool) : Option (Int) :=
  (p_slices_IndexFunc_dirs_State_dirs_Arrow__l1 a1 a0 (a0.length : Int) fuel (0 : Int)).bind fun o12 => match o12 with
  | .inl q13 =>
    some q13
  | .inr q14 =>
    some (-1 : Int)
def p_slices_ContainsFunc_dirs_State_dirs_Arrow_ (a0 : List Ref29Arrow) (a1 : Ref29Arrow → Option Bool) : Option (Bool) :=
  (p_slices_IndexFunc_dirs_State_dirs_Arrow_ a0 a1).bind fun v1 =>
  some (decide ((0 : Int) ≤ v1))
def p_cmp_Or_int__l1 (z6 : List Int) (z7 : Int) : Nat → Int → Option (Int ⊕ Int)
  | 0, _ => none
  | n + 1, y8 =>
    bif (decide (y8 < z7)) then
      (at? z6 y8).bind fun x10 =>
      bif (x10 != (0 : Int)) then
        some (.inl x10)
      else
      p_cmp_Or_int__l1 z6 z7 n (w64 (y8 + (1 : Int)))
    else
    some (.inr y8)
def p_cmp_Or_int_ (a0 : List Int) : Option (Int) :=
  (p_cmp_Or_int__l1 a0 (a0.length : Int) fuel (0 : Int)).bind fun o12 => match o12 with
  | .inl q13 =>
    some q13
  | .inr q14 =>
    some (0 : Int)
def p_dirs_order (a0 : Ref29Arrow) (a1 : Ref29Arrow) : Option (Int) :=
  (p_strings_Compare a0.From a1.From).bind fun v1 =>
  (p_strings_Compare a0.To a1.To).bind fun v2 =>
  (p_cmp_Or_int_ [v1, v2]).bind fun v3 =>
  some v3
def p_dirs_Check_l1 (z7 : List Ref29Arrow) : Nat → Int → Option (Int ⊕ Int)
  | 0, _ => none
  | n + 1, y8 =>
    bif (decide (y8 < (z7.length : Int))) then
      (at? z7 (w64 (y8 - (1 : Int)))).bind fun x10 =>
      (at? z7 y8).bind fun x11 =>
      (p_dirs_order x10 x11).bind fun v12 =>
      bif (decide ((0 : Int) ≤ v12)) then
        some (.inl (10 : Int))
      else
      p_dirs_Check_l1 z7 n (w64 (y8 + (1 : Int)))
    else
    some (.inr y8)
def p_dirs_Check (a0 : List Ref29Arrow) : Option (Int) :=
  bif (decide ((32 : Int) < (a0.length : Int))) then
    some (5 : Int)
  else
  (p_slices_ContainsFunc_dirs_State_dirs_Arrow_ a0 (fun x0 => p_dirs_Arrow_wrong x0)).bind fun v2 =>
  bif v2 then
    some (11 : Int)
  else
  (p_dirs_Check_l1 a0 fuel (1 : Int)).bind fun o14 => match o14 with
  | .inl q15 =>
    some q15
  | .inr q16 =>
    some (0 : Int)
def p_slices_BinarySearchFunc_dirs_State_dirs_Arrow_dirs_Arrow__l1 (a2 : Ref29Arrow → Ref29Arrow → Option Int) (z8 : List Ref29Arrow) (z12 : Ref29Arrow) : Nat → Int → Int → Option ((Int × Int))
  | 0, _, _ => none
  | n + 1, y10, y11 =>
    bif (decide (y10 < y11)) then
      (at? z8 (w64 (shrI .u64 (IntKind.wrap .u64 (w64 (y10 + y11))) (1 : Int)))).bind fun x14 =>
      (a2 x14 z12).bind fun v15 =>
      bif (decide (v15 < (0 : Int))) then
        p_slices_BinarySearchFunc_dirs_State_dirs_Arrow_dirs_Arrow__l1 a2 z8 z12 n (w64 (w64 (shrI .u64 (IntKind.wrap .u64 (w64 (y10 + y11))) (1 : Int)) + (1 : Int))) y11
      else
      p_slices_BinarySearchFunc_dirs_State_dirs_Arrow_dirs_Arrow__l1 a2 z8 z12 n y10 (w64 (shrI .u64 (IntKind.wrap .u64 (w64 (y10 + y11))) (1 : Int)))
    else
    some (y10, y11)
def p_slices_BinarySearchFunc_dirs_State_dirs_Arrow_dirs_Arrow_ (a0 : List Ref29Arrow) (a1 : Ref29Arrow) (a2 : Ref29Arrow → Ref29Arrow → Option Int) : Option (Int × Bool) :=
  (p_slices_BinarySearchFunc_dirs_State_dirs_Arrow_dirs_Arrow__l1 a2 a0 a1 fuel (0 : Int) (a0.length : Int)).bind fun q18 =>
  bif (decide (q18.1 < (a0.length : Int))) then
    (at? a0 q18.1).bind fun x20 =>
    (a2 x20 a1).bind fun v21 =>
    some (q18.1, (v21 == (0 : Int)))
  else
  some (q18.1, false)
def p_dirs_Add (a0 : List Ref29Arrow) (a1 : ByteArray) (a2 : ByteArray) : Option ((List Ref29Arrow) × Int) :=
  (p_dirs_Check a0).bind fun v1 =>
  bif (v1 != (0 : Int)) then
    some (a0, v1)
  else
  (p_dirs_Arrow_wrong (Ref29Arrow.mk a1 a2)).bind fun v3 =>
  bif v3 then
    some (a0, (11 : Int))
  else
  (p_slices_BinarySearchFunc_dirs_State_dirs_Arrow_dirs_Arrow_ a0 (Ref29Arrow.mk a1 a2) (fun x0 x1 => p_dirs_order x0 x1)).bind fun v5 =>
  bif v5.2 then
    some (a0, (0 : Int))
  else
  bif ((a0.length : Int) == (32 : Int)) then
    some (a0, (7 : Int))
  else
  (clone? a0).bind fun l8 =>
  (insAt? l8 v5.1 (Ref29Arrow.mk a1 a2)).bind fun v9 =>
  some (v9, (0 : Int))
def p_dirs_Del_1 (a0 : Ref29Arrow) (c0 : Ref29Arrow) : Option (Bool) :=
  some ((a0.From.toList == c0.From.toList) && ((a0.To.toList == c0.To.toList) && true))
def p_dirs_State_without_l1 (a1 : Ref29Arrow → Option Bool) (z10 : List Ref29Arrow) (z11 : Int) : Nat → (List Ref29Arrow) → (List Ref29Arrow) → Int → Option (((List Ref29Arrow) × (List Ref29Arrow) × Int))
  | 0, _, _, _ => none
  | n + 1, y8, y9, y12 =>
    bif (decide (y12 < z11)) then
      (at? z10 y12).bind fun x14 =>
      (a1 x14).bind fun v15 =>
      bif v15 then
        (app? y9 [x14]).bind fun l17 =>
        p_dirs_State_without_l1 a1 z10 z11 n y8 l17 (w64 (y12 + (1 : Int)))
      else
      (app? y8 [x14]).bind fun l18 =>
      p_dirs_State_without_l1 a1 z10 z11 n l18 y9 (w64 (y12 + (1 : Int)))
    else
    some (y8, y9, y12)
def p_dirs_State_without (a0 : List Ref29Arrow) (a1 : Ref29Arrow → Option Bool) : Option ((List Ref29Arrow) × (List Ref29Arrow)) :=
  (p_dirs_State_without_l1 a1 a0 (a0.length : Int) fuel [] [] (0 : Int)).bind fun q20 =>
  some (q20.1, q20.2.1)
def p_dirs_Del (a0 : List Ref29Arrow) (a1 : ByteArray) (a2 : ByteArray) : Option ((List Ref29Arrow) × Bool) :=
  (p_dirs_Check a0).bind fun v1 =>
  bif (v1 != (0 : Int)) then
    some (a0, false)
  else
  (p_dirs_State_without a0 (fun x0 => p_dirs_Del_1 x0 (Ref29Arrow.mk a1 a2))).bind fun v3 =>
  some (v3.1, (decide ((0 : Int) < (v3.2.length : Int))))
def p_dirs_Clear_1 (a0 : Ref29Arrow) (c0 : ByteArray) : Option (Bool) :=
  some (a0.From.toList == c0.toList)
def p_dirs_State_tos_l1 (z7 : List Ref29Arrow) (z8 : Int) : Nat → (List ByteArray) → Int → Option (((List ByteArray) × Int))
  | 0, _, _ => none
  | n + 1, y6, y9 =>
    bif (decide (y9 < z8)) then
      (at? z7 y9).bind fun x11 =>
      (app? y6 [x11.To]).bind fun l12 =>
      p_dirs_State_tos_l1 z7 z8 n l12 (w64 (y9 + (1 : Int)))
    else
    some (y6, y9)
def p_dirs_State_tos (a0 : List Ref29Arrow) : Option ((List ByteArray)) :=
  (p_dirs_State_tos_l1 a0 (a0.length : Int) fuel [] (0 : Int)).bind fun q14 =>
  some q14.1
def p_dirs_Clear (a0 : List Ref29Arrow) (a1 : ByteArray) : Option ((List Ref29Arrow) × (List ByteArray)) :=
  (p_dirs_Check a0).bind fun v1 =>
  bif (v1 != (0 : Int)) then
    some (a0, [])
  else
  (p_dirs_State_without a0 (fun x0 => p_dirs_Clear_1 x0 a1)).bind fun v3 =>
  (p_dirs_State_tos v3.2).bind fun v4 =>
  some (v3.1, v4)
def p_dirs_Only_1 (a0 : Ref29Arrow) (c0 : ByteArray) (c1 : ByteArray) : Option (Bool) :=
  (p_dirs_Arrow_user a0).bind fun v1 =>
  bif (v1.1.toList == c0.toList) then
    some (a0.To.toList == c1.toList)
  else
  some false
def p_dirs_Only (a0 : List Ref29Arrow) (a1 : ByteArray) (a2 : ByteArray) : Option ((List Ref29Arrow) × Int) :=
  (p_dirs_Check a0).bind fun v1 =>
  bif (v1 != (0 : Int)) then
    some (a0, (0 : Int))
  else
  (p_dirs_State_without a0 (fun x0 => p_dirs_Only_1 x0 a1 a2)).bind fun v3 =>
  some (v3.1, (v3.2.length : Int))
def p_ref01_SameTexts_l1 (z6 : List ByteArray) (z7 : List ByteArray) : Nat → Int → Option (Bool ⊕ Int)
  | 0, _ => none
  | n + 1, y8 =>
    bif (decide (y8 < (z6.length : Int))) then
      (at? z6 y8).bind fun x10 =>
      (at? z7 y8).bind fun x11 =>
      bif (x10.toList == x11.toList) then
        p_ref01_SameTexts_l1 z6 z7 n (w64 (y8 + (1 : Int)))
      else
      some (.inl false)
    else
    some (.inr y8)
def p_ref01_SameTexts (a0 : List ByteArray) (a1 : List ByteArray) : Option (Bool) :=
  bif ((a0.length : Int) != (a1.length : Int)) then
    some false
  else
  (p_ref01_SameTexts_l1 a0 a1 fuel (0 : Int)).bind fun o13 => match o13 with
  | .inl q14 =>
    some q14
  | .inr q15 =>
    some true
def p_slices_Equal_dirs_State_dirs_Arrow__l1 (z7 : List Ref29Arrow) (z8 : List Ref29Arrow) (z9 : Int) : Nat → Int → Option (Bool ⊕ Int)
  | 0, _ => none
  | n + 1, y10 =>
    bif (decide (y10 < z9)) then
      (at? z7 y10).bind fun x12 =>
      (at? z8 y10).bind fun x13 =>
      bif ((x12.From.toList == x13.From.toList) && ((x12.To.toList == x13.To.toList) && true)) then
        p_slices_Equal_dirs_State_dirs_Arrow__l1 z7 z8 z9 n (w64 (y10 + (1 : Int)))
      else
      some (.inl false)
    else
    some (.inr y10)
def p_slices_Equal_dirs_State_dirs_Arrow_ (a0 : List Ref29Arrow) (a1 : List Ref29Arrow) : Option (Bool) :=
  bif ((a0.length : Int) != (a1.length : Int)) then
    some false
  else
  (p_slices_Equal_dirs_State_dirs_Arrow__l1 a0 a1 (a0.length : Int) fuel (0 : Int)).bind fun o15 => match o15 with
  | .inl q16 =>
    some q16
  | .inr q17 =>
    some true
def p_dirs_Same (a0 : List Ref29Arrow) (a1 : List Ref29Arrow) : Option (Bool) :=
  (p_slices_Equal_dirs_State_dirs_Arrow_ a0 a1).bind fun v1 =>
  some v1
def p_dirs_Keys_l1 (z9 : ByteArray) (z11 : List Ref29Arrow) (z12 : Int) : Nat → (List ByteArray) → Int → Option (((List ByteArray) × Int))
  | 0, _, _ => none
  | n + 1, y10, y13 =>
    bif (decide (y13 < z12)) then
      (at? z11 y13).bind fun x15 =>
      bif (x15.To.toList == z9.toList) then
        (app? y10 [x15.From]).bind fun l17 =>
        p_dirs_Keys_l1 z9 z11 z12 n l17 (w64 (y13 + (1 : Int)))
      else
      p_dirs_Keys_l1 z9 z11 z12 n y10 (w64 (y13 + (1 : Int)))
    else
    some (y10, y13)
def p_dirs_Keys (a0 : List Ref29Arrow) (a1 : ByteArray) : Option ((List ByteArray)) :=
  (p_dirs_Check a0).bind fun v1 =>
  bif (v1 != (0 : Int)) then
    some []
  else
  (p_dirs_Keys_l1 a1 a0 (a0.length : Int) fuel [] (0 : Int)).bind fun q19 =>
  some q19.1
def p_dirs_Of (a0 : List Ref29Arrow) (a1 : ByteArray) : Option ((List ByteArray)) :=
  (p_dirs_Clear a0 a1).bind fun v1 =>
  some v1.2
def p_dirs_Has (a0 : List Ref29Arrow) (a1 : ByteArray) (a2 : ByteArray) : Option (Bool) :=
  (p_dirs_Del a0 a1 a2).bind fun v1 =>
  some v1.2
def p_law29_awake : Option (Bool) :=
  (p_dirs_Add [] (⟨#[98, 64, 120, 32, 49]⟩ : ByteArray) (⟨#[99, 64, 120]⟩ : ByteArray)).bind fun v1 =>
  (p_dirs_Add v1.1 (⟨#[97, 64, 120, 32]⟩ : ByteArray) (⟨#[99, 64, 120]⟩ : ByteArray)).bind fun v2 =>
  (p_dirs_Add v2.1 (⟨#[97, 64, 120, 32]⟩ : ByteArray) (⟨#[100, 64, 120]⟩ : ByteArray)).bind fun v3 =>
  (p_dirs_Del v3.1 (⟨#[98, 64, 120, 32, 49]⟩ : ByteArray) (⟨#[99, 64, 120]⟩ : ByteArray)).bind fun v4 =>
  (p_dirs_Del v4.1 (⟨#[98, 64, 120, 32, 49]⟩ : ByteArray) (⟨#[99, 64, 120]⟩ : ByteArray)).bind fun v5 =>
  (p_dirs_Clear v3.1 (⟨#[97, 64, 120, 32]⟩ : ByteArray)).bind fun v6 =>
  (p_dirs_Only v3.1 (⟨#[98, 64, 120]⟩ : ByteArray) (⟨#[99, 64, 120]⟩ : ByteArray)).bind fun v7 =>
  (p_dirs_Add v3.1 (⟨#[97]⟩ : ByteArray) (⟨#[100, 64, 120]⟩ : ByteArray)).bind fun v8 =>
  bif (v1.2 == (0 : Int)) then
    bif (v2.2 == (0 : Int)) then
      bif (v3.2 == (0 : Int)) then
        bif v4.2 then
          bif v5.2 then
            some false
          else
          (p_ref01_SameTexts v6.2 [(⟨#[99, 64, 120]⟩ : ByteArray), (⟨#[100, 64, 120]⟩ : ByteArray)]).bind fun v14 =>
          bif v14 then
            bif ((v6.1.length : Int) == (1 : Int)) then
              bif (v7.2 == (1 : Int)) then
                (p_dirs_Same v7.1 v4.1).bind fun v18 =>
                bif v18 then
                  bif (v8.2 == (11 : Int)) then
                    (p_dirs_Keys v3.1 (⟨#[99, 64, 120]⟩ : ByteArray)).bind fun v21 =>
                    (p_ref01_SameTexts v21 [(⟨#[97, 64, 120, 32]⟩ : ByteArray), (⟨#[98, 64, 120, 32, 49]⟩ : ByteArray)]).bind fun v22 =>
                    bif v22 then
                      (p_dirs_Of v3.1 (⟨#[97, 64, 120, 32]⟩ : ByteArray)).bind fun v24 =>
                      (p_ref01_SameTexts v24 [(⟨#[99, 64, 120]⟩ : ByteArray), (⟨#[100, 64, 120]⟩ : ByteArray)]).bind fun v25 =>
                      bif v25 then
                        (p_dirs_Has v3.1 (⟨#[97, 64, 120, 32]⟩ : ByteArray) (⟨#[100, 64, 120]⟩ : ByteArray)).bind fun v27 =>
                        bif v27 then
                          (p_dirs_Has v3.1 (⟨#[98, 64, 120, 32, 49]⟩ : ByteArray) (⟨#[100, 64, 120]⟩ : ByteArray)).bind fun v29 =>
                          bif v29 then
                            some false
                          else
                          (p_dirs_Check v3.1).bind fun v31 =>
                          bif (v31 == (0 : Int)) then
                            (p_dirs_Check [(Ref29Arrow.mk (⟨#[]⟩ : ByteArray) (⟨#[]⟩ : ByteArray))]).bind fun v33 =>
                            bif (v33 == (11 : Int)) then
                              (p_dirs_Same v3.1 v4.1).bind fun v35 =>
                              bif v35 then
                                some false
                              else
                              some true
                            else
                            some false
                          else
                          some false
                        else
                        some false
                      else
                      some false
                    else
                    some false
                  else
                  some false
                else
                some false
              else
              some false
            else
            some false
          else
          some false
        else
        some false
      else
      some false
    else
    some false
  else
  some false
def p_law29_own_l1 (z5 : List Ref29Arrow) : Nat → (List Ref29Arrow) → Int → Option (((List Ref29Arrow) × Int))
  | 0, _, _ => none
  | n + 1, y6, y7 =>
    bif (decide (y7 < (z5.length : Int))) then
      (at? z5 y7).bind fun x9 =>
      (app? y6 [x9]).bind fun l10 =>
      p_law29_own_l1 z5 n l10 (w64 (y7 + (1 : Int)))
    else
    some (y6, y7)
def p_law29_own (a0 : List Ref29Arrow) : Option ((List Ref29Arrow)) :=
  (p_law29_own_l1 a0 fuel [] (0 : Int)).bind fun q12 =>
  some q12.1
def p_ref23_Split_l1 (z6 : ByteArray) : Nat → Int → Option (Int)
  | 0, _ => none
  | n + 1, y7 =>
    bif (decide (y7 < (z6.size : Int))) then
      (byte? z6 y7).bind fun c9 =>
      bif (c9 != (32 : Int)) then
        p_ref23_Split_l1 z6 n (w64 (y7 + (1 : Int)))
      else
      some y7
    else
    some y7
def p_ref23_Split (a0 : ByteArray) : Option (ByteArray × ByteArray × Int) :=
  (p_ref23_Split_l1 a0 fuel (0 : Int)).bind fun q12 =>
  bif (q12 == (a0.size : Int)) then
    some ((⟨#[]⟩ : ByteArray), (⟨#[]⟩ : ByteArray), (4 : Int))
  else
  (sub? a0 none (some q12)).bind fun s14 =>
  (sub? a0 (some (w64 (q12 + (1 : Int)))) none).bind fun s15 =>
  (p_ref09_IsBare s14).bind fun v16 =>
  bif v16 then
    (p_ref09_Resource s15).bind fun v18 =>
    bif (v18 != (0 : Int)) then
      (p_ref09_Resource s15).bind fun v20 =>
      some ((⟨#[]⟩ : ByteArray), (⟨#[]⟩ : ByteArray), v20)
    else
    some (s14, s15, (0 : Int))
  else
  some ((⟨#[]⟩ : ByteArray), (⟨#[]⟩ : ByteArray), (11 : Int))
def p_ref29_fine (a0 : Ref29Arrow) : Option (Bool) :=
  (p_ref23_Split a0.From).bind fun v1 =>
  bif (v1.2.2 == (0 : Int)) then
    (p_ref09_IsBare a0.To).bind fun v3 =>
    some v3
  else
  some false
def p_ref29_less (a0 : Ref29Arrow) (a1 : Ref29Arrow) : Option (Bool) :=
  bif (Op.bytesLess a0.From.toList a1.From.toList) then
    some true
  else
  bif (a0.From.toList == a1.From.toList) then
    some (Op.bytesLess a0.To.toList a1.To.toList)
  else
  some false
def p_ref29_Check_l1 (z5 : List Ref29Arrow) : Nat → Int → Option (Int ⊕ Int)
  | 0, _ => none
  | n + 1, y6 =>
    bif (decide (y6 < (z5.length : Int))) then
      (at? z5 y6).bind fun x8 =>
      (p_ref29_fine x8).bind fun v9 =>
      bif v9 then
        p_ref29_Check_l1 z5 n (w64 (y6 + (1 : Int)))
      else
      some (.inl (11 : Int))
    else
    some (.inr y6)
def p_ref29_Check_l2 (z17 : List Ref29Arrow) : Nat → Int → Option (Int ⊕ Int)
  | 0, _ => none
  | n + 1, y18 =>
    bif (decide (y18 < (z17.length : Int))) then
      (at? z17 (w64 (y18 - (1 : Int)))).bind fun x20 =>
      (at? z17 y18).bind fun x21 =>
      (p_ref29_less x20 x21).bind fun v22 =>
      bif v22 then
        p_ref29_Check_l2 z17 n (w64 (y18 + (1 : Int)))
      else
      some (.inl (10 : Int))
    else
    some (.inr y18)
def p_ref29_Check (a0 : List Ref29Arrow) : Option (Int) :=
  bif (decide ((32 : Int) < (a0.length : Int))) then
    some (5 : Int)
  else
  (p_ref29_Check_l1 a0 fuel (0 : Int)).bind fun o11 => match o11 with
  | .inl q12 =>
    some q12
  | .inr q13 =>
    (p_ref29_Check_l2 a0 fuel (1 : Int)).bind fun o24 => match o24 with
    | .inl q25 =>
      some q25
    | .inr q26 =>
      some (0 : Int)
def p_ref29_Has_l1 (z6 : List Ref29Arrow) (z7 : ByteArray) (z8 : ByteArray) : Nat → Int → Option (Bool ⊕ Int)
  | 0, _ => none
  | n + 1, y9 =>
    bif (decide (y9 < (z6.length : Int))) then
      (p_ref29_Check z6).bind fun v11 =>
      bif (v11 == (0 : Int)) then
        (at? z6 y9).bind fun x13 =>
        bif (x13.From.toList == z7.toList) then
          (at? z6 y9).bind fun x15 =>
          bif (x15.To.toList == z8.toList) then
            some (.inl true)
          else
          p_ref29_Has_l1 z6 z7 z8 n (w64 (y9 + (1 : Int)))
        else
        p_ref29_Has_l1 z6 z7 z8 n (w64 (y9 + (1 : Int)))
      else
      some (.inr y9)
    else
    some (.inr y9)
def p_ref29_Has (a0 : List Ref29Arrow) (a1 : ByteArray) (a2 : ByteArray) : Option (Bool) :=
  (p_ref29_Has_l1 a0 a1 a2 fuel (0 : Int)).bind fun o17 => match o17 with
  | .inl q18 =>
    some q18
  | .inr q19 =>
    some false
def p_ref29_Add_l1 (z14 : List Ref29Arrow) (z16 : Ref29Arrow) : Nat → Int → Option (Int)
  | 0, _ => none
  | n + 1, y15 =>
    bif (decide (y15 < (z14.length : Int))) then
      (at? z14 y15).bind fun x18 =>
      (p_ref29_less x18 z16).bind fun v19 =>
      bif v19 then
        p_ref29_Add_l1 z14 z16 n (w64 (y15 + (1 : Int)))
      else
      some y15
    else
    some y15
def p_ref29_Add (a0 : List Ref29Arrow) (a1 : ByteArray) (a2 : ByteArray) : Option ((List Ref29Arrow) × Int) :=
  (p_ref29_Check a0).bind fun v1 =>
  bif (v1 != (0 : Int)) then
    (p_ref29_Check a0).bind fun v3 =>
    some (a0, v3)
  else
  (p_ref29_fine (Ref29Arrow.mk a1 a2)).bind fun v4 =>
  bif v4 then
    (p_ref29_Has a0 a1 a2).bind fun v6 =>
    bif v6 then
      some (a0, (0 : Int))
    else
    bif (decide ((32 : Int) ≤ (a0.length : Int))) then
      some (a0, (7 : Int))
    else
    (p_ref29_Add_l1 a0 (Ref29Arrow.mk a1 a2) fuel (0 : Int)).bind fun q22 =>
    (cut? a0 none (some q22)).bind fun x23 =>
    (app? ([] : List Ref29Arrow) x23).bind fun l24 =>
    (app? l24 [(Ref29Arrow.mk a1 a2)]).bind fun l25 =>
    (cut? a0 (some q22) none).bind fun x26 =>
    (app? l25 x26).bind fun l27 =>
    some (l27, (0 : Int))
  else
  some (a0, (11 : Int))
def p_ref29_Del_l1 (z10 : List Ref29Arrow) (z11 : ByteArray) (z12 : ByteArray) : Nat → (List Ref29Arrow) → Int → Option (((List Ref29Arrow) × Int))
  | 0, _, _ => none
  | n + 1, y13, y14 =>
    bif (decide (y14 < (z10.length : Int))) then
      (at? z10 y14).bind fun x16 =>
      bif (x16.From.toList == z11.toList) then
        (at? z10 y14).bind fun x18 =>
        bif (x18.To.toList == z12.toList) then
          p_ref29_Del_l1 z10 z11 z12 n y13 (w64 (y14 + (1 : Int)))
        else
        (at? z10 y14).bind fun x20 =>
        (app? y13 [x20]).bind fun l21 =>
        p_ref29_Del_l1 z10 z11 z12 n l21 (w64 (y14 + (1 : Int)))
      else
      (at? z10 y14).bind fun x22 =>
      (app? y13 [x22]).bind fun l23 =>
      p_ref29_Del_l1 z10 z11 z12 n l23 (w64 (y14 + (1 : Int)))
    else
    some (y13, y14)
def p_ref29_Del (a0 : List Ref29Arrow) (a1 : ByteArray) (a2 : ByteArray) : Option ((List Ref29Arrow) × Bool) :=
  (p_ref29_Has a0 a1 a2).bind fun v1 =>
  bif v1 then
    (p_ref29_Del_l1 a0 a1 a2 fuel [] (0 : Int)).bind fun q25 =>
    some (q25.1, true)
  else
  some (a0, false)
def p_ref29_Of_l1 (z6 : List Ref29Arrow) (z7 : ByteArray) : Nat → (List ByteArray) → Int → Option (((List ByteArray) × Int))
  | 0, _, _ => none
  | n + 1, y8, y9 =>
    bif (decide (y9 < (z6.length : Int))) then
      (p_ref29_Check z6).bind fun v11 =>
      bif (v11 == (0 : Int)) then
        (at? z6 y9).bind fun x13 =>
        bif (x13.From.toList == z7.toList) then
          (at? z6 y9).bind fun x15 =>
          (app? y8 [x15.To]).bind fun l16 =>
          p_ref29_Of_l1 z6 z7 n l16 (w64 (y9 + (1 : Int)))
        else
        p_ref29_Of_l1 z6 z7 n y8 (w64 (y9 + (1 : Int)))
      else
      some (y8, y9)
    else
    some (y8, y9)
def p_ref29_Of (a0 : List Ref29Arrow) (a1 : ByteArray) : Option ((List ByteArray)) :=
  (p_ref29_Of_l1 a0 a1 fuel [] (0 : Int)).bind fun q18 =>
  some q18.1
def p_ref29_Clear_l1 (z9 : List Ref29Arrow) (z10 : ByteArray) : Nat → (List Ref29Arrow) → Int → Option (((List Ref29Arrow) × Int))
  | 0, _, _ => none
  | n + 1, y11, y12 =>
    bif (decide (y12 < (z9.length : Int))) then
      (at? z9 y12).bind fun x14 =>
      bif (x14.From.toList == z10.toList) then
        p_ref29_Clear_l1 z9 z10 n y11 (w64 (y12 + (1 : Int)))
      else
      (at? z9 y12).bind fun x16 =>
      (app? y11 [x16]).bind fun l17 =>
      p_ref29_Clear_l1 z9 z10 n l17 (w64 (y12 + (1 : Int)))
    else
    some (y11, y12)
def p_ref29_Clear (a0 : List Ref29Arrow) (a1 : ByteArray) : Option ((List Ref29Arrow) × (List ByteArray)) :=
  (p_ref29_Check a0).bind fun v1 =>
  bif (v1 != (0 : Int)) then
    some (a0, [])
  else
  (p_ref29_Clear_l1 a0 a1 fuel [] (0 : Int)).bind fun q19 =>
  (p_ref29_Of a0 a1).bind fun v20 =>
  some (q19.1, v20)
def p_ref29_Only_l1 (z10 : List Ref29Arrow) (z11 : ByteArray) (z12 : ByteArray) : Nat → (List Ref29Arrow) → Int → Option (((List Ref29Arrow) × Int))
  | 0, _, _ => none
  | n + 1, y13, y14 =>
    bif (decide (y14 < (z10.length : Int))) then
      (at? z10 y14).bind fun x16 =>
      (p_ref23_Split x16.From).bind fun v17 =>
      bif (v17.1.toList == z11.toList) then
        (at? z10 y14).bind fun x19 =>
        bif (x19.To.toList == z12.toList) then
          p_ref29_Only_l1 z10 z11 z12 n y13 (w64 (y14 + (1 : Int)))
        else
        (at? z10 y14).bind fun x21 =>
        (app? y13 [x21]).bind fun l22 =>
        p_ref29_Only_l1 z10 z11 z12 n l22 (w64 (y14 + (1 : Int)))
      else
      (at? z10 y14).bind fun x23 =>
      (app? y13 [x23]).bind fun l24 =>
      p_ref29_Only_l1 z10 z11 z12 n l24 (w64 (y14 + (1 : Int)))
    else
    some (y13, y14)
def p_ref29_Only (a0 : List Ref29Arrow) (a1 : ByteArray) (a2 : ByteArray) : Option ((List Ref29Arrow) × Int) :=
  (p_ref29_Check a0).bind fun v1 =>
  bif (v1 != (0 : Int)) then
    some (a0, (0 : Int))
  else
  (p_ref29_Only_l1 a0 a1 a2 fuel [] (0 : Int)).bind fun q26 =>
  some (q26.1, w64 ((a0.length : Int) - (q26.1.length : Int)))
def p_law29_Back_l1 (z5 : List Ref29Arrow) : Nat → (List Ref29Arrow) → Int → Option (((List Ref29Arrow) × Int))
  | 0, _, _ => none
  | n + 1, y6, y7 =>
    bif (decide (y7 < (z5.length : Int))) then
      (at? z5 y7).bind fun x9 =>
      (app? y6 [x9]).bind fun l10 =>
      p_law29_Back_l1 z5 n l10 (w64 (y7 + (1 : Int)))
    else
    some (y6, y7)
def p_law29_Back (a0 : List Ref29Arrow) : Option ((List Ref29Arrow)) :=
  (p_law29_Back_l1 a0 fuel [] (0 : Int)).bind fun q12 =>
  some q12.1
def p_ref29_Same_l1 (z6 : List Ref29Arrow) (z7 : List Ref29Arrow) : Nat → Int → Option (Bool ⊕ Int)
  | 0, _ => none
  | n + 1, y8 =>
    bif (decide (y8 < (z6.length : Int))) then
      (at? z6 y8).bind fun x10 =>
      (at? z7 y8).bind fun x11 =>
      bif ((x10.From.toList == x11.From.toList) && ((x10.To.toList == x11.To.toList) && true)) then
        p_ref29_Same_l1 z6 z7 n (w64 (y8 + (1 : Int)))
      else
      some (.inl false)
    else
    some (.inr y8)
def p_ref29_Same (a0 : List Ref29Arrow) (a1 : List Ref29Arrow) : Option (Bool) :=
  bif ((a0.length : Int) != (a1.length : Int)) then
    some false
  else
  (p_ref29_Same_l1 a0 a1 fuel (0 : Int)).bind fun o13 => match o13 with
  | .inl q14 =>
    some q14
  | .inr q15 =>
    some true
def p_law29_DirsChanges (a0 : List Ref29Arrow) (a1 : ByteArray) (a2 : ByteArray) : Option (Bool) :=
  (p_ref29_Light a0).bind fun v1 =>
  bif v1 then
    bif (decide ((100 : Int) < (a1.size : Int))) then
      (p_law29_awake).bind fun v4 =>
      some v4
    else
    bif (decide ((100 : Int) < (a2.size : Int))) then
      (p_law29_awake).bind fun v6 =>
      some v6
    else
    (p_law29_own a0).bind fun v7 =>
    (p_dirs_Add v7 a1 a2).bind fun v8 =>
    (p_ref29_Add a0 a1 a2).bind fun v9 =>
    (p_dirs_Del v7 a1 a2).bind fun v10 =>
    (p_ref29_Del a0 a1 a2).bind fun v11 =>
    (p_dirs_Clear v7 a1).bind fun v12 =>
    (p_ref29_Clear a0 a1).bind fun v13 =>
    (p_dirs_Only v7 a1 a2).bind fun v14 =>
    (p_ref29_Only a0 a1 a2).bind fun v15 =>
    (p_law29_Back v8.1).bind fun v16 =>
    (p_ref29_Same v16 v9.1).bind fun v17 =>
    bif v17 then
      bif (v8.2 == v9.2) then
        (p_law29_Back v10.1).bind fun v20 =>
        (p_ref29_Same v20 v11.1).bind fun v21 =>
        bif v21 then
          bif (v10.2 == v11.2) then
            (p_law29_Back v12.1).bind fun v24 =>
            (p_ref29_Same v24 v13.1).bind fun v25 =>
            bif v25 then
              (p_ref01_SameTexts v12.2 v13.2).bind fun v27 =>
              bif v27 then
                (p_law29_Back v14.1).bind fun v29 =>
                (p_ref29_Same v29 v15.1).bind fun v30 =>
                bif v30 then
                  bif (v14.2 == v15.2) then
                    (p_law29_Back v7).bind fun v33 =>
                    (p_ref29_Same v33 a0).bind fun v34 =>
                    bif v34 then
                      (p_law29_awake).bind fun v36 =>
                      some v36
                    else
                    some false
                  else
                  some false
                else
                some false
              else
              some false
            else
            some false
          else
          some false
        else
        some false
      else
      some false
    else
    some false
  else
  (p_law29_awake).bind fun v37 =>
  some v37
end Go.Proofs.YthmgficajgedlaaGreat
/- Readers of DirsChanges's parameters. -/
namespace Go.Proofs.YthmgficajgedlaaGreat
open Go.ChangeShapes Go.WideShapes Go.ChangeAt Go.RowKit Go.Joins Go.Deep
set_option maxRecDepth 100000 in
theorem rd_T140 {H : Type} {enc : TypeId × Value → H} {W : World} {spare : Nat → Bool} {held : Bool} {fuel : Nat} {cs : List Value} {y : DataW H × List MemPlace} (h : DataW.trod enc Tryz.prog W 0 spare held fuel 140 cs = some y) : ∃ x : Ref29Arrow, RepL (MW W) noBk cs [.s x.From, .s x.To] := by
  obtain ⟨xs, n, _, _, hl, hx, hall⟩ := DataW.trod_struct Tryz.underlying140 h
  have hce : Tryz.prog.cellsOf 140 = 2 := by kernel_rfl
  rw [hce] at hl
  match cs, hl, hall with
  | [c0, c1], _, hall =>
    obtain ⟨y0, hy0⟩ := get_some hx (show 0 < 2 by omega)
    have g0 : DataW.trod enc Tryz.prog W 0 spare held n 9 [c0] = some y0 := by
      have hz : Tryz.prog.cellsOf 9 = 1 := by kernel_rfl
      have g : DataW.trod enc Tryz.prog W 0 spare held n 9 (([c0, c1].drop 0).take (Tryz.prog.cellsOf 9)) = some y0 := (hall 0 _ rfl).trans hy0
      rw [hz] at g; exact g
    obtain ⟨x0, r0⟩ := rd_string Tryz.underlying9 g0
    obtain ⟨y1, hy1⟩ := get_some hx (show 1 < 2 by omega)
    have g1 : DataW.trod enc Tryz.prog W 0 spare held n 9 [c1] = some y1 := by
      have hz : Tryz.prog.cellsOf 9 = 1 := by kernel_rfl
      have g : DataW.trod enc Tryz.prog W 0 spare held n 9 (([c0, c1].drop 1).take (Tryz.prog.cellsOf 9)) = some y1 := (hall 1 _ rfl).trans hy1
      rw [hz] at g; exact g
    obtain ⟨x1, r1⟩ := rd_string Tryz.underlying9 g1
    exact ⟨⟨x0, x1⟩, repL_app r0 (repL_app r1 (repL_nil))⟩
theorem rd_T58 {H : Type} {enc : TypeId × Value → H} {W : World} {spare : Nat → Bool} {held : Bool} {fuel : Nat} {cs : List Value} {y : DataW H × List MemPlace} (h : DataW.trod enc Tryz.prog W 0 spare held fuel 58 cs = some y) : ∃ x : List Ref29Arrow, RepL (MW W) noBk cs [(fun l : List Ref29Arrow => V.sl (l.map Ref29Arrow.v) false) x] :=
  by obtain ⟨l, _, hr⟩ := rd_slice (f := Ref29Arrow.v) (es := 2) (wf := (fun _ : Ref29Arrow => True)) Tryz.underlying58 (fun _ => rfl) (by intro a v hv; simp [V.cells] at hv; first | (subst hv; rfl) | (rcases hv with rfl | rfl <;> rfl)) (by omega) (by kernel_rfl) (fun n cs y h => by obtain ⟨x, hr⟩ := rd_T140 h; exact ⟨x, trivial, hr⟩) h; exact ⟨l, hr⟩
end Go.Proofs.YthmgficajgedlaaGreat
/- Plain laws of no program: what loops and questions come to. -/
namespace Go.Proofs.YthmgficajgedlaaGreat
open Go.RowKit
theorem at_nat {α : Type} (l : List α) (k : Nat) : at? l (k : Int) = l[k]? := by
  unfold at?; rw [if_pos (Int.natCast_nonneg k)]; rfl
theorem at_lt {α : Type} {l : List α} {k : Nat} (h : k < l.length) : at? l (k : Int) = some l[k] := by rw [at_nat, List.getElem?_eq_getElem h]
theorem w64_id {r : Int} (h : -9223372036854775808 ≤ r ∧ r ≤ 9223372036854775807) : w64 r = r := wrap_ok h
theorem w64_succ {k : Nat} (h : k ≤ 1000000) : w64 ((k : Int) + 1) = ((k + 1 : Nat) : Int) := by rw [w64_id (by omega)]; rfl
theorem lt_tt {a b : Nat} (h : a < b) : decide ((a : Int) < (b : Int)) = true := by simpa using h
theorem lt_ff {a b : Nat} (h : b ≤ a) : decide ((a : Int) < (b : Int)) = false := by simpa using h
theorem drop_at {α : Type} {l : List α} {k : Nat} (h : k < l.length) : l.drop k = l[k] :: l.drop (k + 1) := List.drop_eq_getElem_cons h
theorem fuel_pos : (1000000 : Nat) < fuel := by decide
theorem cutTo {α : Type} {l : List α} {k : Nat} (h : k ≤ l.length) : cut? l none (some (k : Int)) = some (l.take k) := by
  unfold cut?
  simp only [Option.getD_none, Option.getD_some]
  rw [if_pos (by omega)]
  simp
theorem cutFrom {α : Type} {l : List α} {k : Nat} (h : k ≤ l.length) : cut? l (some (k : Int)) none = some (l.drop k) := by
  unfold cut?
  simp only [Option.getD_none, Option.getD_some]
  rw [if_pos (by omega)]
  rw [List.take_of_length_le (by simp)]; rfl
theorem u64_id {r : Int} (hr : 0 ≤ r ∧ r ≤ 9223372036854775807) : IntKind.u64.wrap r = r := by
  simp only [IntKind.wrap, IntKind.signed, IntKind.bits]
  first | omega | (simp; omega)
theorem fdivN (m p : Nat) : (m : Int).fdiv (2 ^ p) = ((m / 2 ^ p : Nat) : Int) := by
  rw [show ((2 : Int) ^ p) = ((2 ^ p : Nat) : Int) by simp, Int.fdiv_eq_ediv_of_nonneg _ (Int.natCast_nonneg _)]; rfl
theorem half_p {i j : Nat} (h : i + j ≤ 100000) : w64 (shrI .u64 (IntKind.wrap .u64 (w64 ((i : Int) + (j : Int)))) (1 : Int)) = (((i + j) / 2 : Nat) : Int) := by
  have e1 : w64 ((i : Int) + (j : Int)) = ((i + j : Nat) : Int) := by rw [w64_id (by omega)]; omega
  have e2 : IntKind.wrap .u64 ((i + j : Nat) : Int) = ((i + j : Nat) : Int) := u64_id (by omega)
  have e : (min (1 : Int).toNat IntKind.u64.bits) = 1 := rfl
  have e3 : shrI .u64 ((i + j : Nat) : Int) 1 = (((i + j) / 2 : Nat) : Int) := by
    unfold shrI
    rw [e, fdivN]
  rw [e1, e2, e3]
  exact w64_id (by omega)
theorem app_ok {α : Type} {a b : List α} (h : a.length + b.length ≤ 1000000) : app? a b = some (a ++ b) := if_pos h
theorem at_cons {α : Type} {l : List α} {k : Nat} (h : k < l.length) : at? l (k : Int) = some l[k] := at_lt h
theorem byte_at {s : ByteArray} {k : Nat} (h : k < s.size) : byte? s (k : Int) = some (s[k].toNat : Int) := by
  unfold byte?
  rw [dif_pos ⟨Int.natCast_nonneg k, h⟩]; rfl
theorem len0 {α : Type} {l : List α} {n : Nat} (h : n = l.length) : l.drop n = [] := List.drop_of_length_le (by omega)
theorem byte_ne (a b : UInt8) : ((a.toNat : Int) != (b.toNat : Int)) = !(a == b) := by
  by_cases h : a = b
  · subst h; simp
  · have h1 : (a == b) = false := by simpa using h
    have h2 : ¬ ((a.toNat : Int) = (b.toNat : Int)) := fun e => h (UInt8.toNat_inj.1 (Int.natCast_inj.1 e))
    rw [h1]; simpa using h2
theorem tl_data (s : ByteArray) : s.toList = s.data.toList := by rw [ByteArray.toList_eq]
/-- texts, compared as the code does. -/
def eqT (a b : ByteArray) : Bool := a.toList == b.toList
theorem eqT_refl (a : ByteArray) : (a.toList == a.toList) = true := by simp
theorem eqT_iff {a b : ByteArray} : (a.toList == b.toList) = true ↔ a = b := by
  rw [beq_iff_eq, tl_data, tl_data]
  exact ⟨fun h => by cases a; cases b; congr 1; exact Array.ext' h, fun h => by rw [h]⟩
theorem cmp_less : ∀ (a b : List UInt8), Op.bytesLess a b = decide (Lib.compareBytes a b < 0)
  | [], [] => by simp [Op.bytesLess, Lib.compareBytes]
  | [], _ :: _ => by simp [Op.bytesLess, Lib.compareBytes]
  | _ :: _, [] => by simp [Op.bytesLess, Lib.compareBytes]
  | a :: xs, b :: ys => by
    unfold Op.bytesLess Lib.compareBytes
    rw [cmp_less xs ys]
    by_cases h : a < b
    · simp [h]
    · by_cases h2 : b < a
      · have hne : a ≠ b := fun e => by subst e; exact UInt8.lt_irrefl _ h2
        simp [h, h2, hne]
      · have e : a = b := by
          apply UInt8.toNat_inj.1
          rw [UInt8.lt_iff_toNat_lt] at h h2; omega
        subst e; simp [h]
theorem cmp_refl : ∀ a : List UInt8, Lib.compareBytes a a = 0
  | [] => by simp [Lib.compareBytes]
  | a :: xs => by unfold Lib.compareBytes; rw [if_neg (UInt8.lt_irrefl _), if_neg (UInt8.lt_irrefl _)]; exact cmp_refl xs
theorem cmp_eq0 : ∀ {a b : List UInt8}, Lib.compareBytes a b = 0 → a = b
  | [], [], _ => rfl
  | [], _ :: _, h => by simp [Lib.compareBytes] at h
  | _ :: _, [], h => by simp [Lib.compareBytes] at h
  | a :: xs, b :: ys, h => by
    unfold Lib.compareBytes at h
    split at h
    · omega
    · split at h
      · omega
      · rename_i h1 h2
        have e : a = b := by
          apply UInt8.toNat_inj.1
          rw [UInt8.lt_iff_toNat_lt] at h1 h2; omega
        rw [e, cmp_eq0 h]
theorem cmp_anti : ∀ (a b : List UInt8), Lib.compareBytes b a = - Lib.compareBytes a b
  | [], [] => by simp [Lib.compareBytes]
  | [], _ :: _ => by simp [Lib.compareBytes]
  | _ :: _, [] => by simp [Lib.compareBytes]
  | a :: xs, b :: ys => by
    unfold Lib.compareBytes
    rw [cmp_anti xs ys]
    by_cases h : a < b
    · have h2 : ¬ b < a := by rw [UInt8.lt_iff_toNat_lt] at h ⊢; omega
      simp [h, h2]
    · by_cases h2 : b < a
      · simp [h, h2]
      · simp [h, h2]
theorem cmp_trans : ∀ {a b c : List UInt8}, Lib.compareBytes a b < 0 → Lib.compareBytes b c < 0 → Lib.compareBytes a c < 0
  | [], [], _, h, _ => by simp [Lib.compareBytes] at h
  | _ :: _, [], _, h, _ => by simp [Lib.compareBytes] at h
  | _, _ :: _, [], _, h => by simp [Lib.compareBytes] at h
  | [], _ :: _, _ :: _, _, _ => by simp [Lib.compareBytes]
  | a :: xs, b :: ys, c :: cs, h1, h2 => by
    unfold Lib.compareBytes at h1 h2 ⊢
    by_cases x : a < b
    · by_cases y : b < c
      · rw [if_pos (UInt8.lt_trans x y)]; omega
      · rw [if_neg y] at h2
        by_cases z : c < b
        · rw [if_pos z] at h2; omega
        · have e : b = c := by
            apply UInt8.toNat_inj.1
            rw [UInt8.lt_iff_toNat_lt] at y z; omega
          subst e
          rw [if_pos x]; omega
    · rw [if_neg x] at h1
      by_cases x2 : b < a
      · rw [if_pos x2] at h1; omega
      · rw [if_neg x2] at h1
        have e : a = b := by
          apply UInt8.toNat_inj.1
          rw [UInt8.lt_iff_toNat_lt] at x x2; omega
        subst e
        by_cases y : a < c
        · rw [if_pos y]; omega
        · rw [if_neg y] at h2 ⊢
          by_cases z : c < a
          · rw [if_pos z] at h2; omega
          · rw [if_neg z] at h2 ⊢
            exact cmp_trans h1 h2
end Go.Proofs.YthmgficajgedlaaGreat
