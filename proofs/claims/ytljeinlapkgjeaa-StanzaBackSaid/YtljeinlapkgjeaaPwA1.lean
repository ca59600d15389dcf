/- A part of the proof: 4 texts joined. -/
import Derived.Test.YtljeinlapkgjeaaProg
import Derived.WalkKit
import Derived.Lib.Hide
import Derived.WalkSpells
import Derived.WalkLawsBesides
import Derived.BigQuiet
import Derived.Deep.QuietTactic
import Derived.Deep.DeepFit
import Derived.Laws.OwnMore
import Derived.Deep.AppendLies
import Derived.Maps.AppendAt
import Derived.Deep.RegionHeld3
import Derived.Laws.IdiomStrings
import Derived.Laws.BitsAllLaws
import Derived.Laws.Closers25b
set_option linter.all false
/- General small lemmas for the walks of this seat: worlds, endings, endings of bool and int results. -/
namespace Go.Proofs.Ytljeinlapkgjeaa
open Go.RowKit
theorem ret_b {a b : Bool} (h : a = b) : Ending.returned (.bool a) = .returned (.bool b) := by rw [h]
theorem ret_i {k : IntKind} {a b : Int} (h : a = b) : Ending.returned (.int k a) = .returned (.int k b) := by rw [h]
theorem ret_v {a b : Value} (h : a = b) : Ending.returned a = .returned b := by rw [h]
theorem bcell {B : Nat} {W w1 : World} (hb : Below B W w1) : (∀ b o, b < B → w1.cell? ⟨b, o, none⟩ = W.cell? ⟨b, o, none⟩) ∧ (∀ b o, b < B → w1.frozen? ⟨b, o, none⟩ = W.frozen? ⟨b, o, none⟩) :=
  ⟨fun b o h => hb.cell (p := ⟨b, o, none⟩) h, fun b o h => hb.frozen (p := ⟨b, o, none⟩) h⟩
theorem below_drewN {B : Nat} {a w : World} (h : Below B a w) (n : Nat) : Below B a (w.drewN n) := ⟨h.os, h.tape, h.output, h.size, h.block⟩
theorem below_alloc {w w1 : World} (h : Below w.heap.size w w1) (o : Obj) : Below w.heap.size w (w1.alloc o) := h.alloc h.size o
theorem below_then {w w1 w2 : World} (h : Below w.heap.size w w1) (h2 : Below w1.heap.size w1 w2) : Below w.heap.size w w2 := h.trans (h2.mono h.size)
/-- 'it returns v; nothing that lay before the call has turned'. -/
def Ret (w : World) (v : Value) (e : Ending) (w' : World) : Prop := e = .returned v ∧ Below w.heap.size w w'
theorem Ret.mk {w w' : World} {v : Value} {e : Ending} (h : e = .returned v) (hb : Below w.heap.size w w') : Ret w v e w' := ⟨h, hb⟩
theorem results_tmp4 {fn : Func} {t u v x : Tmp} (h : fn.results = #[.tmp t, .tmp u, .tmp v, .tmp x]) (tmps : Array Value) (P : Program) (w : World) :
    (results fn tmps).run P w = .ok (.tuple #[tmps.getD t undef, tmps.getD u undef, tmps.getD v undef, tmps.getD x undef]) w := by simp [results, h]
end Go.Proofs.Ytljeinlapkgjeaa
/- Slices that read as lists of cells; slices that the call owns. -/
namespace Go.Proofs.Ytljeinlapkgjeaa
open Go.RowKit
/-- the slice value '.slice A n c' holds the cells xs (size cells an element), below block B. -/
def Sl (w : World) (B size : Nat) (A : Option Addr) (n : Nat) (xs : List Value) : Prop :=
  xs.length = n * size ∧ (0 < n → ∃ b o, A = some ⟨b, o, none⟩ ∧ b < B ∧ ∀ j u, xs[j]? = some u → w.cell? ⟨b, o + j, none⟩ = some u)
theorem Sl.nil {w : World} {B size : Nat} {A : Option Addr} : Sl w B size A 0 [] := ⟨by simp, fun h => absurd h (by omega)⟩
theorem Sl.keep {w w' : World} {B size n : Nat} {A : Option Addr} {xs : List Value} (h : Sl w B size A n xs) (hk : ∀ p : Addr, p.block < B → w'.cell? p = w.cell? p) : Sl w' B size A n xs :=
  ⟨h.1, fun hn => by
    obtain ⟨b, o, e, hb, hc⟩ := h.2 hn
    exact ⟨b, o, e, hb, fun j u hu => (hk _ hb).trans (hc j u hu)⟩⟩
theorem Sl.more {w : World} {B B' size n : Nat} {A : Option Addr} {xs : List Value} (h : Sl w B size A n xs) (hB : B ≤ B') : Sl w B' size A n xs :=
  ⟨h.1, fun hn => by
    obtain ⟨b, o, e, hb, hc⟩ := h.2 hn
    exact ⟨b, o, e, by omega, hc⟩⟩
theorem Sl.below {w w' : World} {B B' size n : Nat} {A : Option Addr} {xs : List Value} (h : Sl w B size A n xs) (hb : Below B' w w') (hB : B ≤ B') : Sl w' B size A n xs := h.keep fun _ hp => hb.cell (by omega)
theorem Sl.alloc {w : World} {B size n : Nat} {A : Option Addr} {xs : List Value} (h : Sl w B size A n xs) (hB : B ≤ w.heap.size) (o : Obj) : Sl (w.alloc o) B size A n xs := h.keep fun p hp => World.cell?_alloc_lt w o p (by omega)
theorem Sl.setCell {w : World} {B size n : Nat} {A : Option Addr} {xs : List Value} (h : Sl w B size A n xs) {p : Addr} (hB : B ≤ p.block) (u : Value) : Sl (w.setCell p u) B size A n xs :=
  h.keep fun q hq => World.cell?_setCell_other w p q u (fun e => by subst e; omega)
theorem Sl.at1 {w : World} {B n k : Nat} {A : Option Addr} {xs : List Value} (h : Sl w B 1 A n xs) (hk : k < n) : ∃ b o u, A = some ⟨b, o, none⟩ ∧ b < B ∧ xs[k]? = some u ∧ w.cell? ⟨b, o + k, none⟩ = some u := by
  obtain ⟨b, o, e, hb, hc⟩ := h.2 (by omega)
  have hl : k < xs.length := by have := h.1; omega
  exact ⟨b, o, xs[k], e, hb, List.getElem?_eq_getElem hl, hc k _ (List.getElem?_eq_getElem hl)⟩
theorem Sl.of_own {w : World} {base : Nat} {e : TypeId} {size c n : Nat} {A : Option Addr} {xs : List Value} (h : w.ownsRow base e size (.slice A n c) n xs) : Sl w w.heap.size size A n xs := by
  refine ⟨h.1, fun hn => ?_⟩
  obtain ⟨g, cap, hv, _, hlt⟩ := h.form hn
  have hA : A = some ⟨g, 0, none⟩ := by injection hv
  subst hA
  refine ⟨g, 0, rfl, hlt, fun j u hu => ?_⟩
  have := h.cells (g := g) rfl j u hu
  simpa [Addr.add_lit] using this
/-- block g is just the cells cs, none frozen. -/
def Bk (w : World) (g : Nat) (t : TypeId) (cs : Array Value) : Prop := w.heap[g]? = some (.cells cs t (0, 0))
section
variable {w w' : World} {g : Nat} {t : TypeId} {cs : Array Value}
theorem Bk.lt (h : Bk w g t cs) : g < w.heap.size := by
  rcases Nat.lt_or_ge g w.heap.size with hlt | hge
  · exact hlt
  · unfold Bk at h; rw [Array.getElem?_eq_none hge] at h; cases h
theorem Bk.cell (h : Bk w g t cs) (i : Nat) : w.cell? ⟨g, i, none⟩ = cs[i]? := cell_of_row w g i cs t (0, 0) h
theorem Bk.frozen (h : Bk w g t cs) (i : Nat) : w.frozen? ⟨g, i, none⟩ = false := by
  unfold Bk at h
  simp [World.frozen?, h]
theorem Bk.new (w : World) (t : TypeId) (cs : Array Value) : Bk (w.alloc (.cells cs t)) w.heap.size t cs := heap_alloc_new w _
theorem Bk.drewN (h : Bk w g t cs) (n : Nat) : Bk (w.drewN n) g t cs := h
theorem Bk.drew (h : Bk w g t cs) : Bk w.drew g t cs := h
theorem Bk.alloc (h : Bk w g t cs) (o : Obj) : Bk (w.alloc o) g t cs := (Below.heap_alloc w o g h.lt).trans h
theorem Bk.set (h : Bk w g t cs) (i : Nat) (u : Value) : Bk (w.setCell ⟨g, i, none⟩ u) g t (cs.setIfInBounds i u) := by
  unfold Bk at h ⊢
  simp [World.setCell, Array.getElem?_modify, h]
theorem Bk.set4 {x0 x1 x2 x3 : Value} (h : Bk w g t #[x0, x1, x2, x3]) (a b c d : Value) :
    Bk ((((w.setCell ⟨g, 0, none⟩ a).setCell ⟨g, 1, none⟩ b).setCell ⟨g, 2, none⟩ c).setCell ⟨g, 3, none⟩ d) g t #[a, b, c, d] := by
  have := (((h.set 0 a).set 1 b).set 2 c).set 3 d
  simpa using this
theorem Bk.far (h : Bk w g t cs) {p : Addr} (hp : g ≠ p.block) (u : Value) : Bk (w.setCell p u) g t cs := (Below.heap_setCell w p u g hp).trans h
theorem Bk.below {B : Nat} (h : Bk w g t cs) (hb : Below B w w') (hg : g < B) : Bk w' g t cs := (hb.block g hg).trans h
theorem Bk.then (h : Bk w g t cs) (hb : Below w.heap.size w w') : Bk w' g t cs := (hb.block g h.lt).trans h
theorem Bk.grown {row : Option Nat} (h : Bk w g t cs) (hb : w.grownBy w' row) (hg : row ≠ some g) : Bk w' g t cs := (hb.block g h.lt (fun e => hg e.symm)).trans h
theorem own_bk_ne {base : Nat} {e : TypeId} {size n : Nat} {v : Value} {xs : List Value} (h : w.ownsRow base e size v n xs) (hg : Bk w g t cs) (hne : e ≠ t) : v.ownBlock ≠ some g := by
  rcases h.2 with ⟨rfl, _⟩ | ⟨g', cap, cur, rfl, _, hh, _⟩
  · simp [Value.ownBlock]
  · intro he
    have e1 : g' = g := by simpa [Value.ownBlock] using he
    subst e1
    unfold Bk at hg
    rw [hg] at hh
    injection hh with hh
    injection hh with _ ht
    exact hne ht.symm
end
theorem own_ge {w : World} {base : Nat} {e : TypeId} {size n : Nat} {v : Value} {xs : List Value} (h : w.ownsRow base e size v n xs) : ∀ k, v.ownBlock = some k → base ≤ k := by
  rcases h.2 with ⟨rfl, _⟩ | ⟨g', cap, cur, rfl, hg, _⟩
  · simp [Value.ownBlock]
  · intro k hk
    have : g' = k := by simpa [Value.ownBlock] using hk
    omega
theorem own_below {w w' : World} {base : Nat} {e : TypeId} {size n : Nat} {v : Value} {xs : List Value} (h : w.ownsRow base e size v n xs) (hb : Below w.heap.size w w') : w'.ownsRow base e size v n xs := by
  obtain ⟨h1, h2⟩ := h
  refine ⟨h1, ?_⟩
  rcases h2 with h2 | ⟨g, cap, cur, hv, hg, hh, r⟩
  · exact Or.inl h2
  · refine Or.inr ⟨g, cap, cur, hv, hg, ?_, r⟩
    rw [hb.block g ((Array.getElem?_eq_some_iff.1 hh).1)]; exact hh
theorem own_alloc {w : World} {base : Nat} {e : TypeId} {size n : Nat} {v : Value} {xs : List Value} (h : w.ownsRow base e size v n xs) (o : Obj) : (w.alloc o).ownsRow base e size v n xs :=
  own_below h ((Below.refl _ _).alloc (Nat.le_refl _) _)
/-- append of one element (size cells), just laid in a new block, to a slice of the call's own. -/
theorem append_new {P : Program} {ops : Array Oper} {rest : List Oper} {o : Oper} {a : Act} {Q : Exit → Act → World → Prop} {w : World} (hgd : o.guard = none) (s x : Operand) (t : TypeId)
    (ho : o.op = .call { callee := .builtin .append, args := #[s, x], argTypes := #[t, t] })
    (base : Nat) (e : TypeId) (i : TypeInfo) (z : Value) (size bytes : Nat) (ht : P.underlying t = some (.slice e)) (hi : P.info? e = some i) (hz : i.zero = some z)
    (hsize : i.size = size) (hby : i.bytes = bytes) (hzs : z.cells.size = size) (hsz : 0 < size)
    (v : Value) (n : Nat) (xs : List Value) (hs : a.eval s = v) (hown : w.ownsRow base e size v n xs) (cs : Array Value)
    (hx : a.eval x = .slice (some ⟨w.heap.size, 0, none⟩) 1 1) (hl : cs.size = size) (h1 : ∀ u ∈ cs.toList, u.oneCell' = true)
    (h63 : n + 1 ≤ 1000000) (hby2 : bytes ≤ 1000) (hbase : base ≤ w.heap.size)
    (h : ∀ A' c' w', w'.ownsRow base e size (.slice A' (n + 1) c') (n + 1) (xs ++ cs.toList) → w.grownBy w' v.ownBlock → Below base w w' → wpList P ops Q rest (a.put o.dst (.slice A' (n + 1) c')) w') :
    wpList P ops Q (o :: rest) a (w.alloc (.cells cs e)) := by
  refine wpList_append_own (w.alloc (.cells cs e)) hgd s x t ho base e i z size bytes ht hi hz hsize hby hzs hsz v n xs hs (own_alloc hown _) ⟨w.heap.size, 0, none⟩ 1 1 cs.toList hx (by simpa using hl) ?_ h1 (by unfold maxLen; omega) ?_ (by simp; omega) ?_
  · intro j u hu
    have := (Bk.new w e cs).cell j
    rw [Addr.add_lit, Nat.zero_add, this]
    simpa using hu
  · have : (n + 1) * bytes ≤ 1000000 * 1000 := Nat.mul_le_mul h63 hby2
    omega
  · intro v' w' h2 h3 _
    have hw : w.grownBy w' v.ownBlock := by
      refine ⟨h3.os, h3.tape, h3.output, Nat.le_trans (by simp) h3.size, fun k hk hne => (h3.block k (by simp; omega) hne).trans (Below.heap_alloc _ _ _ hk)⟩
    obtain ⟨A', c', rfl⟩ : ∃ A' c', v' = .slice A' (n + 1) c' := by
      rcases h2.2 with ⟨_, h0⟩ | ⟨g, cap, cur, rfl, _⟩
      · omega
      · exact ⟨_, _, rfl⟩
    exact h A' c' w' h2 hw ((Below.refl _ _).grown hw (by omega) (own_ge hown))
/-- it returns a slice of n elements of its own, that holds xs. -/
def RetSl (w : World) (t : TypeId) (size n : Nat) (xs : List Value) (e : Ending) (w' : World) : Prop :=
  ∃ A c, e = .returned (.slice A n c) ∧ w'.ownsRow w.heap.size t size (.slice A n c) n xs ∧ Below w.heap.size w w'
/-- block g holds the bytes of s, none frozen. -/
def Bys (w : World) (g : Nat) (s : List UInt8) : Prop := g < w.heap.size ∧ ∀ j (hj : j < s.length), w.cell? ⟨g, j, none⟩ = some (.int .u8 s[j].toNat) ∧ w.frozen? ⟨g, j, none⟩ = false
theorem Bys.then {w w' : World} {g : Nat} {s : List UInt8} (h : Bys w g s) (hb : Below w.heap.size w w') : Bys w' g s :=
  ⟨Nat.lt_of_lt_of_le h.1 hb.size, fun j hj => ⟨(hb.cell (p := ⟨g, j, none⟩) h.1).trans (h.2 j hj).1, (hb.frozen (p := ⟨g, j, none⟩) h.1).trans (h.2 j hj).2⟩⟩
/-- '[]byte(s)'. -/
theorem conv_bytes {P : Program} {ops : Array Oper} {rest : List Oper} {o : Oper} {a : Act} {Q : Exit → Act → World → Prop} {w : World} (hgd : o.guard = none) (x : Operand) (src dst e : TypeId)
    (ho : o.op = .convert src dst x) (hs : P.underlying src = some .string) (hd : P.underlying dst = some (.slice e)) (he : P.underlying e = some (.int .u8)) (s : ByteArray) (hx : a.eval x = .string s)
    (h : ∀ cap w', Bys w' w.heap.size s.data.toList → Below w.heap.size w w' → s.size ≤ cap → wpList P ops Q rest (a.put o.dst (.slice (some ⟨w.heap.size, 0, none⟩) s.size cap)) w') :
    wpList P ops Q (o :: rest) a w := by
  refine wpList_plain hgd fun K hK => ?_
  have hrun := run_bytes_of_string (P := P) w src dst e s hs hd he
  unfold Oper.wp execOp
  simp only [ho, hx, Sem.run_bind, hrun, Result.andThen_ok, Sem.run_pure, Oper.upon_value]
  refine hK _ _ (h _ _ ⟨by simp, fun j hj => ?_⟩ ?_ ?_)
  · have hj' : j < s.data.size := by simpa using hj
    have hr : (bytesRow s (grownCap w s.size 0 e))[j]? = some (.int .u8 (s.data.toList[j].toNat : Int)) := by
      unfold bytesRow
      rw [Array.getElem?_append_left (by simpa using hj')]
      rw [Array.getElem?_map, Array.getElem?_eq_getElem hj']
      simp
    refine ⟨?_, ?_⟩
    · have := World.cell?_alloc_mark w.drew (bytesRow s (grownCap w s.size 0 e)) e ((bytesRow s (grownCap w s.size 0 e)).size, (bytesRow s (grownCap w s.size 0 e)).size + 1) j
      exact this.trans hr
    · have := World.frozen?_alloc_mark w.drew (bytesRow s (grownCap w s.size 0 e)) e (bytesRow s (grownCap w s.size 0 e)).size ((bytesRow s (grownCap w s.size 0 e)).size + 1) j
      refine this.trans ?_
      have hlt : j < (bytesRow s (grownCap w s.size 0 e)).size := by
        rcases Nat.lt_or_ge j (bytesRow s (grownCap w s.size 0 e)).size with h1 | h1
        · exact h1
        · rw [Array.getElem?_eq_none h1] at hr; cases hr
      have h0 : decide ((bytesRow s (grownCap w s.size 0 e)).size ≤ j) = false := by simp; exact hlt
      rw [h0]; rfl
  · exact (((Below.refl _ w).drew).alloc (Nat.le_refl _) _)
  · exact grownCap_ge w s.size 0 e
end Go.Proofs.Ytljeinlapkgjeaa
/- Plain facts on bytes and texts. -/
namespace Go.Proofs.Ytljeinlapkgjeaa
open Go.RowKit
theorem ext_at (s : ByteArray) (a b j : Nat) (h : j < (s.extract a b).data.toList.length) : ∃ h', (s.extract a b).data.toList[j] = s[a+j]'h' := by
  have h1 : j < min (b - a) (s.size - a) := by simpa using h
  refine ⟨by omega, ?_⟩
  simp [ByteArray.getElem_eq_getElem_data]
theorem ne_of_pos {s : ByteArray} (h : 0 < s.size) : ¬ s = ByteArray.empty := by
  rintro rfl; simp at h
theorem pos_of_ne {s : ByteArray} (h : ¬ s = ByteArray.empty) : 0 < s.size := by
  rcases Nat.eq_zero_or_pos s.size with h0 | h0
  · exact absurd (ByteArray.ext (Array.eq_empty_of_size_eq_zero h0)) h
  · exact h0
theorem isEmpty_of_pos {s : ByteArray} (h : 0 < s.size) : s.toList.isEmpty = false := by
  have := mt (Go.toList_nil_iff_emptyBytes s).1 (ne_of_pos h)
  cases hs : s.toList with
  | nil => exact absurd hs this
  | cons _ _ => rfl
theorem or64 (a b : Nat) (ha : a < 100000000) (hb : b < 64) : bits .or .i64 ((a : Int) * 64) (b : Int) = (a : Int) * 64 + b := by
  have h1 : (a : Int) * 64 = ((a * 64 : Nat) : Int) := by omega
  have h2 : (BitVec.ofInt 64 ((a * 64 : Nat) : Int)).toNat = a * 64 := by rw [BitVec.ofInt_natCast, BitVec.toNat_ofNat]; exact Nat.mod_eq_of_lt (by omega)
  have h3 : (BitVec.ofInt 64 (b : Int)).toNat = b := by rw [BitVec.ofInt_natCast, BitVec.toNat_ofNat]; exact Nat.mod_eq_of_lt (by omega)
  have h4 : a * 64 ||| b = a * 64 + b := by
    have := Nat.shiftLeft_add_eq_or_of_lt (i := 6) (b := b) (by omega) a
    rw [Nat.shiftLeft_eq] at this
    simpa using this.symm
  rw [h1]
  show IntKind.i64.wrap ((BitVec.ofInt 64 ((a * 64 : Nat) : Int) ||| BitVec.ofInt 64 (b : Int)).toNat : Int) = _
  rw [BitVec.toNat_or, h2, h3, h4, IntKind.wrap_i64]
  omega
theorem fin256 {p : Nat → Prop} (h : ∀ b : Fin 256, p b) (c : UInt8) : p c.toNat := h ⟨c.toNat, c.toNat_lt⟩
theorem tab0 (c : UInt8) : (bits BinOp.andNot IntKind.u8 (c.toNat : Int) 127 != 0) = decide (128 ≤ c.toNat) :=
  fin256 (p := fun b => (bits BinOp.andNot IntKind.u8 (b : Int) 127 != 0) = decide (128 ≤ b)) (by decide +kernel) c
theorem tab1 (c : UInt8) : (bits BinOp.andNot IntKind.u8 (c.toNat : Int) 31 != 192) = !decide (192 ≤ c.toNat ∧ c.toNat < 224) :=
  fin256 (p := fun b => (bits BinOp.andNot IntKind.u8 (b : Int) 31 != 192) = !decide (192 ≤ b ∧ b < 224)) (by decide +kernel) c
theorem tab2 (c : UInt8) : (bits BinOp.andNot IntKind.u8 (c.toNat : Int) 15 != 224) = !decide (224 ≤ c.toNat ∧ c.toNat < 240) :=
  fin256 (p := fun b => (bits BinOp.andNot IntKind.u8 (b : Int) 15 != 224) = !decide (224 ≤ b ∧ b < 240)) (by decide +kernel) c
theorem tab3 (c : UInt8) : (bits BinOp.andNot IntKind.u8 (c.toNat : Int) 7 != 240) = !decide (240 ≤ c.toNat ∧ c.toNat < 248) :=
  fin256 (p := fun b => (bits BinOp.andNot IntKind.u8 (b : Int) 7 != 240) = !decide (240 ≤ b ∧ b < 248)) (by decide +kernel) c
theorem tabc (c : UInt8) : (bits BinOp.andNot IntKind.u8 (c.toNat : Int) 63 == 128) = decide (128 ≤ c.toNat ∧ c.toNat < 192) :=
  fin256 (p := fun b => (bits BinOp.andNot IntKind.u8 (b : Int) 63 == 128) = decide (128 ≤ b ∧ b < 192)) (by decide +kernel) c
theorem low127 (c : UInt8) (h : c.toNat < 128) : bits BinOp.and IntKind.u8 (c.toNat : Int) 127 = (c.toNat : Int) :=
  fin256 (p := fun b => b < 128 → bits BinOp.and IntKind.u8 (b : Int) 127 = (b : Int)) (by decide +kernel) c h
theorem low31 (c : UInt8) : bits BinOp.and IntKind.u8 (c.toNat : Int) 31 = ((c.toNat % 32 : Nat) : Int) :=
  fin256 (p := fun b => bits BinOp.and IntKind.u8 (b : Int) 31 = ((b % 32 : Nat) : Int)) (by decide +kernel) c
theorem low15 (c : UInt8) : bits BinOp.and IntKind.u8 (c.toNat : Int) 15 = ((c.toNat % 16 : Nat) : Int) :=
  fin256 (p := fun b => bits BinOp.and IntKind.u8 (b : Int) 15 = ((b % 16 : Nat) : Int)) (by decide +kernel) c
theorem low7 (c : UInt8) : bits BinOp.and IntKind.u8 (c.toNat : Int) 7 = ((c.toNat % 8 : Nat) : Int) :=
  fin256 (p := fun b => bits BinOp.and IntKind.u8 (b : Int) 7 = ((b % 8 : Nat) : Int)) (by decide +kernel) c
theorem low63 (c : UInt8) : bits BinOp.and IntKind.u8 (c.toNat : Int) 63 = ((c.toNat % 64 : Nat) : Int) :=
  fin256 (p := fun b => bits BinOp.and IntKind.u8 (b : Int) 63 = ((b % 64 : Nat) : Int)) (by decide +kernel) c
end Go.Proofs.Ytljeinlapkgjeaa
/- Bytes in memory: written one by one, and made a text again. -/
namespace Go.Proofs.Ytljeinlapkgjeaa
open Go.RowKit
theorem Bys.set {w : World} {g k : Nat} {l : List UInt8} (h : Bys w g l) (hk : k < l.length) (c : UInt8) (n : Int) (hn : n = (c.toNat : Int)) : Bys (w.setCell ⟨g, k, none⟩ (.int .u8 n)) g (l.set k c) := by
  subst hn
  refine ⟨by simpa [World.setCell] using h.1, fun j hj => ?_⟩
  have hj' : j < l.length := by simpa using hj
  have h0 := h.2 j hj'
  refine ⟨?_, by rw [World.frozen?_setCell]; exact h0.2⟩
  by_cases e : j = k
  · subst e
    rw [World.cell?_setCell_same' _ _ _ (by rw [h0.1]; rfl)]
    simp
  · rw [World.cell?_setCell_other _ _ _ _ (by intro h; injection h; omega), h0.1]
    rw [List.getElem_set_ne (by omega)]
theorem Bys.far {w : World} {g : Nat} {l : List UInt8} (h : Bys w g l) {p : Addr} (hp : g ≠ p.block) (u : Value) : Bys (w.setCell p u) g l :=
  ⟨by simpa [World.setCell] using h.1, fun j hj => ⟨(World.cell?_of_block (a := ⟨g, j, none⟩) (Below.heap_setCell w p u g hp)).trans (h.2 j hj).1, (World.frozen?_of_block (a := ⟨g, j, none⟩) (Below.heap_setCell w p u g hp)).trans (h.2 j hj).2⟩⟩
/-- 'string(b)'. -/
theorem conv_str {P : Program} {ops : Array Oper} {rest : List Oper} {o : Oper} {a : Act} {Q : Exit → Act → World → Prop} {w : World} (hgd : o.guard = none) (x : Operand) (src dst e : TypeId)
    (ho : o.op = .convert src dst x) (hs : P.underlying src = some (.slice e)) (he : P.underlying e = some (.int .u8)) (hd : P.underlying dst = some .string) (l : List UInt8) (g n cap : Nat) (hx : a.eval x = .slice (some ⟨g, 0, none⟩) n cap) (hn : n = l.length) (hb : Bys w g l)
    (h : wpList P ops Q rest (a.put o.dst (.string ⟨l.toArray⟩)) w) :
    wpList P ops Q (o :: rest) a w := by
  subst hn
  refine wpList_plain hgd fun K hK => ?_
  have hrun := run_convert_bytes_back (P := P) w src dst e ⟨g, 0, none⟩ cap l hs he hd (fun j hj => by rw [Addr.add_lit, Nat.zero_add]; exact (hb.2 j hj).1)
  unfold Oper.wp execOp
  simp only [ho, hx, Sem.run_bind, hrun, Result.andThen_ok, Sem.run_pure, Oper.upon_value]
  exact hK _ _ h
def lowC (c : UInt8) : UInt8 := if 65 ≤ c.toNat ∧ c.toNat ≤ 90 then c + 32 else c
def lowB (s : ByteArray) : ByteArray := ⟨(s.data.toList.map lowC).toArray⟩
theorem lowB_list (s : ByteArray) : (lowB s).data.toList = s.data.toList.map lowC := by simp [lowB]
theorem lowB_size (s : ByteArray) : (lowB s).size = s.size := by
  show (s.data.toList.map lowC).toArray.size = s.data.size
  simp
theorem low_or (c : UInt8) (h1 : 65 ≤ c.toNat) (h2 : c.toNat ≤ 90) : bits BinOp.or IntKind.u8 (c.toNat : Int) 32 = ((lowC c).toNat : Int) := by
  have h := fin256 (p := fun b => 65 ≤ b ∧ b ≤ 90 → bits BinOp.or IntKind.u8 (b : Int) 32 = (b : Int) + 32) (by decide +kernel) c ⟨h1, h2⟩
  rw [h, lowC, if_pos ⟨h1, h2⟩]
  have := UInt8.toNat_add c 32
  rw [this]
  simp; omega
theorem low_step (l : List UInt8) (k : Nat) (hk : k < l.length) : ((l.take k).map lowC ++ l.drop k).set k (lowC l[k]) = (l.take (k + 1)).map lowC ++ l.drop (k + 1) := by
  rw [List.set_append_right _ _ (by simp; omega)]
  have h0 : k - (List.map lowC (List.take k l)).length = 0 := by simp; omega
  rw [h0, List.drop_eq_getElem_cons hk, List.set_cons_zero, List.take_succ_eq_append_getElem hk, List.map_append]
  simp only [List.map_cons, List.map_nil, List.append_assoc, List.cons_append, List.nil_append]
theorem low_at (l : List UInt8) (k : Nat) (hk : k < l.length) (h : k < ((l.take k).map lowC ++ l.drop k).length) : ((l.take k).map lowC ++ l.drop k)[k] = l[k] := by
  rw [List.getElem_append_right (by simp; omega)]
  simp
  congr 1
  omega
theorem low_same (l : List UInt8) (k : Nat) (hk : k < l.length) (h : lowC l[k] = l[k]) : (l.take k).map lowC ++ l.drop k = (l.take (k + 1)).map lowC ++ l.drop (k + 1) := by
  rw [List.drop_eq_getElem_cons hk, List.take_succ_eq_append_getElem hk, List.map_append]
  simp only [List.map_cons, List.map_nil, List.append_assoc, List.cons_append, List.nil_append, h]
set_option maxRecDepth 100000 in
set_option maxHeartbeats 400000 in
theorem low_c (s : ByteArray) (w : World) (hs : s.size ≤ 1000000) :
    Calls Try.prog 139 #[.string s] w (Ret w (.string (lowB s))) := by
  have hl : s.data.toList.length = s.size := Array.length_toList
  have HL := Lib.hid hl
  clear hl
  go_enter Try.func139, Try.ntmps139
  go_wp2_with (refine conv_bytes (o := ⟨some 7, .convert 9 92 _, _, _, _, _⟩) rfl _ _ _ 5 rfl Try.underlying9 Try.underlying92 Try.underlying5 s rfl ?_; intro cap w2 hby hB hcap)
  go_loopw [4, 5, 10] (fun _ _ i wr => ∃ k : Nat, k ≤ s.size ∧ i = .int .i64 k ∧ Bys wr w.heap.size ((s.data.toList.take k).map lowC ++ s.data.toList.drop k) ∧ Below w.heap.size w wr) (fun _ _ i _ => s.size - (intOf i).toNat)
  case atStart => exact ⟨0, Nat.zero_le _, rfl, by rw [List.take_zero, List.map_nil, List.nil_append, List.drop_zero]; exact hby, hB⟩
  case round =>
    obtain ⟨k, hk, rfl, hb, hBw⟩ := hrel
    by_cases hlt : k < s.size
    · have hkl : k < s.data.toList.length := by rw [HL.out]; exact hlt
      have hlen : k < ((s.data.toList.take k).map lowC ++ s.data.toList.drop k).length := by simp; omega
      have h0 := hb.2 k hlen
      rw [low_at _ k hkl hlen] at h0
      obtain ⟨c, hc⟩ : ∃ c, s.data.toList[k] = c := ⟨_, rfl⟩
      have hst := low_step _ k hkl
      have hsm := low_same _ k hkl
      have hset := fun n hn => hb.set hlen (lowC c) n hn
      rw [hc] at h0 hst hsm
      obtain ⟨c0, f0⟩ := h0
      have HST := Lib.hid hst
      have HSM := Lib.hid hsm
      have HSET := Lib.hid hset
      have HB := Lib.hid hb
      have hgt := hb.1
      clear hst hsm hset hb hby hc
      by_cases hup : 65 ≤ c.toNat ∧ c.toNat ≤ 90
      · have hor := low_or c hup.1 hup.2
        obtain ⟨h1, h2⟩ := hup
        go_wp2
        exact ⟨⟨k + 1, by omega, by go_num, by rw [← HST.out]; exact HSET.out _ rfl, hBw.setCell (p := ⟨w.heap.size, k, none⟩) (Nat.le_refl _) _⟩, by simp [intOf]; omega⟩
      · have hid : lowC c = c := by unfold lowC; rw [if_neg hup]
        have HB2 := HB.out
        rw [HSM.out hid] at HB2
        have HB3 := Lib.hid HB2
        clear HB2 hid
        by_cases h1 : 65 ≤ c.toNat
        · have h2 : 90 < c.toNat := by omega
          go_wp2
          exact ⟨⟨k + 1, by omega, by go_num, HB3.out, hBw⟩, by simp [intOf]; omega⟩
        · have h2 : c.toNat < 65 := by omega
          go_wp2
          exact ⟨⟨k + 1, by omega, by go_num, HB3.out, hBw⟩, by simp [intOf]; omega⟩
    · have hkn : k = s.size := by omega
      have hb2 : Bys wr w.heap.size (s.data.toList.map lowC) := by
        have h2 := hb
        rw [List.take_of_length_le (by rw [HL.out]; omega), List.drop_of_length_le (by rw [HL.out]; omega)] at h2
        simpa using h2
      have hl2 : s.size = (s.data.toList.map lowC).length := by rw [List.length_map, HL.out]
      have HL2 := Lib.hid hl2
      clear hkn hl2 hb
      go_wp2_with (refine conv_str (o := ⟨some 28, .convert 92 9 _, _, _, _, _⟩) rfl _ _ _ 5 rfl Try.underlying92 Try.underlying5 Try.underlying9 _ _ _ _ rfl HL2.out hb2 ?_)
      go_ret
      exact ⟨rfl, hBw⟩
end Go.Proofs.Ytljeinlapkgjeaa
