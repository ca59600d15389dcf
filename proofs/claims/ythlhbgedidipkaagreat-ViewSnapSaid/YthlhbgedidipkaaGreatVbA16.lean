/- A part of the proof: 15 texts joined. -/
import Derived.Test.YthlhbgedidipkaaGreatVbA13
import Derived.Test.YthlhbgedidipkaaGreatVbA15
import Derived.KernelRfl
set_option linter.all false
/- Readers of ViewSnap's parameters. -/
namespace Go.Proofs.YthlhbgedidipkaaGreat
open Go.ChangeShapes Go.WideShapes Go.ChangeAt Go.RowKit Go.Joins Go.Deep
structure StanzaStanza.Wf (x : StanzaStanza) : Prop where
  Kind : (Lit.int .u8 x.Kind).wf = true
  Show : (Lit.int .i64 x.Show).wf = true
  Prio : (Lit.int .i64 x.Prio).wf = true
  Code : (Lit.int .i64 x.Code).wf = true
  N : (Lit.int .i64 x.N).wf = true
set_option maxRecDepth 100000 in
theorem rd_T83 {H : Type} {enc : TypeId × Value → H} {W : World} {spare : Nat → Bool} {held : Bool} {fuel : Nat} {cs : List Value} {y : DataW H × List MemPlace} (h : DataW.trod enc Tryz.prog W 0 spare held fuel 83 cs = some y) : ∃ x : StanzaStanza, StanzaStanza.Wf x ∧ RepL (MW W) noBk cs [.y8 x.Kind, .s x.User, .s x.Res, .s x.Name, .i x.Show, .i x.Prio, .i x.Code, .i x.N] := by
  obtain ⟨xs, n, _, _, hl, hx, hall⟩ := DataW.trod_struct Tryz.underlying83 h
  have hce : Tryz.prog.cellsOf 83 = 8 := by kernel_rfl
  rw [hce] at hl
  match cs, hl, hall with
  | [c0, c1, c2, c3, c4, c5, c6, c7], _, hall =>
    obtain ⟨y0, hy0⟩ := get_some hx (show 0 < 8 by omega)
    have g0 : DataW.trod enc Tryz.prog W 0 spare held n 5 [c0] = some y0 := by
      have hz : Tryz.prog.cellsOf 5 = 1 := by kernel_rfl
      have g : DataW.trod enc Tryz.prog W 0 spare held n 5 (([c0, c1, c2, c3, c4, c5, c6, c7].drop 0).take (Tryz.prog.cellsOf 5)) = some y0 := (hall 0 _ rfl).trans hy0
      rw [hz] at g; exact g
    obtain ⟨x0, w0, r0⟩ := rd_int Tryz.underlying5 g0
    obtain ⟨y1, hy1⟩ := get_some hx (show 1 < 8 by omega)
    have g1 : DataW.trod enc Tryz.prog W 0 spare held n 9 [c1] = some y1 := by
      have hz : Tryz.prog.cellsOf 9 = 1 := by kernel_rfl
      have g : DataW.trod enc Tryz.prog W 0 spare held n 9 (([c0, c1, c2, c3, c4, c5, c6, c7].drop 1).take (Tryz.prog.cellsOf 9)) = some y1 := (hall 1 _ rfl).trans hy1
      rw [hz] at g; exact g
    obtain ⟨x1, r1⟩ := rd_string Tryz.underlying9 g1
    obtain ⟨y2, hy2⟩ := get_some hx (show 2 < 8 by omega)
    have g2 : DataW.trod enc Tryz.prog W 0 spare held n 9 [c2] = some y2 := by
      have hz : Tryz.prog.cellsOf 9 = 1 := by kernel_rfl
      have g : DataW.trod enc Tryz.prog W 0 spare held n 9 (([c0, c1, c2, c3, c4, c5, c6, c7].drop 2).take (Tryz.prog.cellsOf 9)) = some y2 := (hall 2 _ rfl).trans hy2
      rw [hz] at g; exact g
    obtain ⟨x2, r2⟩ := rd_string Tryz.underlying9 g2
    obtain ⟨y3, hy3⟩ := get_some hx (show 3 < 8 by omega)
    have g3 : DataW.trod enc Tryz.prog W 0 spare held n 9 [c3] = some y3 := by
      have hz : Tryz.prog.cellsOf 9 = 1 := by kernel_rfl
      have g : DataW.trod enc Tryz.prog W 0 spare held n 9 (([c0, c1, c2, c3, c4, c5, c6, c7].drop 3).take (Tryz.prog.cellsOf 9)) = some y3 := (hall 3 _ rfl).trans hy3
      rw [hz] at g; exact g
    obtain ⟨x3, r3⟩ := rd_string Tryz.underlying9 g3
    obtain ⟨y4, hy4⟩ := get_some hx (show 4 < 8 by omega)
    have g4 : DataW.trod enc Tryz.prog W 0 spare held n 3 [c4] = some y4 := by
      have hz : Tryz.prog.cellsOf 3 = 1 := by kernel_rfl
      have g : DataW.trod enc Tryz.prog W 0 spare held n 3 (([c0, c1, c2, c3, c4, c5, c6, c7].drop 4).take (Tryz.prog.cellsOf 3)) = some y4 := (hall 4 _ rfl).trans hy4
      rw [hz] at g; exact g
    obtain ⟨x4, w4, r4⟩ := rd_int Tryz.underlying3 g4
    obtain ⟨y5, hy5⟩ := get_some hx (show 5 < 8 by omega)
    have g5 : DataW.trod enc Tryz.prog W 0 spare held n 3 [c5] = some y5 := by
      have hz : Tryz.prog.cellsOf 3 = 1 := by kernel_rfl
      have g : DataW.trod enc Tryz.prog W 0 spare held n 3 (([c0, c1, c2, c3, c4, c5, c6, c7].drop 5).take (Tryz.prog.cellsOf 3)) = some y5 := (hall 5 _ rfl).trans hy5
      rw [hz] at g; exact g
    obtain ⟨x5, w5, r5⟩ := rd_int Tryz.underlying3 g5
    obtain ⟨y6, hy6⟩ := get_some hx (show 6 < 8 by omega)
    have g6 : DataW.trod enc Tryz.prog W 0 spare held n 3 [c6] = some y6 := by
      have hz : Tryz.prog.cellsOf 3 = 1 := by kernel_rfl
      have g : DataW.trod enc Tryz.prog W 0 spare held n 3 (([c0, c1, c2, c3, c4, c5, c6, c7].drop 6).take (Tryz.prog.cellsOf 3)) = some y6 := (hall 6 _ rfl).trans hy6
      rw [hz] at g; exact g
    obtain ⟨x6, w6, r6⟩ := rd_int Tryz.underlying3 g6
    obtain ⟨y7, hy7⟩ := get_some hx (show 7 < 8 by omega)
    have g7 : DataW.trod enc Tryz.prog W 0 spare held n 3 [c7] = some y7 := by
      have hz : Tryz.prog.cellsOf 3 = 1 := by kernel_rfl
      have g : DataW.trod enc Tryz.prog W 0 spare held n 3 (([c0, c1, c2, c3, c4, c5, c6, c7].drop 7).take (Tryz.prog.cellsOf 3)) = some y7 := (hall 7 _ rfl).trans hy7
      rw [hz] at g; exact g
    obtain ⟨x7, w7, r7⟩ := rd_int Tryz.underlying3 g7
    exact ⟨⟨x0, x1, x2, x3, x4, x5, x6, x7⟩, ⟨w0, w4, w5, w6, w7⟩, repL_app r0 (repL_app r1 (repL_app r2 (repL_app r3 (repL_app r4 (repL_app r5 (repL_app r6 (repL_app r7 (repL_nil))))))))⟩
theorem rd_T52 {H : Type} {enc : TypeId × Value → H} {W : World} {spare : Nat → Bool} {held : Bool} {fuel : Nat} {cs : List Value} {y : DataW H × List MemPlace} (h : DataW.trod enc Tryz.prog W 0 spare held fuel 52 cs = some y) : ∃ x : List StanzaStanza, (∀ z ∈ x, StanzaStanza.Wf z) ∧ RepL (MW W) noBk cs [(fun l : List StanzaStanza => V.sl (l.map StanzaStanza.v) false) x] :=
  rd_slice (f := StanzaStanza.v) (es := 8) (wf := StanzaStanza.Wf) Tryz.underlying52 (fun _ => rfl) (by intro a v hv; simp [V.cells] at hv; first | (subst hv; rfl) | (rcases hv with rfl | rfl | rfl | rfl | rfl | rfl | rfl | rfl <;> rfl)) (by omega) (by kernel_rfl) (fun n cs y h => rd_T83 h) h
structure PresPres.Wf (x : PresPres) : Prop where
  Show : (Lit.int .i64 x.Show).wf = true
  Prio : (Lit.int .i64 x.Prio).wf = true
  Seq : (Lit.int .i64 x.Seq).wf = true
set_option maxRecDepth 100000 in
theorem rd_T42 {H : Type} {enc : TypeId × Value → H} {W : World} {spare : Nat → Bool} {held : Bool} {fuel : Nat} {cs : List Value} {y : DataW H × List MemPlace} (h : DataW.trod enc Tryz.prog W 0 spare held fuel 42 cs = some y) : ∃ x : PresPres, PresPres.Wf x ∧ RepL (MW W) noBk cs [.b x.On, .i x.Show, .i x.Prio, .i x.Seq] := by
  obtain ⟨xs, n, _, _, hl, hx, hall⟩ := DataW.trod_struct Tryz.underlying42 h
  have hce : Tryz.prog.cellsOf 42 = 4 := by kernel_rfl
  rw [hce] at hl
  match cs, hl, hall with
  | [c0, c1, c2, c3], _, hall =>
    obtain ⟨y0, hy0⟩ := get_some hx (show 0 < 4 by omega)
    have g0 : DataW.trod enc Tryz.prog W 0 spare held n 4 [c0] = some y0 := by
      have hz : Tryz.prog.cellsOf 4 = 1 := by kernel_rfl
      have g : DataW.trod enc Tryz.prog W 0 spare held n 4 (([c0, c1, c2, c3].drop 0).take (Tryz.prog.cellsOf 4)) = some y0 := (hall 0 _ rfl).trans hy0
      rw [hz] at g; exact g
    obtain ⟨x0, r0⟩ := rd_bool Tryz.underlying4 g0
    obtain ⟨y1, hy1⟩ := get_some hx (show 1 < 4 by omega)
    have g1 : DataW.trod enc Tryz.prog W 0 spare held n 3 [c1] = some y1 := by
      have hz : Tryz.prog.cellsOf 3 = 1 := by kernel_rfl
      have g : DataW.trod enc Tryz.prog W 0 spare held n 3 (([c0, c1, c2, c3].drop 1).take (Tryz.prog.cellsOf 3)) = some y1 := (hall 1 _ rfl).trans hy1
      rw [hz] at g; exact g
    obtain ⟨x1, w1, r1⟩ := rd_int Tryz.underlying3 g1
    obtain ⟨y2, hy2⟩ := get_some hx (show 2 < 4 by omega)
    have g2 : DataW.trod enc Tryz.prog W 0 spare held n 3 [c2] = some y2 := by
      have hz : Tryz.prog.cellsOf 3 = 1 := by kernel_rfl
      have g : DataW.trod enc Tryz.prog W 0 spare held n 3 (([c0, c1, c2, c3].drop 2).take (Tryz.prog.cellsOf 3)) = some y2 := (hall 2 _ rfl).trans hy2
      rw [hz] at g; exact g
    obtain ⟨x2, w2, r2⟩ := rd_int Tryz.underlying3 g2
    obtain ⟨y3, hy3⟩ := get_some hx (show 3 < 4 by omega)
    have g3 : DataW.trod enc Tryz.prog W 0 spare held n 3 [c3] = some y3 := by
      have hz : Tryz.prog.cellsOf 3 = 1 := by kernel_rfl
      have g : DataW.trod enc Tryz.prog W 0 spare held n 3 (([c0, c1, c2, c3].drop 3).take (Tryz.prog.cellsOf 3)) = some y3 := (hall 3 _ rfl).trans hy3
      rw [hz] at g; exact g
    obtain ⟨x3, w3, r3⟩ := rd_int Tryz.underlying3 g3
    exact ⟨⟨x0, x1, x2, x3⟩, ⟨w1, w2, w3⟩, repL_app r0 (repL_app r1 (repL_app r2 (repL_app r3 (repL_nil))))⟩
structure BookRow.Wf (x : BookRow) : Prop where
  P : PresPres.Wf x.P
set_option maxRecDepth 100000 in
theorem rd_T44 {H : Type} {enc : TypeId × Value → H} {W : World} {spare : Nat → Bool} {held : Bool} {fuel : Nat} {cs : List Value} {y : DataW H × List MemPlace} (h : DataW.trod enc Tryz.prog W 0 spare held fuel 44 cs = some y) : ∃ x : BookRow, BookRow.Wf x ∧ RepL (MW W) noBk cs [.s x.User, .s x.Res, .b x.P.On, .i x.P.Show, .i x.P.Prio, .i x.P.Seq] := by
  obtain ⟨xs, n, _, _, hl, hx, hall⟩ := DataW.trod_struct Tryz.underlying44 h
  have hce : Tryz.prog.cellsOf 44 = 6 := by kernel_rfl
  rw [hce] at hl
  match cs, hl, hall with
  | [c0, c1, c2, c3, c4, c5], _, hall =>
    obtain ⟨y0, hy0⟩ := get_some hx (show 0 < 3 by omega)
    have g0 : DataW.trod enc Tryz.prog W 0 spare held n 9 [c0] = some y0 := by
      have hz : Tryz.prog.cellsOf 9 = 1 := by kernel_rfl
      have g : DataW.trod enc Tryz.prog W 0 spare held n 9 (([c0, c1, c2, c3, c4, c5].drop 0).take (Tryz.prog.cellsOf 9)) = some y0 := (hall 0 _ rfl).trans hy0
      rw [hz] at g; exact g
    obtain ⟨x0, r0⟩ := rd_string Tryz.underlying9 g0
    obtain ⟨y1, hy1⟩ := get_some hx (show 1 < 3 by omega)
    have g1 : DataW.trod enc Tryz.prog W 0 spare held n 9 [c1] = some y1 := by
      have hz : Tryz.prog.cellsOf 9 = 1 := by kernel_rfl
      have g : DataW.trod enc Tryz.prog W 0 spare held n 9 (([c0, c1, c2, c3, c4, c5].drop 1).take (Tryz.prog.cellsOf 9)) = some y1 := (hall 1 _ rfl).trans hy1
      rw [hz] at g; exact g
    obtain ⟨x1, r1⟩ := rd_string Tryz.underlying9 g1
    obtain ⟨y2, hy2⟩ := get_some hx (show 2 < 3 by omega)
    have g2 : DataW.trod enc Tryz.prog W 0 spare held n 42 [c2, c3, c4, c5] = some y2 := by
      have hz : Tryz.prog.cellsOf 42 = 4 := by kernel_rfl
      have g : DataW.trod enc Tryz.prog W 0 spare held n 42 (([c0, c1, c2, c3, c4, c5].drop 2).take (Tryz.prog.cellsOf 42)) = some y2 := (hall 2 _ rfl).trans hy2
      rw [hz] at g; exact g
    obtain ⟨x2, w2, r2⟩ := rd_T42 g2
    exact ⟨⟨x0, x1, x2⟩, ⟨w2⟩, repL_app r0 (repL_app r1 (repL_app r2 (repL_nil)))⟩
theorem rd_T25 {H : Type} {enc : TypeId × Value → H} {W : World} {spare : Nat → Bool} {held : Bool} {fuel : Nat} {cs : List Value} {y : DataW H × List MemPlace} (h : DataW.trod enc Tryz.prog W 0 spare held fuel 25 cs = some y) : ∃ x : List BookRow, (∀ z ∈ x, BookRow.Wf z) ∧ RepL (MW W) noBk cs [(fun l : List BookRow => V.sl (l.map BookRow.v) false) x] :=
  rd_slice (f := BookRow.v) (es := 6) (wf := BookRow.Wf) Tryz.underlying25 (fun _ => rfl) (by intro a v hv; simp [V.cells] at hv; first | (subst hv; rfl) | (rcases hv with rfl | rfl | rfl | rfl | rfl | rfl <;> rfl)) (by omega) (by kernel_rfl) (fun n cs y h => rd_T44 h) h
structure BookState.Wf (x : BookState) : Prop where
  Seq : (Lit.int .i64 x.Seq).wf = true
  Rows : ∀ z ∈ x.Rows, BookRow.Wf z
set_option maxRecDepth 100000 in
theorem rd_T27 {H : Type} {enc : TypeId × Value → H} {W : World} {spare : Nat → Bool} {held : Bool} {fuel : Nat} {cs : List Value} {y : DataW H × List MemPlace} (h : DataW.trod enc Tryz.prog W 0 spare held fuel 27 cs = some y) : ∃ x : BookState, BookState.Wf x ∧ RepL (MW W) noBk cs [.i x.Seq, .sl (List.map BookRow.v x.Rows) false] := by
  obtain ⟨xs, n, _, _, hl, hx, hall⟩ := DataW.trod_struct Tryz.underlying27 h
  have hce : Tryz.prog.cellsOf 27 = 2 := by kernel_rfl
  rw [hce] at hl
  match cs, hl, hall with
  | [c0, c1], _, hall =>
    obtain ⟨y0, hy0⟩ := get_some hx (show 0 < 2 by omega)
    have g0 : DataW.trod enc Tryz.prog W 0 spare held n 3 [c0] = some y0 := by
      have hz : Tryz.prog.cellsOf 3 = 1 := by kernel_rfl
      have g : DataW.trod enc Tryz.prog W 0 spare held n 3 (([c0, c1].drop 0).take (Tryz.prog.cellsOf 3)) = some y0 := (hall 0 _ rfl).trans hy0
      rw [hz] at g; exact g
    obtain ⟨x0, w0, r0⟩ := rd_int Tryz.underlying3 g0
    obtain ⟨y1, hy1⟩ := get_some hx (show 1 < 2 by omega)
    have g1 : DataW.trod enc Tryz.prog W 0 spare held n 25 [c1] = some y1 := by
      have hz : Tryz.prog.cellsOf 25 = 1 := by kernel_rfl
      have g : DataW.trod enc Tryz.prog W 0 spare held n 25 (([c0, c1].drop 1).take (Tryz.prog.cellsOf 25)) = some y1 := (hall 1 _ rfl).trans hy1
      rw [hz] at g; exact g
    obtain ⟨x1, w1, r1⟩ := rd_T25 g1
    exact ⟨⟨x0, x1⟩, ⟨w0, w1⟩, repL_app r0 (repL_app r1 (repL_nil))⟩
end Go.Proofs.YthlhbgedidipkaaGreat

/- Presences, keys and books in plain words. -/
namespace Go.Proofs.YthlhbgedidipkaaGreat
open Go.RowKit
def presCheckL (p : PresPres) : Int :=
  if p.Show < 0 ∨ 4 < p.Show ∨ p.Prio < -128 ∨ 127 < p.Prio ∨ p.Seq < 0 ∨ 1099511627776 < p.Seq then 8
  else if p.On = false ∧ (p.Show ≠ 0 ∨ p.Prio ≠ 0) then 4 else 0
def namedL (u r : ByteArray) : Bool := decide (resL r.data.toList = 0) && isBareL u.data.toList
def keyL (u r : ByteArray) : ByteArray := if namedL u r = true then u ++ ⟨#[32]⟩ ++ r else ⟨#[]⟩
theorem keyL_no {u r : ByteArray} (h : namedL u r = false) : keyL u r = ⟨#[]⟩ := if_neg (by simp [h])
theorem cat_sz (u r : ByteArray) (hu : u.size ≤ 100000) (hr : r.size ≤ 100000) : u.size + (⟨#[32]⟩ : ByteArray).size ≤ 4611686018427387904 ∧ (u ++ (⟨#[32]⟩ : ByteArray)).size + r.size ≤ 4611686018427387904 := by
  rw [ByteArray.size_append]
  have : (⟨#[32]⟩ : ByteArray).size = 1 := rfl
  omega
instance : Inhabited BookRow := ⟨⟨⟨#[]⟩, ⟨#[]⟩, ⟨false, 0, 0, 0⟩⟩⟩
instance : Inhabited PresPres := ⟨⟨false, 0, 0, 0⟩⟩
def keyR (r : BookRow) : ByteArray := keyL r.User r.Res
def smallR (r : BookRow) : Prop := r.User.size ≤ 100000 ∧ r.Res.size ≤ 100000
def manyL (rows : List BookRow) (u : ByteArray) : Nat := rows.countP fun r => r.User.toList == u.toList
def errL : List BookRow → Int
  | [] => 0
  | r :: l => if presCheckL r.P ≠ 0 then presCheckL r.P else if r.P.On = false then 4 else errL l
theorem err_at (rows : List BookRow) (k : Nat) (h : k < rows.length) : errL (rows.drop k) = if presCheckL rows[k].P ≠ 0 then presCheckL rows[k].P else if rows[k].P.On = false then 4 else errL (rows.drop (k + 1)) := by
  rw [List.drop_eq_getElem_cons h]; rfl
def lessR (a b : BookRow) : Bool := Op.bytesLess (keyR a).toList (keyR b).toList
def okAt (seq : Int) (rows : List BookRow) (i : Nat) : Bool :=
  match rows[i]? with
  | none => true
  | some x => decide (1 ≤ x.P.Seq) && decide (x.P.Seq ≤ seq) && (match i with | 0 => true | j + 1 => match rows[j]? with | some y => lessR y x | none => true) && !(rows.take i).any (fun o => o.P.Seq == x.P.Seq)
def ordL (seq : Int) (rows : List BookRow) : Bool := (List.range rows.length).all (okAt seq rows)
theorem okAt_0 {seq : Int} {rows : List BookRow} (h : 0 < rows.length) : okAt seq rows 0 = (decide ((1 : Int) ≤ rows[0].P.Seq) && decide (rows[0].P.Seq ≤ seq) && true && !(rows.take 0).any (fun o => o.P.Seq == rows[0].P.Seq)) := by
  simp only [okAt, List.getElem?_eq_getElem h]
theorem okAt_s {seq : Int} {rows : List BookRow} (j : Nat) (h : j + 1 < rows.length) : okAt seq rows (j + 1) = (decide (1 ≤ rows[j + 1].P.Seq) && decide (rows[j + 1].P.Seq ≤ seq) && lessR rows[j] rows[j + 1] && !(rows.take (j + 1)).any (fun o => o.P.Seq == rows[j + 1].P.Seq)) := by
  simp only [okAt, List.getElem?_eq_getElem h, List.getElem?_eq_getElem (show j < rows.length by omega)]
def fullL (rows : List BookRow) : Bool := rows.any fun r => decide (3 < manyL rows r.User)
def emptyL (rows : List BookRow) : Bool := rows.any fun r => (keyR r).toList == (⟨#[]⟩ : ByteArray).toList
def bookCheck (seq : Int) (rows : List BookRow) : Int :=
  if 16 < rows.length then 5 else if seq < 0 ∨ 1099511627776 < seq then 8 else if emptyL rows = true then 11 else if errL rows ≠ 0 then errL rows else if ordL seq rows = false then 10 else if fullL rows = true then 7 else 0
def smallB (rows : List BookRow) : Prop := ∀ r ∈ rows, smallR r
def cmpR (r : BookRow) (k : ByteArray) : Int := Lib.compareBytes (keyR r).data.toList k.data.toList
/-- where a key stands: all rows ahead of it are less, none behind is. -/
structure StandsAt (rows : List BookRow) (k : ByteArray) (pos : Nat) : Prop where
  le : pos ≤ rows.length
  lt : ∀ i (h : i < rows.length), i < pos → cmpR rows[i] k < 0
  ge : ∀ i (h : i < rows.length), pos ≤ i → 0 ≤ cmpR rows[i] k
end Go.Proofs.YthlhbgedidipkaaGreat

/- Plain laws of no program: what loops and questions come to. -/
namespace Go.Proofs.YthlhbgedidipkaaGreat
open Go.RowKit
theorem at_nat {α : Type} (l : List α) (k : Nat) : at? l (k : Int) = l[k]? := by
  unfold at?; rw [if_pos (Int.natCast_nonneg k)]; rfl
theorem at_lt {α : Type} {l : List α} {k : Nat} (h : k < l.length) : at? l (k : Int) = some l[k] := by rw [at_nat, List.getElem?_eq_getElem h]
theorem w64_id {r : Int} (h : -9223372036854775808 ≤ r ∧ r ≤ 9223372036854775807) : w64 r = r := wrap_ok h
theorem w64_succ {k : Nat} (h : k ≤ 1000000) : w64 ((k : Int) + 1) = ((k + 1 : Nat) : Int) := by rw [w64_id (by omega)]; rfl
theorem lt_tt {a b : Nat} (h : a < b) : decide ((a : Int) < (b : Int)) = true := by simpa using h
theorem lt_ff {a b : Nat} (h : b ≤ a) : decide ((a : Int) < (b : Int)) = false := by simpa using h
theorem drop_at {α : Type} {l : List α} {k : Nat} (h : k < l.length) : l.drop k = l[k] :: l.drop (k + 1) := List.drop_eq_getElem_cons h
theorem fuel_pos : (1000000 : Nat) < fuel := by decide
theorem u64_id {r : Int} (hr : 0 ≤ r ∧ r ≤ 9223372036854775807) : IntKind.u64.wrap r = r := by
  simp only [IntKind.wrap, IntKind.signed, IntKind.bits]
  first | omega | (simp; omega)
theorem fdivN (m p : Nat) : (m : Int).fdiv (2 ^ p) = ((m / 2 ^ p : Nat) : Int) := by
  rw [show ((2 : Int) ^ p) = ((2 ^ p : Nat) : Int) by simp, Int.fdiv_eq_ediv_of_nonneg _ (Int.natCast_nonneg _)]; rfl
theorem half_p {i j : Nat} (h : i + j ≤ 100000) : w64 (shrI .u64 (IntKind.wrap .u64 (w64 ((i : Int) + (j : Int)))) (1 : Int)) = (((i + j) / 2 : Nat) : Int) := by
  have e1 : w64 ((i : Int) + (j : Int)) = ((i + j : Nat) : Int) := by rw [w64_id (by omega)]; omega
  have e2 : IntKind.wrap .u64 ((i + j : Nat) : Int) = ((i + j : Nat) : Int) := u64_id (by omega)
  have e : (min (1 : Int).toNat IntKind.u64.bits) = 1 := rfl
  have e3 : shrI .u64 ((i + j : Nat) : Int) 1 = (((i + j) / 2 : Nat) : Int) := by
    unfold shrI
    rw [e, fdivN]
  rw [e1, e2, e3]
  exact w64_id (by omega)
theorem app_ok {α : Type} {a b : List α} (h : a.length + b.length ≤ 1000000) : app? a b = some (a ++ b) := if_pos h
theorem tl_data (s : ByteArray) : s.toList = s.data.toList := by rw [ByteArray.toList_eq]
/-- texts, compared as the code does. -/
def eqT (a b : ByteArray) : Bool := a.toList == b.toList
theorem eqT_iff {a b : ByteArray} : (a.toList == b.toList) = true ↔ a = b := by
  rw [beq_iff_eq, tl_data, tl_data]
  exact ⟨fun h => by cases a; cases b; congr 1; exact Array.ext' h, fun h => by rw [h]⟩
theorem cmp_less : ∀ (a b : List UInt8), Op.bytesLess a b = decide (Lib.compareBytes a b < 0)
  | [], [] => by simp [Op.bytesLess, Lib.compareBytes]
  | [], _ :: _ => by simp [Op.bytesLess, Lib.compareBytes]
  | _ :: _, [] => by simp [Op.bytesLess, Lib.compareBytes]
  | a :: xs, b :: ys => by
    unfold Op.bytesLess Lib.compareBytes
    rw [cmp_less xs ys]
    by_cases h : a < b
    · simp [h]
    · by_cases h2 : b < a
      · have hne : a ≠ b := fun e => by subst e; exact UInt8.lt_irrefl _ h2
        simp [h, h2, hne]
      · have e : a = b := by
          apply UInt8.toNat_inj.1
          rw [UInt8.lt_iff_toNat_lt] at h h2; omega
        subst e; simp [h]
theorem cmp_refl : ∀ a : List UInt8, Lib.compareBytes a a = 0
  | [] => by simp [Lib.compareBytes]
  | a :: xs => by unfold Lib.compareBytes; rw [if_neg (UInt8.lt_irrefl _), if_neg (UInt8.lt_irrefl _)]; exact cmp_refl xs
theorem cmp_eq0 : ∀ {a b : List UInt8}, Lib.compareBytes a b = 0 → a = b
  | [], [], _ => rfl
  | [], _ :: _, h => by simp [Lib.compareBytes] at h
  | _ :: _, [], h => by simp [Lib.compareBytes] at h
  | a :: xs, b :: ys, h => by
    unfold Lib.compareBytes at h
    split at h
    · omega
    · split at h
      · omega
      · rename_i h1 h2
        have e : a = b := by
          apply UInt8.toNat_inj.1
          rw [UInt8.lt_iff_toNat_lt] at h1 h2; omega
        rw [e, cmp_eq0 h]
theorem cmp_anti : ∀ (a b : List UInt8), Lib.compareBytes b a = - Lib.compareBytes a b
  | [], [] => by simp [Lib.compareBytes]
  | [], _ :: _ => by simp [Lib.compareBytes]
  | _ :: _, [] => by simp [Lib.compareBytes]
  | a :: xs, b :: ys => by
    unfold Lib.compareBytes
    rw [cmp_anti xs ys]
    by_cases h : a < b
    · have h2 : ¬ b < a := by rw [UInt8.lt_iff_toNat_lt] at h ⊢; omega
      simp [h, h2]
    · by_cases h2 : b < a
      · simp [h, h2]
      · simp [h, h2]
theorem cmp_trans : ∀ {a b c : List UInt8}, Lib.compareBytes a b < 0 → Lib.compareBytes b c < 0 → Lib.compareBytes a c < 0
  | [], [], _, h, _ => by simp [Lib.compareBytes] at h
  | _ :: _, [], _, h, _ => by simp [Lib.compareBytes] at h
  | _, _ :: _, [], _, h => by simp [Lib.compareBytes] at h
  | [], _ :: _, _ :: _, _, _ => by simp [Lib.compareBytes]
  | a :: xs, b :: ys, c :: cs, h1, h2 => by
    unfold Lib.compareBytes at h1 h2 ⊢
    by_cases x : a < b
    · by_cases y : b < c
      · rw [if_pos (UInt8.lt_trans x y)]; omega
      · rw [if_neg y] at h2
        by_cases z : c < b
        · rw [if_pos z] at h2; omega
        · have e : b = c := by
            apply UInt8.toNat_inj.1
            rw [UInt8.lt_iff_toNat_lt] at y z; omega
          subst e
          rw [if_pos x]; omega
    · rw [if_neg x] at h1
      by_cases x2 : b < a
      · rw [if_pos x2] at h1; omega
      · rw [if_neg x2] at h1
        have e : a = b := by
          apply UInt8.toNat_inj.1
          rw [UInt8.lt_iff_toNat_lt] at x x2; omega
        subst e
        by_cases y : a < c
        · rw [if_pos y]; omega
        · rw [if_neg y] at h2 ⊢
          by_cases z : c < a
          · rw [if_pos z] at h2; omega
          · rw [if_neg z] at h2 ⊢
            exact cmp_trans h1 h2
end Go.Proofs.YthlhbgedidipkaaGreat

/- Keys' order; what stands where; what Set, Off, Get and Next leave, in plain words. -/
namespace Go.Proofs.YthlhbgedidipkaaGreat
open Go.RowKit
def sortedR (rows : List BookRow) : Prop := ∀ i j (hj : j < rows.length) (hi : i < j), cmpR rows[i] (keyR rows[j]) < 0
theorem sorted_next {rows : List BookRow} (h : ∀ i (hj : i + 1 < rows.length), lessR rows[i] rows[i + 1] = true) : sortedR rows := by
  intro i j hj hi
  induction j with
  | zero => omega
  | succ j ih =>
    have h1 := h j hj
    unfold lessR at h1
    rw [cmp_less, decide_eq_true_eq, ByteArray.toList_eq, ByteArray.toList_eq] at h1
    rcases Nat.lt_or_ge i j with h2 | h2
    · exact cmp_trans (ih (by omega) h2) h1
    · have : i = j := by omega
      subst this; exact h1
theorem okAt_all {seq : Int} {rows : List BookRow} (h : ordL seq rows = true) (i : Nat) (hi : i < rows.length) : okAt seq rows i = true := by
  unfold ordL at h
  rw [List.all_eq_true] at h
  exact h i (List.mem_range.2 hi)
theorem ord_sorted {seq : Int} {rows : List BookRow} (h : ordL seq rows = true) : sortedR rows := by
  refine sorted_next fun i hj => ?_
  have := okAt_all h (i + 1) hj
  rw [okAt_s i hj] at this
  simp only [Bool.and_eq_true] at this
  exact this.1.2
theorem check_ord {seq : Int} {rows : List BookRow} (h : bookCheck seq rows = 0) : ordL seq rows = true := by
  unfold bookCheck at h
  by_cases h0 : ordL seq rows = true
  · exact h0
  · exfalso
    have h1 : ordL seq rows = false := by simpa using h0
    repeat' split at h
    all_goals first | omega | contradiction
theorem check_len {seq : Int} {rows : List BookRow} (h : bookCheck seq rows = 0) : rows.length ≤ 16 := by
  unfold bookCheck at h
  by_cases h0 : 16 < rows.length
  · rw [if_pos h0] at h; omega
  · omega
theorem check_seq {seq : Int} {rows : List BookRow} (h : bookCheck seq rows = 0) : 0 ≤ seq ∧ seq ≤ 1099511627776 := by
  unfold bookCheck at h
  by_cases h0 : seq < 0 ∨ 1099511627776 < seq
  · rw [if_pos h0] at h; split at h <;> omega
  · omega
end Go.Proofs.YthlhbgedidipkaaGreat

/- The book in plain words: when a state may be; where a key stands in rows that are cut there. -/
namespace Go.Proofs.YthlhbgedidipkaaGreat
open Go.RowKit
structure Good (seq : Int) (rows : List BookRow) : Prop where
  len : rows.length ≤ 16
  seq0 : 0 ≤ seq
  seqM : seq ≤ 1099511627776
  key : ∀ r ∈ rows, ((keyR r).toList == (⟨#[]⟩ : ByteArray).toList) = false
  pres : ∀ r ∈ rows, presCheckL r.P = 0 ∧ r.P.On = true
  rng : ∀ r ∈ rows, 1 ≤ r.P.Seq ∧ r.P.Seq ≤ seq
  ord : rows.Pairwise fun a b => cmpR a (keyR b) < 0
  diff : rows.Pairwise fun a b => a.P.Seq ≠ b.P.Seq
  many : ∀ r ∈ rows, manyL rows r.User ≤ 3
/-- rows that are cut where a key stands. -/
structure Cut3 (K : ByteArray) (A M B : List BookRow) : Prop where
  a : ∀ x ∈ A, cmpR x K < 0
  m : ∀ x ∈ M, cmpR x K = 0
  b : ∀ x ∈ B, 0 < cmpR x K
end Go.Proofs.YthlhbgedidipkaaGreat

/- The book in plain words: a table of presences under keys that are in order. -/
namespace Go.Proofs.YthlhbgedidipkaaGreat
open Go.RowKit
structure Fam where
  n : Nat
  u : Nat → ByteArray
  r : Nat → ByteArray
  ok : ∀ m, m < n → ((keyL (u m) (r m)).toList == (⟨#[]⟩ : ByteArray).toList) = false ∧ (u m).size ≤ 100 ∧ (r m).size ≤ 100
  mono : ∀ i j, i < j → j < n → Lib.compareBytes (keyL (u i) (r i)).data.toList (keyL (u j) (r j)).data.toList < 0
def Fam.key (F : Fam) (m : Nat) : ByteArray := keyL (F.u m) (F.r m)
def preT (has : List PresPres) (m : Nat) : PresPres := has.getD m ⟨false, 0, 0, 0⟩
def onF (has : List PresPres) (m : Nat) : Bool := (preT has m).On
def rowT (F : Fam) (has : List PresPres) (m : Nat) : BookRow := ⟨F.u m, F.r m, preT has m⟩
def tabA (F : Fam) (has : List PresPres) (l : List Nat) : List BookRow := (l.filter (onF has)).map (rowT F has)
def tabR (F : Fam) (has : List PresPres) : List BookRow := tabA F has (List.range F.n)
structure TabOK (F : Fam) (seq : Int) (has : List PresPres) : Prop where
  len : has.length = F.n
  seq0 : 0 ≤ seq
  pres : ∀ m, m < F.n → onF has m = true → presCheckL (preT has m) = 0
  rng : ∀ m, m < F.n → onF has m = true → 1 ≤ (preT has m).Seq ∧ (preT has m).Seq ≤ seq
  diff : ∀ i j, i < j → j < F.n → onF has i = true → onF has j = true → (preT has i).Seq ≠ (preT has j).Seq
  cnt : (tabR F has).length ≤ 16
  many : ∀ m, m < F.n → onF has m = true → manyL (tabR F has) (F.u m) ≤ 3
end Go.Proofs.YthlhbgedidipkaaGreat

/- The book in plain words: Set, Off and Get by a table; the twenty keys of the laws. -/
namespace Go.Proofs.YthlhbgedidipkaaGreat
open Go.RowKit
end Go.Proofs.YthlhbgedidipkaaGreat

/- The program's book computes what the plain words say: checks. -/
namespace Go.Proofs.YthlhbgedidipkaaGreat
open Go.RowKit
theorem named_p {u r : ByteArray} (hu : u.size ≤ 100000) (hr : r.size ≤ 100000) : p_pres_named u r = some (namedL u r) := by
  unfold p_pres_named p_addr_Resource p_addr_IsBare namedL
  rw [if_pos hr, if_pos hu]
  by_cases h : resL r.data.toList = 0
  · simp [h]
  · have e : (resL r.data.toList == 0) = false := by simpa using h
    simp [h, e]
theorem key_p {u r : ByteArray} (hu : u.size ≤ 100000) (hr : r.size ≤ 100000) : p_pres_Key u r = some (keyL u r) := by
  unfold p_pres_Key cat? keyL
  rw [named_p hu hr]
  obtain ⟨h1, h2⟩ := cat_sz u r hu hr
  cases namedL u r
  · rfl
  · simp only [Option.bind_some, cond_true, if_pos h1, if_pos h2, if_true]
theorem in_p (n a b : Int) : p_pres_in n a b = some (decide (a ≤ n) && decide (n ≤ b)) := by
  unfold p_pres_in
  cases decide (a ≤ n) <;> rfl
theorem presCheck_p (x : PresPres) : p_pres_Check x = some (presCheckL x) := by
  unfold p_pres_Check presCheckL
  simp only [in_p, Option.bind_some]
  cases h1 : (decide (0 ≤ x.Show) && decide (x.Show ≤ 4)) with
  | false =>
    have : x.Show < 0 ∨ 4 < x.Show := by simp at h1; omega
    rw [if_pos (by omega)]; rfl
  | true =>
    cases h2 : (decide (-128 ≤ x.Prio) && decide (x.Prio ≤ 127)) with
    | false =>
      have : x.Prio < -128 ∨ 127 < x.Prio := by simp at h2; omega
      rw [if_pos (by omega)]; rfl
    | true =>
      cases h3 : (decide (0 ≤ x.Seq) && decide (x.Seq ≤ 1099511627776)) with
      | false =>
        have : x.Seq < 0 ∨ 1099511627776 < x.Seq := by simp at h3; omega
        rw [if_pos (by omega)]; rfl
      | true =>
        simp at h1 h2 h3
        rw [if_neg (by omega)]
        cases ho : x.On with
        | true => simp
        | false =>
          by_cases hs : x.Show = 0 <;> by_cases hq : x.Prio = 0
          · simp [hs, hq]
          · have e : (x.Prio == 0) = false := by simpa using hq
            simp [hs, hq, e]
          · have e : (x.Show == 0) = false := by simpa using hs
            simp [hs, hq, e]
          · have e : (x.Show == 0) = false := by simpa using hs
            simp [hs, hq, e]
end Go.Proofs.YthlhbgedidipkaaGreat

/- The program's book computes what the plain words say: find, Set, Off, Get, Next, Of, Best, Users, Same. -/
namespace Go.Proofs.YthlhbgedidipkaaGreat
open Go.RowKit
end Go.Proofs.YthlhbgedidipkaaGreat

/- The book in plain words: what laws share. -/
namespace Go.Proofs.YthlhbgedidipkaaGreat
open Go.RowKit
end Go.Proofs.YthlhbgedidipkaaGreat

/- Lists in the order of their names. -/
namespace Go.Proofs.YthlhbgedidipkaaGreat
open Go.RowKit
def cmpB (a b : ByteArray) : Int := Lib.compareBytes a.data.toList b.data.toList
theorem cmpB_self (a : ByteArray) : cmpB a a = 0 := cmp_refl _
theorem cmpB_eq {a b : ByteArray} (h : cmpB a b = 0) : a = b := by
  have h2 : a.data.toList = b.data.toList := cmp_eq0 h
  exact eqT_iff.1 (by rw [tl_data, tl_data, h2]; simp)
theorem cmpB_anti (a b : ByteArray) : cmpB b a = - cmpB a b := cmp_anti _ _
theorem cmpB_trans {a b c : ByteArray} (h : cmpB a b < 0) (h2 : cmpB b c < 0) : cmpB a c < 0 := cmp_trans h h2
section
variable {α : Type} (nm : α → ByteArray)
def Srt (l : List α) : Prop := l.Pairwise fun x y => cmpB (nm x) (nm y) < 0
def posK (l : List α) (k : ByteArray) : Nat := l.findIdx fun x => decide (0 ≤ cmpB (nm x) k)
def hasK (l : List α) (k : ByteArray) : Bool := match l[posK nm l k]? with
  | some x => cmpB (nm x) k == 0
  | none => false
def inK (l : List α) (x : α) : List α :=
  if hasK nm l (nm x) = true then l.set (posK nm l (nm x)) x else if l.length < 64 then l.take (posK nm l (nm x)) ++ x :: l.drop (posK nm l (nm x)) else l
variable {nm}
theorem srt_at {l : List α} (hs : Srt nm l) {i j : Nat} (hj : j < l.length) (hi : i < j) : cmpB (nm l[i]) (nm l[j]) < 0 := List.pairwise_iff_getElem.1 hs i j (by omega) hj hi
theorem pos_le (l : List α) (k : ByteArray) : posK nm l k ≤ l.length := List.findIdx_le_length
theorem pos_lt {l : List α} {k : ByteArray} {i : Nat} (h : i < l.length) (hi : i < posK nm l k) : cmpB (nm l[i]) k < 0 := by
  have := List.not_of_lt_findIdx hi
  simp at this; omega
theorem pos_ge {l : List α} (hs : Srt nm l) {k : ByteArray} {i : Nat} (h : i < l.length) (hi : posK nm l k ≤ i) : 0 ≤ cmpB (nm l[i]) k := by
  have hj : posK nm l k < l.length := by omega
  have h0 : 0 ≤ cmpB (nm (l[posK nm l k]'hj)) k := by
    have := List.findIdx_getElem (p := fun x : α => decide (0 ≤ cmpB (nm x) k)) (xs := l) (w := hj)
    exact of_decide_eq_true this
  rcases Nat.lt_or_ge (posK nm l k) i with h1 | h1
  · have h2 := srt_at hs h h1
    rcases Int.lt_or_le (cmpB (nm l[i]) k) 0 with h3 | h3
    · have := cmpB_trans h2 h3; omega
    · exact h3
  · have : i = posK nm l k := by omega
    subst this; exact h0
theorem has_yes {l : List α} {k : ByteArray} (h : hasK nm l k = true) : ∃ hj : posK nm l k < l.length, nm l[posK nm l k] = k := by
  unfold hasK at h
  rcases Nat.lt_or_ge (posK nm l k) l.length with hj | hj
  · rw [List.getElem?_eq_getElem hj] at h
    exact ⟨hj, cmpB_eq (by simpa using h)⟩
  · rw [List.getElem?_eq_none hj] at h; cases h
theorem has_no {l : List α} (hs : Srt nm l) {k : ByteArray} (h : hasK nm l k = false) {i : Nat} (hi : i < l.length) (h1 : posK nm l k ≤ i) : 0 < cmpB (nm l[i]) k := by
  have hj : posK nm l k < l.length := by omega
  unfold hasK at h
  rw [List.getElem?_eq_getElem hj] at h
  have h0 : cmpB (nm l[posK nm l k]) k ≠ 0 := by simpa using h
  have h2 := pos_ge hs hj (Nat.le_refl _)
  rcases Nat.lt_or_ge (posK nm l k) i with h3 | h3
  · have h4 := srt_at hs hi h3
    have h5 := cmpB_anti (nm l[posK nm l k]) k
    have h6 : cmpB k (nm l[posK nm l k]) < 0 := by omega
    have h7 := cmpB_trans h6 h4
    have h8 := cmpB_anti k (nm l[i])
    omega
  · have : i = posK nm l k := by omega
    subst this; omega
/-- what is put in stands between what is less and what is more. -/
theorem put_cut {l : List α} (hs : Srt nm l) (x : α) (hr : l.length < 64) : ∃ A C, inK nm l x = A ++ x :: C ∧ (∀ a ∈ A, cmpB (nm a) (nm x) < 0) ∧ (∀ c ∈ C, cmpB (nm x) (nm c) < 0) ∧ (A ++ C).Sublist l ∧ (∀ y ∈ l, nm y ≠ nm x → y ∈ A ∨ y ∈ C) := by
  have hA : ∀ a ∈ l.take (posK nm l (nm x)), cmpB (nm a) (nm x) < 0 := fun a ha => by
    obtain ⟨i, hi, rfl⟩ := List.getElem_of_mem ha
    rw [List.getElem_take]
    rw [List.length_take] at hi
    exact pos_lt _ (by omega)
  have hsplit : ∀ y ∈ l, y ∈ l.take (posK nm l (nm x)) ∨ y ∈ l.drop (posK nm l (nm x)) := fun y hy => by
    rw [← List.take_append_drop (posK nm l (nm x)) l] at hy
    exact List.mem_append.1 hy
  cases h : hasK nm l (nm x) with
  | true =>
    obtain ⟨hj, hk⟩ := has_yes h
    refine ⟨l.take (posK nm l (nm x)), l.drop (posK nm l (nm x) + 1), ?_, hA, fun c hc => ?_, ?_, fun y hy hn => ?_⟩
    · unfold inK; rw [if_pos h, List.set_eq_take_append_cons_drop, if_pos hj]
    · obtain ⟨i, hi, rfl⟩ := List.getElem_of_mem hc
      rw [List.length_drop] at hi
      rw [List.getElem_drop]
      have := srt_at hs (show posK nm l (nm x) + 1 + i < l.length by omega) (show posK nm l (nm x) < posK nm l (nm x) + 1 + i by omega)
      rw [hk] at this; exact this
    · have e := List.take_append_drop (posK nm l (nm x)) l
      rw [drop_at hj] at e
      conv => rhs; rw [← e]
      exact List.Sublist.append (List.Sublist.refl _) (List.sublist_cons_self _ _)
    · rcases hsplit y hy with h1 | h1
      · exact .inl h1
      · rw [drop_at hj] at h1
        rcases List.mem_cons.1 h1 with h2 | h2
        · subst h2; exact absurd hk hn
        · exact .inr h2
  | false =>
    refine ⟨l.take (posK nm l (nm x)), l.drop (posK nm l (nm x)), ?_, hA, fun c hc => ?_, ?_, fun y hy _ => hsplit y hy⟩
    · unfold inK; rw [if_neg (by simp [h]), if_pos hr]
    · obtain ⟨i, hi, rfl⟩ := List.getElem_of_mem hc
      rw [List.length_drop] at hi
      rw [List.getElem_drop]
      have := has_no hs h (show posK nm l (nm x) + i < l.length by omega) (by omega)
      have h2 := cmpB_anti (nm l[posK nm l (nm x) + i]) (nm x)
      omega
    · rw [List.take_append_drop]
      exact List.Sublist.refl _
theorem put_srt {l : List α} (hs : Srt nm l) (x : α) (hr : l.length < 64) : Srt nm (inK nm l x) := by
  obtain ⟨A, C, e, h1, h2, h3, _⟩ := put_cut hs x hr
  have h4 := List.Pairwise.sublist h3 hs
  rw [List.pairwise_append] at h4
  unfold Srt
  rw [e, List.pairwise_append, List.pairwise_cons]
  refine ⟨h4.1, ⟨h2, h4.2.1⟩, fun a ha b hb => ?_⟩
  rcases List.mem_cons.1 hb with h5 | h5
  · subst h5; exact h1 a ha
  · exact h4.2.2 a ha b h5
theorem put_mem {l : List α} (hs : Srt nm l) (x : α) (hr : l.length < 64) (y : α) : y ∈ inK nm l x ↔ y = x ∨ (y ∈ l ∧ nm y ≠ nm x) := by
  obtain ⟨A, C, e, h1, h2, h3, h5⟩ := put_cut hs x hr
  rw [e, List.mem_append, List.mem_cons]
  constructor
  · rintro (h | h | h)
    · refine .inr ⟨h3.subset (List.mem_append_left _ h), fun hn => ?_⟩
      have := h1 y h
      rw [hn, cmpB_self] at this; omega
    · exact .inl h
    · refine .inr ⟨h3.subset (List.mem_append_right _ h), fun hn => ?_⟩
      have := h2 y h
      rw [hn, cmpB_self] at this; omega
  · rintro (h | ⟨h, hn⟩)
    · exact .inr (.inl h)
    · rcases h5 y h hn with h6 | h6
      · exact .inl h6
      · exact .inr (.inr h6)
theorem put_len {l : List α} (x : α) : (inK nm l x).length ≤ l.length + 1 ∧ (l.length ≤ 64 → (inK nm l x).length ≤ 64) := by
  have := pos_le (nm := nm) l (nm x)
  unfold inK
  split
  · simp
  · split
    · simp; omega
    · simp
theorem srt_full {l : List α} (hs : Srt nm l) (x : α) : Srt nm (inK nm l x) := by
  rcases Nat.lt_or_ge l.length 64 with h | h
  · exact put_srt hs x h
  · cases hk : hasK nm l (nm x) with
    | false => unfold inK; rw [if_neg (by simp [hk]), if_neg (by omega)]; exact hs
    | true =>
      obtain ⟨hj, hn⟩ := has_yes hk
      unfold inK; rw [if_pos hk]
      unfold Srt
      rw [List.pairwise_iff_getElem]
      intro i j hi hj2 hij
      simp only [List.length_set] at hi hj2
      have h0 := srt_at hs hj2 hij
      rw [List.getElem_set, List.getElem_set]
      split
      · rename_i h1
        subst h1
        split
        · omega
        · rw [hn] at h0; exact h0
      · split
        · rename_i h1
          subst h1
          rw [hn] at h0; exact h0
        · exact h0
theorem srt_filter {l : List α} (hs : Srt nm l) (p : α → Bool) : Srt nm (l.filter p) := List.Pairwise.filter _ hs
theorem srt_ext : ∀ {a b : List α}, Srt nm a → Srt nm b → (∀ x, x ∈ a ↔ x ∈ b) → a = b
  | [], b, _, _, h => by
    cases b with
    | nil => rfl
    | cons y b => have := (h y).2 List.mem_cons_self; cases this
  | x :: a, [], _, _, h => by have := (h x).1 List.mem_cons_self; cases this
  | x :: a, y :: b, ha, hb, h => by
    have ha' := List.pairwise_cons.1 ha
    have hb' := List.pairwise_cons.1 hb
    have hxy : x = y := by
      rcases List.mem_cons.1 ((h x).1 List.mem_cons_self) with h1 | h1
      · exact h1
      rcases List.mem_cons.1 ((h y).2 List.mem_cons_self) with h2 | h2
      · exact h2.symm
      have h3 := ha'.1 y h2
      have h4 := hb'.1 x h1
      have h5 := cmpB_anti (nm x) (nm y)
      omega
    subst hxy
    congr 1
    refine srt_ext ha'.2 hb'.2 fun z => ⟨fun hz => ?_, fun hz => ?_⟩
    · rcases List.mem_cons.1 ((h z).1 (List.mem_cons_of_mem _ hz)) with h1 | h1
      · subst h1; have := ha'.1 z hz; rw [cmpB_self] at this; omega
      · exact h1
    · rcases List.mem_cons.1 ((h z).2 (List.mem_cons_of_mem _ hz)) with h1 | h1
      · subst h1; have := hb'.1 z hz; rw [cmpB_self] at this; omega
      · exact h1
theorem srt_inj {l : List α} (hs : Srt nm l) {x y : α} (hx : x ∈ l) (hy : y ∈ l) (h : nm x = nm y) : x = y := by
  obtain ⟨i, hi, rfl⟩ := List.getElem_of_mem hx
  obtain ⟨j, hj, rfl⟩ := List.getElem_of_mem hy
  rcases Nat.lt_trichotomy i j with h1 | h1 | h1
  · have := srt_at hs hj h1; rw [h, cmpB_self] at this; omega
  · subst h1; rfl
  · have := srt_at hs hi h1; rw [h, cmpB_self] at this; omega
end
theorem clone_p {α : Type} {l : List α} (h : l.length ≤ 1000) : clone? l = some l := by unfold clone?; rw [if_pos (by omega)]
theorem delF_p {α : Type} {f : α → Option Bool} {p : α → Bool} {l : List α} (hl : l.length ≤ 1000) (h : ∀ x ∈ l, f x = some (p x)) : delF? f l = some (l.filter fun x => !p x) := by
  unfold delF?
  rw [if_pos ⟨by omega, List.all_eq_true.2 fun x hx => by rw [h x hx]; rfl⟩]
  congr 1
  refine List.filter_congr fun x hx => ?_
  rw [h x hx]; rfl
theorem insAt_p {α : Type} {l : List α} {i : Nat} (x : α) (hl : l.length ≤ 1000) (hi : i ≤ l.length) : insAt? l (i : Int) x = some (l.take i ++ x :: l.drop i) := by
  unfold insAt?
  rw [if_pos ⟨by omega, by omega, by omega⟩, Int.toNat_natCast]
end Go.Proofs.YthlhbgedidipkaaGreat

/- view's lists: find, put, cut, rise (printed for three types). -/
namespace Go.Proofs.YthlhbgedidipkaaGreat
open Go.RowKit
def idB (s : ByteArray) : ByteArray := s
theorem cmp_view_Row (x : MailEntry) (k : ByteArray) : p_view_find_view_Row__1 x k (fun x0 => p_view_Row_key x0) = some (cmpB (MailEntry.Key x) k) := rfl
theorem search_view_Row {l : List MailEntry} {key : ByteArray} (hn : l.length ≤ 1000) (hs : Srt MailEntry.Key l) : ∀ (d i j F : Nat), i + d = j → j ≤ l.length → i ≤ posK MailEntry.Key l key → posK MailEntry.Key l key ≤ j → d < F →
    p_slices_BinarySearchFunc_view_Row_l1 (fun x0 x1 => p_view_find_view_Row__1 x0 x1 (fun x0 => p_view_Row_key x0)) l key F i j = some ((posK MailEntry.Key l key : Int), (posK MailEntry.Key l key : Int)) := by
  intro d
  induction d using Nat.strongRecOn with
  | ind d ih =>
    intro i j F hd hj h1 h2 hF
    obtain ⟨F, rfl⟩ : ∃ G, F = G + 1 := ⟨F - 1, by omega⟩
    rw [p_slices_BinarySearchFunc_view_Row_l1]
    rcases Nat.lt_or_ge i j with hij | hij
    · rw [lt_tt hij, half_p (by omega), w64_succ (show (i + j) / 2 ≤ 1000000 by omega)]
      have hm : (i + j) / 2 < l.length := by omega
      simp only [cond_true, at_lt hm, Option.bind_some, cmp_view_Row]
      rcases Nat.lt_or_ge ((i + j) / 2) (posK MailEntry.Key l key) with hlt | hge
      · rw [decide_eq_true (pos_lt (nm := MailEntry.Key) hm hlt), cond_true]
        exact ih (j - ((i + j) / 2 + 1)) (by omega) _ _ F (by omega) hj (by omega) h2 (by omega)
      · have := pos_ge hs hm hge
        rw [decide_eq_false (by omega), cond_false]
        exact ih ((i + j) / 2 - i) (by omega) _ _ F (by omega) (by omega) h1 hge (by omega)
    · rw [lt_ff hij]
      have e1 : i = posK MailEntry.Key l key := by omega
      have e2 : j = posK MailEntry.Key l key := by omega
      rw [e1, e2]; rfl
theorem find_view_Row {l : List MailEntry} {key : ByteArray} (hn : l.length ≤ 1000) (hs : Srt MailEntry.Key l) : p_view_find_view_Row_ l key (fun x0 => p_view_Row_key x0) = some ((posK MailEntry.Key l key : Int), hasK MailEntry.Key l key) := by
  have hl := search_view_Row (key := key) hn hs l.length 0 l.length fuel (by omega) (Nat.le_refl _) (Nat.zero_le _) (pos_le _ _) (by have := fuel_pos; omega)
  unfold p_view_find_view_Row_ p_slices_BinarySearchFunc_view_Row
  rw [show ((0 : Int)) = ((0 : Nat) : Int) from rfl, hl]
  simp only [Option.bind_some]
  unfold hasK
  rcases Nat.lt_or_ge (posK MailEntry.Key l key) l.length with h | h
  · rw [lt_tt h, at_lt h, List.getElem?_eq_getElem h]
    simp only [cond_true, Option.bind_some, cmp_view_Row]; rfl
  · rw [lt_ff h, List.getElem?_eq_none h]; rfl
theorem put_view_Row {l : List MailEntry} (hn : l.length ≤ 1000) (hs : Srt MailEntry.Key l) (x : MailEntry) : p_view_put_view_Row_ l x (fun x0 => p_view_Row_key x0) = some (inK MailEntry.Key l x) := by
  have hx : (fun x0 => p_view_Row_key x0) x = some (MailEntry.Key x) := rfl
  unfold p_view_put_view_Row_ inK
  rw [hx]
  simp only [Option.bind_some]
  rw [find_view_Row hn hs, clone_p hn]
  simp only [Option.bind_some]
  cases h : hasK MailEntry.Key l (MailEntry.Key x) with
  | true =>
    obtain ⟨hj, _⟩ := has_yes h
    rw [if_pos rfl, at_lt hj]
    simp only [cond_true, Option.bind_some, Int.toNat_natCast]
  | false =>
    rw [if_neg (by simp)]
    simp only [cond_false]
    by_cases h64 : l.length < 64
    · rw [if_pos h64, decide_eq_true (show (l.length : Int) < 64 by omega), insAt_p x hn (pos_le _ _)]; rfl
    · rw [if_neg h64, decide_eq_false (show ¬ (l.length : Int) < 64 by omega)]; rfl
theorem rise_view_Row_l {l : List MailEntry} (hn : l.length ≤ 1000) (hs : Srt MailEntry.Key l) : ∀ (n k F : Nat), k + n = l.length → n < F → 1 ≤ k → p_view_rise_view_Row__l1 (fun x0 => p_view_Row_key x0) l F k = some (.inr (l.length : Int))
  | 0, k, F + 1, hk, hF, h1 => by
    have : k = l.length := by omega
    rw [p_view_rise_view_Row__l1, lt_ff (by omega), this]; rfl
  | n + 1, k, F + 1, hk, hF, h1 => by
    have hlt : k < l.length := by omega
    have hw : w64 ((k : Int) - 1) = ((k - 1 : Nat) : Int) := by rw [w64_id (by omega)]; omega
    have h2 : k - 1 < l.length := by omega
    have h3 := srt_at hs hlt (show k - 1 < k by omega)
    have hf : ∀ y : MailEntry, p_view_Row_key y = some (MailEntry.Key y) := fun _ => rfl
    rw [p_view_rise_view_Row__l1, lt_tt hlt, hw, at_lt hlt, at_lt h2]
    simp only [cond_true, Option.bind_some, hf]
    rw [cmp_less, tl_data, tl_data, decide_eq_true (show Lib.compareBytes _ _ < 0 from h3), cond_true, w64_succ (by omega)]
    exact rise_view_Row_l hn hs n (k + 1) F (by omega) (by omega) (by omega)
theorem rise_view_Row {l : List MailEntry} (hn : l.length ≤ 1000) (hs : Srt MailEntry.Key l) : p_view_rise_view_Row_ l (fun x0 => p_view_Row_key x0) = some true := by
  unfold p_view_rise_view_Row_
  rcases Nat.eq_zero_or_pos l.length with h | h
  · obtain ⟨F, hF⟩ : ∃ F, fuel = F + 1 := ⟨fuel - 1, by have := fuel_pos; omega⟩
    rw [hF, p_view_rise_view_Row__l1, decide_eq_false (show ¬ (1 : Int) < (l.length : Int) by omega)]; rfl
  · have := rise_view_Row_l hn hs (l.length - 1) 1 fuel (by omega) (by have := fuel_pos; omega) (Nat.le_refl _)
    rw [show ((1 : Nat) : Int) = 1 from rfl] at this
    rw [this]; rfl
theorem cut_view_Row {l : List MailEntry} (hn : l.length ≤ 1000) (k : ByteArray) : p_view_cut_view_Row_ l k (fun x0 => p_view_Row_key x0) = some (l.filter fun x => !((MailEntry.Key x).toList == k.toList)) := by
  unfold p_view_cut_view_Row_
  rw [clone_p hn]
  simp only [Option.bind_some]
  rw [delF_p (f := fun x0 => p_view_cut_view_Row__1 x0 (fun x0 => p_view_Row_key x0) k) (p := fun x => (MailEntry.Key x).toList == k.toList) hn fun x _ => rfl]; rfl
theorem cmp_view_Contact (x : Ref35Contact) (k : ByteArray) : p_view_find_view_Contact__1 x k (fun x0 => p_view_Contact_user x0) = some (cmpB (Ref35Contact.User x) k) := rfl
theorem search_view_Contact {l : List Ref35Contact} {key : ByteArray} (hn : l.length ≤ 1000) (hs : Srt Ref35Contact.User l) : ∀ (d i j F : Nat), i + d = j → j ≤ l.length → i ≤ posK Ref35Contact.User l key → posK Ref35Contact.User l key ≤ j → d < F →
    p_slices_BinarySearchFunc_view_Contact_l1 (fun x0 x1 => p_view_find_view_Contact__1 x0 x1 (fun x0 => p_view_Contact_user x0)) l key F i j = some ((posK Ref35Contact.User l key : Int), (posK Ref35Contact.User l key : Int)) := by
  intro d
  induction d using Nat.strongRecOn with
  | ind d ih =>
    intro i j F hd hj h1 h2 hF
    obtain ⟨F, rfl⟩ : ∃ G, F = G + 1 := ⟨F - 1, by omega⟩
    rw [p_slices_BinarySearchFunc_view_Contact_l1]
    rcases Nat.lt_or_ge i j with hij | hij
    · rw [lt_tt hij, half_p (by omega), w64_succ (show (i + j) / 2 ≤ 1000000 by omega)]
      have hm : (i + j) / 2 < l.length := by omega
      simp only [cond_true, at_lt hm, Option.bind_some, cmp_view_Contact]
      rcases Nat.lt_or_ge ((i + j) / 2) (posK Ref35Contact.User l key) with hlt | hge
      · rw [decide_eq_true (pos_lt (nm := Ref35Contact.User) hm hlt), cond_true]
        exact ih (j - ((i + j) / 2 + 1)) (by omega) _ _ F (by omega) hj (by omega) h2 (by omega)
      · have := pos_ge hs hm hge
        rw [decide_eq_false (by omega), cond_false]
        exact ih ((i + j) / 2 - i) (by omega) _ _ F (by omega) (by omega) h1 hge (by omega)
    · rw [lt_ff hij]
      have e1 : i = posK Ref35Contact.User l key := by omega
      have e2 : j = posK Ref35Contact.User l key := by omega
      rw [e1, e2]; rfl
theorem find_view_Contact {l : List Ref35Contact} {key : ByteArray} (hn : l.length ≤ 1000) (hs : Srt Ref35Contact.User l) : p_view_find_view_Contact_ l key (fun x0 => p_view_Contact_user x0) = some ((posK Ref35Contact.User l key : Int), hasK Ref35Contact.User l key) := by
  have hl := search_view_Contact (key := key) hn hs l.length 0 l.length fuel (by omega) (Nat.le_refl _) (Nat.zero_le _) (pos_le _ _) (by have := fuel_pos; omega)
  unfold p_view_find_view_Contact_ p_slices_BinarySearchFunc_view_Contact
  rw [show ((0 : Int)) = ((0 : Nat) : Int) from rfl, hl]
  simp only [Option.bind_some]
  unfold hasK
  rcases Nat.lt_or_ge (posK Ref35Contact.User l key) l.length with h | h
  · rw [lt_tt h, at_lt h, List.getElem?_eq_getElem h]
    simp only [cond_true, Option.bind_some, cmp_view_Contact]; rfl
  · rw [lt_ff h, List.getElem?_eq_none h]; rfl
theorem put_view_Contact {l : List Ref35Contact} (hn : l.length ≤ 1000) (hs : Srt Ref35Contact.User l) (x : Ref35Contact) : p_view_put_view_Contact_ l x (fun x0 => p_view_Contact_user x0) = some (inK Ref35Contact.User l x) := by
  have hx : (fun x0 => p_view_Contact_user x0) x = some (Ref35Contact.User x) := rfl
  unfold p_view_put_view_Contact_ inK
  rw [hx]
  simp only [Option.bind_some]
  rw [find_view_Contact hn hs, clone_p hn]
  simp only [Option.bind_some]
  cases h : hasK Ref35Contact.User l (Ref35Contact.User x) with
  | true =>
    obtain ⟨hj, _⟩ := has_yes h
    rw [if_pos rfl, at_lt hj]
    simp only [cond_true, Option.bind_some, Int.toNat_natCast]
  | false =>
    rw [if_neg (by simp)]
    simp only [cond_false]
    by_cases h64 : l.length < 64
    · rw [if_pos h64, decide_eq_true (show (l.length : Int) < 64 by omega), insAt_p x hn (pos_le _ _)]; rfl
    · rw [if_neg h64, decide_eq_false (show ¬ (l.length : Int) < 64 by omega)]; rfl
theorem rise_view_Contact_l {l : List Ref35Contact} (hn : l.length ≤ 1000) (hs : Srt Ref35Contact.User l) : ∀ (n k F : Nat), k + n = l.length → n < F → 1 ≤ k → p_view_rise_view_Contact__l1 (fun x0 => p_view_Contact_user x0) l F k = some (.inr (l.length : Int))
  | 0, k, F + 1, hk, hF, h1 => by
    have : k = l.length := by omega
    rw [p_view_rise_view_Contact__l1, lt_ff (by omega), this]; rfl
  | n + 1, k, F + 1, hk, hF, h1 => by
    have hlt : k < l.length := by omega
    have hw : w64 ((k : Int) - 1) = ((k - 1 : Nat) : Int) := by rw [w64_id (by omega)]; omega
    have h2 : k - 1 < l.length := by omega
    have h3 := srt_at hs hlt (show k - 1 < k by omega)
    have hf : ∀ y : Ref35Contact, p_view_Contact_user y = some (Ref35Contact.User y) := fun _ => rfl
    rw [p_view_rise_view_Contact__l1, lt_tt hlt, hw, at_lt hlt, at_lt h2]
    simp only [cond_true, Option.bind_some, hf]
    rw [cmp_less, tl_data, tl_data, decide_eq_true (show Lib.compareBytes _ _ < 0 from h3), cond_true, w64_succ (by omega)]
    exact rise_view_Contact_l hn hs n (k + 1) F (by omega) (by omega) (by omega)
theorem rise_view_Contact {l : List Ref35Contact} (hn : l.length ≤ 1000) (hs : Srt Ref35Contact.User l) : p_view_rise_view_Contact_ l (fun x0 => p_view_Contact_user x0) = some true := by
  unfold p_view_rise_view_Contact_
  rcases Nat.eq_zero_or_pos l.length with h | h
  · obtain ⟨F, hF⟩ : ∃ F, fuel = F + 1 := ⟨fuel - 1, by have := fuel_pos; omega⟩
    rw [hF, p_view_rise_view_Contact__l1, decide_eq_false (show ¬ (1 : Int) < (l.length : Int) by omega)]; rfl
  · have := rise_view_Contact_l hn hs (l.length - 1) 1 fuel (by omega) (by have := fuel_pos; omega) (Nat.le_refl _)
    rw [show ((1 : Nat) : Int) = 1 from rfl] at this
    rw [this]; rfl
theorem cut_view_Contact {l : List Ref35Contact} (hn : l.length ≤ 1000) (k : ByteArray) : p_view_cut_view_Contact_ l k (fun x0 => p_view_Contact_user x0) = some (l.filter fun x => !((Ref35Contact.User x).toList == k.toList)) := by
  unfold p_view_cut_view_Contact_
  rw [clone_p hn]
  simp only [Option.bind_some]
  rw [delF_p (f := fun x0 => p_view_cut_view_Contact__1 x0 (fun x0 => p_view_Contact_user x0) k) (p := fun x => (Ref35Contact.User x).toList == k.toList) hn fun x _ => rfl]; rfl
theorem cmp_string (x : ByteArray) (k : ByteArray) : p_view_find_string__1 x k (fun x0 => p_view_itself x0) = some (cmpB (idB x) k) := rfl
theorem search_string {l : List ByteArray} {key : ByteArray} (hn : l.length ≤ 1000) (hs : Srt idB l) : ∀ (d i j F : Nat), i + d = j → j ≤ l.length → i ≤ posK idB l key → posK idB l key ≤ j → d < F →
    p_slices_BinarySearchFunc_string_l1 (fun x0 x1 => p_view_find_string__1 x0 x1 (fun x0 => p_view_itself x0)) l key F i j = some ((posK idB l key : Int), (posK idB l key : Int)) := by
  intro d
  induction d using Nat.strongRecOn with
  | ind d ih =>
    intro i j F hd hj h1 h2 hF
    obtain ⟨F, rfl⟩ : ∃ G, F = G + 1 := ⟨F - 1, by omega⟩
    rw [p_slices_BinarySearchFunc_string_l1]
    rcases Nat.lt_or_ge i j with hij | hij
    · rw [lt_tt hij, half_p (by omega), w64_succ (show (i + j) / 2 ≤ 1000000 by omega)]
      have hm : (i + j) / 2 < l.length := by omega
      simp only [cond_true, at_lt hm, Option.bind_some, cmp_string]
      rcases Nat.lt_or_ge ((i + j) / 2) (posK idB l key) with hlt | hge
      · rw [decide_eq_true (pos_lt (nm := idB) hm hlt), cond_true]
        exact ih (j - ((i + j) / 2 + 1)) (by omega) _ _ F (by omega) hj (by omega) h2 (by omega)
      · have := pos_ge hs hm hge
        rw [decide_eq_false (by omega), cond_false]
        exact ih ((i + j) / 2 - i) (by omega) _ _ F (by omega) (by omega) h1 hge (by omega)
    · rw [lt_ff hij]
      have e1 : i = posK idB l key := by omega
      have e2 : j = posK idB l key := by omega
      rw [e1, e2]; rfl
theorem find_string {l : List ByteArray} {key : ByteArray} (hn : l.length ≤ 1000) (hs : Srt idB l) : p_view_find_string_ l key (fun x0 => p_view_itself x0) = some ((posK idB l key : Int), hasK idB l key) := by
  have hl := search_string (key := key) hn hs l.length 0 l.length fuel (by omega) (Nat.le_refl _) (Nat.zero_le _) (pos_le _ _) (by have := fuel_pos; omega)
  unfold p_view_find_string_ p_slices_BinarySearchFunc_string
  rw [show ((0 : Int)) = ((0 : Nat) : Int) from rfl, hl]
  simp only [Option.bind_some]
  unfold hasK
  rcases Nat.lt_or_ge (posK idB l key) l.length with h | h
  · rw [lt_tt h, at_lt h, List.getElem?_eq_getElem h]
    simp only [cond_true, Option.bind_some, cmp_string]; rfl
  · rw [lt_ff h, List.getElem?_eq_none h]; rfl
theorem put_string {l : List ByteArray} (hn : l.length ≤ 1000) (hs : Srt idB l) (x : ByteArray) : p_view_put_string_ l x (fun x0 => p_view_itself x0) = some (inK idB l x) := by
  have hx : (fun x0 => p_view_itself x0) x = some (idB x) := rfl
  unfold p_view_put_string_ inK
  rw [hx]
  simp only [Option.bind_some]
  rw [find_string hn hs, clone_p hn]
  simp only [Option.bind_some]
  cases h : hasK idB l (idB x) with
  | true =>
    obtain ⟨hj, _⟩ := has_yes h
    rw [if_pos rfl, at_lt hj]
    simp only [cond_true, Option.bind_some, Int.toNat_natCast]
  | false =>
    rw [if_neg (by simp)]
    simp only [cond_false]
    by_cases h64 : l.length < 64
    · rw [if_pos h64, decide_eq_true (show (l.length : Int) < 64 by omega), insAt_p x hn (pos_le _ _)]; rfl
    · rw [if_neg h64, decide_eq_false (show ¬ (l.length : Int) < 64 by omega)]; rfl
theorem rise_string_l {l : List ByteArray} (hn : l.length ≤ 1000) (hs : Srt idB l) : ∀ (n k F : Nat), k + n = l.length → n < F → 1 ≤ k → p_view_rise_string__l1 (fun x0 => p_view_itself x0) l F k = some (.inr (l.length : Int))
  | 0, k, F + 1, hk, hF, h1 => by
    have : k = l.length := by omega
    rw [p_view_rise_string__l1, lt_ff (by omega), this]; rfl
  | n + 1, k, F + 1, hk, hF, h1 => by
    have hlt : k < l.length := by omega
    have hw : w64 ((k : Int) - 1) = ((k - 1 : Nat) : Int) := by rw [w64_id (by omega)]; omega
    have h2 : k - 1 < l.length := by omega
    have h3 := srt_at hs hlt (show k - 1 < k by omega)
    have hf : ∀ y : ByteArray, p_view_itself y = some (idB y) := fun _ => rfl
    rw [p_view_rise_string__l1, lt_tt hlt, hw, at_lt hlt, at_lt h2]
    simp only [cond_true, Option.bind_some, hf]
    rw [cmp_less, tl_data, tl_data, decide_eq_true (show Lib.compareBytes _ _ < 0 from h3), cond_true, w64_succ (by omega)]
    exact rise_string_l hn hs n (k + 1) F (by omega) (by omega) (by omega)
theorem rise_string {l : List ByteArray} (hn : l.length ≤ 1000) (hs : Srt idB l) : p_view_rise_string_ l (fun x0 => p_view_itself x0) = some true := by
  unfold p_view_rise_string_
  rcases Nat.eq_zero_or_pos l.length with h | h
  · obtain ⟨F, hF⟩ : ∃ F, fuel = F + 1 := ⟨fuel - 1, by have := fuel_pos; omega⟩
    rw [hF, p_view_rise_string__l1, decide_eq_false (show ¬ (1 : Int) < (l.length : Int) by omega)]; rfl
  · have := rise_string_l hn hs (l.length - 1) 1 fuel (by omega) (by have := fuel_pos; omega) (Nat.le_refl _)
    rw [show ((1 : Nat) : Int) = 1 from rfl] at this
    rw [this]; rfl
end Go.Proofs.YthlhbgedidipkaaGreat

/- view.Tell on states that may be. -/
namespace Go.Proofs.YthlhbgedidipkaaGreat
open Go.RowKit
structure GoodV (n : Nat) (st : Ref35State) : Prop where
  rs : Srt MailEntry.Key st.Rows
  ls : Srt MailEntry.Key st.Last
  ss : Srt idB st.Seen
  cs : Srt Ref35Contact.User st.List
  rn : st.Rows.length ≤ n
  ln : st.Last.length ≤ n
  sn : st.Seen.length ≤ n
  cn : st.List.length ≤ 64
  an : st.Anew = false → st.Seen = []
  o0 : 0 ≤ st.Odd ∧ st.Odd ≤ 1099511627776
  t0 : 0 ≤ st.Told ∧ st.Told ≤ 1099511627776
theorem vcheck1 {a b c d : Int} (ha : a ≤ 64) (hb : b ≤ 64) (hc : c ≤ 64) (hd : d ≤ 64) : p_view_Check_l1 ⟨a, b, c, d⟩ fuel 0 = some (.inr 4) := by
  obtain ⟨F, hF⟩ : ∃ F, fuel = F + 5 := ⟨fuel - 5, by have := fuel_pos; omega⟩
  rw [hF]
  have w0 : w64 ((0 : Int) + 1) = 1 := by kernel_rfl
  have w1 : w64 ((1 : Int) + 1) = 2 := by kernel_rfl
  have w2 : w64 ((2 : Int) + 1) = 3 := by kernel_rfl
  have w3 : w64 ((3 : Int) + 1) = 4 := by kernel_rfl
  have e0 : at? [a, b, c, d] 0 = some a := rfl
  have e1 : at? [a, b, c, d] 1 = some b := rfl
  have e2 : at? [a, b, c, d] 2 = some c := rfl
  have e3 : at? [a, b, c, d] 3 = some d := rfl
  have d0 : decide ((0 : Int) < 4) = true := rfl
  have d1 : decide ((1 : Int) < 4) = true := rfl
  have d2 : decide ((2 : Int) < 4) = true := rfl
  have d3 : decide ((3 : Int) < 4) = true := rfl
  have d4 : decide ((4 : Int) < 4) = false := rfl
  rw [p_view_Check_l1]; simp only [d0, e0, cond_true, Option.bind_some]
  rw [decide_eq_false (show ¬ (64 : Int) < a by omega)]; simp only [cond_false, w0]
  rw [p_view_Check_l1]; simp only [d1, e1, cond_true, Option.bind_some]
  rw [decide_eq_false (show ¬ (64 : Int) < b by omega)]; simp only [cond_false, w1]
  rw [p_view_Check_l1]; simp only [d2, e2, cond_true, Option.bind_some]
  rw [decide_eq_false (show ¬ (64 : Int) < c by omega)]; simp only [cond_false, w2]
  rw [p_view_Check_l1]; simp only [d3, e3, cond_true, Option.bind_some]
  rw [decide_eq_false (show ¬ (64 : Int) < d by omega)]; simp only [cond_false, w3]
  rw [p_view_Check_l1]; simp only [d4, cond_false]
theorem vcheck2 : p_view_Check_l2 ⟨true, true, true, true⟩ fuel 0 = some (.inr 4) := by kernel_rfl
theorem vcheck_p {n : Nat} {st : Ref35State} (h : GoodV n st) (hn : n ≤ 64) : p_view_Check st = some 0 := by
  have h1 := h.rn; have h2 := h.ln; have h3 := h.sn; have h4 := h.cn
  have o := h.o0; have t := h.t0
  unfold p_view_Check
  rw [vcheck1 (by omega) (by omega) (by omega) (by omega)]
  simp only [Option.bind_some]
  rw [rise_view_Row (by omega) h.rs, rise_view_Row (by omega) h.ls, rise_string (by omega) h.ss, rise_view_Contact (by omega) h.cs]
  simp only [Option.bind_some]
  rw [vcheck2]
  simp only [Option.bind_some]
  rw [decide_eq_false (show ¬ st.Odd < 0 by omega), decide_eq_false (show ¬ (1099511627776 : Int) < st.Odd by omega), decide_eq_false (show ¬ st.Told < 0 by omega), decide_eq_false (show ¬ (1099511627776 : Int) < st.Told by omega)]
  simp only [cond_false]
  cases ha : st.Anew with
  | true => cases decide ((0 : Int) < (st.Seen.length : Int)) <;> rfl
  | false => rw [h.an ha]; rfl
def upV (x : Int) : Int := if (1099511627776 : Int) < w64 (x + (1 : Int)) then (1099511627776 : Int) else w64 (x + (1 : Int))
theorem upV_ok {x : Int} (h : 0 ≤ x ∧ x ≤ 1099511627776) : x ≤ upV x ∧ upV x ≤ 1099511627776 := by
  unfold upV
  rw [w64_id (by omega)]
  split <;> omega
def upT (st : Ref35State) : Ref35State := ⟨st.Rows, st.Last, st.Anew, st.Seen, st.List, st.Odd, upV st.Told⟩
theorem GoodV.up {n : Nat} {st : Ref35State} (h : GoodV n st) : GoodV n (upT st) := by
  have := upV_ok h.t0; have := h.t0
  exact ⟨h.rs, h.ls, h.ss, h.cs, h.rn, h.ln, h.sn, h.cn, h.an, h.o0, by show 0 ≤ upV st.Told ∧ upV st.Told ≤ _; omega⟩
theorem GoodV.more {n m : Nat} {st : Ref35State} (h : GoodV n st) (hm : n ≤ m) : GoodV m st :=
  ⟨h.rs, h.ls, h.ss, h.cs, Nat.le_trans h.rn hm, Nat.le_trans h.ln hm, Nat.le_trans h.sn hm, h.cn, h.an, h.o0, h.t0⟩
def doneV (st : Ref35State) : Ref35State := if st.Anew = true then ⟨st.Rows.filter fun x => hasK idB st.Seen x.Key, st.Last, false, [], st.List, st.Odd, st.Told⟩ else st
theorem done_p {n : Nat} {st : Ref35State} (h : GoodV n st) (hn : n ≤ 64) : p_view_State_done st = some (doneV st) := by
  have h1 := h.rn; have h3 := h.sn
  unfold p_view_State_done doneV
  cases ha : st.Anew with
  | false => rw [if_neg (by simp)]; rfl
  | true =>
    rw [if_pos rfl, clone_p (by omega)]
    simp only [cond_true, Option.bind_some]
    rw [delF_p (f := fun x0 => p_view_State_done_1 x0 st) (p := fun x => !hasK idB st.Seen x.Key) (by omega) fun x _ => by
      show p_view_State_done_1 x st = _
      unfold p_view_State_done_1
      rw [find_string (by omega) h.ss]; rfl]
    simp only [Option.bind_some, Bool.not_not]
theorem GoodV.done {n : Nat} {st : Ref35State} (h : GoodV n st) : GoodV n (doneV st) := by
  unfold doneV
  split
  · exact ⟨srt_filter h.rs _, h.ls, List.Pairwise.nil, h.cs, Nat.le_trans (List.length_filter_le _ _) h.rn, h.ln, Nat.zero_le _, h.cn, fun _ => rfl, h.o0, h.t0⟩
  · exact h
def oddV (st : Ref35State) (k : ByteArray) (p : PresPres) : Int :=
  if hasK MailEntry.Key st.Last k = true then match st.Last[posK MailEntry.Key st.Last k]? with
    | some y => if p.Seq < y.P.Seq ∨ (y.P.Seq = p.Seq ∧ st.Anew = false) then upV st.Odd else st.Odd
    | none => st.Odd
  else st.Odd
def rowV (st : Ref35State) (k : ByteArray) (p : PresPres) : Ref35State :=
  ⟨if p.On = true then inK MailEntry.Key st.Rows ⟨k, p⟩ else st.Rows.filter fun x => !(x.Key.toList == k.toList), inK MailEntry.Key st.Last ⟨k, p⟩, st.Anew, if st.Anew = true then inK idB st.Seen k else st.Seen, st.List, oddV st k p, st.Told⟩
theorem row_p {n : Nat} {st : Ref35State} (h : GoodV n st) (hn : n ≤ 64) {s : StanzaStanza} {u r : ByteArray} {p : PresPres} (ho : p_pres_Of s = some (u, r, p, 0)) (hu : u.size ≤ 100000) (hr : r.size ≤ 100000) :
    p_view_State_row st s = some (rowV st (keyL u r) p) := by
  have h1 := h.rn; have h2 := h.ln; have h3 := h.sn
  unfold p_view_State_row
  rw [ho]
  simp only [Option.bind_some, bne_self_eq_false, cond_false]
  rw [key_p hu hr]
  simp only [Option.bind_some]
  generalize keyL u r = k
  rw [find_view_Row (by omega) h.ls]
  have e1 := put_view_Row (show st.Last.length ≤ 1000 by omega) h.ls ⟨k, p⟩
  have e2 := put_view_Row (show st.Rows.length ≤ 1000 by omega) h.rs ⟨k, p⟩
  have e3 := cut_view_Row (show st.Rows.length ≤ 1000 by omega) k
  have e4 := put_string (show st.Seen.length ≤ 1000 by omega) h.ss k
  simp only [e1, e2, e3, e4, Option.bind_some]
  unfold rowV oddV
  cases hk : hasK MailEntry.Key st.Last k with
  | false => cases p.On <;> cases st.Anew <;> simp
  | true =>
    obtain ⟨hj, _⟩ := has_yes hk
    rw [at_lt hj, List.getElem?_eq_getElem hj]
    generalize st.Last[posK MailEntry.Key st.Last k] = y
    simp only [cond_true, Option.bind_some, p_pres_Newer]
    by_cases q1 : p.Seq < y.P.Seq
    · rw [decide_eq_true q1]
      cases p.On <;> cases st.Anew <;> simp [q1, upV]
    · rw [decide_eq_false q1]
      by_cases q2 : y.P.Seq = p.Seq
      · have hq : (y.P.Seq == p.Seq) = true := by simpa using q2
        rw [hq]
        cases p.On <;> cases st.Anew <;> simp [q2, upV]
      · have hq : (y.P.Seq == p.Seq) = false := by simpa using q2
        rw [hq]
        cases p.On <;> cases st.Anew <;> simp [q1, q2]
theorem odd_ok {n : Nat} {st : Ref35State} (h : GoodV n st) (k : ByteArray) (p : PresPres) : st.Odd ≤ oddV st k p ∧ oddV st k p ≤ 1099511627776 := by
  have := upV_ok h.o0; have := h.o0
  unfold oddV
  split
  · split
    · split <;> omega
    · omega
  · omega
theorem GoodV.row {n : Nat} {st : Ref35State} (h : GoodV n st) (k : ByteArray) (p : PresPres) : GoodV (n + 1) (rowV st k p) := by
  have h1 := h.rn; have h2 := h.ln; have h3 := h.sn
  have ho := odd_ok h k p; have := h.o0
  have q := put_len (nm := MailEntry.Key) (l := st.Last) ⟨k, p⟩
  refine ⟨?_, srt_full h.ls _, ?_, h.cs, ?_, by show (inK MailEntry.Key st.Last ⟨k, p⟩).length ≤ n + 1; omega, ?_, h.cn, fun ha => ?_, by show 0 ≤ oddV st k p ∧ oddV st k p ≤ _; omega, h.t0⟩
  · show Srt MailEntry.Key (if p.On = true then _ else _)
    split
    · exact srt_full h.rs _
    · exact srt_filter h.rs _
  · show Srt idB (if st.Anew = true then _ else _)
    split
    · exact srt_full h.ss _
    · exact h.ss
  · show (if p.On = true then inK MailEntry.Key st.Rows ⟨k, p⟩ else st.Rows.filter fun x => !(x.Key.toList == k.toList)).length ≤ n + 1
    split
    · have q := put_len (nm := MailEntry.Key) (l := st.Rows) ⟨k, p⟩; omega
    · have := List.length_filter_le (fun x : MailEntry => !(x.Key.toList == k.toList)) st.Rows; omega
  · show (if st.Anew = true then inK idB st.Seen k else st.Seen).length ≤ n + 1
    split
    · have q := put_len (nm := idB) (l := st.Seen) k; omega
    · omega
  · have ha' : st.Anew = false := ha
    show (if st.Anew = true then inK idB st.Seen k else st.Seen) = []
    rw [if_neg (by simp [ha']), h.an ha']
theorem tell_0 {n : Nat} {st : Ref35State} (h : GoodV n st) (hn : n ≤ 64) (s : StanzaStanza) : p_view_Tell st s =
    (bif s.Kind == 36 then some ⟨st.Rows, st.Last, true, [], st.List, st.Odd, upV st.Told⟩ else
     bif s.Kind == 37 then some (doneV (upT st)) else
     bif s.Kind == 34 then p_view_State_row (upT st) s else
     bif s.Kind == 35 then p_view_State_row (upT st) s else
     bif s.Kind == 38 then some ⟨st.Rows, st.Last, st.Anew, st.Seen, inK Ref35Contact.User st.List ⟨s.User, s.Name, s.Show, s.N⟩, st.Odd, upV st.Told⟩ else
     bif s.Kind == 39 then some ⟨st.Rows, st.Last, st.Anew, st.Seen, st.List.filter fun x => !(x.User.toList == s.User.toList), st.Odd, upV st.Told⟩ else some (upT st)) := by
  have h4 := h.cn
  unfold p_view_Tell
  rw [vcheck_p h hn]
  simp only [Option.bind_some, bne_self_eq_false, cond_false]
  rw [put_view_Contact (by omega) h.cs, cut_view_Contact (by omega)]
  have hd := done_p h.up hn
  unfold upT upV at hd
  rw [hd]
  unfold upT upV
  simp only [Option.bind_some]
  cases s.Kind == 36 <;> cases s.Kind == 37 <;> cases s.Kind == 34 <;> cases s.Kind == 35 <;> cases s.Kind == 38 <;> cases s.Kind == 39 <;> simp
end Go.Proofs.YthlhbgedidipkaaGreat

/- The reference functions are in the unit of views. -/

/- The document's book is the program's: checks, places, Set, Off, Get. -/
namespace Go.Proofs.YthlhbgedidipkaaGreat
open Go.RowKit
theorem rnamed_p {u r : ByteArray} (hu : u.size ≤ 100000) (hr : r.size ≤ 100000) : p_ref23_named u r = some (namedL u r) := by
  unfold p_ref23_named p_ref09_Resource p_ref09_IsBare namedL
  rw [if_pos hr, if_pos hu]
  by_cases h : resL r.data.toList = 0
  · cases isBareL u.data.toList <;> simp [h]
  · have e : (resL r.data.toList == 0) = false := by simpa using h
    cases isBareL u.data.toList <;> simp [h, e]
theorem rkey_p {u r : ByteArray} (hu : u.size ≤ 100000) (hr : r.size ≤ 100000) : p_ref23_Key u r = some (keyL u r) := by
  unfold p_ref23_Key cat? keyL
  rw [rnamed_p hu hr]
  obtain ⟨h1, h2⟩ := cat_sz u r hu hr
  cases namedL u r
  · rfl
  · simp only [Option.bind_some, cond_true, if_pos h1, if_pos h2, if_true]
theorem rkeyR_p {x : BookRow} (h : smallR x) : p_ref24_key x = some (keyR x) := by
  unfold p_ref24_key; rw [rkey_p h.1 h.2]; rfl
theorem rpresCheck_p (x : PresPres) : p_ref23_Check x = some (presCheckL x) := by
  unfold p_ref23_Check presCheckL
  by_cases h1 : x.Show < 0
  · rw [decide_eq_true h1, if_pos (by omega)]; rfl
  rw [decide_eq_false h1]
  by_cases h2 : 4 < x.Show
  · rw [decide_eq_true h2, if_pos (by omega)]; rfl
  rw [decide_eq_false h2]
  by_cases h3 : x.Prio < -128
  · rw [decide_eq_true h3, if_pos (by omega)]; rfl
  rw [decide_eq_false h3]
  by_cases h4 : 127 < x.Prio
  · rw [decide_eq_true h4, if_pos (by omega)]; rfl
  rw [decide_eq_false h4]
  by_cases h5 : x.Seq < 0
  · rw [decide_eq_true h5, if_pos (by omega)]; rfl
  rw [decide_eq_false h5]
  by_cases h6 : 1099511627776 < x.Seq
  · rw [decide_eq_true h6, if_pos (by omega)]; rfl
  rw [decide_eq_false h6, if_neg (by omega)]
  cases ho : x.On with
  | true => simp
  | false =>
    by_cases h7 : x.Show = 0
    · by_cases h8 : x.Prio = 0
      · simp [h7, h8]
      · have : (x.Prio != 0) = true := by simpa using h8
        simp [h7, h8, this]
    · have : (x.Show != 0) = true := by simpa using h7
      simp [h7, this]
theorem light_l (st : BookState) (hn : st.Rows.length ≤ 20) : ∀ (n k F : Nat), k + n = st.Rows.length → n < F →
    p_ref24_Light_l1 st F k = some (if ((st.Rows.drop k).all fun x => decide (x.User.size ≤ 100) && decide (x.Res.size ≤ 100)) = true then .inr (st.Rows.length : Int) else .inl false)
  | 0, k, F + 1, hk, hF => by
    have e : st.Rows.drop k = [] := List.drop_of_length_le (by omega)
    have : k = st.Rows.length := by omega
    rw [p_ref24_Light_l1, lt_ff (by omega), e, this]; rfl
  | n + 1, k, F + 1, hk, hF => by
    have hlt : k < st.Rows.length := by omega
    rw [p_ref24_Light_l1, lt_tt hlt, at_lt hlt, drop_at hlt, List.all_cons]
    simp only [cond_true, Option.bind_some]
    by_cases h1 : st.Rows[k].User.size ≤ 100
    · rw [decide_eq_false (show ¬ (100 : Int) < (st.Rows[k].User.size : Int) by omega), decide_eq_true h1]
      by_cases h2 : st.Rows[k].Res.size ≤ 100
      · rw [decide_eq_false (show ¬ (100 : Int) < (st.Rows[k].Res.size : Int) by omega), decide_eq_true h2]
        simp only [cond_false, Bool.true_and]
        rw [w64_succ (by omega), light_l st hn n (k + 1) F (by omega) (by omega)]
      · rw [decide_eq_true (show (100 : Int) < (st.Rows[k].Res.size : Int) by omega), decide_eq_false h2]; rfl
    · rw [decide_eq_true (show (100 : Int) < (st.Rows[k].User.size : Int) by omega), decide_eq_false h1]; rfl
/-- a state that is small enough, or is told not to be. -/
theorem light_p (st : BookState) : p_ref24_Light st = some false ∨ (p_ref24_Light st = some true ∧ st.Rows.length ≤ 20 ∧ smallB st.Rows) := by
  unfold p_ref24_Light
  by_cases h0 : 20 < st.Rows.length
  · left; rw [decide_eq_true (show (20 : Int) < (st.Rows.length : Int) by omega)]; rfl
  rw [decide_eq_false (show ¬ (20 : Int) < (st.Rows.length : Int) by omega)]
  have := light_l st (by omega) st.Rows.length 0 fuel (by omega) (by have := fuel_pos; omega)
  have z0 : ((0 : Nat) : Int) = 0 := rfl
  rw [z0, List.drop_zero] at this
  simp only [cond_false]
  rw [this]
  cases h : st.Rows.all fun x => decide (x.User.size ≤ 100) && decide (x.Res.size ≤ 100) with
  | false => left; rfl
  | true =>
    right
    refine ⟨rfl, by omega, fun r hr => ?_⟩
    have := List.all_eq_true.1 h r hr
    simp at this
    exact ⟨by omega, by omega⟩
theorem ref_many_l (u : ByteArray) (st : BookState) (hn : st.Rows.length ≤ 1000) : ∀ (n k F a : Nat), k + n = st.Rows.length → n < F → a ≤ k →
    p_ref24_many_l1 u st F a k = some (((a + manyL (st.Rows.drop k) u : Nat) : Int), (st.Rows.length : Int))
  | 0, k, F + 1, a, hk, hF, ha => by
    have e : st.Rows.drop k = [] := List.drop_of_length_le (by omega)
    have : k = st.Rows.length := by omega
    rw [p_ref24_many_l1, lt_ff (by omega), e, this]; rfl
  | n + 1, k, F + 1, a, hk, hF, ha => by
    have hlt : k < st.Rows.length := by omega
    rw [p_ref24_many_l1, lt_tt hlt, at_lt hlt, drop_at hlt]
    simp only [cond_true, Option.bind_some]
    rw [w64_succ (show k ≤ 1000000 by omega), w64_succ (show a ≤ 1000000 by omega)]
    have hm : manyL (st.Rows[k] :: st.Rows.drop (k + 1)) u = manyL (st.Rows.drop (k + 1)) u + if (st.Rows[k].User.toList == u.toList) = true then 1 else 0 := by
      unfold manyL; rw [List.countP_cons]
    rw [hm]
    cases h : st.Rows[k].User.toList == u.toList with
    | true =>
      simp only [cond_true, if_true]
      rw [ref_many_l u st hn n (k + 1) F (a + 1) (by omega) (by omega) (by omega)]
      congr 3; omega
    | false =>
      simp only [cond_false]
      rw [ref_many_l u st hn n (k + 1) F a (by omega) (by omega) (by omega)]
      simp
theorem ref_many_p (st : BookState) (u : ByteArray) (hn : st.Rows.length ≤ 1000) : p_ref24_many st u = some ((manyL st.Rows u : Nat) : Int) := by
  unfold p_ref24_many
  have := ref_many_l u st hn st.Rows.length 0 fuel 0 (by omega) (by have := fuel_pos; omega) (by omega)
  rw [show ((0 : Int)) = ((0 : Nat) : Int) from rfl, this]
  simp
theorem ref_dup_l (st : BookState) (hn : st.Rows.length ≤ 1000) (x : BookRow) (m : Nat) (hm : m ≤ st.Rows.length) : ∀ (n k F : Nat), k + n = m → n < F →
    p_ref24_ordered_l2 m st x F k = some (if ((st.Rows.take m).drop k).any (fun o => o.P.Seq == x.P.Seq) = true then .inl false else .inr (m : Int))
  | 0, k, F + 1, hk, hF => by
    have e : (st.Rows.take m).drop k = [] := List.drop_of_length_le (by rw [List.length_take]; omega)
    have : k = m := by omega
    rw [p_ref24_ordered_l2, lt_ff (by omega), e, this]; rfl
  | n + 1, k, F + 1, hk, hF => by
    have hlt : k < m := by omega
    have hl : k < (st.Rows.take m).length := by rw [List.length_take]; omega
    have hl2 : k < st.Rows.length := by omega
    have hg : (st.Rows.take m)[k] = st.Rows[k] := List.getElem_take
    rw [p_ref24_ordered_l2, lt_tt hlt, at_lt hl2, drop_at hl, List.any_cons, hg]
    simp only [cond_true, Option.bind_some]
    cases st.Rows[k].P.Seq == x.P.Seq with
    | true => rfl
    | false =>
      simp only [cond_false, Bool.false_or]
      rw [w64_succ (by omega)]
      exact ref_dup_l st hn x m hm n (k + 1) F (by omega) (by omega)
theorem ref_ordered_l (st : BookState) (hn : st.Rows.length ≤ 1000) (hs : smallB st.Rows) : ∀ (n k F : Nat), k + n = st.Rows.length → n < F →
    p_ref24_ordered_l1 st F k = some (if ((List.range st.Rows.length).drop k).all (okAt st.Seq st.Rows) = true then .inr (st.Rows.length : Int) else .inl false)
  | 0, k, F + 1, hk, hF => by
    have e : (List.range st.Rows.length).drop k = [] := List.drop_of_length_le (by simp; omega)
    have : k = st.Rows.length := by omega
    rw [p_ref24_ordered_l1, lt_ff (by omega), e, this]; rfl
  | n + 1, k, F + 1, hk, hF => by
    have hlt : k < st.Rows.length := by omega
    have hd : (List.range st.Rows.length).drop k = k :: (List.range st.Rows.length).drop (k + 1) := by
      rw [drop_at (by simpa using hlt)]; simp
    have z0 : ((0 : Nat) : Int) = 0 := rfl
    have hc := ref_dup_l st hn st.Rows[k] k (by omega) k 0 fuel (by omega) (by have := fuel_pos; omega)
    rw [z0, List.drop_zero] at hc
    have ih := ref_ordered_l st hn hs n (k + 1) F (by omega) (by omega)
    rw [p_ref24_ordered_l1, lt_tt hlt, at_lt hlt, hd, List.all_cons]
    simp only [cond_true, Option.bind_some]
    rw [w64_succ (by omega), ih, hc]
    cases k with
    | zero =>
      rw [okAt_0 hlt]
      by_cases h1 : st.Rows[0].P.Seq < 1
      · simp only [decide_eq_true h1, cond_true]
        rw [if_neg (by simp <;> omega)]
      · by_cases h2 : st.Seq < st.Rows[0].P.Seq
        · simp only [decide_eq_false h1, cond_false, decide_eq_true h2, cond_true]
          rw [if_neg (by simp <;> omega)]
        · simp only [decide_eq_false h1, cond_false, decide_eq_false h2, show decide ((0 : Int) < ((0 : Nat) : Int)) = false from rfl]
          rw [decide_eq_true (show (1 : Int) ≤ st.Rows[0].P.Seq by omega), decide_eq_true (show st.Rows[0].P.Seq ≤ st.Seq by omega)]
          cases (List.take 0 st.Rows).any fun o => o.P.Seq == st.Rows[0].P.Seq
          · simp only [Bool.false_eq_true, if_false, Option.bind_some, Bool.not_false, Bool.and_true, Bool.true_and]
          · simp
    | succ j =>
      rw [okAt_s j hlt]
      have hj : j < st.Rows.length := by omega
      have e0 : w64 (((j + 1 : Nat) : Int) - 1) = (j : Int) := by rw [w64_id (by omega)]; omega
      rw [e0, at_lt hj]
      simp only [Option.bind_some, rkeyR_p (hs _ (List.getElem_mem hj)), rkeyR_p (hs _ (List.getElem_mem hlt))]
      by_cases h1 : st.Rows[j + 1].P.Seq < 1
      · simp only [decide_eq_true h1, cond_true]
        rw [if_neg (by simp <;> omega)]
      · by_cases h2 : st.Seq < st.Rows[j + 1].P.Seq
        · simp only [decide_eq_false h1, cond_false, decide_eq_true h2, cond_true]
          rw [if_neg (by simp <;> omega)]
        · have h3 : decide ((0 : Int) < ((j + 1 : Nat) : Int)) = true := decide_eq_true (by omega)
          simp only [decide_eq_false h1, cond_false, decide_eq_false h2, h3, cond_true]
          rw [decide_eq_true (show (1 : Int) ≤ st.Rows[j + 1].P.Seq by omega), decide_eq_true (show st.Rows[j + 1].P.Seq ≤ st.Seq by omega)]
          have hl : lessR st.Rows[j] st.Rows[j + 1] = Op.bytesLess (keyR st.Rows[j]).toList (keyR st.Rows[j + 1]).toList := rfl
          rw [hl]
          cases Op.bytesLess (keyR st.Rows[j]).toList (keyR st.Rows[j + 1]).toList
          · simp
          · cases (List.take (j + 1) st.Rows).any fun o => o.P.Seq == st.Rows[j + 1].P.Seq
            · simp only [cond_true, Bool.false_eq_true, if_false, Option.bind_some, Bool.not_false, Bool.and_true, Bool.true_and]
            · simp
theorem ref_ordered_p (st : BookState) (hn : st.Rows.length ≤ 1000) (hs : smallB st.Rows) : p_ref24_ordered st = some (ordL st.Seq st.Rows) := by
  unfold p_ref24_ordered
  have := ref_ordered_l st hn hs st.Rows.length 0 fuel (by omega) (by have := fuel_pos; omega)
  rw [show ((0 : Int)) = ((0 : Nat) : Int) from rfl, this]
  rw [List.drop_zero]
  unfold ordL
  cases (List.range st.Rows.length).all (okAt st.Seq st.Rows) <;> simp
theorem ref_c1_l (st : BookState) (hn : st.Rows.length ≤ 1000) (hs : smallB st.Rows) : ∀ (n k F : Nat), k + n = st.Rows.length → n < F →
    p_ref24_Check_l1 st F k = some (if emptyL (st.Rows.drop k) = true then .inl 11 else .inr (st.Rows.length : Int))
  | 0, k, F + 1, hk, hF => by
    have e : st.Rows.drop k = [] := List.drop_of_length_le (by omega)
    have : k = st.Rows.length := by omega
    rw [p_ref24_Check_l1, lt_ff (by omega), e, this]; rfl
  | n + 1, k, F + 1, hk, hF => by
    have hlt : k < st.Rows.length := by omega
    rw [p_ref24_Check_l1, lt_tt hlt, at_lt hlt, drop_at hlt]
    simp only [cond_true, Option.bind_some, rkeyR_p (hs _ (List.getElem_mem hlt))]
    have he : emptyL (st.Rows[k] :: st.Rows.drop (k + 1)) = (((keyR st.Rows[k]).toList == (⟨#[]⟩ : ByteArray).toList) || emptyL (st.Rows.drop (k + 1))) := rfl
    rw [he]
    cases (keyR st.Rows[k]).toList == (⟨#[]⟩ : ByteArray).toList with
    | true => rfl
    | false =>
      simp only [cond_false, Bool.false_or]
      rw [w64_succ (by omega)]
      exact ref_c1_l st hn hs n (k + 1) F (by omega) (by omega)
theorem ref_c2_l (st : BookState) (hn : st.Rows.length ≤ 1000) : ∀ (n k F : Nat), k + n = st.Rows.length → n < F →
    p_ref24_Check_l2 st F k = some (if errL (st.Rows.drop k) ≠ 0 then .inl (errL (st.Rows.drop k)) else .inr (st.Rows.length : Int))
  | 0, k, F + 1, hk, hF => by
    have e : st.Rows.drop k = [] := List.drop_of_length_le (by omega)
    have : k = st.Rows.length := by omega
    rw [p_ref24_Check_l2, lt_ff (by omega), e, this]; rfl
  | n + 1, k, F + 1, hk, hF => by
    have hlt : k < st.Rows.length := by omega
    rw [p_ref24_Check_l2, lt_tt hlt, at_lt hlt, err_at st.Rows k hlt]
    simp only [cond_true, Option.bind_some, rpresCheck_p]
    by_cases h : presCheckL st.Rows[k].P = 0
    · simp only [h, bne_self_eq_false, cond_false]
      cases ho : st.Rows[k].P.On with
      | false => simp
      | true =>
        simp only [cond_true]
        rw [w64_succ (by omega), ref_c2_l st hn n (k + 1) F (by omega) (by omega)]
        simp
    · have : (presCheckL st.Rows[k].P != 0) = true := by simpa using h
      simp [this, h]
theorem ref_c3_l (st : BookState) (hn : st.Rows.length ≤ 1000) : ∀ (n k F : Nat), k + n = st.Rows.length → n < F →
    p_ref24_Check_l3 st F k = some (if ((st.Rows.drop k).any fun r => decide (3 < manyL st.Rows r.User)) = true then .inl 7 else .inr (st.Rows.length : Int))
  | 0, k, F + 1, hk, hF => by
    have e : st.Rows.drop k = [] := List.drop_of_length_le (by omega)
    have : k = st.Rows.length := by omega
    rw [p_ref24_Check_l3, lt_ff (by omega), e, this]; rfl
  | n + 1, k, F + 1, hk, hF => by
    have hlt : k < st.Rows.length := by omega
    rw [p_ref24_Check_l3, lt_tt hlt, at_lt hlt, drop_at hlt, List.any_cons]
    simp only [cond_true, Option.bind_some, ref_many_p st _ hn]
    by_cases h : 3 < manyL st.Rows st.Rows[k].User
    · rw [decide_eq_true (show (3 : Int) < ((manyL st.Rows st.Rows[k].User : Nat) : Int) by omega), decide_eq_true h]; rfl
    · rw [decide_eq_false (show ¬ (3 : Int) < ((manyL st.Rows st.Rows[k].User : Nat) : Int) by omega), decide_eq_false h]
      simp only [cond_false, Bool.false_or]
      rw [w64_succ (by omega)]
      exact ref_c3_l st hn n (k + 1) F (by omega) (by omega)
theorem ref_check_p (st : BookState) (hn : st.Rows.length ≤ 1000) (hs : smallB st.Rows) : p_ref24_Check st = some (bookCheck st.Seq st.Rows) := by
  have z0 : ((0 : Nat) : Int) = 0 := rfl
  unfold p_ref24_Check bookCheck
  by_cases h0 : 16 < st.Rows.length
  · rw [decide_eq_true (show (16 : Int) < (st.Rows.length : Int) by omega), if_pos h0]; rfl
  rw [decide_eq_false (show ¬ (16 : Int) < (st.Rows.length : Int) by omega), if_neg h0]
  by_cases h1 : st.Seq < 0
  · rw [decide_eq_true h1, if_pos (.inl h1)]; rfl
  rw [decide_eq_false h1]
  by_cases h2 : 1099511627776 < st.Seq
  · rw [decide_eq_true h2, if_pos (.inr h2)]; rfl
  rw [decide_eq_false h2, if_neg (by omega)]
  simp only [cond_false]
  have c1 := ref_c1_l st hn hs st.Rows.length 0 fuel (by omega) (by have := fuel_pos; omega)
  have c2 := ref_c2_l st hn st.Rows.length 0 fuel (by omega) (by have := fuel_pos; omega)
  have c3 := ref_c3_l st hn st.Rows.length 0 fuel (by omega) (by have := fuel_pos; omega)
  rw [z0, List.drop_zero] at c1 c2 c3
  rw [c1]
  cases emptyL st.Rows with
  | true => rfl
  | false =>
    simp only [Bool.false_eq_true, if_false, Option.bind_some]
    rw [c2, ref_ordered_p st hn hs]
    by_cases h3 : errL st.Rows = 0
    · simp only [h3, ne_eq, not_true_eq_false, if_false, Option.bind_some]
      cases ordL st.Seq st.Rows with
      | false => rfl
      | true =>
        simp only [cond_true, Bool.true_eq_false, if_false]
        rw [c3]
        have hf : fullL st.Rows = st.Rows.any fun r => decide (3 < manyL st.Rows r.User) := rfl
        rw [← hf]
        cases fullL st.Rows <;> rfl
    · simp [h3]
end Go.Proofs.YthlhbgedidipkaaGreat

