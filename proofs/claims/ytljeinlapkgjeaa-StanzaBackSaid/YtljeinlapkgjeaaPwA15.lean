/- A part of the proof: 4 texts joined. -/
import Derived.Test.YtljeinlapkgjeaaPwA12
set_option linter.all false
/- The abstract walk, run on closed values: operations. -/
namespace Go.Proofs.Ytljeinlapkgjeaa
open Go.RowKit
def evIx : V → Option Nat
  | .lit (.int _ j) => if 0 ≤ j then some j.toNat else none
  | _ => none
theorem evIx_ok {v : V} {n : Nat} (h : evIx v = some n) : ∃ k j, v = .lit (.int k j) ∧ j = (n : Int) := by
  unfold evIx at h
  split at h
  · split at h
    · simp only [Option.some.injEq] at h; subst h; exact ⟨_, _, rfl, by omega⟩
    · cases h
  · cases h
def strE (op : BinOp) (x y : ByteArray) : Option Value :=
  match op with
  | .add => if x.size + y.size ≤ 4611686018427387904 then some (.string (x ++ y)) else none
  | .eql => some (.bool (x.data.toList == y.data.toList))
  | .neq => some (.bool !(x.data.toList == y.data.toList))
  | .lss => some (.bool (Op.bytesLess x.data.toList y.data.toList))
  | .leq => some (.bool (Op.bytesLess x.data.toList y.data.toList || x.data.toList == y.data.toList))
  | .gtr => some (.bool !(Op.bytesLess x.data.toList y.data.toList || x.data.toList == y.data.toList))
  | .geq => some (.bool !(Op.bytesLess x.data.toList y.data.toList))
  | _ => none
theorem strE_eq (op : BinOp) (x y : ByteArray) : strE op x y = strB op x y := by
  cases op <;> simp only [strE, strB, ByteArray.toList_eq]
def cellE : Nat → Value → Value → Option Bool
  | 0, .bool a, .bool b => some (a == b)
  | 1, .int k a, .int k' b => if k = k' then some (a == b) else none
  | 2, .string a, .string b => some (a.data.toList == b.data.toList)
  | _, _, _ => none
theorem cellE_eq (n : Nat) (x y : Value) : cellE n x y = cellEq n x y := by
  unfold cellE cellEq
  split
  · rfl
  · rfl
  · simp only [ByteArray.toList_eq]
  · split <;> grind
def eqE : List Nat → List V → List V → Option Bool
  | [], [], [] => some true
  | k :: ks, .lit a :: l, .lit b :: m => (cellE k a b).bind fun r => (eqE ks l m).map (r && ·)
  | _, _, _ => none
theorem eqE_eq : ∀ (ks : List Nat) (l m : List V), eqE ks l m = eqL ks l m := by
  intro ks l m
  fun_induction eqE ks l m with
  | case1 => rfl
  | case2 k ks a l b m ih => simp only [eqL, cellE_eq, ih]
  | case3 ks l m h1 h2 =>
    unfold eqL
    split <;> grind
def byteOf : V → Option UInt8
  | .lit (.int .u8 n) => if ((UInt8.ofNat n.toNat).toNat : Int) = n then some (UInt8.ofNat n.toNat) else none
  | _ => none
theorem byteOf_ok {v : V} {b : UInt8} (h : byteOf v = some b) : v = byteV b := by
  unfold byteOf at h
  split at h
  · split at h
    · rename_i n e
      simp only [Option.some.injEq] at h
      subst h
      unfold byteV
      rw [e]
    · cases h
  · cases h
def bytesOf : List V → Option (List UInt8)
  | [] => some []
  | v :: l => match byteOf v, bytesOf l with
    | some b, some r => some (b :: r)
    | _, _ => none
theorem bytesOf_ok : ∀ {l : List V} {r : List UInt8}, bytesOf l = some r → l = r.map byteV
  | [], r, h => by simp only [bytesOf, Option.some.injEq] at h; subst h; rfl
  | v :: l, r, h => by
    simp only [bytesOf] at h
    split at h
    · simp only [Option.some.injEq] at h
      rename_i b r' h1 h2
      subst h
      rw [byteOf_ok h1, bytesOf_ok h2]; rfl
    · cases h
def chunk (es : Nat) : Nat → List V → List V
  | 0, _ => []
  | n + 1, l => (if es = 1 then l.headD .any else .agg (l.take es)) :: chunk es n (l.drop es)
theorem chunk_ok (es : Nat) : ∀ (n : Nat) (l : List V), l.length = n * es → (∀ u ∈ l, u.one = true) → (chunk es n l).length = n ∧ (∀ x ∈ chunk es n l, x.cells.length = es) ∧ l = (chunk es n l).flatMap V.cells
  | 0, l, hl, _ => by
    have : l = [] := List.eq_nil_of_length_eq_zero (by simpa using hl)
    subst this
    exact ⟨rfl, fun x h => by simp [chunk] at h, rfl⟩
  | n + 1, l, hl, h1 => by
    have hle : es ≤ l.length := by rw [hl, Nat.add_mul]; omega
    obtain ⟨g1, g2, g3⟩ := chunk_ok es n (l.drop es) (by rw [List.length_drop, hl, Nat.add_mul]; omega) fun u hu => h1 u (List.mem_of_mem_drop hu)
    have hc : (if es = 1 then l.headD .any else .agg (l.take es)).cells = l.take es := by
      split
      · rename_i e
        subst e
        match l, hle with
        | u :: r, _ =>
          have := h1 u (by simp)
          simp only [List.headD_cons, List.take_succ_cons, List.take_zero]
          cases u <;> first | rfl | (simp [V.one] at this)
      · rfl
    refine ⟨by simp [chunk, g1], fun x hx => ?_, ?_⟩
    · simp only [chunk, List.mem_cons] at hx
      rcases hx with rfl | hx
      · rw [hc, List.length_take]; omega
      · exact g2 x hx
    · simp only [chunk, List.flatMap_cons]
      rw [hc, ← g3, List.take_append_drop]
def fzC (st : List Slot) (v : V) : Option (V × List Nat) :=
  if v.idlt 0 = true then some (v, []) else
  match v with
  | .osl i off n es f => match st[i]? with
    | some (.live cs frz) => if off + n * es ≤ frz ∧ off + n * es ≤ cs.length ∧ V.idlt.belowL 0 ((cs.drop off).take (n * es)) = true ∧ ((cs.drop off).take (n * es)).all V.one = true then some (.sl (chunk es n ((cs.drop off).take (n * es))) f, [i]) else none
    | _ => none
  | _ => none
theorem fzC_ok {st : List Slot} {v v' : V} {r : List Nat} (h : fzC st v = some (v', r)) : FzC st v v' r := by
  unfold fzC at h
  split at h
  · simp only [Option.some.injEq, Prod.mk.injEq] at h
    obtain ⟨rfl, rfl⟩ := h
    exact .id ‹_›
  · split at h
    · split at h
      · rename_i i off n es f _ _ cs frz hi
        split at h
        · rename_i hc
          simp only [Option.some.injEq, Prod.mk.injEq] at h
          obtain ⟨rfl, rfl⟩ := h
          obtain ⟨c1, c2, c3, c4⟩ := hc
          simp only [List.all_eq_true] at c4
          have hlen : ∀ n es, ((cs.drop off).take (n * es)).length = n * es ∨ cs.length < off + n * es := fun n es => by rw [List.length_take, List.length_drop]; omega
          have hl := (hlen n es).resolve_right (by omega)
          obtain ⟨g1, g2, g3⟩ := chunk_ok es n _ hl c4
          exact .osl (fun e => e) hi c1 c2 g1 g2 g3 (by rw [← g3]; exact c3)
        · cases h
      · cases h
    · cases h
def fzL (st : List Slot) : List V → Option (List V × List Nat)
  | [] => some ([], [])
  | v :: l => match fzC st v, fzL st l with
    | some (v', r), some (l', r') => some (v' :: l', r ++ r')
    | _, _ => none
theorem fzL_ok {st : List Slot} : ∀ {l l' : List V} {r : List Nat}, fzL st l = some (l', r) → FzL st l l' r
  | [], l', r, h => by simp only [fzL, Option.some.injEq, Prod.mk.injEq] at h; obtain ⟨rfl, rfl⟩ := h; exact .nil
  | v :: l, l', r, h => by
    simp only [fzL] at h
    split at h
    · simp only [Option.some.injEq, Prod.mk.injEq] at h
      obtain ⟨rfl, rfl⟩ := h
      exact .cons (fzC_ok ‹_›) (fzL_ok ‹_›)
    · cases h
def fzV (st : List Slot) (v : V) : Option (V × List Nat) :=
  match fzC st v with
  | some x => some x
  | none => match v with
    | .agg l => match fzL st l with
      | some (l', r) => if l'.all V.one = true then some (.agg l', r) else none
      | none => none
    | _ => none
theorem fzV_ok {st : List Slot} {v v' : V} {r : List Nat} (h : fzV st v = some (v', r)) : FzV st v v' r := by
  unfold fzV at h
  split at h
  · simp only [Option.some.injEq] at h
    subst h
    exact .c (fzC_ok ‹_›)
  · split at h
    · split at h
      · split at h
        · rename_i h1 h2
          simp only [Option.some.injEq, Prod.mk.injEq] at h
          obtain ⟨rfl, rfl⟩ := h
          exact .agg (fzL_ok h1) (by simpa using h2)
        · cases h
      · cases h
    · cases h
def fzA (st : List Slot) : List V → Option (List V × List Nat)
  | [] => some ([], [])
  | v :: l => match fzV st v, fzA st l with
    | some (v', r), some (l', r') => some (v' :: l', r ++ r')
    | _, _ => none
theorem fzA_ok {st : List Slot} : ∀ {l l' : List V} {r : List Nat}, fzA st l = some (l', r) → FzA st l l' r
  | [], l', r, h => by simp only [fzA, Option.some.injEq, Prod.mk.injEq] at h; obtain ⟨rfl, rfl⟩ := h; exact .nil
  | v :: l, l', r, h => by
    simp only [fzA] at h
    split at h
    · simp only [Option.some.injEq, Prod.mk.injEq] at h
      obtain ⟨rfl, rfl⟩ := h
      exact .cons (fzV_ok ‹_›) (fzA_ok ‹_›)
    · cases h
def fzR (st : List Slot) (v : V) : Option V :=
  match v with
  | .tup l => match fzA st l with
    | some (l', _) => some (.tup l')
    | none => none
  | v => (fzV st v).map (·.1)
theorem fzR_ok {st : List Slot} {v v' : V} (h : fzR st v = some v') : ∃ r, FzR st v v' r := by
  unfold fzR at h
  split at h
  · split at h
    · simp only [Option.some.injEq] at h
      subst h
      exact ⟨_, .tup (fzA_ok ‹_›)⟩
    · cases h
  · simp only [Option.map_eq_some_iff] at h
    obtain ⟨⟨a, r⟩, h1, rfl⟩ := h
    exact ⟨r, .v (fzV_ok h1)⟩
def evSrc (st : List Slot) (es : Nat) : V → Option (Nat × List V × List Nat)
  | .sl ys _ => if ys.all (fun y => y.cells.length == es) = true then some (ys.length, ys.flatMap V.cells, []) else none
  | .osl i off n es' _ => match st[i]? with
    | some (.live cs _) => if es' = es ∧ off + n * es ≤ cs.length then some (n, (cs.drop off).take (n * es), [i]) else none
    | _ => none
  | _ => none
theorem evSrc_ok {st : List Slot} {es n : Nat} {v : V} {ds : List V} {rd : List Nat} (h : evSrc st es v = some (n, ds, rd)) : SrcV st es v n ds rd := by
  unfold evSrc at h
  split at h
  · split at h
    · rename_i hc
      simp only [Option.some.injEq, Prod.mk.injEq] at h
      obtain ⟨rfl, rfl, rfl⟩ := h
      exact .sl (by simpa using hc)
    · cases h
  · split at h
    · split at h
      · rename_i hi hc
        simp only [Option.some.injEq, Prod.mk.injEq] at h
        obtain ⟨rfl, rfl, rfl⟩ := h
        obtain ⟨rfl, hc⟩ := hc
        exact .osl hi hc
      · cases h
    · cases h
  · cases h
def evSrcX (st : List Slot) (es : Nat) (v : V) : Option (Nat × List V × List Nat) :=
  match v with
  | .lit (.string s) => if es = 1 then some (s.size, s.data.toList.map byteV, []) else none
  | v => evSrc st es v
theorem evSrcX_ok {st : List Slot} {es n : Nat} {v : V} {ds : List V} {rd : List Nat} (h : evSrcX st es v = some (n, ds, rd)) : SrcX st es v n ds rd := by
  unfold evSrcX at h
  split at h
  · split at h
    · rename_i he
      simp only [Option.some.injEq, Prod.mk.injEq] at h
      obtain ⟨rfl, rfl, rfl⟩ := h
      exact .str he
    · cases h
  · exact .v (evSrc_ok h)
end Go.Proofs.Ytljeinlapkgjeaa
/- The abstract walk, run on closed values: an operation. -/
namespace Go.Proofs.Ytljeinlapkgjeaa
open Go.RowKit
abbrev EvR := Option (V × List Nat × List Nat × List Slot)
abbrev agw (ag : Bool) (sz : Nat) : Nat := if ag then sz else 1
def evPure (st : List Slot) (v : V) : EvR := some (v, [], [], st)
def evRd (st : List Slot) (v : V) (rd : List Nat) : EvR := some (v, rd, [], st)
def evMake (st : List Slot) (id : Nat) (v : V) (rd : List Nat) (cs : List V) (fz : Nat) : EvR :=
  match st[id]? with
  | some .fresh => some (v, rd, [id], st.set id (.live cs fz))
  | _ => none
def evLo (ρ : Operand → V) (d : Nat) : Option Operand → Option Nat
  | none => some d
  | some y => evIx (ρ y)
def evCall (cf : Nat → List V → Option V) (cg : Nat → List V → List Slot → Option (V × List Slot)) (st : List Slot) (f : Nat) (vs : List V) : EvR :=
  match (match fzA st vs with | some (vs', rd) => (cf f vs').map fun v => (v, rd) | none => none) with
  | some (v, rd) => some (v, rd, [], st)
  | none => match cg f vs st with
    | some (v, st') => if st'.length = st.length then some (v, [], (allEff st').map Prod.fst, st') else none
    | none => none
def evOp (cf : Nat → List V → Option V) (cg : Nat → List V → List Slot → Option (V × List Slot)) (ρ : Operand → V) (st : List Slot) (id : Nat) : AOp → EvR
  | .mv x => evPure st (ρ x)
  | .pick c a b => match ρ c with
    | .lit (.bool t) => evPure st (if t then ρ a else ρ b)
    | _ => none
  | .ld sz ag x => match ρ x with
    | .eptr cs => if agw ag sz ≤ cs.length then evPure st (partV ag sz cs) else none
    | .ptr i off => match st[i]? with
      | some (.live cs _) => if off + agw ag sz ≤ cs.length then evRd st (partV ag sz (cs.drop off)) [i] else none
      | _ => none
    | _ => none
  | .st sz a x => match ρ a with
    | .ptr i off => match st[i]? with
      | some (.live cs frz) => if (ρ x).stb = true ∧ (ρ x).cells.length = sz ∧ frz ≤ off ∧ off + sz ≤ cs.length then some (.any, [i], [i], st.set i (.live (cs.take off ++ (ρ x).cells ++ cs.drop (off + sz)) frz)) else none
      | _ => none
    | _ => none
  | .al z => if z.stb = true then evMake st id (.ptr id 0) [] z.cells 0 else none
  | .bx x => if (ρ x).stb = true then evMake st id (.ptr id 0) [] (ρ x).cells 0 else none
  | .nc x => match ρ x with
    | .ptr i off => evPure st (.ptr i off)
    | .eptr cs => evPure st (.eptr cs)
    | .clo (.func g) caps => evPure st (.clo (.func g) caps)
    | _ => none
  | .bin op x y => match ρ x, ρ y with
    | .lit (.int k a), .lit (.int k' b) => match op with
      | .shl => (intSh .shl k a b).bind fun r => evPure st (.lit r)
      | .shr => (intSh .shr k a b).bind fun r => evPure st (.lit r)
      | op => if k' = k then (intB op k a b).bind fun r => evPure st (.lit r) else none
    | .lit (.string a), .lit (.string b) => (strE op a b).bind fun r => evPure st (.lit r)
    | _, _ => none
  | .binb neg x y => match ρ x, ρ y with
    | .lit (.bool a), .lit (.bool b) => evPure st (.lit (.bool (if neg then a != b else a == b)))
    | _, _ => none
  | .eqp neg x y => match ρ x, ρ y with
    | .ptr _ _, .lit (.pointer none) => evPure st (.lit (.bool neg))
    | .lit (.pointer none), .lit (.pointer none) => evPure st (.lit (.bool (!neg)))
    | _, _ => none
  | .eqa neg ks x y => match ρ x, ρ y with
    | .agg l, .agg m => if l.length = ks.length ∧ m.length = ks.length then (eqE ks l m).bind fun r => evPure st (.lit (.bool (if neg then !r else r))) else none
    | _, _ => none
  | .un op x => match ρ x with
    | .lit a => (unV op a).bind fun r => evPure st (.lit r)
    | _ => none
  | .cvi k x => match ρ x with
    | .lit (.int _ n) => evPure st (.lit (.int k (k.wrap n)))
    | _ => none
  | .cvs x => match ρ x with
    | .lit (.string s) => evPure st (.lit (.string s))
    | _ => none
  | .s2b x => match ρ x with
    | .lit (.string s) => evMake st id (.osl id 0 s.size 1 false) [] (s.data.toList.map byteV) 0
    | _ => none
  | .b2s x => match ρ x with
    | .sl xs _ => (bytesOf xs).bind fun l => evPure st (.lit (.string ⟨l.toArray⟩))
    | .osl i off n 1 _ => match st[i]? with
      | some (.live cs _) => (bytesOf ((cs.drop off).take n)).bind fun l => if l.length = n then evRd st (.lit (.string ⟨l.toArray⟩)) [i] else none
      | _ => none
    | _ => none
  | .fa o x => match ρ x with
    | .ptr i off => evPure st (.ptr i (off + o))
    | .eptr cs => if o ≤ cs.length then evPure st (.eptr (cs.drop o)) else none
    | _ => none
  | .fd o sz ag x => match ρ x with
    | .agg cs => if o + agw ag sz ≤ cs.length then evPure st (partV ag sz (cs.drop o)) else none
    | _ => none
  | .ixs es x ix => match ρ x, evIx (ρ ix) with
    | .sl xs _, some n => match xs[n]? with
      | some u => if u.cells.length = es then evPure st (.eptr u.cells) else none
      | none => none
    | .osl i off m es' _, some n => if es' = es ∧ n < m then evPure st (.ptr i (off + n * es)) else none
    | _, _ => none
  | .ixa len es x ix => match ρ x, evIx (ρ ix) with
    | .ptr i off, some n => if n < len then evPure st (.ptr i (off + n * es)) else none
    | .eptr cs, some n => if n < len ∧ n * es ≤ cs.length then evPure st (.eptr (cs.drop (n * es))) else none
    | _, _ => none
  | .ixg len es ag x ix => match ρ x, evIx (ρ ix) with
    | .agg cs, some n => if n < len ∧ n * es + agw ag es ≤ cs.length then evPure st (partV ag es (cs.drop (n * es))) else none
    | _, _ => none
  | .ixt x ix => match ρ x, evIx (ρ ix) with
    | .lit (.string s), some n => if h : n < s.size then evPure st (.lit (.int .u8 s[n].toNat)) else none
    | _, _ => none
  | .slt x lo hi => match ρ x with
    | .lit (.string s) => match evLo ρ 0 lo, evLo ρ s.size hi with
      | some l, some h => if l ≤ h ∧ h ≤ s.size then evPure st (.lit (.string (s.extract l h))) else none
      | _, _ => none
    | _ => none
  | .sls es x lo hi mx => match ρ x with
    | .sl xs full => if xs.all (fun u => u.cells.length == es) = true then match hi, mx with
      | none, none => match evLo ρ 0 lo with
        | some l => if l ≤ xs.length then evPure st (.sl (xs.drop l) full) else none
        | none => none
      | some hi, none => match evLo ρ 0 lo, evIx (ρ hi) with
        | some l, some h => if l ≤ h ∧ h ≤ xs.length then evPure st (.sl ((xs.drop l).take (h - l)) false) else none
        | _, _ => none
      | some hi, some mx => match evLo ρ 0 lo, evIx (ρ hi), evIx (ρ mx) with
        | some l, some h, some m => if l ≤ h ∧ h ≤ xs.length ∧ m = h then evPure st (.sl ((xs.drop l).take (h - l)) true) else none
        | _, _, _ => none
      | none, some _ => none
      else none
    | _ => none
  | .ex x i => match ρ x with
    | .tup vs => match vs[i]? with
      | some v => evPure st v
      | none => none
    | _ => none
  | .bd z parts => (fillV z (parts.map fun p => (p.1, p.2.1, ρ p.2.2))).bind fun cs => evPure st (.agg cs)
  | .bs es len z parts => (fillV z (parts.map fun p => (p.1 * es, es, ρ p.2))).bind fun cs => if z.length = len * es then evMake st id (.osl id 0 len es true) [] cs (if parts.isEmpty then 0 else cs.length) else none
  | .mf fn caps => evPure st (.clo fn (caps.map ρ))
  | .cl f args => evCall cf cg st f (args.map ρ)
  | .cv x args => match ρ x with
    | .clo (.func g) caps => evCall cf cg st g (args.map ρ ++ caps)
    | _ => none
  | .lent x => match ρ x with
    | .lit (.string s) => evPure st (.lit (.int .i64 s.size))
    | _ => none
  | .lens x => match ρ x with
    | .sl xs _ => evPure st (.lit (.int .i64 xs.length))
    | .osl _ _ n _ _ => evPure st (.lit (.int .i64 n))
    | _ => none
  | .ap es bytes s x => match evSrc st es (ρ s), evSrcX st es (ρ x) with
    | some (n, ds, rd), some (k, ds', rd') =>
      if k = 0 then (if ds' = [] then evRd st (ρ s) (rd ++ rd') else none) else
      if n + k ≤ 1000000 ∧ bytes ≤ 1000 then
        if (ρ s).full = true then evMake st id (.osl id 0 (n + k) es false) (rd ++ rd') (ds ++ ds') (ds ++ ds').length
        else match ρ s with
        | .osl i 0 n' es' false => match st[i]? with
          | some (.live cs frz) => if es' = es ∧ n' = n ∧ cs.length = n * es ∧ frz ≤ cs.length ∧ st[id]?.any (fun s => match s with | .fresh => true | _ => false) = true then some (.osl id 0 (n + k) es false, rd' ++ [i], [i, id], (st.set i .dead).set id (.live (cs ++ ds') (cs ++ ds').length)) else none
          | _ => none
        | _ => none
      else none
    | _, _ => none
  | .mn mx x y => match ρ x, ρ y with
    | .lit (.int k a), .lit (.int _ b) => evPure st (.lit (.int k (if mx then (if b > a then b else a) else (if b < a then b else a))))
    | _, _ => none
  | .mks es bytes z x y => match evIx (ρ x), evIx (ρ y) with
    | some n, some c => if n ≤ c ∧ c ≤ 1000000 ∧ bytes ≤ 1000 then evMake st id (.osl id 0 n es (decide (n = c))) [] ((List.range (n * es)).map fun k => z.getD (k % es) .any) 0 else none
    | _, _ => none
end Go.Proofs.Ytljeinlapkgjeaa
/- The abstract walk, run on closed values: an operation's run is a step. -/
namespace Go.Proofs.Ytljeinlapkgjeaa
open Go.RowKit
section
variable {P : Program} {cf : Nat → List V → Option V} {cg : Nat → List V → List Slot → Option (V × List Slot)} {ρ : Operand → V} {st : List Slot} {id : Nat}
def Stp (P : Program) (ρ : Operand → V) (st : List Slot) (id : Nat) (op : AOp) (v : V) (rd wr : List Nat) (st' : List Slot) : Prop := ∃ ef, AStep P ρ st id op v rd ef ∧ wr = ef.map Prod.fst ∧ st' = AStep.eff st ef
theorem pure_ok {op : AOp} {u v : V} {rd wr : List Nat} {st' : List Slot} (h : evPure st u = some (v, rd, wr, st')) (hs : AStep P ρ st id op u [] []) : Stp P ρ st id op v rd wr st' := by
  simp only [evPure, Option.some.injEq, Prod.mk.injEq] at h
  obtain ⟨rfl, rfl, rfl, rfl⟩ := h
  exact ⟨[], hs, rfl, rfl⟩
theorem rd_ok {op : AOp} {u v : V} {r rd wr : List Nat} {st' : List Slot} (h : evRd st u r = some (v, rd, wr, st')) (hs : AStep P ρ st id op u r []) : Stp P ρ st id op v rd wr st' := by
  simp only [evRd, Option.some.injEq, Prod.mk.injEq] at h
  obtain ⟨rfl, rfl, rfl, rfl⟩ := h
  exact ⟨[], hs, rfl, rfl⟩
theorem make_ok {op : AOp} {u v : V} {r rd wr : List Nat} {st' : List Slot} {cs : List V} {fz : Nat} (h : evMake st id u r cs fz = some (v, rd, wr, st')) (hs : st[id]? = some .fresh → AStep P ρ st id op u r [(id, .live cs fz)]) : Stp P ρ st id op v rd wr st' := by
  unfold evMake at h
  split at h
  · simp only [Option.some.injEq, Prod.mk.injEq] at h
    obtain ⟨rfl, rfl, rfl, rfl⟩ := h
    exact ⟨_, hs ‹_›, rfl, rfl⟩
  · cases h
theorem lo_ok {d n : Nat} {lo : Option Operand} (h : evLo ρ d lo = some n) : ∃ k, (∀ y, lo = some y → ρ y = .lit (.int k n)) ∧ (lo = none → n = d) := by
  cases lo with
  | none => simp only [evLo, Option.some.injEq] at h; subst h; exact ⟨.i64, fun y e => (by cases e), fun _ => rfl⟩
  | some y =>
    obtain ⟨k, j, e, rfl⟩ := evIx_ok (v := ρ y) h
    exact ⟨k, fun z ez => (by injection ez with ez; subst ez; exact e), fun e => (by cases e)⟩
theorem call_ok (hf : ∀ f vs v, cf f vs = some v → CallsV P f vs v) (hg : ∀ f vs st v st', cg f vs st = some (v, st') → CallsS P f vs st v st') {op : AOp} {f : Nat} {vs : List V} {v : V} {rd wr : List Nat} {st' : List Slot} (h : evCall cf cg st f vs = some (v, rd, wr, st'))
    (h1 : ∀ vs' rd v, FzA st vs vs' rd → cf f vs' = some v → CallsV P f vs' v → AStep P ρ st id op v rd []) (h2 : ∀ v st', cg f vs st = some (v, st') → CallsS P f vs st v st' → st'.length = st.length → AStep P ρ st id op v [] (allEff st')) : Stp P ρ st id op v rd wr st' := by
  unfold evCall at h
  split at h
  · rename_i v0 rd0 h0
    simp only [Option.some.injEq, Prod.mk.injEq] at h
    obtain ⟨rfl, rfl, rfl, rfl⟩ := h
    split at h0
    · rename_i vs' rd1 h3
      simp only [Option.map_eq_some_iff, Prod.mk.injEq] at h0
      obtain ⟨a, h4, rfl, rfl⟩ := h0
      exact ⟨[], h1 _ _ _ (fzA_ok h3) h4 (hf _ _ _ h4), rfl, rfl⟩
    · cases h0
  · split at h
    · split at h
      · rename_i h3 hl
        simp only [Option.some.injEq, Prod.mk.injEq] at h
        obtain ⟨rfl, rfl, rfl, rfl⟩ := h
        exact ⟨_, h2 _ _ h3 (hg _ _ _ _ _ h3) hl, rfl, (eff_all hl).symm⟩
      · cases h
    · cases h
theorem evOp_ok (hf : ∀ f vs v, cf f vs = some v → CallsV P f vs v) (hg : ∀ f vs st v st', cg f vs st = some (v, st') → CallsS P f vs st v st') (hcf : ∀ f vs v, cf f vs = some v → Callable P f) (hcg : ∀ f vs st v, cg f vs st = some v → Callable P f) {op : AOp} {v : V} {rd wr : List Nat} {st' : List Slot}
    (h : evOp cf cg ρ st id op = some (v, rd, wr, st')) : Stp P ρ st id op v rd wr st' := by
  cases op with
  | mv x => exact pure_ok h (.mv x)
  | pick c a b =>
    simp only [evOp] at h
    split at h
    · exact pure_ok h (.pick _ _ _ ‹_›)
    · cases h
  | ld sz ag x =>
    simp only [evOp] at h
    split at h
    · split at h
      · exact pure_ok h (.ldE ‹_› ‹_›)
      · cases h
    · split at h
      · split at h
        · exact rd_ok h (.ldP ‹_› ‹_› ‹_›)
        · cases h
      · cases h
    · cases h
  | st sz a x =>
    simp only [evOp] at h
    split at h
    · split at h
      · split at h
        · rename_i i off e1 _ cs frz e2 hc
          obtain ⟨c1, c2, c3, c4⟩ := hc
          simp only [Option.some.injEq, Prod.mk.injEq] at h
          obtain ⟨rfl, rfl, rfl, rfl⟩ := h
          exact ⟨_, .stP e1 rfl c1 c2 e2 c3 c4, rfl, rfl⟩
        · cases h
      · cases h
    · cases h
  | al z =>
    simp only [evOp] at h
    split at h
    · exact make_ok h (.al ‹_›)
    · cases h
  | bx x =>
    simp only [evOp] at h
    split at h
    · exact make_ok h (.bx rfl ‹_›)
    · cases h
  | nc x =>
    simp only [evOp] at h
    split at h
    · exact pure_ok h (.ncP ‹_›)
    · exact pure_ok h (.ncE ‹_›)
    · exact pure_ok h (.ncC ‹_›)
    · cases h
  | bin op x y =>
    simp only [evOp] at h
    split at h
    · split at h
      · simp only [Option.bind_eq_some_iff] at h
        obtain ⟨r, hb, h⟩ := h
        exact pure_ok h (.binSh ‹_› ‹_› hb)
      · simp only [Option.bind_eq_some_iff] at h
        obtain ⟨r, hb, h⟩ := h
        exact pure_ok h (.binSh ‹_› ‹_› hb)
      · split at h
        · rename_i hk
          subst hk
          simp only [Option.bind_eq_some_iff] at h
          obtain ⟨r, hb, h⟩ := h
          exact pure_ok h (.binI ‹_› ‹_› hb)
        · cases h
    · simp only [Option.bind_eq_some_iff] at h
      obtain ⟨r, hb, h⟩ := h
      rw [strE_eq] at hb
      exact pure_ok h (.binS ‹_› ‹_› hb)
    · cases h
  | binb neg x y =>
    simp only [evOp] at h
    split at h
    · exact pure_ok h (.binb ‹_› ‹_›)
    · cases h
  | eqp neg x y =>
    simp only [evOp] at h
    split at h
    · exact pure_ok h (.eqpP ‹_› ‹_›)
    · exact pure_ok h (.eqpN ‹_› ‹_›)
    · cases h
  | eqa neg ks x y =>
    simp only [evOp] at h
    split at h
    · split at h
      · rename_i hc
        simp only [Option.bind_eq_some_iff] at h
        obtain ⟨r, hb, h⟩ := h
        rw [eqE_eq] at hb
        exact pure_ok h (.eqa ‹_› ‹_› hb hc.1 hc.2)
      · cases h
    · cases h
  | un op x =>
    simp only [evOp] at h
    split at h
    · simp only [Option.bind_eq_some_iff] at h
      obtain ⟨r, hb, h⟩ := h
      exact pure_ok h (.un ‹_› hb)
    · cases h
  | cvi k x =>
    simp only [evOp] at h
    split at h
    · exact pure_ok h (.cvi ‹_›)
    · cases h
  | cvs x =>
    simp only [evOp] at h
    split at h
    · exact pure_ok h (.cvs ‹_›)
    · cases h
  | s2b x =>
    simp only [evOp] at h
    split at h
    · exact make_ok h (.s2b ‹_›)
    · cases h
  | b2s x =>
    simp only [evOp] at h
    split at h
    · rename_i xs f e
      simp only [Option.bind_eq_some_iff] at h
      obtain ⟨r, hb, h⟩ := h
      rw [bytesOf_ok hb] at e
      exact pure_ok h (.b2sI e)
    · split at h
      · rename_i i off n f e _ cs frz hi
        simp only [Option.bind_eq_some_iff] at h
        obtain ⟨r, hb, h⟩ := h
        split at h
        · rename_i hl
          subst hl
          exact rd_ok h (.b2sO e hi (bytesOf_ok hb))
        · cases h
      · cases h
    · cases h
  | fa o x =>
    simp only [evOp] at h
    split at h
    · exact pure_ok h (.faP ‹_›)
    · split at h
      · exact pure_ok h (.faE ‹_› ‹_›)
      · cases h
    · cases h
  | fd o sz ag x =>
    simp only [evOp] at h
    split at h
    · split at h
      · exact pure_ok h (.fd ‹_› ‹_›)
      · cases h
    · cases h
  | ixs es x ix =>
    simp only [evOp] at h
    split at h
    · rename_i xs f n e1 e2
      obtain ⟨k, j, e3, rfl⟩ := evIx_ok e2
      split at h
      · rename_i u hu
        obtain ⟨hn, rfl⟩ := List.getElem?_eq_some_iff.1 hu
        split at h
        · exact pure_ok h (.ixs e1 e3 rfl hn ‹_›)
        · cases h
      · cases h
    · rename_i i off m es' f n e1 e2
      obtain ⟨k, j, e3, rfl⟩ := evIx_ok e2
      split at h
      · rename_i hc
        obtain ⟨rfl, hn⟩ := hc
        exact pure_ok h (.ixo e1 e3 rfl hn)
      · cases h
    · cases h
  | ixa len es x ix =>
    simp only [evOp] at h
    split at h
    · rename_i i off n e1 e2
      obtain ⟨k, j, e3, rfl⟩ := evIx_ok e2
      split at h
      · exact pure_ok h (.ixa e1 e3 rfl ‹_›)
      · cases h
    · rename_i cs n e1 e2
      obtain ⟨k, j, e3, rfl⟩ := evIx_ok e2
      split at h
      · rename_i hc
        exact pure_ok h (.ixae e1 e3 rfl hc.1 hc.2)
      · cases h
    · cases h
  | ixg len es ag x ix =>
    simp only [evOp] at h
    split at h
    · rename_i cs n e1 e2
      obtain ⟨k, j, e3, rfl⟩ := evIx_ok e2
      split at h
      · rename_i hc
        exact pure_ok h (.ixg e1 e3 rfl hc.1 hc.2)
      · cases h
    · cases h
  | ixt x ix =>
    simp only [evOp] at h
    split at h
    · rename_i s n e1 e2
      obtain ⟨k, j, e3, rfl⟩ := evIx_ok e2
      split at h
      · exact pure_ok h (.ixt e1 e3 rfl ‹_›)
      · cases h
    · cases h
  | slt x lo hi =>
    simp only [evOp] at h
    split at h
    · split at h
      · rename_i s e1 _ _ l hh e2 e3
        obtain ⟨k, g1, g2⟩ := lo_ok e2
        obtain ⟨k', g3, g4⟩ := lo_ok e3
        split at h
        · rename_i hc
          exact pure_ok h (.slt e1 g1 g2 g3 g4 hc.1 hc.2)
        · cases h
      · cases h
    · cases h
  | sls es x lo hi mx =>
    simp only [evOp] at h
    split at h
    · rename_i xs full e1
      split at h
      · rename_i hes
        have hes' : ∀ u ∈ xs, u.cells.length = es := by simpa using hes
        split at h
        · split at h
          · rename_i l e2
            obtain ⟨k, g1, g2⟩ := lo_ok e2
            split at h
            · exact pure_ok h (.slsE e1 g1 g2 ‹_› hes')
            · cases h
          · cases h
        · split at h
          · rename_i hi _ l hh e2 e3
            obtain ⟨k, g1, g2⟩ := lo_ok e2
            obtain ⟨k', j, e4, rfl⟩ := evIx_ok e3
            split at h
            · rename_i hc
              exact pure_ok h (.sls e1 g1 g2 (fun y ey => by injection ey with ey; subst ey; exact e4) (fun e => by cases e) hc.1 hc.2 hes')
            · cases h
          · cases h
        · split at h
          · rename_i hi mx _ l hh mm e2 e3 e5
            obtain ⟨k, g1, g2⟩ := lo_ok e2
            obtain ⟨k', j, e4, rfl⟩ := evIx_ok e3
            obtain ⟨k'', j', e6, rfl⟩ := evIx_ok e5
            split at h
            · rename_i hc
              obtain ⟨c1, c2, rfl⟩ := hc
              exact pure_ok h (.sls3 e1 g1 g2 e4 e6 c1 c2 hes')
            · cases h
          · cases h
        · cases h
      · cases h
    · cases h
  | ex x i =>
    simp only [evOp] at h
    split at h
    · split at h
      · exact pure_ok h (.ex ‹_› ‹_›)
      · cases h
    · cases h
  | bd z parts =>
    simp only [evOp, Option.bind_eq_some_iff] at h
    obtain ⟨r, hb, h⟩ := h
    exact pure_ok h (.bd hb)
  | bs es len z parts =>
    simp only [evOp, Option.bind_eq_some_iff] at h
    obtain ⟨r, hb, h⟩ := h
    split at h
    · rename_i hz
      refine make_ok h (fun hfr => .bs hb hz hfr ?_)
      split <;> omega
    · cases h
  | mf fn caps => exact pure_ok h .mf
  | cl f args => exact call_ok hf hg h (fun vs' rd v h1 _ h2 => .cl h1 h2) fun v st' _ h1 h2 => .clS h1 h2 rfl
  | cv x args =>
    simp only [evOp] at h
    split at h
    · exact call_ok hf hg h (fun vs' rd v h1 h3 h2 => .cv ‹_› (hcf _ _ _ h3) h1 h2) fun v st' h3 h1 h2 => .cvS ‹_› (hcg _ _ _ _ h3) h1 h2 rfl
    · cases h
  | lent x =>
    simp only [evOp] at h
    split at h
    · exact pure_ok h (.lenT ‹_›)
    · cases h
  | lens x =>
    simp only [evOp] at h
    split at h
    · exact pure_ok h (.lenS ‹_›)
    · exact pure_ok h (.lenO ‹_›)
    · cases h
  | ap es bytes s x =>
    simp only [evOp] at h
    split at h
    · rename_i n ds rd1 k ds' rd' e1 e2
      have s1 := evSrc_ok e1
      have s2 := evSrcX_ok e2
      split at h
      · rename_i hk
        split at h
        · rename_i hd
          subst hk hd
          exact rd_ok h (.apZ s1 s2)
        · cases h
      · rename_i hk
        split at h
        · rename_i hc
          obtain ⟨c1, c2⟩ := hc
          split at h
          · rename_i hfu
            exact make_ok h (fun hfr => .apN s1 hfu s2 (by omega) c1 c2 hfr (Nat.le_refl _))
          · split at h
            · rename_i i n' es' hs
              split at h
              · rename_i cs frz hi
                split at h
                · rename_i hc2
                  obtain ⟨rfl, rfl, d1, d2, d3⟩ := hc2
                  have hfr : st[id]? = some .fresh := by
                    cases hx : st[id]? with
                    | none => rw [hx] at d3; cases d3
                    | some s => rw [hx] at d3; cases s <;> first | rfl | (simp at d3)
                  simp only [Option.some.injEq, Prod.mk.injEq] at h
                  obtain ⟨rfl, rfl, rfl, rfl⟩ := h
                  exact ⟨_, .apO hs hi d1 d2 s2 (by omega) c1 c2 hfr (by rw [List.length_append]; omega) (Nat.le_refl _), rfl, rfl⟩
                · cases h
              · cases h
            · cases h
        · cases h
    · cases h
  | mn mx x y =>
    simp only [evOp] at h
    split at h
    · exact pure_ok h (.mn ‹_› ‹_›)
    · cases h
  | mks es bytes z x y =>
    simp only [evOp] at h
    split at h
    · rename_i n c e1 e2
      obtain ⟨k, j, g1, rfl⟩ := evIx_ok e1
      obtain ⟨k', j', g2, rfl⟩ := evIx_ok e2
      split at h
      · rename_i hc
        exact make_ok h (fun hfr => .mks g1 g2 hc.1 hc.2.1 hc.2.2 (by simp) hfr (Nat.zero_le _))
      · cases h
    · cases h
end
end Go.Proofs.Ytljeinlapkgjeaa
/- The abstract walk, run on closed values: code. -/
namespace Go.Proofs.Ytljeinlapkgjeaa
open Go.RowKit
section
variable {P : Program} {cf : Nat → List V → Option V} {cg : Nat → List V → List Slot → Option (V × List Slot)}
def evOps (cf : Nat → List V → Option V) (cg : Nat → List V → List Slot → Option (V × List Slot)) (base : Nat) : List AOper → List (List Nat × List Nat) → List V → List Slot → Option (List (List Nat × List Nat) × List V × List Slot)
  | [], fp, fr, st => some (fp, fr, st)
  | o :: os, fp, fr, st => match gval o.guard fr with
    | some false => evOps cf cg base os (([], []) :: fp) (putF fr o.dst (.tup [])) st
    | some true => match evOp cf cg (evO fr) st (base + o.c) o.op with
      | some (v, rd, wr, st') => evOps cf cg base os ((rd, wr) :: fp) (putF fr o.dst v) st'
      | none => none
    | none => none
structure EvOK (P : Program) (cf : Nat → List V → Option V) (cg : Nat → List V → List Slot → Option (V × List Slot)) : Prop where
  f : ∀ f vs v, cf f vs = some v → CallsV P f vs v
  g : ∀ f vs st v st', cg f vs st = some (v, st') → CallsS P f vs st v st'
  cf : ∀ f vs v, cf f vs = some v → Callable P f
  cg : ∀ f vs st v, cg f vs st = some v → Callable P f
theorem evOps_ok (hk : EvOK P cf cg) {base : Nat} : ∀ {os : List AOper} {fp fp' : List (List Nat × List Nat)} {fr fr' : List V} {st st' : List Slot} {K : List (List Nat × List Nat) → List V → List Slot → Prop}, evOps cf cg base os fp fr st = some (fp', fr', st') → K fp' fr' st' → AOps P base os fp fr st K
  | [], fp, fp', fr, fr', st, st', K, h, hK => by
    simp only [evOps, Option.some.injEq, Prod.mk.injEq] at h
    obtain ⟨rfl, rfl, rfl⟩ := h
    exact hK
  | o :: os, fp, fp', fr, fr', st, st', K, h, hK => by
    simp only [evOps] at h
    split at h
    · exact .inl ⟨‹_›, evOps_ok hk h hK⟩
    · rename_i hg
      split at h
      · rename_i v rd wr st2 h2
        obtain ⟨ef, h3, rfl, rfl⟩ := evOp_ok hk.f hk.g hk.cf hk.cg h2
        exact .inr ⟨hg, v, rd, ef, h3, evOps_ok hk h hK⟩
      · cases h
    · cases h
def frzIds : List Nat → List Slot → List Slot
  | [], st => st
  | i :: is, st => match st[i]? with
    | some (.live cs frz) => if frz ≤ cs.length then frzIds is (st.set i (.live cs cs.length)) else frzIds is st
    | _ => frzIds is st
theorem frzIds_ok : ∀ {is : List Nat} {st0 st : List Slot}, Frz st0 st → Frz st0 (frzIds is st)
  | [], _, _, h => h
  | i :: is, st0, st, h => by
    simp only [frzIds]
    split
    · split
      · exact frzIds_ok (.step h ‹_› ‹_› (Nat.le_refl _))
      · exact frzIds_ok h
    · exact frzIds_ok h
def oslIds : V → List Nat
  | .osl i _ _ _ _ => [i]
  | .agg l => l.flatMap fun v => match v with
    | .osl i _ _ _ _ => [i]
    | _ => []
  | _ => []
def callIds (fr : List V) : AOp → List Nat
  | .cl _ args => args.flatMap fun x => oslIds (evO fr x)
  | .cv _ args => args.flatMap fun x => oslIds (evO fr x)
  | _ => []
def exX (ops : List AOper) : Nat := ops.countP fun o => o.op.isCall
def evLoop (body : List V → List Slot → Option (AExit × List V × List Slot)) : Nat → List V → List Slot → Option (AExit × List V × List Slot)
  | 0, _, _ => none
  | k + 1, fr, st => match body fr st with
    | some (.normal, fr', st') => evLoop body k fr' st'
    | r => r
def evCode (cf : Nat → List V → Option V) (cg : Nat → List V → List Slot → Option (V × List Slot)) (lf : Nat) : ACode → List V → List Slot → Option (AExit × List V × List Slot)
  | .skip, fr, st => some (.normal, fr, st)
  | .reg nc ops bef, fr, st => match evOps cf cg (frzIds (ops.flatMap fun o => callIds fr o.op) st).length ops [] fr (frzIds (ops.flatMap fun o => callIds fr o.op) st ++ List.replicate (nc + exX ops) .fresh) with
    | some (fp, fr', st') => if (match bef with | some b => footB b fp.reverse | none => true) = true then some (.normal, fr', st') else none
    | none => none
  | .seq a b, fr, st => match evCode cf cg lf a fr st with
    | some (.normal, fr', st') => evCode cf cg lf b fr' st'
    | r => r
  | .cond c a b, fr, st => match evO fr c with
    | .lit (.bool true) => evCode cf cg lf a fr st
    | .lit (.bool false) => evCode cf cg lf b fr st
    | _ => none
  | .block id a, fr, st => match evCode cf cg lf a fr st with
    | some (.exit j, fr', st') => if j = id then some (.normal, fr', st') else some (.exit j, fr', st')
    | r => r
  | .loop a, fr, st => evLoop (evCode cf cg lf a) lf fr st
  | .exit id, fr, st => some (.exit id, fr, st)
  | .ret, fr, st => some (.ret, fr, st)
theorem evCode_ok (hk : EvOK P cf cg) {lf n0 : Nat} : ∀ {ac : ACode} {Q : AExit → List V → List Slot → Prop} {fr fr' : List V} {st st' : List Slot} {e : AExit}, evCode cf cg lf ac fr st = some (e, fr', st') → Q e fr' st' → AW P n0 ac Q fr st := by
  intro ac
  induction ac with
  | skip => intro Q fr fr' st st' e h hQ; simp only [evCode, Option.some.injEq, Prod.mk.injEq] at h; obtain ⟨rfl, rfl, rfl⟩ := h; exact hQ
  | ret => intro Q fr fr' st st' e h hQ; simp only [evCode, Option.some.injEq, Prod.mk.injEq] at h; obtain ⟨rfl, rfl, rfl⟩ := h; exact hQ
  | exit id => intro Q fr fr' st st' e h hQ; simp only [evCode, Option.some.injEq, Prod.mk.injEq] at h; obtain ⟨rfl, rfl, rfl⟩ := h; exact hQ
  | reg nc ops bef =>
    intro Q fr fr' st st' e h hQ
    cases bef with
    | none =>
      simp only [evCode] at h
      split at h
      · rename_i fp fr2 st2 h2
        simp only [if_true, Option.some.injEq, Prod.mk.injEq] at h
        obtain ⟨rfl, rfl, rfl⟩ := h
        exact ⟨_, _, frzIds_ok .refl, evOps_ok hk h2 hQ⟩
      · cases h
    | some b =>
      simp only [evCode] at h
      split at h
      · rename_i fp fr2 st2 h2
        split at h
        · rename_i hf
          simp only [Option.some.injEq, Prod.mk.injEq] at h
          obtain ⟨rfl, rfl, rfl⟩ := h
          exact ⟨_, _, frzIds_ok .refl, evOps_ok hk h2 ⟨hf, hQ⟩⟩
        · cases h
      · cases h
  | seq a b ih1 ih2 =>
    intro Q fr fr' st st' e h hQ
    simp only [evCode] at h
    split at h
    · rename_i fr2 st2 h2
      exact ih1 h2 (ih2 h hQ)
    · rename_i h1
      refine ih1 h ?_
      cases e with
      | normal => exact absurd h (h1 _ _)
      | exit j => exact hQ
      | ret => exact hQ
  | cond c a b ih1 ih2 =>
    intro Q fr fr' st st' e h hQ
    simp only [evCode] at h
    split at h
    · exact ⟨true, ‹_›, fun _ => ih1 h hQ, fun e => (by cases e)⟩
    · exact ⟨false, ‹_›, fun e => (by cases e), fun _ => ih2 h hQ⟩
    · cases h
  | block id a ih =>
    intro Q fr fr' st st' e h hQ
    simp only [evCode] at h
    split at h
    · rename_i j fr2 st2 h2
      refine ih h2 ?_
      simp only
      split at h
      · rename_i hj
        simp only [Option.some.injEq, Prod.mk.injEq] at h
        obtain ⟨rfl, rfl, rfl⟩ := h
        rw [if_pos hj]; exact hQ
      · rename_i hj
        simp only [Option.some.injEq, Prod.mk.injEq] at h
        obtain ⟨rfl, rfl, rfl⟩ := h
        rw [if_neg hj]; exact hQ
    · rename_i h1
      refine ih h ?_
      cases e with
      | normal => exact hQ
      | exit j => exact absurd h (h1 _ _ _)
      | ret => exact hQ
  | loop a ih =>
    intro Q fr fr' st st' e h hQ
    simp only [evCode] at h
    refine ⟨lf, ?_⟩
    generalize hlf : lf = k at h
    rw [hlf] at ih
    have ih' : ∀ {Q : AExit → List V → List Slot → Prop} {fr fr' : List V} {st st' : List Slot} {e : AExit}, evCode cf cg k a fr st = some (e, fr', st') → Q e fr' st' → AW P n0 a Q fr st := ih
    clear ih hlf
    generalize hb : evCode cf cg k a = body at h ih'
    clear hb
    induction k generalizing fr st with
    | zero => simp [evLoop] at h
    | succ k ihk =>
      simp only [evLoop] at h
      split at h
      · rename_i fr2 st2 h2
        exact ih' h2 (ihk h)
      · rename_i h1
        refine ih' h ?_
        cases e with
        | normal => exact absurd h (h1 _ _)
        | exit j => exact hQ
        | ret => exact hQ
def evRes (fr : List V) (st : List Slot) : ARes → Option V
  | .tmp t => some (fr.getD t .any)
  | .cell t sz ag => match fr.getD t .any with
    | .ptr i off => match st[i]? with
      | some (.live cs _) => if off + agw ag sz ≤ cs.length then some (partV ag sz (cs.drop off)) else none
      | _ => none
    | _ => none
theorem evRes_ok {fr : List V} {st : List Slot} {r : ARes} {v : V} (h : evRes fr st r = some v) : ResOne fr st r v := by
  cases r with
  | tmp t => simp only [evRes, Option.some.injEq] at h; exact .tmp h
  | cell t sz ag =>
    simp only [evRes] at h
    split at h
    · split at h
      · split at h
        · simp only [Option.some.injEq] at h
          subst h
          exact .cell ‹_› ‹_› ‹_›
        · cases h
      · cases h
    · cases h
def evResL (fr : List V) (st : List Slot) : List ARes → Option (List V)
  | [] => some []
  | r :: rs => match evRes fr st r, evResL fr st rs with
    | some v, some l => some (v :: l)
    | _, _ => none
theorem evResL_ok {fr : List V} {st : List Slot} : ∀ {rs : List ARes} {l : List V}, evResL fr st rs = some l → ResL fr st rs l
  | [], l, h => by simp only [evResL, Option.some.injEq] at h; subst h; exact .nil
  | r :: rs, l, h => by
    simp only [evResL] at h
    split at h
    · simp only [Option.some.injEq] at h
      subst h
      exact .cons (evRes_ok ‹_›) (evResL_ok ‹_›)
    · cases h
def AExit.ends : AExit → Bool
  | .exit _ => false
  | _ => true
theorem ends_ok {e : AExit} (h : e.ends = true) : e = .normal ∨ e = .ret := by
  cases e <;> first | exact .inl rfl | exact .inr rfl | cases h
structure FnA where
  code : ACode
  n : Nat
  rs : List ARes
def Tbl := List (Nat × FnA)
def Tbl.at (T : Tbl) (f : Nat) : Option FnA := List.lookup f T
inductive TblOK (P : Program) : List (Nat × FnA) → Prop
  | nil : TblOK P []
  | cons {f ac n rs fn T} (hf : P.funcs[f]? = some fn) (hc : compF P fn = some (ac, n, rs)) (hn : (fn.name == "runtime.NumGoroutine") = false) (t : TblOK P T) : TblOK P ((f, ⟨ac, n, rs⟩) :: T)
theorem TblOK.at {T : List (Nat × FnA)} (h : TblOK P T) {f : Nat} {x : FnA} (hx : List.lookup f T = some x) : ∃ fn, P.funcs[f]? = some fn ∧ compF P fn = some (x.code, x.n, x.rs) ∧ (fn.name == "runtime.NumGoroutine") = false := by
  induction h with
  | nil => cases hx
  | @cons g ac n rs fn T hf hc hn t ih =>
    simp only [List.lookup] at hx
    split at hx
    · rename_i e
      have e' : f = g := by simpa using e
      subst e'
      simp only [Option.some.injEq] at hx
      subst hx
      exact ⟨fn, hf, hc, hn⟩
    · exact ih hx
def runEnd2 (fr : List V) (st : List Slot) (rs : List ARes) : Option V :=
  match evResL fr st rs with
  | some us => fzR st (mkR us)
  | none => none
def runEnd (fr : List V) (st : List Slot) (rs : List ARes) : Option V :=
  match evResL fr st rs with
  | some us => runEnd2 fr (frzIds (us.flatMap oslIds) st) rs
  | none => none
theorem runEnd_ok {fr : List V} {st : List Slot} {rs : List ARes} {v : V} (h : runEnd fr st rs = some v) : ∃ st0, Frz st st0 ∧ ∃ vs rd, ResL fr st0 rs vs ∧ FzR st0 (mkR vs) v rd := by
  unfold runEnd at h
  split at h
  · unfold runEnd2 at h
    split at h
    · rename_i us2 h4
      obtain ⟨rd, h6⟩ := fzR_ok h
      exact ⟨_, frzIds_ok .refl, us2, rd, evResL_ok h4, h6⟩
    · cases h
  · cases h
def runV (cf : Nat → List V → Option V) (cg : Nat → List V → List Slot → Option (V × List Slot)) (lf : Nat) (T : List (Nat × FnA)) (f : Nat) (vs : List V) : Option V :=
  match List.lookup f T with
  | some x => match evCode cf cg lf x.code (vs ++ List.replicate (x.n - vs.length) (.tup [])) [] with
    | some (e, fr, st) => if e.ends = true then runEnd fr st x.rs else none
    | none => none
  | none => none
theorem runV_ok (hmix : P.follows .mixedOrders = true) (hk : EvOK P cf cg) {lf : Nat} {T : List (Nat × FnA)} (hT : TblOK P T) {f : Nat} {vs : List V} {v : V} (h : runV cf cg lf T f vs = some v) : CallsV P f vs v ∧ Callable P f := by
  unfold runV at h
  split at h
  · rename_i x hx
    obtain ⟨fn, g1, g2, g3⟩ := hT.at hx
    refine ⟨?_, callable_comp g1 g2 g3⟩
    split at h
    · rename_i e fr st h2
      split at h
      · rename_i he
        exact callsV_comp hmix g1 g2 (evCode_ok hk h2 ⟨ends_ok he, runEnd_ok h⟩)
      · cases h
    · cases h
  · cases h
/-- numbers at the end of a call that was handed blocks. -/
def lk : List (Nat × Nat) → Nat → Option Nat
  | [], _ => none
  | (a, b) :: r, i => if a = i then some b else lk r i
theorem lk_mem : ∀ {l : List (Nat × Nat)} {i k : Nat}, lk l i = some k → (i, k) ∈ l
  | (a, b) :: r, i, k, h => by
    simp only [lk] at h
    split at h
    · rename_i e
      simp only [Option.some.injEq] at h
      subst e h
      simp
    · exact List.mem_cons_of_mem _ (lk_mem h)
def sgOf (n0 : Nat) (ps : List (Nat × Nat)) : List Nat := (List.range n0).map fun i => (lk ps i).getD i
theorem sgOf_at {n0 i : Nat} {ps : List (Nat × Nat)} (h : i < n0) : sgm (sgOf n0 ps) i = (lk ps i).getD i := by
  simp [sgm, sgOf, List.getD, h]
def invP (n0 : Nat) (ps : List (Nat × Nat)) (k : Nat) : Option Nat :=
  if k < n0 then (if lk ps k = none then some k else none) else
  match ps.find? fun p => p.2 == k with
  | some p => if lk ps p.1 = some k ∧ p.1 < n0 then some p.1 else none
  | none => none
theorem invP_ok {n0 k j : Nat} {ps : List (Nat × Nat)} (h : invP n0 ps k = some j) : sgm (sgOf n0 ps) j = k ∧ j < n0 := by
  unfold invP at h
  split at h
  · rename_i hk
    split at h
    · rename_i hl
      simp only [Option.some.injEq] at h
      subst h
      exact ⟨by rw [sgOf_at hk, hl]; rfl, hk⟩
    · cases h
  · split at h
    · split at h
      · rename_i hc
        simp only [Option.some.injEq] at h
        subst h
        exact ⟨by rw [sgOf_at hc.2, hc.1]; rfl, hc.2⟩
      · cases h
    · cases h
def renCap (n0 : Nat) (ps : List (Nat × Nat)) : List V → Option (List V)
  | [] => some []
  | v :: l => match (if v.idlt 0 = true then some v else match v with
      | .osl k off n es f => (invP n0 ps k).map fun j => .osl j off n es f
      | .ptr k off => (invP n0 ps k).map fun j => .ptr j off
      | _ => none), renCap n0 ps l with
    | some v', some l' => some (v' :: l')
    | _, _ => none
theorem renCap_ok {n0 : Nat} {ps : List (Nat × Nat)} : ∀ {l l' : List V}, renCap n0 ps l = some l' → V.ren.renL (sgOf n0 ps) l' = l ∧ V.idlt.belowL n0 l' = true
  | [], l', h => by simp only [renCap, Option.some.injEq] at h; subst h; exact ⟨rfl, rfl⟩
  | v :: l, l', h => by
    simp only [renCap] at h
    split at h
    · rename_i v' l2 h1 h2
      simp only [Option.some.injEq] at h
      subst h
      obtain ⟨g1, g2⟩ := renCap_ok h2
      have hv : v'.ren (sgOf n0 ps) = v ∧ v'.idlt n0 = true := by
        split at h1
        · rename_i h0
          simp only [Option.some.injEq] at h1
          subst h1
          exact ⟨ren_id _ h0, idlt_up _ h0⟩
        · split at h1
          · simp only [Option.map_eq_some_iff] at h1
            obtain ⟨j, hj, rfl⟩ := h1
            obtain ⟨q1, q2⟩ := invP_ok hj
            exact ⟨by rw [V.ren, q1], by simpa [V.idlt] using q2⟩
          · simp only [Option.map_eq_some_iff] at h1
            obtain ⟨j, hj, rfl⟩ := h1
            obtain ⟨q1, q2⟩ := invP_ok hj
            exact ⟨by rw [V.ren, q1], by simpa [V.idlt] using q2⟩
          · cases h1
      exact ⟨by rw [V.ren.renL, hv.1, g1], by simp only [V.idlt.belowL, Bool.and_eq_true]; exact ⟨hv.2, g2⟩⟩
    · cases h
def convC (n0 : Nat) (ps : List (Nat × Nat)) (st1 : List Slot) (v : V) : V :=
  if v.idlt 0 = true then v else
  match v with
  | .osl k off n es f => match invP n0 ps k with
    | some j => .osl j off n es f
    | none => match fzC st1 (.osl k off n es f) with
      | some (v', _) => v'
      | none => .any
  | .ptr k off => match invP n0 ps k with
    | some j => .ptr j off
    | none => .any
  | .clo fn caps => match renCap n0 ps caps with
    | some caps' => .clo fn caps'
    | none => .any
  | _ => .any
theorem convC_ok {n0 : Nat} {ps : List (Nat × Nat)} {st1 : List Slot} (v : V) : WC st1 (sgOf n0 ps) n0 v (convC n0 ps st1 v) := by
  unfold convC
  split
  · rename_i h0
    exact .ren (ren_id _ h0) (idlt_up _ h0)
  · split
    · split
      · rename_i hj
        obtain ⟨q1, q2⟩ := invP_ok hj
        exact .ren (by rw [V.ren, q1]) (by simpa [V.idlt] using q2)
      · split
        · exact .fz (fzC_ok ‹_›)
        · exact .any
    · split
      · rename_i hj
        obtain ⟨q1, q2⟩ := invP_ok hj
        exact .ren (by rw [V.ren, q1]) (by simpa [V.idlt] using q2)
      · exact .any
    · split
      · rename_i hj
        obtain ⟨q1, q2⟩ := renCap_ok hj
        exact .ren (by rw [V.ren, q1]) (by simpa [V.idlt] using q2)
      · exact .any
    · exact .any
theorem convL_ok {n0 : Nat} {ps : List (Nat × Nat)} {st1 : List Slot} : ∀ l : List V, WCL st1 (sgOf n0 ps) n0 l (l.map (convC n0 ps st1))
  | [] => .nil
  | v :: l => .cons (convC_ok v) (convL_ok l)
def convV (n0 : Nat) (ps : List (Nat × Nat)) (st1 : List Slot) (v : V) : V :=
  match v with
  | .agg l => if (l.map (convC n0 ps st1)).all V.one = true then .agg (l.map (convC n0 ps st1)) else .any
  | v => convC n0 ps st1 v
theorem convV_ok {n0 : Nat} {ps : List (Nat × Nat)} {st1 : List Slot} (v : V) : WV st1 (sgOf n0 ps) n0 v (convV n0 ps st1 v) := by
  unfold convV
  split
  · split
    · rename_i h
      exact .agg (convL_ok _) (by simpa using h)
    · exact .c .any
  · exact .c (convC_ok _)
theorem convVL_ok {n0 : Nat} {ps : List (Nat × Nat)} {st1 : List Slot} : ∀ l : List V, WVL st1 (sgOf n0 ps) n0 l (l.map (convV n0 ps st1))
  | [] => .nil
  | v :: l => .cons (convV_ok v) (convVL_ok l)
def convR (n0 : Nat) (ps : List (Nat × Nat)) (st1 : List Slot) (v : V) : V :=
  match v with
  | .tup l => .tup (l.map (convV n0 ps st1))
  | v => convV n0 ps st1 v
theorem convR_ok {n0 : Nat} {ps : List (Nat × Nat)} {st1 : List Slot} (v : V) : WR st1 (sgOf n0 ps) n0 v (convR n0 ps st1 v) := by
  unfold convR
  split
  · exact .tup (convVL_ok _)
  · exact .v (convV_ok _)
def liveOr (n0 : Nat) (ps : List (Nat × Nat)) (st1 : List Slot) (cs : List V) (frz : Nat) : Slot :=
  if (cs.map (convC n0 ps st1)).all V.one = true then .live (cs.map (convC n0 ps st1)) frz else .dead
def finOne (n0 : Nat) (ps : List (Nat × Nat)) (st1 : List Slot) (i : Nat) : Slot → Slot
  | .live cs frz => match lk ps i with
    | none => liveOr n0 ps st1 cs frz
    | some _ => .dead
  | .fresh => match lk ps i with
    | none => .fresh
    | some k => match st1[k]? with
      | some (.live cs frz) => liveOr n0 ps st1 cs frz
      | _ => .dead
  | .dead => .dead
def finS (n0 : Nat) (ps : List (Nat × Nat)) (st1 : List Slot) : Nat → List Slot → List Slot
  | _, [] => []
  | i, s :: r => finOne n0 ps st1 i s :: finS n0 ps st1 (i + 1) r
theorem finS_len {n0 : Nat} {ps : List (Nat × Nat)} {st1 : List Slot} : ∀ (l : List Slot) (i : Nat), (finS n0 ps st1 i l).length = l.length
  | [], _ => rfl
  | s :: r, i => by simp [finS, finS_len r]
theorem finS_at {n0 : Nat} {ps : List (Nat × Nat)} {st1 : List Slot} : ∀ (l : List Slot) (i j : Nat) (s : Slot), (finS n0 ps st1 i l)[j]? = some s → ∃ s0, l[j]? = some s0 ∧ s = finOne n0 ps st1 (i + j) s0
  | [], i, j, s, h => by simp [finS] at h
  | s0 :: r, i, 0, s, h => by simp only [finS, List.getElem?_cons_zero, Option.some.injEq] at h; exact ⟨s0, rfl, h.symm⟩
  | s0 :: r, i, j + 1, s, h => by
    simp only [finS, List.getElem?_cons_succ] at h
    obtain ⟨s1, h1, h2⟩ := finS_at r (i + 1) j s h
    exact ⟨s1, by simpa using h1, by rw [h2, show i + 1 + j = i + (j + 1) by omega]⟩
theorem liveOr_inv {n0 : Nat} {ps : List (Nat × Nat)} {st1 : List Slot} {cs0 cs : List V} {f0 f : Nat} (h : liveOr n0 ps st1 cs0 f0 = .live cs f) : cs = cs0.map (convC n0 ps st1) ∧ f = f0 ∧ ∀ u ∈ cs, u.one = true := by
  unfold liveOr at h
  split at h
  · rename_i h1
    simp only [Slot.live.injEq] at h
    obtain ⟨rfl, rfl⟩ := h
    exact ⟨rfl, rfl, by simpa using h1⟩
  · cases h
def okPs (n0 : Nat) (ps : List (Nat × Nat)) (st : List Slot) : Bool :=
  ps.all fun p => decide (n0 ≤ p.2) && (match st[p.1]? with | some .fresh => true | _ => false) && ps.all fun q => p.2 != q.2 || p.1 == q.1
theorem okPs_ok {n0 : Nat} {ps : List (Nat × Nat)} {st : List Slot} (h : okPs n0 ps st = true) {i k : Nat} (hl : lk ps i = some k) : n0 ≤ k ∧ st[i]? = some .fresh ∧ ∀ j, lk ps j = some k → i = j := by
  simp only [okPs, List.all_eq_true, Bool.and_eq_true, decide_eq_true_eq] at h
  obtain ⟨⟨h1, h2⟩, h3⟩ := h _ (lk_mem hl)
  refine ⟨h1, ?_, fun j hj => ?_⟩
  · simp only at h2
    split at h2
    · assumption
    · cases h2
  · have := h3 _ (lk_mem hj)
    simpa using this
theorem finWS {n0 : Nat} {ps : List (Nat × Nat)} {st st1 : List Slot} (hn : n0 ≤ st1.length) (hok : okPs n0 ps st = true) : WS n0 (sgOf n0 ps) st1 (finS n0 ps st1 0 (st1.take n0)) := by
  have at_ : ∀ (i : Nat) (s : Slot), (finS n0 ps st1 0 (st1.take n0))[i]? = some s → i < n0 ∧ ∃ s0, st1[i]? = some s0 ∧ s = finOne n0 ps st1 i s0 := by
    intro i s h
    obtain ⟨s0, h1, h2⟩ := finS_at _ _ _ _ h
    rw [List.getElem?_take] at h1
    split at h1
    · exact ⟨‹_›, s0, h1, by rw [h2, Nat.zero_add]⟩
    · cases h1
  have live_ : ∀ (i : Nat) (cs : List V) (frz : Nat), (finS n0 ps st1 0 (st1.take n0))[i]? = some (Slot.live cs frz) → i < n0 ∧ ∃ cs0, st1[(lk ps i).getD i]? = some (Slot.live cs0 frz) ∧ cs = cs0.map (convC n0 ps st1) ∧ ∀ u ∈ cs, u.one = true := by
    intro i cs frz h
    obtain ⟨hi, s0, h1, h2⟩ := at_ _ _ h
    refine ⟨hi, ?_⟩
    cases s0 with
    | live cs0 f0 =>
      simp only [finOne] at h2
      split at h2
      · rename_i hl
        obtain ⟨e1, e2, e3⟩ := liveOr_inv h2.symm
        subst e2
        exact ⟨cs0, by rw [hl]; exact h1, e1, e3⟩
      · cases h2
    | fresh =>
      simp only [finOne] at h2
      split at h2
      · cases h2
      · rename_i k hl
        split at h2
        · rename_i cs0 f0 h3
          obtain ⟨e1, e2, e3⟩ := liveOr_inv h2.symm
          subst e2
          exact ⟨cs0, by rw [hl]; exact h3, e1, e3⟩
        · cases h2
    | dead => cases h2
  refine ⟨by rw [finS_len, List.length_take]; omega, fun i cs frz h => ?_, fun i h => ?_, fun i j ci fi cj fj hi hj e => ?_⟩
  · obtain ⟨hi, cs0, h1, h2, h3⟩ := live_ _ _ _ h
    refine ⟨cs0, by rw [sgOf_at hi]; exact h1, ?_, .inl h3⟩
    rw [h2]; exact convL_ok _
  · obtain ⟨hi, s0, h1, h2⟩ := at_ _ _ h
    cases s0 with
    | live cs0 f0 =>
      simp only [finOne] at h2
      split at h2
      · unfold liveOr at h2
        split at h2 <;> cases h2
      · cases h2
    | fresh =>
      simp only [finOne] at h2
      split at h2
      · rename_i hl
        rw [sgOf_at hi, hl]; exact h1
      · split at h2
        · unfold liveOr at h2
          split at h2 <;> cases h2
        · cases h2
    | dead => cases h2
  · obtain ⟨h1, _⟩ := live_ _ _ _ hi
    obtain ⟨h2, _⟩ := live_ _ _ _ hj
    rw [sgOf_at h1, sgOf_at h2] at e
    cases hli : lk ps i with
    | none =>
      cases hlj : lk ps j with
      | none => rw [hli, hlj] at e; exact e
      | some k => rw [hli, hlj] at e; have := (okPs_ok hok hlj).1; simp at e; omega
    | some k =>
      cases hlj : lk ps j with
      | none => rw [hli, hlj] at e; have := (okPs_ok hok hli).1; simp at e; omega
      | some k' => rw [hli, hlj] at e; simp at e; subst e; exact (okPs_ok hok hli).2.2 j hlj
def newIds (n0 : Nat) : List V → List Nat
  | [] => []
  | .osl k _ _ _ _ :: l => if n0 ≤ k then k :: newIds n0 l else newIds n0 l
  | .ptr k _ :: l => if n0 ≤ k then k :: newIds n0 l else newIds n0 l
  | .agg cs :: l => (cs.flatMap fun v => match v with | .osl k _ _ _ _ => (if n0 ≤ k then [k] else []) | .ptr k _ => (if n0 ≤ k then [k] else []) | _ => []) ++ newIds n0 l
  | _ :: l => newIds n0 l
def slotIds (n0 : Nat) : List Slot → List Nat
  | [] => []
  | .live cs _ :: r => newIds n0 cs ++ slotIds n0 r
  | _ :: r => slotIds n0 r
def freeAt : Nat → List Slot → List Slot → List Nat
  | i, .fresh :: r, .fresh :: q => i :: freeAt (i + 1) r q
  | i, _ :: r, _ :: q => freeAt (i + 1) r q
  | _, _, _ => []
def runEndS (st : List Slot) (fr : List V) (st1 : List Slot) (ps : List (Nat × Nat)) (rs : List ARes) : Option (V × List Slot) :=
  match evResL fr st1 rs with
  | some us => if st.length ≤ st1.length ∧ okPs st.length ps st = true then some (convR st.length ps st1 (mkR us), finS st.length ps st1 0 (st1.take st.length)) else none
  | none => none
def runS (cf : Nat → List V → Option V) (cg : Nat → List V → List Slot → Option (V × List Slot)) (lf : Nat) (T : List (Nat × FnA)) (f : Nat) (vs : List V) (st : List Slot) : Option (V × List Slot) :=
  match List.lookup f T with
  | some x => match evCode cf cg lf x.code (vs ++ List.replicate (x.n - vs.length) (.tup [])) st with
    | some (e, fr, st2) => if e.ends = true then
        match evResL fr st2 x.rs with
        | some us =>
          let new := (slotIds st.length (st2.take st.length) ++ newIds st.length us).eraseDups
          let free := freeAt 0 st st2
          runEndS st fr (frzIds (new.drop free.length) st2) (free.zip new) x.rs
        | none => none
        else none
    | none => none
  | none => none
theorem runS_ok (hmix : P.follows .mixedOrders = true) (hk : EvOK P cf cg) {lf : Nat} {T : List (Nat × FnA)} (hT : TblOK P T) {f : Nat} {vs : List V} {st st' : List Slot} {v : V} (h : runS cf cg lf T f vs st = some (v, st')) : CallsS P f vs st v st' ∧ Callable P f := by
  unfold runS at h
  split at h
  · rename_i x hx
    obtain ⟨fn, g1, g2, g3⟩ := hT.at hx
    refine ⟨?_, callable_comp g1 g2 g3⟩
    split at h
    · rename_i e fr st2 h2
      split at h
      · rename_i he
        split at h
        · rename_i us h3
          simp only at h
          generalize (slotIds st.length (st2.take st.length) ++ newIds st.length us).eraseDups = new at h
          generalize freeAt 0 st st2 = free at h
          unfold runEndS at h
          split at h
          · rename_i us2 h4
            split at h
            · rename_i hc
              simp only [Option.some.injEq, Prod.mk.injEq] at h
              obtain ⟨rfl, rfl⟩ := h
              refine callsR_comp hmix g1 g2 rfl (evCode_ok hk h2 ⟨ends_ok he, sgOf st.length (free.zip new), _, us2, frzIds_ok .refl, evResL_ok h4, convR_ok _, fun i hi hnf => ?_, finWS hc.1 hc.2⟩)
              rw [sgOf_at hi]
              cases hl : lk (free.zip new) i with
              | none => rfl
              | some k => exact absurd (okPs_ok hc.2 hl).2.1 hnf
            · cases h
          · cases h
        · cases h
      · cases h
    · cases h
  · cases h
/-- a tower of runs. -/
def evFn (ext : Nat → List V → Option V) (lf : Nat) (T : List (Nat × FnA)) : Nat → (Nat → List V → Option V) × (Nat → List V → List Slot → Option (V × List Slot))
  | 0 => (fun f vs => ext f vs, fun _ _ _ => none)
  | d + 1 => (fun f vs => match ext f vs with
      | some v => some v
      | none => runV (evFn ext lf T d).1 (evFn ext lf T d).2 lf T f vs, fun f vs st => runS (evFn ext lf T d).1 (evFn ext lf T d).2 lf T f vs st)
theorem evFn_ok (hmix : P.follows .mixedOrders = true) {ext : Nat → List V → Option V} (hext : ∀ f vs v, ext f vs = some v → CallsV P f vs v ∧ Callable P f) {lf : Nat} {T : List (Nat × FnA)} (hT : TblOK P T) : ∀ d, EvOK P (evFn ext lf T d).1 (evFn ext lf T d).2
  | 0 => ⟨fun f vs v h => (hext f vs v h).1, fun f vs st v st' h => (by cases h), fun f vs v h => (hext f vs v h).2, fun f vs st v h => (by cases h)⟩
  | d + 1 => by
    have ih := evFn_ok hmix hext hT d (lf := lf)
    have hV : ∀ f vs v, (evFn ext lf T (d + 1)).1 f vs = some v → CallsV P f vs v ∧ Callable P f := by
      intro f vs v h
      simp only [evFn] at h
      split at h
      · rename_i v0 h0
        simp only [Option.some.injEq] at h
        subst h
        exact hext _ _ _ h0
      · exact runV_ok hmix ih hT h
    have hS : ∀ f vs st v st', (evFn ext lf T (d + 1)).2 f vs st = some (v, st') → CallsS P f vs st v st' ∧ Callable P f := fun f vs st v st' h => runS_ok hmix ih hT h
    exact ⟨fun f vs v h => (hV f vs v h).1, fun f vs st v st' h => (hS f vs st v st' h).1, fun f vs v h => (hV f vs v h).2, fun f vs st v h => (hS f vs st v.1 v.2 h).2⟩
end
end Go.Proofs.Ytljeinlapkgjeaa
