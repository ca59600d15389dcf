/- A part of the proof: 1 texts joined. -/
import Derived.Test.YtljeinlapkgjeaaPuA12
set_option linter.all false
/- An abstract walk: the program's code, turned into the abstract one, by a function that is proved. -/
namespace Go.Proofs.Ytljeinlapkgjeaa
open Go.RowKit
def kindsOf (P : Program) : Nat → TypeId → Option (List Nat)
  | 0, _ => none
  | d + 1, t => match P.underlying t with
    | some .bool => some [0]
    | some (.int _) => some [1]
    | some .string => some [2]
    | some (.struct fs) => (fs.toList.mapM fun f => kindsOf P d f.type).map List.flatten
    | _ => none
def placesOf (P : Program) (t : TypeId) : Option (Nat → Option (Nat × Nat)) :=
  match P.underlying t with
  | some (.array _ e) => (P.info? e).map fun ie => fun i => some (i * ie.size, ie.size)
  | some (.struct fields) => (fields.toList.mapM fun f => (P.info? f.type).map fun i => (f.offset, i.size)).map fun places => (places.toArray[·]?)
  | _ => none
def strOrSl (P : Program) (t : TypeId) : Bool := match P.underlying t with
  | some (.slice _) => true
  | some .string => true
  | _ => false
theorem strOrSl_ok {P : Program} {t : TypeId} (h : strOrSl P t = true) : (∃ e', P.underlying t = some (.slice e')) ∨ P.underlying t = some .string := by
  unfold strOrSl at h
  split at h
  · exact .inl ⟨_, ‹_›⟩
  · exact .inr ‹_›
  · cases h
def compOp (P : Program) : Op → Option AOp
  | .move x | .assign x => some (.mv x)
  | .pick c a b => some (.pick c a b)
  | .load t x => match P.underlying t, P.info? t with
    | some d, some i => some (.ld i.size (isAggD d) x)
    | _, _ => none
  | .store t a x => match P.info? t with
    | some i => some (.st i.size a x)
    | none => none
  | .alloc t => match P.info? t with
    | some i => match i.zero with
      | some z => some (.al (V.ofValue z))
      | none => none
    | none => none
  | .box _ x => some (.bx x)
  | .nilCheck x => some (.nc x)
  | .binOp .eql t x y _ => match P.underlying t with
    | some .bool => some (.binb false x y)
    | some (.pointer e) => if e = P.pointee t then some (.eqp false x y) else none
    | some (.struct _) => match kindsOf P 10 t with
      | some ks => if eqTy P 10 t ks = true ∧ isAggT P t = true ∧ P.eqGuardType P.depth t = false ∧ P.cellsOf t = ks.length then some (.eqa false ks x y) else none
      | none => none
    | _ => some (.bin .eql x y)
  | .binOp .neq t x y _ => match P.underlying t with
    | some .bool => some (.binb true x y)
    | some (.pointer e) => if e = P.pointee t then some (.eqp true x y) else none
    | some (.struct _) => match kindsOf P 10 t with
      | some ks => if eqTy P 10 t ks = true ∧ isAggT P t = true ∧ P.eqGuardType P.depth t = false ∧ P.cellsOf t = ks.length then some (.eqa true ks x y) else none
      | none => none
    | _ => some (.bin .neq x y)
  | .binOp op _ x y _ => some (.bin op x y)
  | .unOp op _ x => some (.un op x)
  | .convert s d x => match P.underlying s, P.underlying d with
    | some (.int _), some (.int k) => some (.cvi k x)
    | some .string, some .string => some (.cvs x)
    | some .string, some (.slice e) => match P.underlying e with
      | some (.int .u8) => some (.s2b x)
      | _ => none
    | some (.slice e), some .string => match P.underlying e with
      | some (.int .u8) => some (.b2s x)
      | _ => none
    | _, _ => none
  | .fieldAddr t x n => match P.underlying t with
    | some (.struct fs) => match fs[n]? with
      | some f => match P.info? f.type with
        | some i => if i.size ≠ 0 then some (.fa f.offset x) else none
        | none => none
      | none => none
    | _ => none
  | .field t x n => match P.underlying t with
    | some (.struct fs) => match fs[n]? with
      | some f => match P.info? f.type, P.underlying f.type with
        | some i, some d => some (.fd f.offset i.size (isAggD d) x)
        | _, _ => none
      | none => none
    | _ => none
  | .indexAddr t x ix => match P.underlying t with
    | some (.slice e) => match P.info? e with
      | some i => some (.ixs i.size x ix)
      | none => none
    | some (.array len e) => match P.info? e with
      | some i => some (.ixa len i.size x ix)
      | none => none
    | _ => none
  | .index t x ix => match P.underlying t with
    | some .string => some (.ixt x ix)
    | some (.array len e) => match P.info? e, P.underlying e with
      | some i, some d => some (.ixg len i.size (isAggD d) x ix)
      | _, _ => none
    | _ => none
  | .slice t x lo hi mx => match P.underlying t with
    | some .string => match mx with
      | none => some (.slt x lo hi)
      | some _ => none
    | some (.slice e) => match P.info? e with
      | some i => some (.sls i.size x lo hi mx)
      | none => none
    | _ => none
  | .extract x i => some (.ex x i)
  | .build t parts => match placesOf P t, P.info? t with
    | some pl, some i => match i.zero with
      | some z => match V.ofValue z, parts.toList.mapM (fun p => (pl p.1).map fun q => (q.1, q.2, p.2)) with
        | .agg zs, some ps => some (.bd zs ps)
        | _, _ => none
      | none => none
    | _, _ => none
  | .buildSlice t len parts => match P.underlying t with
    | some (.slice e) => match P.info? e with
      | some i => match i.zero with
        | some z => if len * i.size ≠ 0 ∧ z.cells.size = i.size ∧ len * i.size ≤ 1000 ∧ (V.ofValue z).stb = true then some (.bs i.size len ((List.range (len * i.size)).map fun k => (V.ofValue z).cells.getD (k % i.size) .any) parts.toList) else none
        | none => none
      | none => none
    | _ => none
  | .makeSlice t n c => match P.underlying t with
    | some (.slice e) => match P.info? e with
      | some i => match i.zero with
        | some z => if i.size ≠ 0 ∧ z.cells.size = i.size ∧ (V.ofValue z).stb = true then some (.mks i.size i.bytes (V.ofValue z).cells n c) else none
        | none => none
      | none => none
    | _ => none
  | .makeFunc fn first caps => match first.toList with
    | [] => some (.mf fn caps.toList)
    | _ => none
  | .call c => match c.callee with
    | .value (.func f) => match P.funcs[f]? with
      | some fn => if fn.body.isSome = true ∧ (fn.name == "runtime.NumGoroutine") = false then some (.cl f c.args.toList) else none
      | none => none
    | .value f => some (.cv f c.args.toList)
    | .builtin .len => match c.args.toList, c.argTypes.toList with
      | [x], [t] => match P.underlying t with
        | some .string => some (.lent x)
        | some (.slice _) => some (.lens x)
        | _ => none
      | _, _ => none
    | .builtin .min => match c.args.toList with
      | [x, y] => some (.mn false x y)
      | _ => none
    | .builtin .max => match c.args.toList with
      | [x, y] => some (.mn true x y)
      | _ => none
    | .builtin .append => match c.args.toList, c.argTypes.toList with
      | [s, x], [t, t'] => if strOrSl P t' = true then match P.underlying t with
        | some (.slice e) => match P.info? e with
          | some i => match i.zero with
            | some z => if z.cells.size = i.size ∧ i.size ≠ 0 then some (.ap i.size i.bytes s x) else none
            | none => none
          | none => none
        | _ => none
        else none
      | _, _ => none
    | _ => none
  | _ => none
theorem toList_nil {α : Type} {a : Array α} (h : a.toList = []) : a = #[] := by apply Array.ext'; rw [h]
theorem toList_one {α : Type} {a : Array α} {x : α} (h : a.toList = [x]) : a = #[x] := by apply Array.ext'; rw [h]
theorem toList_two {α : Type} {a : Array α} {x y : α} (h : a.toList = [x, y]) : a = #[x, y] := by apply Array.ext'; rw [h]
theorem placesOf_ok {P : Program} {t : TypeId} {pl : Nat → Option (Nat × Nat)} {i : TypeInfo} {z : Value} (h : placesOf P t = some pl) (hi : P.info? t = some i) (hz : i.zero = some z) (l : List (Nat × Value)) : P.built t l = Instr.fill pl z.cells l := by
  unfold placesOf at h
  unfold Program.built
  rw [hi]
  split at h
  · rename_i n e hu
    simp only [Option.map_eq_some_iff] at h
    obtain ⟨ie, h1, rfl⟩ := h
    simp only [hu, hz, h1]
  · rename_i fields hu
    simp only [Option.map_eq_some_iff] at h
    obtain ⟨ps, h1, rfl⟩ := h
    simp only [hu, hz, h1]
  · cases h
theorem compOp_ok {P : Program} {op : Op} {ao : AOp} (ty : TypeId) (h : compOp P op = some ao) : Cop P op ty ao := by
  unfold compOp at h
  split at h <;> (try simp only [reduceCtorEq] at h)
  all_goals (repeat' (split at h)) <;> (try simp only [reduceCtorEq, Option.some.injEq] at h) <;> (try subst h)
  all_goals first
    | exact .mv _
    | exact .as _
    | exact .pick _ _ _
    | exact .ld ‹_› ‹_›
    | exact .st ‹_›
    | exact .al ‹_› ‹_›
    | exact .bx
    | exact .nc
    | exact .binb (neg := false) ‹_›
    | exact .binb (neg := true) ‹_›
    | (rename_i hd hh; subst hh; exact .eqp (neg := false) hd)
    | (rename_i hd hh; subst hh; exact .eqp (neg := true) hd)
    | (rename_i hh; exact .eqa (neg := false) hh.1 (by decide) hh.2.1 hh.2.2.1 hh.2.2.2)
    | (rename_i hh; exact .eqa (neg := true) hh.1 (by decide) hh.2.1 hh.2.2.1 hh.2.2.2)
    | exact .bin
    | exact .un
    | exact .cvi ‹_› ‹_›
    | exact .cvs ‹_› ‹_›
    | exact .s2b ‹_› ‹_› ‹_›
    | exact .b2s ‹_› ‹_› ‹_›
    | exact .fa ‹_› ‹_› ‹_› ‹_›
    | exact .fd ‹_› ‹_› ‹_› ‹_›
    | exact .ixs ‹_› ‹_›
    | exact .ixa ‹_› ‹_›
    | exact .ixg ‹_› ‹_› ‹_›
    | exact .ixt ‹_›
    | exact .slt ‹_›
    | exact .sls ‹_› ‹_›
    | exact .ex
    | exact .bd _ (placesOf_ok ‹_› ‹_› ‹_›) ‹_› ‹_› ‹_› ‹_›
    | (rename_i hh; exact .bs ‹_› ‹_› ‹_› hh.1 hh.2.1 hh.2.2.1 hh.2.2.2)
    | (rename_i hh; rw [toList_nil hh]; exact .mf)
    | (rename_i c _ f hc _ fn hfn hh; obtain ⟨cal, args, tys⟩ := c; simp only at hc; subst hc; exact .cl hfn hh.1 hh.2)
    | (rename_i c _ f _ hc; obtain ⟨cal, args, tys⟩ := c; simp only at hc; subst hc; exact .cv)
    | (rename_i c _ hc _ _ x t h1 h2 _ hd; obtain ⟨cal, args, tys⟩ := c; simp only at hc h1 h2; subst hc; rw [toList_one h1, toList_one h2]; exact .lenT hd)
    | (rename_i c _ hc _ _ x t h1 h2 _ e hd; obtain ⟨cal, args, tys⟩ := c; simp only at hc h1 h2; subst hc; rw [toList_one h1, toList_one h2]; exact .lenS hd)
    | (rename_i hh; exact .mks ‹_› ‹_› ‹_› hh.1 hh.2.1 hh.2.2)
    | (rename_i c _ hc _ x y h1; obtain ⟨cal, args, tys⟩ := c; simp only at hc h1; subst hc; rw [toList_two h1]; exact .mn (mx := false))
    | (rename_i c _ hc _ x y h1; obtain ⟨cal, args, tys⟩ := c; simp only at hc h1; subst hc; rw [toList_two h1]; exact .mn (mx := true))
    | (rename_i c _ hc _ _ s x t t' h1 h2 htt _ e hd _ i hi _ z hz hh; obtain ⟨cal, args, tys⟩ := c; simp only at hc h1 h2; subst hc; rw [toList_two h1, toList_two h2]; exact .ap hd hi hz hh.1 hh.2 (strOrSl_ok htt))
def compG (ops : Array Oper) : Option (Nat × Bool) → Option (Option (Nat × Bool))
  | none => some none
  | some (j, w) => match (ops[j]?).bind (·.dst) with
    | some d => some (some (d, w))
    | none => none
def AOp.makes : AOp → Bool
  | .al .. | .bx .. | .bs .. | .s2b .. | .ap .. | .mks .. => true
  | _ => false
def compOps (P : Program) (ops : Array Oper) : List Oper → Nat → Option (List AOper × Nat)
  | [], c => some ([], c)
  | o :: os, c => match compOp P o.op, compG ops o.guard with
    | some ao, some g => match compOps P ops os (if ao.makes then c + 1 else c) with
      | some (l, n) => some (⟨o.dst, ao, g, c⟩ :: l, n)
      | none => none
    | _, _ => none
theorem compOps_ok {P : Program} {ops : Array Oper} : ∀ {os : List Oper} {c n : Nat} {l : List AOper}, compOps P ops os c = some (l, n) → os.length = l.length ∧ ∀ j (h : j < l.length) (o : Oper), os[j]? = some o → MatchOp P ops o l[j]
  | [], c, n, l, h => by
    simp only [compOps, Option.some.injEq, Prod.mk.injEq] at h
    obtain ⟨rfl, _⟩ := h
    exact ⟨rfl, fun j h => absurd h (Nat.not_lt_zero _)⟩
  | o :: os, c, n, l, h => by
    simp only [compOps] at h
    split at h
    · rename_i ao g h1 h2
      split at h
      · rename_i l' n' h3
        simp only [Option.some.injEq, Prod.mk.injEq] at h
        obtain ⟨rfl, rfl⟩ := h
        obtain ⟨g1, g2⟩ := compOps_ok h3
        refine ⟨by simp [g1], fun j hj o' ho' => ?_⟩
        cases j with
        | zero =>
          simp only [List.getElem?_cons_zero, Option.some.injEq] at ho'
          subst ho'
          refine ⟨compOp_ok _ h1, rfl, ?_⟩
          simp only [List.getElem_cons_zero]
          unfold compG at h2
          split at h2
          · simp only [Option.some.injEq] at h2
            subst h2
            rename_i e
            rw [e]; trivial
          · rename_i j w e
            split at h2
            · rename_i d hd
              simp only [Option.some.injEq] at h2
              subst h2
              rw [e]
              exact ⟨rfl, hd⟩
            · cases h2
        | succ j => exact g2 j (by simpa using hj) o' (by simpa using ho')
      · cases h
    · cases h
def uni (a b : List Nat) : List Nat := b.foldl (fun r x => if r.contains x then r else x :: r) a
def befOf : List Oper → List (List Nat) → List (List Nat)
  | [], acc => acc
  | o :: os, acc => befOf os (acc ++ [o.after.toList.foldl (fun s e => if Region.binds .any e then uni s (e.on :: acc.getD e.on []) else s) []])
def apartB (x y : AOper) : Bool :=
  (match x.dst with | some d => !y.names.contains d && y.dst != some d | none => true) && (match y.dst with | some d => !x.names.contains d | none => true)
def dstB (x y : AOper) : Bool := match x.dst with | some d => y.dst != some d | none => true
def regB (ops : List Oper) (aos : List AOper) (bef : List (List Nat)) : Bool :=
  (ops.zipIdx.all fun x => x.1.after.toList.all fun e => !Region.binds .any e || decide (e.on < x.2)) &&
  (ops.zipIdx.all fun x => (bef.getD x.2 []).all fun i => x.1.after.toList.any fun e => Region.binds .any e && (e.on == i || (bef.getD e.on []).contains i)) &&
  (aos.zipIdx.all fun y => aos.zipIdx.all fun x => !decide (x.2 < y.2) || ((bef.getD y.2 []).contains x.2 || apartB x.1 y.1)) &&
  (aos.zipIdx.all fun y => aos.zipIdx.all fun x => x.2 == y.2 || dstB x.1 y.1)
theorem mem_zip {α : Type} {l : List α} {i : Nat} (h : i < l.length) : (l[i], i) ∈ l.zipIdx := by
  rw [List.mem_zipIdx_iff_getElem?]; simp [h]
theorem regB_ok {ops : Array Oper} {aos : List AOper} {bef : List (List Nat)} (h : regB ops.toList aos bef = true) : RegOK ops aos bef := by
  simp only [regB, Bool.and_eq_true, List.all_eq_true] at h
  obtain ⟨⟨⟨h1, h2⟩, h3⟩, h4⟩ := h
  have hmem : ∀ j o, ops[j]? = some o → (o, j) ∈ ops.toList.zipIdx := by
    intro j o ho
    rw [List.mem_zipIdx_iff_getElem?]
    simpa using ho
  refine ⟨fun j o ho e he hb => ?_, fun j o ho i hi => ?_, fun i j hi hj hij => ?_, fun i j hi hj hij d hd => ?_⟩
  · have := h1 _ (hmem j o ho) e (Array.mem_toList_iff.2 he)
    simpa [hb] using this
  · have := h2 _ (hmem j o ho) i hi
    simp only [List.any_eq_true, Bool.and_eq_true, Bool.or_eq_true, beq_iff_eq, List.contains_eq_mem, decide_eq_true_eq] at this
    obtain ⟨e, he, hb, hc⟩ := this
    exact ⟨e, Array.mem_toList_iff.1 he, hb, hc⟩
  · have := h3 _ (mem_zip hj) _ (mem_zip hi)
    simp only [hij, decide_true, Bool.not_true, Bool.false_or, Bool.or_eq_true, List.contains_eq_mem, decide_eq_true_eq] at this
    rcases this with g | g
    · exact .inl g
    · refine .inr ⟨fun d hd => ?_, fun d hd => ?_⟩
      · simp only [apartB, hd, Bool.and_eq_true, Bool.not_eq_true', List.contains_eq_mem, decide_eq_false_iff_not] at g
        exact g.1.1
      · simp only [apartB, hd, Bool.and_eq_true, Bool.not_eq_true', List.contains_eq_mem, decide_eq_false_iff_not] at g
        exact g.2
  · have := h4 _ (mem_zip hj) _ (mem_zip hi)
    simp only [Bool.or_eq_true, beq_iff_eq] at this
    rcases this with g | g
    · exact absurd g hij
    · simp only [dstB, hd, bne_iff_ne, ne_eq] at g
      exact g
def comp (P : Program) : Code → Option ACode
  | .skip | .label _ => some .skip
  | .region _ ops draw => match compOps P ops ops.toList 0 with
    | some (aos, nc) => if draw = true then (let bef := befOf ops.toList []; if regB ops.toList aos bef = true then some (.reg nc aos (some bef)) else none) else some (.reg nc aos none)
    | none => none
  | .seq a b => match comp P a, comp P b with
    | some x, some y => some (.seq x y)
    | _, _ => none
  | .cond c a b => match comp P a, comp P b with
    | some x, some y => some (.cond c x y)
    | _, _ => none
  | .block id a => match comp P a with
    | some x => some (.block id x)
    | none => none
  | .loop a => match comp P a with
    | some x => some (.loop x)
    | none => none
  | .exit id => some (.exit id)
  | .ret => some .ret
  | _ => none
theorem comp_ok {P : Program} : ∀ {c : Code} {ac : ACode}, comp P c = some ac → MatchC P c ac := by
  intro c
  induction c with
  | skip => intro ac h; simp only [comp, Option.some.injEq] at h; subst h; exact .skip
  | label => intro ac h; simp only [comp, Option.some.injEq] at h; subst h; exact .label
  | region id ops draw =>
    intro ac h
    simp only [comp] at h
    split at h
    · rename_i aos nc h1
      obtain ⟨g1, g2⟩ := compOps_ok h1
      have g2' : ∀ j (h : j < aos.length) (o : Oper), ops[j]? = some o → MatchOp P ops o aos[j] := fun j h o ho => g2 j h o (by simpa using ho)
      have g1' : ops.size = aos.length := by simpa using g1
      cases draw with
      | true =>
        simp only [if_true] at h
        split at h
        · rename_i hr
          simp only [Option.some.injEq] at h
          subst h
          exact .regD g1' g2' (regB_ok hr)
        · cases h
      | false =>
        simp only [Bool.false_eq_true, if_false, Option.some.injEq] at h
        subst h
        exact .regT g1' g2'
    · cases h
  | seq a b ih1 ih2 =>
    intro ac h
    simp only [comp] at h
    split at h
    · simp only [Option.some.injEq] at h; subst h; exact .seq (ih1 ‹_›) (ih2 ‹_›)
    · cases h
  | cond c a b ih1 ih2 =>
    intro ac h
    simp only [comp] at h
    split at h
    · simp only [Option.some.injEq] at h; subst h; exact .cond (ih1 ‹_›) (ih2 ‹_›)
    · cases h
  | block id a ih =>
    intro ac h
    simp only [comp] at h
    split at h
    · simp only [Option.some.injEq] at h; subst h; exact .block (ih ‹_›)
    · cases h
  | loop a ih =>
    intro ac h
    simp only [comp] at h
    split at h
    · simp only [Option.some.injEq] at h; subst h; exact .loop (ih ‹_›)
    · cases h
  | exit => intro ac h; simp only [comp, Option.some.injEq] at h; subst h; exact .exit
  | ret => intro ac h; simp only [comp, Option.some.injEq] at h; subst h; exact .ret
  | _ => intro ac h; simp [comp] at h
def compR (P : Program) : List ResultVar → Option (List ARes)
  | [] => some []
  | .tmp t :: rs => match compR P rs with
    | some l => some (.tmp t :: l)
    | none => none
  | .cell a t :: rs => match compR P rs, P.underlying t, P.info? t with
    | some l, some d, some i => some (.cell a i.size (isAggD d) :: l)
    | _, _, _ => none
theorem compR_ok {P : Program} : ∀ {rs : List ResultVar} {l : List ARes}, compR P rs = some l → MatchRL P rs l
  | [], l, h => by simp only [compR, Option.some.injEq] at h; subst h; exact .nil
  | .tmp t :: rs, l, h => by
    simp only [compR] at h
    split at h
    · simp only [Option.some.injEq] at h; subst h; exact .cons .tmp (compR_ok ‹_›)
    · cases h
  | .cell a t :: rs, l, h => by
    simp only [compR] at h
    split at h
    · simp only [Option.some.injEq] at h; subst h; exact .cons (.cell ‹_› ‹_›) (compR_ok ‹_›)
    · cases h
/-- a function's code in the abstract: its body, how many temporaries, its results. -/
def compF (P : Program) (fn : Func) : Option (ACode × Nat × List ARes) :=
  match fn.body with
  | some c => match comp P c, compR P fn.results.toList with
    | some ac, some rs => some (ac, fn.ntmps, rs)
    | _, _ => none
  | none => none
theorem callsV_comp {P : Program} {f : FuncId} {fn : Func} {ac : ACode} {n : Nat} {rs : List ARes} {args : List V} {v : V} (hmix : P.follows .mixedOrders = true) (hf : P.funcs[f]? = some fn) (hc : compF P fn = some (ac, n, rs))
    (h : AW P 0 ac (Fin rs v) (args ++ List.replicate (n - args.length) (.tup [])) []) : CallsV P f args v := by
  unfold compF at hc
  split at hc
  · rename_i c hb
    split at hc
    · simp only [Option.some.injEq, Prod.mk.injEq] at hc
      obtain ⟨rfl, rfl, rfl⟩ := hc
      exact callsV_of hmix hf hb (comp_ok ‹_›) rfl (compR_ok ‹_›) h
    · cases hc
  · cases hc
theorem callsS_comp {P : Program} {f : FuncId} {fn : Func} {ac : ACode} {n n0 : Nat} {rs : List ARes} {args : List V} {v : V} {st st' : List Slot} (hmix : P.follows .mixedOrders = true) (hf : P.funcs[f]? = some fn) (hc : compF P fn = some (ac, n, rs)) (hn0 : st.length = n0)
    (h : AW P n0 ac (FinS n0 rs v st') (args ++ List.replicate (n - args.length) (.tup [])) st) : CallsS P f args st v st' := by
  unfold compF at hc
  split at hc
  · rename_i c hb
    split at hc
    · simp only [Option.some.injEq, Prod.mk.injEq] at hc
      obtain ⟨rfl, rfl, rfl⟩ := hc
      exact callsS_of hmix hf hb (comp_ok ‹_›) rfl (compR_ok ‹_›) hn0 h
    · cases hc
  · cases hc
theorem callable_comp {P : Program} {f : FuncId} {fn : Func} {x : ACode × Nat × List ARes} (hf : P.funcs[f]? = some fn) (hc : compF P fn = some x) (hn : (fn.name == "runtime.NumGoroutine") = false) : Callable P f := by
  unfold compF at hc
  split at hc
  · rename_i c hb
    exact ⟨fn, hf, by rw [hb]; rfl, hn⟩
  · cases hc
end Go.Proofs.Ytljeinlapkgjeaa
