/- A part of the proof: 5 texts joined. -/
import Derived.Test.YtpkodpcfafipdaaGreatDoorSuA1
import Derived.Laws.OwnMore
import Derived.Laws.IdiomCopy
import Derived.Laws.IdiomStrings
import Derived.Deep.AppendSrc
import Derived.RangeFuncOwn
import Derived.Laws.StructEq
import Derived.Laws.Pointers
import Derived.Great.BuildSlice
set_option linter.all false
namespace Go.Proofs.YtpkodpcfafipdaaGreatDoor
open Go.RowKit
inductive V where
 | lit (v:Value)
 | agg (cs:List V)
 | tup (vs:List V)
 | sl (xs:List V) (full:Bool)
 | osl (id off n es:Nat) (full:Bool)
 | ptr (id off:Nat)
 | eptr (cs:List V)
 | clo (fn:Fn) (caps:List V)
 | any
 deriving Inhabited
abbrev V.i (n:Int):V:=.lit (.int .i64 n)
abbrev V.b (n:Bool):V:=.lit (.bool n)
abbrev V.s (n:ByteArray):V:=.lit (.string n)
def V.cells:V→List V
 | .agg cs=>cs
 | v=>[v]
def V.one:V→Bool
 | .lit v=>v.oneCell'
 | .agg _ | .tup _ | .any=>false
 | _=>true
abbrev Mem:=Addr→Option Value
abbrev Bks:=Nat→Option (Nat × Nat)
def noBk:Bks:=fun _=>none
def yldF:Fn→Bool
 | .yield _=>true
 | _=>false
inductive Rep (m:Mem):Bks→Value→V→Prop
 | lit {bk v} (h:v.oneCell'=true):Rep m bk v (.lit v)
 | agg {bk} {cs:Array Value} {vs:List V} (hl:cs.size=vs.length) (h1:∀ v ∈ vs,v.one=true) (h:∀ j (h1:j < cs.size) (h2:j < vs.length),Rep m bk cs[j] vs[j]):Rep m bk (.agg cs) (.agg vs)
 | tup {bk} {cs:Array Value} {vs:List V} (hl:cs.size=vs.length) (h:∀ j (h1:j < cs.size) (h2:j < vs.length),Rep m bk cs[j] vs[j]):Rep m bk (.tuple cs) (.tup vs)
 | sl {bk b o n cap es full} {xs:List V} {us:Nat→Value} (hn:n=xs.length) (hc:n≤cap) (hf:full=true→cap=n) (hes:∀ x ∈ xs,x.cells.length=es)
   (h1:∀ u ∈ xs.flatMap V.cells,u.one=true) (hm:∀ k,k < (xs.flatMap V.cells).length→m ⟨b,o + k,none⟩=some (us k))
   (h:∀ k (hk:k < (xs.flatMap V.cells).length),Rep m noBk (us k) (xs.flatMap V.cells)[k]):Rep m bk (.slice (some ⟨b,o,none⟩) n cap) (.sl xs full)
 | slnil {bk A cap full} (hf:full=true→cap=0):Rep m bk (.slice A 0 cap) (.sl [] full)
 | osl {bk:Bks} {id b sz off n cap es full} (hb:bk id=some (b,sz)) (hc:n≤cap) (hf:full=true→cap=n) (hs:off + cap * es≤sz):Rep m bk (.slice (some ⟨b,off,none⟩) n cap) (.osl id off n es full)
 | oslnil {bk A id es full}:Rep m bk (.slice A 0 0) (.osl id 0 0 es full)
 | ptr {bk:Bks} {id b sz off} (hb:bk id=some (b,sz)):Rep m bk (.pointer (some ⟨b,off,none⟩)) (.ptr id off)
 | eptr {bk b o} {us:Nat→Value} {cs:List V} (h1:∀ u ∈ cs,u.one=true) (hm:∀ k,k < cs.length→m ⟨b,o + k,none⟩=some (us k)) (h:∀ k (hk:k < cs.length),Rep m noBk (us k) cs[k]) :
   Rep m bk (.pointer (some ⟨b,o,none⟩)) (.eptr cs)
 | clo {bk fn} {cs:Array Value} {vs:List V} (hv:yldF fn=false) (hl:cs.size=vs.length) (h:∀ j (h1:j < cs.size) (h2:j < vs.length),Rep m bk cs[j] vs[j]):Rep m bk (.func fn #[] cs) (.clo fn vs)
 | bnd {bk g} {cs:Array Value} {vs:List V} (hl:cs.size=vs.length) (h:∀ j (h1:j < cs.size) (h2:j < vs.length),Rep m bk cs[j] vs[j]):Rep m bk (.func (.func g) cs #[]) (.clo (.yield g) vs)
 | any {bk v}:Rep m bk v .any
theorem Rep.mono {m m' : Mem} (hm:∀ a u,m a=some u→m' a=some u) {bk:Bks} {c:Value} {v:V} (h:Rep m bk c v):∀ {bk' : Bks},(∀ id x,bk id=some x→bk' id=some x)→Rep m' bk' c v:=by
 induction h with
 | lit h=>intro _ _;exact .lit h
 | agg hl h1 _ ih=>intro bk' hb;exact .agg hl h1 fun j a b=>ih j a b hb
 | tup hl _ ih=>intro bk' hb;exact .tup hl fun j a b=>ih j a b hb
 | sl hn hc hf hes h1 hm' _ ih=>intro bk' hb;exact .sl hn hc hf hes h1 (fun k hk=>hm _ _ (hm' k hk)) fun k hk=>ih k hk fun _ _ h=>h
 | slnil hf=>intro _ _;exact .slnil hf
 | osl hb hc hf hs=>intro bk' hbk;exact .osl (hbk _ _ hb) hc hf hs
 | oslnil=>intro _ _;exact .oslnil
 | ptr hb=>intro bk' hbk;exact .ptr (hbk _ _ hb)
 | eptr h1 hm' _ ih=>intro bk' hb;exact .eptr h1 (fun k hk=>hm _ _ (hm' k hk)) fun k hk=>ih k hk fun _ _ h=>h
 | clo hv hl _ ih=>intro bk' hb;exact .clo hv hl fun j a b=>ih j a b hb
 | bnd hl _ ih=>intro bk' hb;exact .bnd hl fun j a b=>ih j a b hb
 | any=>intro _ _;exact .any
def V.idlt (n:Nat):V→Bool
 | .lit _ | .sl _ _ | .eptr _ | .any=>true
 | .agg cs | .tup cs | .clo _ cs=>belowL n cs
 | .osl id _ _ _ _ | .ptr id _=>decide (id < n)
where belowL (n:Nat):List V→Bool
 | []=>true
 | v :: vs=>v.idlt n && belowL n vs
theorem belowL_get {n:Nat}:∀ {l:List V},V.idlt.belowL n l=true→∀ j (h:j < l.length),l[j].idlt n=true
 | v :: vs,h,0,_=>by simp [V.idlt.belowL] at h;simpa using h.1
 | v :: vs,h,j + 1,hj=>by simp [V.idlt.belowL] at h;simpa using belowL_get h.2 j (by simpa using hj)
def cutBk (n:Nat) (bk:Bks):Bks:=fun id=>if id < n then bk id else none
theorem Rep.cut {m:Mem} {n:Nat} {bk:Bks} {c:Value} {v:V} (h:Rep m bk c v):v.idlt n=true→Rep m (cutBk n bk) c v:=by
 induction h with
 | lit h=>intro _;exact .lit h
 | agg hl h1 _ ih=>intro hb;exact .agg hl h1 fun j a b=>ih j a b (belowL_get (by simpa [V.idlt] using hb) j b)
 | tup hl _ ih=>intro hb;exact .tup hl fun j a b=>ih j a b (belowL_get (by simpa [V.idlt] using hb) j b)
 | sl hn hc hf hes h1 hm' h _=>intro _;exact .sl hn hc hf hes h1 hm' h
 | slnil hf=>intro _;exact .slnil hf
 | osl hb hc hf hs=>intro hbl;exact .osl (by simp only [V.idlt,decide_eq_true_eq] at hbl;simp [cutBk,hbl,hb]) hc hf hs
 | oslnil=>intro _;exact .oslnil
 | ptr hb=>intro hbl;exact .ptr (by simp only [V.idlt,decide_eq_true_eq] at hbl;unfold cutBk;rw [if_pos hbl];exact hb)
 | eptr h1 hm' h _=>intro _;exact .eptr h1 hm' h
 | clo hv hl _ ih=>intro hb;exact .clo hv hl fun j a b=>ih j a b (belowL_get (by simpa [V.idlt] using hb) j b)
 | bnd hl _ ih=>intro hb;exact .bnd hl fun j a b=>ih j a b (belowL_get (by simpa [V.idlt] using hb) j b)
 | any=>intro _;exact .any
theorem Rep.zero {m:Mem} {bk bk' : Bks} {c:Value} {v:V} (h:Rep m bk c v) (hv:v.idlt 0=true):Rep m bk' c v :=
 (h.cut hv).mono (fun _ _ h=>h) fun id x hx=>by unfold cutBk at hx;rw [if_neg (Nat.not_lt_zero _)] at hx;cases hx
theorem Rep.one {m:Mem} {bk:Bks} {c:Value} {v:V} (h:Rep m bk c v) (hv:v.one=true):c.oneCell'=true:=by
 cases h <;> first | assumption | rfl | (simp [V.one] at hv;done)
theorem Rep.cells {m:Mem} {bk:Bks} {c:Value} {v:V} (h:Rep m bk c v) (hv:v.one=true∨∃ cs,v=.agg cs) :
  c.cells.size=v.cells.length∧(∀ u ∈ v.cells,u.one=true)∧∀ j (h1:j < c.cells.size) (h2:j < v.cells.length),Rep m bk c.cells[j] v.cells[j]:=by
 cases h with
 | agg hl h1 h=>exact ⟨hl,h1,h⟩
 | tup hl h=>rcases hv with hv | ⟨cs,hv⟩ <;> simp [V.one] at hv
 | any=>rcases hv with hv | ⟨cs,hv⟩ <;> simp [V.one] at hv
 | lit h =>
  have e:c.cells=#[c]:=by cases c <;> first | rfl | (simp [Value.oneCell'] at h)
  refine ⟨by rw [e];rfl,by simpa [V.cells,V.one] using h,fun j h1 h2=>?_⟩
  have:j=0:=by simpa [V.cells] using h2
  subst this
  simp only [e]
  exact .lit h
 | _ =>
  refine ⟨rfl,by simp [V.cells,V.one],fun j h1 h2=>?_⟩
  have:j=0:=by simp [Value.cells] at h1;exact h1
  subst this
  first
   | exact .sl ‹_› ‹_› ‹_› ‹_› ‹_› ‹_› ‹_›
   | exact .slnil ‹_›
   | exact .osl ‹_› ‹_› ‹_› ‹_›
   | exact .oslnil
   | exact .ptr ‹_›
   | exact .eptr ‹_› ‹_› ‹_›
   | exact .clo ‹_› ‹_› ‹_›
   | exact .bnd ‹_› ‹_›
def ofC:Value→V
 | .slice _ 0 0=>.sl [] true
 | c=>.lit c
def V.ofValue:Value→V
 | .agg cs=>if cs.toList.all (·.oneCell') then .agg (cs.toList.map ofC) else .any
 | .slice _ 0 0=>.sl [] true
 | .tuple _=>.any
 | v=>.lit v
theorem ofCell {m:Mem} {bk:Bks} (c:Value) (h:c.oneCell'=true):Rep m bk c (ofC c):=by
 unfold ofC
 split
 ·exact .slnil fun _=>rfl
 ·exact .lit h
theorem Rep.ofValue {m:Mem} {bk:Bks} (v:Value):Rep m bk v (V.ofValue v):=by
 unfold V.ofValue
 split
 ·rename_i cs
  split
  ·rename_i h
   simp only [List.all_eq_true] at h
   refine .agg (by simp) ?_ fun j h1 h2=>?_
   ·intro v hv
    simp only [List.mem_map] at hv
    obtain ⟨c,hc,rfl⟩:=hv
    have:=h c hc
    unfold ofC
    split
    ·rfl
    ·exact this
   ·simp only [List.getElem_map,Array.getElem_toList]
    exact ofCell _ (h _ (Array.getElem_mem_toList h1))
  ·exact .any
 ·exact .slnil fun _=>rfl
 ·exact .any
 ·rename_i h1 h2 h3
  refine .lit ?_
  cases v <;> first | rfl | exact absurd rfl (h1 _) | exact absurd rfl (h3 _)
inductive Slot where
 | fresh | dead
 | live (cs:List V) (frz:Nat)
 deriving Inhabited
def GT (w:World):Prop:=∃ t lh,w.heap[1]?=some (.cells ((List.range 20).map fun i=>Value.int .u64 ((10 ^ i:Nat):Int)).toArray t lh)
def TB (n:Nat):Prop:=1 < n
theorem GT.tb {w:World} (h:GT w):TB w.heap.size:=by
 obtain ⟨t,lh,h⟩:=h
 rcases Nat.lt_or_ge 1 w.heap.size with g | g
 ·exact g
 ·rw [Array.getElem?_eq_none g] at h;cases h
theorem GT.keep {w w' : World} {n:Nat} (h:GT w) (hn:TB n) (hk:∀ k,k < n→w'.heap[k]?=w.heap[k]?):GT w':=by
 obtain ⟨t,lh,h⟩:=h
 exact ⟨t,lh,(hk _ hn).trans h⟩
theorem GT.put {w:World} {D:Nat} {x:Option (List Deferred)} (h:GT w) (hD:w.heap[D]?=some (.deferred x)) (o:Obj):GT (w.putObj D o):=by
 obtain ⟨t,lh,h⟩:=h
 refine ⟨t,lh,?_⟩
 rw [World.putObj_heap_other fun e=>?_]
 ·exact h
 ·subst e;rw [h] at hD;cases hD
theorem TB.le {n k:Nat} (h:TB n) (hk:n≤k):TB k:=Nat.lt_of_lt_of_le h hk
theorem GT.mono {w w' : World} (h:GT w) (hk:∀ k,k < w.heap.size→w'.heap[k]?=w.heap[k]?):GT w':=h.keep h.tb hk
structure MemW (m:Mem) (w:World):Prop where
 all:∀ a u,m a=some u→w.cell? a=some u
 tab:GT w
instance {m:Mem} {w:World}:CoeFun (MemW m w) (fun _=>∀ a u,m a=some u→w.cell? a=some u):=⟨MemW.all⟩
instance {m:Mem} {w:World}:Coe (MemW m w) (∀ a u,m a=some u→w.cell? a=some u):=⟨MemW.all⟩
structure Kp where
 n:Nat
 ex:Nat→Prop
 tb:TB n
def Kp.ok (B:Kp) (b:Nat):Prop:=B.n≤b∧¬ B.ex b
def Kp.fits (B:Kp) (n:Nat):Prop:=B.n≤n∧∀ k,B.ex k→k < n
def kp (n:Nat) (h:TB n):Kp:=⟨n,fun _=>False,h⟩
theorem kp_fits {n k:Nat} {t:TB n} (h:n≤k):(kp n t).fits k:=⟨h,fun _ h=>h.elim⟩
theorem Kp.fits.le {B:Kp} {n k:Nat} (h:B.fits n) (hk:n≤k):B.fits k:=⟨Nat.le_trans h.1 hk,fun i hi=>Nat.lt_of_lt_of_le (h.2 i hi) hk⟩
theorem Kp.fits.ok {B:Kp} {n k:Nat} (h:B.fits n) (hk:n≤k):B.ok k:=⟨Nat.le_trans h.1 hk,fun hi=>absurd (h.2 k hi) (Nat.not_lt.2 hk)⟩
structure LiveAt (B:Kp) (m:Mem) (bk:Bks) (w:World) (id:Nat) (cs:List V) (frz:Nat) (b sz:Nat) (arr:Array Value) (t:TypeId) (lo hi:Nat):Prop where
 at_:bk id=some (b,sz)
 own:B.ok b
 heap:w.heap[b]?=some (.cells arr t (lo,hi))
 size:arr.size=sz
 free:hi≤lo
 fit:cs.length≤sz
 one:∀ u ∈ cs,u.one=true
 rep:∀ k (hk:k < cs.length),∃ u,arr[k]?=some u∧Rep m bk u cs[k]
 mu:∀ k,frz≤k→m ⟨b,k,none⟩=none
 fz:∀ k,k < frz→m ⟨b,k,none⟩=arr[k]?
structure Sim (B:Kp) (m0 m:Mem) (bk:Bks) (w:World) (st:List Slot):Prop where
 base:B.fits w.heap.size
 mem:MemW m w
 ext:∀ a u,m0 a=some u→m a=some u
 old:∀ a u,m a=some u→m0 a=some u∨B.ok a.block
 blk:∀ id cs frz,st[id]?=some (.live cs frz)→cs=[]∧frz=0∧bk id=none∨∃ b sz arr t lo hi,LiveAt B m bk w id cs frz b sz arr t lo hi
 inj:∀ i j ci fi cj fj x y,st[i]?=some (.live ci fi)→st[j]?=some (.live cj fj)→bk i=some x→bk j=some y→x.1=y.1→i=j
 nb:∀ id,(st[id]?=none∨st[id]?=some .fresh)→bk id=none
theorem cell_lt {w:World} {a:Addr} {u:Value} (h:w.cell? a=some u):a.block < w.heap.size:=World.block_lt_of_cell? w a h
theorem Sim.world {B:Kp} {m0 m:Mem} {bk:Bks} {w w' : World} {st:List Slot} (h:Sim B m0 m bk w st) (hs:w.heap.size≤w'.heap.size)
  (hk:∀ k,k < w.heap.size→w'.heap[k]?=w.heap[k]?):Sim B m0 m bk w' st where
 base:=h.base.le hs
 mem:=⟨fun a u hu=>by
  have:=h.mem a u hu
  rw [← this]
  exact World.cell?_of_block (w:=w) (hk _ (cell_lt this)),h.mem.tab.mono hk⟩
 ext:=h.ext
 old:=h.old
 blk id cs frz hid:=by
  rcases h.blk id cs frz hid with hn | ⟨b,sz,arr,t,lo,hi,hl⟩
  ·exact .inl hn
  refine .inr ⟨b,sz,arr,t,lo,hi,⟨hl.at_,hl.own,?_,hl.size,hl.free,hl.fit,hl.one,hl.rep,hl.mu,hl.fz⟩⟩
  rw [hk _ (by rcases Nat.lt_or_ge b w.heap.size with h | h;exact h;have:=hl.heap;rw [Array.getElem?_eq_none h] at this;cases this)]
  exact hl.heap
 inj:=h.inj
 nb:=h.nb
theorem Sim.put {B:Kp} {m0 m:Mem} {bk:Bks} {w:World} {st:List Slot} {D:Nat} {x:Option (List Deferred)} (h:Sim B m0 m bk w st) (hD:w.heap[D]?=some (.deferred x)) (o:Obj):Sim B m0 m bk (w.putObj D o) st where
 base:=by have:=h.base;simpa using this
 mem:=⟨fun a u hu=>by
  have:=h.mem a u hu
  rw [← this]
  refine World.cell?_of_block (w:=w) (World.putObj_heap_other fun e=>?_)
  rw [World.cell?,e,hD] at this
  simp at this,h.mem.tab.put hD o⟩
 ext:=h.ext
 old:=h.old
 blk id cs frz hid:=by
  rcases h.blk id cs frz hid with hn | ⟨b,sz,arr,t,lo,hi,hl⟩
  ·exact .inl hn
  refine .inr ⟨b,sz,arr,t,lo,hi,⟨hl.at_,hl.own,?_,hl.size,hl.free,hl.fit,hl.one,hl.rep,hl.mu,hl.fz⟩⟩
  rw [World.putObj_heap_other fun e=>?_]
  ·exact hl.heap
  ·have:=hl.heap
   rw [e,hD] at this;cases this
 inj:=h.inj
 nb:=h.nb
structure Bel (B:Kp) (w w' : World):Prop extends Below B.n w w' where
 kep:∀ k,B.ex k→k < w.heap.size→w'.heap[k]?=w.heap[k]?
 shp:∀ (k:Nat) (c:Array Value) (t:TypeId) (lo hi:Nat),w.heap[k]?=some (.cells c t (lo,hi))→∃ c',w'.heap[k]?=some (.cells c' t (lo,hi))∧c'.size=c.size
 oth:∀ (k:Nat) (o:Obj),w.heap[k]?=some o→o.isCells=false→w'.heap[k]?=some o
theorem Bel.refl (B:Kp) (w:World):Bel B w w:=⟨Below.refl B.n w,fun _ _ _=>rfl,fun k c t lo hi h=>⟨c,h,rfl⟩,fun _ _ h _=>h⟩
theorem Bel.trans {B:Kp} {a b c:World} (h:Bel B a b) (k:Bel B b c):Bel B a c:=⟨h.toBelow.trans k.toBelow,fun i hi hl=>(k.kep i hi (Nat.lt_of_lt_of_le hl h.size)).trans (h.kep i hi hl),fun i x t lo hi hx=>by
 obtain ⟨y,h1,h2⟩:=h.shp i x t lo hi hx
 obtain ⟨z,h3,h4⟩:=k.shp i y t lo hi h1
 exact ⟨z,h3,h4.trans h2⟩,fun i o h1 h2=>k.oth i o (h.oth i o h1 h2) h2⟩
theorem Bel.drew {B:Kp} {a w:World} (h:Bel B a w):Bel B a w.drew:=⟨h.toBelow.drew,h.kep,h.shp,h.oth⟩
theorem Bel.of {B:Kp} {w w' : World} (h:Below w.heap.size w w') (hB:B.fits w.heap.size):Bel B w w':=by
 refine ⟨h.mono hB.1,fun k _ hk=>h.block k hk,fun k c t lo hi hk=>?_,fun k o hk _=>?_⟩
 ·rcases Nat.lt_or_ge k w.heap.size with g | g
  ·exact ⟨c,(h.block k g).trans hk,rfl⟩
  ·rw [Array.getElem?_eq_none g] at hk;cases hk
 ·rcases Nat.lt_or_ge k w.heap.size with g | g
  ·exact (h.block k g).trans hk
  ·rw [Array.getElem?_eq_none g] at hk;cases hk
theorem Bel.alloc {B:Kp} {a w:World} (h:Bel B a w) (hB:B.fits w.heap.size) (o:Obj):Bel B a (w.alloc o):=h.trans (.of ((Below.refl _ w).alloc (Nat.le_refl _) o) hB)
theorem Bel.write {B:Kp} {w w' : World} {b:Nat} {arr arr' : Array Value} {t:TypeId} {lo hi:Nat} (h1:w'.os=w.os) (h2:w'.tape=w.tape) (h3:w'.output=w.output) (g0:w.heap[b]?=some (.cells arr t (lo,hi))) (g1:w'.heap[b]?=some (.cells arr' t (lo,hi))) (g2:arr'.size=arr.size) (g4:w'.heap.size=w.heap.size)
  (g5:∀ k,k≠b→w'.heap[k]?=w.heap[k]?) (hb:B.ok b):Bel B w w':=by
 have hbn:=hb.1
 refine ⟨⟨h1,h2,h3,by rw [g4];exact Nat.le_refl _,fun k hk=>g5 k (by omega)⟩,fun k hk _=>g5 k (fun e=>hb.2 (e ▸ hk)),fun k c t' lo' hi' hk=>?_,fun k o hk ho=>?_⟩
 ·by_cases e:k=b
  ·subst e
   rw [g0] at hk
   injection hk with hk
   injection hk with e1 e2 e3
   subst e1 e2
   injection e3 with e3 e4
   subst e3 e4
   exact ⟨arr',g1,g2⟩
  ·exact ⟨c,(g5 k e).trans hk,rfl⟩
 ·refine (g5 k fun e=>?_).trans hk
  subst e
  rw [g0] at hk
  injection hk with hk
  subst hk
  simp [Obj.isCells] at ho
end Go.Proofs.YtpkodpcfafipdaaGreatDoor

namespace Go.Proofs.YtpkodpcfafipdaaGreatDoor
open Go.RowKit
inductive AOp where
 | mv (x:Operand)
 | pick (c a b:Operand)
 | ld (sz:Nat) (ag:Bool) (x:Operand)
 | st (sz:Nat) (a x:Operand)
 | al (z:V)
 | bx (x:Operand)
 | nc (x:Operand)
 | bin (op:BinOp) (x y:Operand)
 | binb (neg:Bool) (x y:Operand)
 | eqp (neg:Bool) (x y:Operand)
 | eqa (neg:Bool) (ks:List Nat) (x y:Operand)
 | un (op:UnOp) (x:Operand)
 | cvi (k:IntKind) (x:Operand)
 | cvs (x:Operand)
 | s2b (x:Operand)
 | b2s (x:Operand)
 | fa (off:Nat) (x:Operand)
 | fd (off sz:Nat) (ag:Bool) (x:Operand)
 | ixs (es:Nat) (x i:Operand)
 | ixa (len es:Nat) (x i:Operand)
 | ixg (len es:Nat) (ag:Bool) (x i:Operand)
 | ixt (x i:Operand)
 | slt (x:Operand) (lo hi:Option Operand)
 | sls (es:Nat) (x:Operand) (lo hi mx:Option Operand)
 | ex (x:Operand) (i:Nat)
 | bd (z:List V) (parts:List (Nat × Nat × Operand))
 | bs (es len:Nat) (z:List V) (parts:List (Nat × Operand))
 | mf (fn:Fn) (caps:List Operand)
 | cl (f:FuncId) (args:List Operand)
 | cv (f:Operand) (args:List Operand)
 | lent (x:Operand)
 | lens (x:Operand)
 | ap (es bytes:Nat) (s x:Operand)
 | mn (mx:Bool) (x y:Operand)
 | mks (es bytes:Nat) (z:List V) (n c:Operand)
 | clr (es:Nat) (x:Operand)
 deriving Inhabited
def evO (fr:List V):Operand→V
 | .tmp t=>fr.getD t .any
 | .const v=>V.ofValue v
 | .global g=>.lit (.pointer (some ⟨g,0,none⟩))
 | .func f=>.clo (.func f) []
def GM (m:Mem):Prop:=∃ n,m ⟨0,0,none⟩=some (.int .i64 n)
def RepA (m:Mem) (bk:Bks) (cs:Array Value) (vs:List V):Prop:=cs.size=vs.length∧∀ j (h1:j < cs.size) (h2:j < vs.length),Rep m bk cs[j] vs[j]
def CallsV (P:Program) (f:FuncId) (args:List V) (res:V):Prop :=
 ∀ (m:Mem) (w:World) (cargs:Array Value),GM m→MemW m w→RepA m noBk cargs args →
  Calls P f cargs w fun e w'=>∃ c m',e=.returned c∧Below w.heap.size w w'∧(∀ a u,m' a=some u→w'.cell? a=some u)∧(∀ a u,m a=some u→m' a=some u) ∧
   (∀ a u,m' a=some u→m a=some u∨w.heap.size≤a.block)∧Rep m' noBk c res
def V.stb:V→Bool
 | .agg _=>true
 | v=>v.one
theorem V.stb_or {v:V} (h:v.stb=true):v.one=true∨∃ cs,v=.agg cs:=by
 cases v <;> first | exact .inr ⟨_,rfl⟩ | exact .inl h
def partV (ag:Bool) (sz:Nat) (l:List V):V:=if ag then .agg (l.take sz) else l.getD 0 .any
def intB (op:BinOp) (k:IntKind) (a b:Int):Option Value :=
 match op with
 | .add=>some (.int k (k.wrap (a + b)))
 | .sub=>some (.int k (k.wrap (a - b)))
 | .mul=>some (.int k (k.wrap (a * b)))
 | .quo=>if b=0 then none else some (.int k (k.wrap (a.tdiv b)))
 | .rem=>if b=0 then none else some (.int k (a.tmod b))
 | .and=>some (.int k (k.wrap (BitVec.ofInt k.bits a &&& BitVec.ofInt k.bits b).toNat))
 | .or=>some (.int k (k.wrap (BitVec.ofInt k.bits a ||| BitVec.ofInt k.bits b).toNat))
 | .xor=>some (.int k (k.wrap (BitVec.ofInt k.bits a ^^^ BitVec.ofInt k.bits b).toNat))
 | .andNot=>some (.int k (k.wrap (BitVec.ofInt k.bits a &&& ~~~ BitVec.ofInt k.bits b).toNat))
 | .eql=>some (.bool (a == b))
 | .neq=>some (.bool (a != b))
 | .lss=>some (.bool (a < b))
 | .leq=>some (.bool (a≤b))
 | .gtr=>some (.bool (a > b))
 | .geq=>some (.bool (a ≥ b))
 | _=>none
def intSh (op:BinOp) (k:IntKind) (a b:Int):Option Value :=
 if b < 0 then none else
 match op with
 | .shl=>some (.int k (k.wrap (a * 2 ^ (min b.toNat k.bits))))
 | .shr=>some (.int k (a.fdiv (2 ^ (min b.toNat k.bits))))
 | _=>none
def strB (op:BinOp) (x y:ByteArray):Option Value :=
 match op with
 | .add=>if x.size + y.size≤4611686018427387904 then some (.string (x++y)) else none
 | .eql=>some (.bool (x.toList == y.toList))
 | .neq=>some (.bool !(x.toList == y.toList))
 | .lss=>some (.bool (Op.bytesLess x.toList y.toList))
 | .leq=>some (.bool (Op.bytesLess x.toList y.toList || x.toList == y.toList))
 | .gtr=>some (.bool !(Op.bytesLess x.toList y.toList || x.toList == y.toList))
 | .geq=>some (.bool !(Op.bytesLess x.toList y.toList))
 | _=>none
def unV:UnOp→Value→Option Value
 | .neg,.int k n=>some (.int k (k.wrap (0 - n)))
 | .not,.bool b=>some (.bool !b)
 | _,_=>none
def fillV:List V→List (Nat × Nat × V)→Option (List V)
 | z,[]=>some z
 | z,(off,sz,v) :: r=>if v.cells.length=sz∧off + sz≤z.length∧v.stb=true then fillV (z.take off++v.cells++z.drop (off + sz)) r else none
def cellEq:Nat→Value→Value→Option Bool
 | 0,.bool a,.bool b=>some (a == b)
 | 1,.int k a,.int k' b=>if k=k' then some (a == b) else none
 | 2,.string a,.string b=>some (a.toList == b.toList)
 | _,_,_=>none
def eqL:List Nat→List V→List V→Option Bool
 | [],[],[]=>some true
 | k :: ks,.lit a :: l,.lit b :: m=>(cellEq k a b).bind fun r=>(eqL ks l m).map (r && ·)
 | _,_,_=>none
def V.full:V→Bool
 | .sl _ f=>f
 | .osl _ _ _ _ f=>f
 | _=>false
inductive SrcV (st:List Slot) (es:Nat):V→Nat→List V→List Nat→Prop
 | sl {ys f} (h:∀ y ∈ ys,y.cells.length=es):SrcV st es (.sl ys f) ys.length (ys.flatMap V.cells) []
 | osl {i off n f cs frz} (hi:st[i]?=some (.live cs frz)) (hl:off + n * es≤cs.length):SrcV st es (.osl i off n es f) n ((cs.drop off).take (n * es)) [i]
inductive SrcX (st:List Slot) (es:Nat):V→Nat→List V→List Nat→Prop
 | v {v n ds rd} (h:SrcV st es v n ds rd):SrcX st es v n ds rd
 | str {s:ByteArray} (he:es=1):SrcX st es (.lit (.string s)) s.size (s.data.toList.map fun b=>.lit (.int .u8 b.toNat)) []
inductive SlW:V→V→Prop
 | id {v} (h:v.idlt 0=true):SlW v v
 | slw {xs f}:SlW (.sl xs f) (.sl xs false)
inductive SlWL:List V→List V→Prop
 | nil:SlWL [] []
 | cons {v v' l l'} (h:SlW v v') (t:SlWL l l'):SlWL (v :: l) (v' :: l')
inductive FzP (st:List Slot):V→V→List Nat→Prop
 | id {v} (h:v.idlt 0=true):FzP st v v []
 | ptr {i cs us frz} (hi:st[i]?=some (.live cs frz)) (hf:cs.length≤frz) (h:SlWL cs us):FzP st (.ptr i 0) (.eptr us) [i]
inductive FzPL (st:List Slot):List V→List V→List Nat→Prop
 | nil:FzPL st [] [] []
 | cons {v v' r l l' r'} (h:FzP st v v' r) (t:FzPL st l l' r'):FzPL st (v :: l) (v' :: l') (r++r')
inductive FzC (st:List Slot):V→V→List Nat→Prop
 | p {v v' r} (h:FzP st v v' r):FzC st v v' r
 | clo {fn caps caps' r} (h:FzPL st caps caps' r):FzC st (.clo fn caps) (.clo fn caps') r
 | id {v} (h:v.idlt 0=true):FzC st v v []
 | slw {xs f}:FzC st (.sl xs f) (.sl xs false) []
 | osl {i off n es f f' cs frz xs} (hf' : f'=true→f=true) (hi:st[i]?=some (.live cs frz)) (hf:off + n * es≤frz) (hl:off + n * es≤cs.length) (hlen:xs.length=n) (hes:∀ x ∈ xs,x.cells.length=es) (hc:(cs.drop off).take (n * es)=xs.flatMap V.cells)
   (h0:V.idlt.belowL 0 (xs.flatMap V.cells)=true):FzC st (.osl i off n es f) (.sl xs f') [i]
inductive FzL (st:List Slot):List V→List V→List Nat→Prop
 | nil:FzL st [] [] []
 | cons {v v' r l l' r'} (h:FzC st v v' r) (t:FzL st l l' r'):FzL st (v :: l) (v' :: l') (r++r')
inductive FzV (st:List Slot):V→V→List Nat→Prop
 | c {v v' r} (h:FzC st v v' r):FzV st v v' r
 | agg {l l' r} (h:FzL st l l' r) (h1:∀ v ∈ l',v.one=true):FzV st (.agg l) (.agg l') r
 | osl {i off n es f cs frz xs r} (hi:st[i]?=some (.live cs frz)) (hf:off + n * es≤frz) (hl:off + n * es≤cs.length) (hlen:xs.length=n) (hes:∀ x ∈ xs,x.cells.length=es) (h:FzL st ((cs.drop off).take (n * es)) (xs.flatMap V.cells) r) (h1:∀ u ∈ xs.flatMap V.cells,u.one=true):FzV st (.osl i off n es f) (.sl xs false) (i :: r)
inductive FzA (st:List Slot):List V→List V→List Nat→Prop
 | nil:FzA st [] [] []
 | cons {v v' r l l' r'} (h:FzV st v v' r) (t:FzA st l l' r'):FzA st (v :: l) (v' :: l') (r++r')
inductive FzR (st:List Slot):V→V→List Nat→Prop
 | v {v v' r} (h:FzV st v v' r):FzR st v v' r
 | tup {l l' r} (h:FzA st l l' r):FzR st (.tup l) (.tup l') r
def Aft (B:Kp) (m0 m:Mem) (bk:Bks) (w:World) (st' : List Slot) (v:V) (c:Value) (w' : World):Prop :=
 ∃ m' bk',Sim B m0 m' bk' w' st'∧Rep m' bk' c v∧(∀ a u,m a=some u→m' a=some u)∧(∀ id x,bk id=some x→bk' id=some x)∧Bel B w w'
def CallsS (P:Program) (f:FuncId) (args:List V) (st:List Slot) (v:V) (st' : List Slot):Prop :=
 ∀ (B:Kp) (m0 m:Mem) (bk:Bks) (w:World) (cargs:Array Value),GM m→Sim B m0 m bk w st→RepA m bk cargs args→Calls P f cargs w fun e w'=>∃ c,e=.returned c∧Aft B m0 m bk w st' v c w'
def allEff (st' : List Slot):List (Nat × Slot):=st'.zipIdx.map fun x=>(x.2,x.1)
def Callable (P:Program) (g:Nat):Prop:=∃ fn,P.funcs[g]?=some fn∧fn.body.isSome=true∧(fn.name == "runtime.NumGoroutine")=false
def byteV (b:UInt8):V:=.lit (.int .u8 b.toNat)
def AStep.eff (st:List Slot):List (Nat × Slot)→List Slot
 | []=>st
 | (i,s) :: r=>AStep.eff (st.set i s) r
def CallsL (P:Program) (f:FuncId) (args:List V) (st:List Slot) (v:V) (rd:List Nat) (ef:List (Nat × Slot)):Prop :=
 ∀ st2:List Slot,st2.length=st.length→(∀ k,k ∈ rd∨k ∈ ef.map Prod.fst→st2[k]?=st[k]?)→CallsS P f args st2 v (AStep.eff st2 ef)
def cloA (v:V) (args:List V):Option (Nat × List V):=match v with
 | .clo (.func g) caps=>some (g,args++caps)
 | .clo (.yield g) bs=>some (g,bs++args)
 | _=>none
inductive AStep (P:Program) (ρ:Operand→V) (st:List Slot) (id:Nat):AOp→V→List Nat→List (Nat × Slot)→Prop
 | mv (x):AStep P ρ st id (.mv x) (ρ x) [] []
 | pick (c a b) {t} (h:ρ c=.lit (.bool t)):AStep P ρ st id (.pick c a b) (if t then ρ a else ρ b) [] []
 | ldE {sz ag x cs} (h:ρ x=.eptr cs) (hs:(if ag then sz else 1)≤cs.length):AStep P ρ st id (.ld sz ag x) (partV ag sz cs) [] []
 | ldP {sz ag x i off cs frz} (h:ρ x=.ptr i off) (hi:st[i]?=some (.live cs frz)) (hs:off + (if ag then sz else 1)≤cs.length):AStep P ρ st id (.ld sz ag x) (partV ag sz (cs.drop off)) [i] []
 | stP {sz a x i off cs frz v} (h:ρ a=.ptr i off) (hv:ρ x=v) (h1:v.stb=true) (hl:v.cells.length=sz) (hi:st[i]?=some (.live cs frz)) (hf:frz≤off) (hs:off + sz≤cs.length) :
   AStep P ρ st id (.st sz a x) .any [i] [(i,.live (cs.take off++v.cells++cs.drop (off + sz)) frz)]
 | al {z} (h1:z.stb=true) (hf:st[id]?=some .fresh):AStep P ρ st id (.al z) (.ptr id 0) [] [(id,.live z.cells 0)]
 | bx {x v} (hv:ρ x=v) (h1:v.stb=true) (hf:st[id]?=some .fresh):AStep P ρ st id (.bx x) (.ptr id 0) [] [(id,.live v.cells 0)]
 | ncP {x i off} (h:ρ x=.ptr i off):AStep P ρ st id (.nc x) (.ptr i off) [] []
 | ncE {x cs} (h:ρ x=.eptr cs):AStep P ρ st id (.nc x) (.eptr cs) [] []
 | ncC {x g caps} (h:ρ x=.clo (.func g) caps):AStep P ρ st id (.nc x) (.clo (.func g) caps) [] []
 | binI {op x y k a b r} (hx:ρ x=.lit (.int k a)) (hy:ρ y=.lit (.int k b)) (hr:intB op k a b=some r):AStep P ρ st id (.bin op x y) (.lit r) [] []
 | binSh {op x y k a k' b r} (hx:ρ x=.lit (.int k a)) (hy:ρ y=.lit (.int k' b)) (hr:intSh op k a b=some r):AStep P ρ st id (.bin op x y) (.lit r) [] []
 | binS {op x y a b r} (hx:ρ x=.lit (.string a)) (hy:ρ y=.lit (.string b)) (hr:strB op a b=some r):AStep P ρ st id (.bin op x y) (.lit r) [] []
 | binb {neg x y a b} (hx:ρ x=.lit (.bool a)) (hy:ρ y=.lit (.bool b)):AStep P ρ st id (.binb neg x y) (.lit (.bool (if neg then a != b else a == b))) [] []
 | eqpP {neg x y i off} (hx:ρ x=.ptr i off) (hy:ρ y=.lit (.pointer none)):AStep P ρ st id (.eqp neg x y) (.lit (.bool neg)) [] []
 | eqpQ {neg x y i off j off' ci fi cj fj} (hx:ρ x=.ptr i off) (hy:ρ y=.ptr j off') (hne:i≠j) (hi:st[i]?=some (.live ci fi)) (hj:st[j]?=some (.live cj fj)):AStep P ρ st id (.eqp neg x y) (.lit (.bool neg)) [i,j] []
 | eqpS {neg x y i off off'} (hx:ρ x=.ptr i off) (hy:ρ y=.ptr i off'):AStep P ρ st id (.eqp neg x y) (.lit (.bool (if neg then off != off' else off == off'))) [] []
 | eqpN {neg x y} (hx:ρ x=.lit (.pointer none)) (hy:ρ y=.lit (.pointer none)):AStep P ρ st id (.eqp neg x y) (.lit (.bool (!neg))) [] []
 | eqa {neg ks x y l m r} (hx:ρ x=.agg l) (hy:ρ y=.agg m) (hr:eqL ks l m=some r) (hl:l.length=ks.length) (hm:m.length=ks.length):AStep P ρ st id (.eqa neg ks x y) (.lit (.bool (if neg then !r else r))) [] []
 | un {op x a r} (hx:ρ x=.lit a) (hr:unV op a=some r):AStep P ρ st id (.un op x) (.lit r) [] []
 | cvi {k x k' n} (hx:ρ x=.lit (.int k' n)):AStep P ρ st id (.cvi k x) (.lit (.int k (k.wrap n))) [] []
 | cvs {x s} (hx:ρ x=.lit (.string s)):AStep P ρ st id (.cvs x) (.lit (.string s)) [] []
 | faP {o x i off} (h:ρ x=.ptr i off):AStep P ρ st id (.fa o x) (.ptr i (off + o)) [] []
 | faE {o x cs} (h:ρ x=.eptr cs) (hs:o≤cs.length):AStep P ρ st id (.fa o x) (.eptr (cs.drop o)) [] []
 | fd {o sz ag x cs} (h:ρ x=.agg cs) (hs:o + (if ag then sz else 1)≤cs.length):AStep P ρ st id (.fd o sz ag x) (partV ag sz (cs.drop o)) [] []
 | ixs {es x ix xs full k} {n:Nat} {j:Int} (h:ρ x=.sl xs full) (hi:ρ ix=.lit (.int k j)) (hj:j=n) (hn:n < xs.length) (hes:xs[n].cells.length=es):AStep P ρ st id (.ixs es x ix) (.eptr xs[n].cells) [] []
 | ixo {es x ix i off m full k} {n:Nat} {j:Int} (h:ρ x=.osl i off m es full) (hi:ρ ix=.lit (.int k j)) (hj:j=n) (hn:n < m):AStep P ρ st id (.ixs es x ix) (.ptr i (off + n * es)) [] []
 | ixa {len es x ix i off k} {n:Nat} {j:Int} (h:ρ x=.ptr i off) (hi:ρ ix=.lit (.int k j)) (hj:j=n) (hn:n < len):AStep P ρ st id (.ixa len es x ix) (.ptr i (off + n * es)) [] []
 | ixae {len es x ix cs k} {n:Nat} {j:Int} (h:ρ x=.eptr cs) (hi:ρ ix=.lit (.int k j)) (hj:j=n) (hn:n < len) (hs:n * es≤cs.length):AStep P ρ st id (.ixa len es x ix) (.eptr (cs.drop (n * es))) [] []
 | ixg {len es ag x ix cs k} {n:Nat} {j:Int} (h:ρ x=.agg cs) (hi:ρ ix=.lit (.int k j)) (hj:j=n) (hn:n < len) (hs:n * es + (if ag then es else 1)≤cs.length):AStep P ρ st id (.ixg len es ag x ix) (partV ag es (cs.drop (n * es))) [] []
 | ixt {x ix s k} {n:Nat} {j:Int} (h:ρ x=.lit (.string s)) (hi:ρ ix=.lit (.int k j)) (hj:j=n) (hn:n < s.size):AStep P ρ st id (.ixt x ix) (.lit (.int .u8 s[n].toNat)) [] []
 | slt {x lo hi s k k'} {l h:Nat} (hx:ρ x=.lit (.string s)) (hl:∀ y,lo=some y→ρ y=.lit (.int k l)) (hl0:lo=none→l=0) (hh:∀ y,hi=some y→ρ y=.lit (.int k' h)) (hh0:hi=none→h=s.size) (h1:l≤h) (h2:h≤s.size) :
   AStep P ρ st id (.slt x lo hi) (.lit (.string (s.extract l h))) [] []
 | slsE {es x lo xs full k} {l:Nat} (hx:ρ x=.sl xs full) (hl:∀ y,lo=some y→ρ y=.lit (.int k l)) (hl0:lo=none→l=0) (h1:l≤xs.length) (hes:∀ u ∈ xs,u.cells.length=es):AStep P ρ st id (.sls es x lo none none) (.sl (xs.drop l) full) [] []
 | sls {es x lo hi xs full k k'} {l h:Nat} (hx:ρ x=.sl xs full) (hl:∀ y,lo=some y→ρ y=.lit (.int k l)) (hl0:lo=none→l=0) (hh:∀ y,hi=some y→ρ y=.lit (.int k' h)) (hh0:hi=none→h=xs.length) (h1:l≤h) (h2:h≤xs.length)
   (hes:∀ u ∈ xs,u.cells.length=es):AStep P ρ st id (.sls es x lo hi none) (.sl ((xs.drop l).take (h - l)) false) [] []
 | sls3 {es x lo hi mx xs full k k' k''} {l h:Nat} (hx:ρ x=.sl xs full) (hl:∀ y,lo=some y→ρ y=.lit (.int k l)) (hl0:lo=none→l=0) (hh:ρ hi=.lit (.int k' h)) (hm:ρ mx=.lit (.int k'' h)) (h1:l≤h) (h2:h≤xs.length)
   (hes:∀ u ∈ xs,u.cells.length=es):AStep P ρ st id (.sls es x lo (some hi) (some mx)) (.sl ((xs.drop l).take (h - l)) true) [] []
 | slsO {es x lo hi i off n full k k'} {l h:Nat} (hx:ρ x=.osl i off n es full) (hl:∀ y,lo=some y→ρ y=.lit (.int k l)) (hl0:lo=none→l=0) (hh:∀ y,hi=some y→ρ y=.lit (.int k' h)) (hh0:hi=none→h=n) (h1:l≤h) (h2:h≤n) (h3:l < n∨l=0) :
   AStep P ρ st id (.sls es x lo hi none) (.osl i (off + l * es) (h - l) es false) [] []
 | slsZ {es x lo hi i off n full k k'} (hx:ρ x=.osl i off n es full) (hl:∀ y,lo=some y→ρ y=.lit (.int k (n:Nat))) (hl0:lo=none→n=0) (hh:∀ y,hi=some y→ρ y=.lit (.int k' (n:Nat))) :
   AStep P ρ st id (.sls es x lo hi none) (.sl [] false) [] []
 | clr {es x i off n full cs frz} (hx:ρ x=.osl i off n es full) (hi:st[i]?=some (.live cs frz)) (hf:frz≤off) (hc:off≤cs.length) (hn:0 < n):AStep P ρ st id (.clr es x) (.tup []) [i] [(i,.live (cs.take off) frz)]
 | ex {x i vs v} (h:ρ x=.tup vs) (hv:vs[i]?=some v):AStep P ρ st id (.ex x i) v [] []
 | bd {z parts cs} (h:fillV z (parts.map fun p=>(p.1,p.2.1,ρ p.2.2))=some cs):AStep P ρ st id (.bd z parts) (.agg cs) [] []
 | bs {es len z parts cs} (h:fillV z (parts.map fun p=>(p.1 * es,es,ρ p.2))=some cs) (hz:z.length=len * es) (hf:st[id]?=some .fresh) {fz:Nat} (hfz:fz≤cs.length):AStep P ρ st id (.bs es len z parts) (.osl id 0 len es true) [] [(id,.live cs fz)]
 | mf {fn caps}:AStep P ρ st id (.mf fn caps) (.clo fn (caps.map ρ)) [] []
 | cl {f args vs rd v} (ha:FzA st (args.map ρ) vs rd) (h:CallsV P f vs v):AStep P ρ st id (.cl f args) v rd []
 | cv {f args g l vs rd v} (hf:cloA (ρ f) (args.map ρ)=some (g,l)) (hg:Callable P g) (ha:FzA st l vs rd) (h:CallsV P g vs v):AStep P ρ st id (.cv f args) v rd []
 | clS {f args v st' ef} (h:CallsS P f (args.map ρ) st v st') (hl:st'.length=st.length) (he:ef=allEff st'):AStep P ρ st id (.cl f args) v [] ef
 | cvS {f args g l v st' ef} (hf:cloA (ρ f) (args.map ρ)=some (g,l)) (hg:Callable P g) (h:CallsS P g l st v st') (hl:st'.length=st.length) (he:ef=allEff st'):AStep P ρ st id (.cv f args) v [] ef
 | clL {f args v rd ef} (h:CallsL P f (args.map ρ) st v rd ef):AStep P ρ st id (.cl f args) v rd ef
 | cvL {f args g l v rd ef} (hf:cloA (ρ f) (args.map ρ)=some (g,l)) (hg:Callable P g) (h:CallsL P g l st v rd ef):AStep P ρ st id (.cv f args) v rd ef
 | lenT {x s} (h:ρ x=.lit (.string s)):AStep P ρ st id (.lent x) (.lit (.int .i64 s.size)) [] []
 | lenS {x xs full} (h:ρ x=.sl xs full):AStep P ρ st id (.lens x) (.lit (.int .i64 xs.length)) [] []
 | lenO {x i off n es full} (h:ρ x=.osl i off n es full):AStep P ρ st id (.lens x) (.lit (.int .i64 n)) [] []
 | s2b {x s} (h:ρ x=.lit (.string s)):AStep P ρ st id (.s2b x) (.sl (s.data.toList.map byteV) false) [] []
 | b2sI {x full} {l:List UInt8} (h:ρ x=.sl (l.map byteV) full):AStep P ρ st id (.b2s x) (.lit (.string ⟨l.toArray⟩)) [] []
 | b2sO {x i off full cs frz} {l:List UInt8} (h:ρ x=.osl i off l.length 1 full) (hi:st[i]?=some (.live cs frz)) (hc:(cs.drop off).take l.length=l.map byteV):AStep P ρ st id (.b2s x) (.lit (.string ⟨l.toArray⟩)) [i] []
 | apZ {es bytes s x n ds rd rd'} (hs:SrcV st es (ρ s) n ds rd) (hx:SrcX st es (ρ x) 0 [] rd'):AStep P ρ st id (.ap es bytes s x) (ρ s) (rd++rd') []
 | apN {es bytes s x n ds rd k ds' rd'} (hs:SrcV st es (ρ s) n ds rd) (hfu:(ρ s).full=true) (hx:SrcX st es (ρ x) k ds' rd') (hk:0 < k) (hn:n + k≤1000000) (hb:bytes≤1000) (hf:st[id]?=some .fresh) {fz:Nat} (hfz:fz≤(ds++ds').length) :
   AStep P ρ st id (.ap es bytes s x) (.osl id 0 (n + k) es false) (rd++rd') [(id,.live (ds++ds') fz)]
 | apO {es bytes s x i n cs frz k ds' rd'} (hs:ρ s=.osl i 0 n es false) (hi:st[i]?=some (.live cs frz)) (hl:cs.length=n * es) (hz:frz≤cs.length) (hx:SrcX st es (ρ x) k ds' rd') (hk:0 < k) (hn:n + k≤1000000) (hb:bytes≤1000) (hf:st[id]?=some .fresh) {fz:Nat} (hfz0:frz≤fz) (hfz:fz≤(cs++ds').length) :
   AStep P ρ st id (.ap es bytes s x) (.osl id 0 (n + k) es false) (rd'++[i]) [(i,.dead),(id,.live (cs++ds') fz)]
 | mn {mx x y k k' a b} (hx:ρ x=.lit (.int k a)) (hy:ρ y=.lit (.int k' b)):AStep P ρ st id (.mn mx x y) (.lit (.int k (if mx then (if b > a then b else a) else (if b < a then b else a)))) [] []
 | mks {es bytes z x y kn kc} {n c:Nat} {full:Bool} (hx:ρ x=.lit (.int kn n)) (hy:ρ y=.lit (.int kc c)) (h1:n≤c) (hcb:c≤1000000) (hbb:bytes≤1000) (hfu:full=true→n=c) (hf:st[id]?=some .fresh) {fz:Nat} (hfz:fz≤n * es) :
   AStep P ρ st id (.mks es bytes z x y) (.osl id 0 n es full) [] [(id,.live ((List.range (n * es)).map fun k=>z.getD (k % es) .any) fz)]
theorem Aft.same {B:Kp} {m0 m:Mem} {bk:Bks} {w:World} {st:List Slot} (hs:Sim B m0 m bk w st) {v:V} {c:Value} (h:Rep m bk c v):Aft B m0 m bk w st v c w :=
 ⟨m,bk,hs,h,fun _ _ h=>h,fun _ _ h=>h,Bel.refl _ _⟩
def FrRep (m:Mem) (bk:Bks) (tmps:Array Value) (fr:List V):Prop:=RepA m bk tmps fr
theorem FrRep.ev {m:Mem} {bk:Bks} {a:Act} {fr:List V} (h:FrRep m bk a.tmps fr) (x:Operand):Rep m bk (a.eval x) (evO fr x):=by
 cases x with
 | tmp t =>
  show Rep m bk (a.tmps.getD t undef) (fr.getD t .any)
  by_cases ht:t < fr.length
  ·have h2:=h.2 t (by rw [h.1];exact ht) ht
   have e1:a.tmps.getD t undef=a.tmps[t]'(by rw [h.1];exact ht):=by simp [Array.getD,h.1,ht]
   have e2:fr.getD t .any=fr[t]:=by simp [List.getD,ht]
   rw [e1,e2];exact h2
  ·have e2:fr.getD t .any=.any:=by simp [List.getD,ht]
   rw [e2];exact .any
 | const v=>exact Rep.ofValue v
 | global g=>exact .lit rfl
 | func f=>exact .clo rfl rfl fun j h1 _=>absurd h1 (by simp)
theorem Rep.int {m:Mem} {bk:Bks} {c:Value} {a:Value} (h:Rep m bk c (.lit a)):c=a:=by cases h;rfl
theorem wp_val {P:Program} {o:Oper} {a:Act} {w w' : World} {c:Value} {K:Act→World→Prop} {Q:Exit→Act→World→Prop} (hr:(execOp a.eval o).run P w=.ok (.value c) w') (hk:K (a.put o.dst c) w'):o.wp P a w K Q:=by
 unfold Oper.wp;rw [hr];exact hk
end Go.Proofs.YtpkodpcfafipdaaGreatDoor

namespace Go.Proofs.YtpkodpcfafipdaaGreatDoor
open Go.RowKit
def isAggD:TypeDesc→Bool
 | .struct _ | .array _ _=>true
 | _=>false
theorem run_isAgg {P:Program} {t:TypeId} {d:TypeDesc} (h:P.underlying t=some d) (w:World):(isAgg t).run P w=.ok (isAggD d) w:=by
 simp only [isAgg,Sem.run_bind,run_underlying h,Result.andThen_ok]
 cases d <;> rfl
theorem run_info {P:Program} {t:TypeId} {i:TypeInfo} (h:P.info? t=some i) (w:World):(typeInfo t).run P w=.ok i w:=by
 simp [typeInfo,h]
theorem run_sizeOf {P:Program} {t:TypeId} {i:TypeInfo} (h:P.info? t=some i) (w:World):(sizeOf t).run P w=.ok i.size w:=by
 simp [sizeOf,typeInfo,h]
def usA (us:Nat→Value) (n:Nat):Array Value:=((List.range n).map us).toArray
theorem usA_get (us:Nat→Value) (n j:Nat) (h:j < (usA us n).size):(usA us n)[j]=us j:=by simp [usA]
theorem usA_size (us:Nat→Value) (n:Nat):(usA us n).size=n:=by simp [usA]
theorem run_loadVar {P:Program} {t:TypeId} {d:TypeDesc} {i:TypeInfo} (hd:P.underlying t=some d) (hi:P.info? t=some i) (w:World) (b o:Nat) (us:Nat→Value)
  (h:∀ k,k < (if isAggD d then i.size else 1)→w.cell? ⟨b,o + k,none⟩=some (us k)):(loadVar t ⟨b,o,none⟩).run P w=.ok (if isAggD d then .agg (usA us i.size) else us 0) w:=by
 simp only [loadVar,Sem.run_bind,run_isAgg hd,Result.andThen_ok]
 cases hb:isAggD d with
 | true =>
  rw [hb] at h
  have hl:=run_loadCells_list (P:=P) w ⟨b,o,none⟩ ((List.range i.size).map us) (fun j v hj=>by
   simp only [List.getElem?_map,List.getElem?_range] at hj
   have hji:j < i.size:=by
    rcases Nat.lt_or_ge j i.size with h | h
    ·exact h
    ·simp [List.getElem?_eq_none,h] at hj
   simp [List.getElem?_range,hji] at hj
   rw [Addr.add_lit,h j (by simpa using hji),hj])
  simp only [List.length_map,List.length_range] at hl
  simp only [if_true,Sem.run_bind,run_sizeOf hi,Result.andThen_ok,hl,Sem.run_pure]
  rfl
 | false =>
  rw [hb] at h
  have:=h 0 (by simp)
  simp only [Nat.add_zero] at this
  simp [this]
theorem rep_part {m:Mem} {bk:Bks} {ag:Bool} {sz:Nat} {cs:List V} {us:Nat→Value} (hs:(if ag then sz else 1)≤cs.length) (h1:∀ u ∈ cs,u.one=true) (h:∀ k (hk:k < cs.length),k < (if ag then sz else 1)→Rep m bk (us k) cs[k]) :
  Rep m bk (if ag then .agg (usA us sz) else us 0) (partV ag sz cs):=by
 cases ag with
 | true =>
  refine .agg ?_ ?_ ?_
  ·simp at hs;simp [usA_size];omega
  ·intro v hv;exact h1 v (List.mem_of_mem_take hv)
  ·intro j hj1 hj2
   rw [usA_get]
   simp only [usA_size] at hj1
   simp only [List.getElem_take]
   exact h j _ (by simpa using hj1)
 | false =>
  simp at hs
  have:=h 0 (by omega) (by simp)
  have e:cs.getD 0 .any=cs[0]:=by simp [List.getD,List.getElem?_eq_getElem (show 0 < cs.length by omega)]
  simp only [partV,Bool.false_eq_true,if_false,e]
  exact this
def tilesF (P:Program) (q:TypeId→List Nat→Bool):Nat→List Field→Nat→List Nat→Bool
 | off,[],n,_=>off == n
 | off,f :: fs,n,ks=>f.name != "_" && f.offset == off && (P.info? f.type).isSome && q f.type (ks.take (P.cellsOf f.type)) && tilesF P q (off + P.cellsOf f.type) fs n (ks.drop (P.cellsOf f.type))
def tilesA (q:List Nat→Bool) (c:Nat):Nat→List Nat→Bool
 | 0,ks=>ks == []
 | n + 1,ks=>q (ks.take c) && tilesA q c n (ks.drop c)
def eqTy (P:Program):Nat→TypeId→List Nat→Bool
 | 0,_,_=>false
 | d + 1,t,ks=>match P.underlying t with
  | some .bool=>(P.info? t).map (·.size) == some 1 && ks == [0]
  | some (.int _)=>(P.info? t).map (·.size) == some 1 && ks == [1]
  | some .string=>(P.info? t).map (·.size) == some 1 && ks == [2]
  | some (.struct fs)=>!P.stoodInHeld t && tilesF P (eqTy P d) 0 fs.toList (P.cellsOf t) ks
  | some (.array n e)=>(P.info? e).isSome && n * P.cellsOf e == P.cellsOf t && tilesA (eqTy P d e) (P.cellsOf e) n ks
  | _=>false
def mkV (ag:Bool) (cs:List Value):Value:=if ag then .agg cs.toArray else cs.getD 0 undef
def isAggT (P:Program) (t:TypeId):Bool:=match P.underlying t with | some d=>isAggD d | none=>false
inductive Cop (P:Program):Op→TypeId→AOp→Prop
 | mv {ty} (x):Cop P (.move x) ty (.mv x)
 | as {ty} (x):Cop P (.assign x) ty (.mv x)
 | pick {ty} (c a b):Cop P (.pick c a b) ty (.pick c a b)
 | ld {ty t d i x} (hd:P.underlying t=some d) (hi:P.info? t=some i):Cop P (.load t x) ty (.ld i.size (isAggD d) x)
 | st {ty t i a x} (hi:P.info? t=some i):Cop P (.store t a x) ty (.st i.size a x)
 | al {ty t i z} (hi:P.info? t=some i) (hz:i.zero=some z):Cop P (.alloc t) ty (.al (V.ofValue z))
 | bx {ty t x}:Cop P (.box t x) ty (.bx x)
 | nc {ty x}:Cop P (.nilCheck x) ty (.nc x)
 | bin {ty op t x y t'}:Cop P (.binOp op t x y t') ty (.bin op x y)
 | binb {ty neg t x y t'} (hd:P.underlying t=some .bool):Cop P (.binOp (if neg then .neq else .eql) t x y t') ty (.binb neg x y)
 | eqp {ty neg t x y t' j} (hd:P.underlying t=some (.pointer (P.pointee t))) (hj:P.info? (P.pointee t)=some j) (hjs:j.size≠0):Cop P (.binOp (if neg then .neq else .eql) t x y t') ty (.eqp neg x y)
 | eqa {ty neg t x y t' ks d} (he:eqTy P d t ks=true) (hd:d≤10000) (ha:isAggT P t=true) (hg:P.eqGuardType P.depth t=false) (hl:P.cellsOf t=ks.length):Cop P (.binOp (if neg then .neq else .eql) t x y t') ty (.eqa neg ks x y)
 | un {ty op t x}:Cop P (.unOp op t x) ty (.un op x)
 | cvi {ty s d k k' x} (hs:P.underlying s=some (.int k')) (hd:P.underlying d=some (.int k)):Cop P (.convert s d x) ty (.cvi k x)
 | cvs {ty s d x} (hs:P.underlying s=some .string) (hd:P.underlying d=some .string):Cop P (.convert s d x) ty (.cvs x)
 | s2b {ty s d e x} (hs:P.underlying s=some .string) (hd:P.underlying d=some (.slice e)) (he:P.underlying e=some (.int .u8)):Cop P (.convert s d x) ty (.s2b x)
 | b2s {ty s d e x} (hs:P.underlying s=some (.slice e)) (he:P.underlying e=some (.int .u8)) (hd:P.underlying d=some .string):Cop P (.convert s d x) ty (.b2s x)
 | fa {ty t fs f x n i} (hd:P.underlying t=some (.struct fs)) (hf:fs[n]?=some f) (hi:P.info? f.type=some i) (h0:i.size≠0):Cop P (.fieldAddr t x n) ty (.fa f.offset x)
 | fd {ty t fs f x n i d} (hd:P.underlying t=some (.struct fs)) (hf:fs[n]?=some f) (hi:P.info? f.type=some i) (hdd:P.underlying f.type=some d):Cop P (.field t x n) ty (.fd f.offset i.size (isAggD d) x)
 | ixs {ty t e i x ix} (hd:P.underlying t=some (.slice e)) (hi:P.info? e=some i):Cop P (.indexAddr t x ix) ty (.ixs i.size x ix)
 | ixa {ty t e i x ix len} (hd:P.underlying t=some (.array len e)) (hi:P.info? e=some i):Cop P (.indexAddr t x ix) ty (.ixa len i.size x ix)
 | ixg {ty t e i x ix len d} (hd:P.underlying t=some (.array len e)) (hi:P.info? e=some i) (hdd:P.underlying e=some d):Cop P (.index t x ix) ty (.ixg len i.size (isAggD d) x ix)
 | ixt {ty t x ix} (hd:P.underlying t=some .string):Cop P (.index t x ix) ty (.ixt x ix)
 | slt {ty t x lo hi} (hd:P.underlying t=some .string):Cop P (.slice t x lo hi none) ty (.slt x lo hi)
 | sls {ty t e i x lo up mx} (hd:P.underlying t=some (.slice e)) (hi:P.info? e=some i):Cop P (.slice t x lo up mx) ty (.sls i.size x lo up mx)
 | ex {ty x i}:Cop P (.extract x i) ty (.ex x i)
 | bd {ty t i z zs parts ps} (pl:Nat→Option (Nat × Nat)) (hb:∀ l,P.built t l=Instr.fill pl z.cells l) (hi:P.info? t=some i) (hz:i.zero=some z) (hzs:V.ofValue z=.agg zs)
   (hp:parts.toList.mapM (fun p=>(pl p.1).map fun q=>(q.1,q.2,p.2))=some ps):Cop P (.build t parts) ty (.bd zs ps)
 | bs {ty t e i z len parts} (hd:P.underlying t=some (.slice e)) (hi:P.info? e=some i) (hz:i.zero=some z) (h0:len * i.size≠0) (hzs:z.cells.size=i.size) (hl:len * i.size≤1000) (hone:(V.ofValue z).stb=true) :
   Cop P (.buildSlice t len parts) ty (.bs i.size len ((List.range (len * i.size)).map fun k=>(V.ofValue z).cells.getD (k % i.size) .any) parts.toList)
 | bs0 {ty t e i} (hd:P.underlying t=some (.slice e)) (hi:P.info? e=some i):Cop P (.buildSlice t 0 #[]) ty (.mv (.const (.slice none 0 0)))
 | mf {ty fn caps} (hv:yldF fn=false):Cop P (.makeFunc fn #[] caps) ty (.mf fn caps.toList)
 | mfb {ty g bs}:Cop P (.makeFunc (.func g) bs #[]) ty (.mf (.yield g) bs.toList)
 | cl {ty f fn args tys} (hf:P.funcs[f]?=some fn) (hb:fn.body.isSome=true) (hn:(fn.name == "runtime.NumGoroutine")=false):Cop P (.call ⟨.value (.func f),args,tys⟩) ty (.cl f args.toList)
 | cv {ty f args tys}:Cop P (.call ⟨.value f,args,tys⟩) ty (.cv f args.toList)
 | lenT {ty x t} (hd:P.underlying t=some .string):Cop P (.call ⟨.builtin .len,#[x],#[t]⟩) ty (.lent x)
 | lenS {ty x t e} (hd:P.underlying t=some (.slice e)):Cop P (.call ⟨.builtin .len,#[x],#[t]⟩) ty (.lens x)
 | ap {ty s x t t' e i z} (hd:P.underlying t=some (.slice e)) (hi:P.info? e=some i) (hz:i.zero=some z) (hzs:z.cells.size=i.size) (h0:i.size≠0) (hk:(∃ e',P.underlying t'=some (.slice e'))∨P.underlying t'=some .string):Cop P (.call ⟨.builtin .append,#[s,x],#[t,t']⟩) ty (.ap i.size i.bytes s x)
 | mn {ty x y tys mx}:Cop P (.call ⟨.builtin (if mx then .max else .min),#[x,y],tys⟩) ty (.mn mx x y)
 | mks {ty t e i z n c} (hd:P.underlying t=some (.slice e)) (hi:P.info? e=some i) (hz:i.zero=some z) (h0:i.size≠0) (hzs:z.cells.size=i.size) (hone:(V.ofValue z).stb=true):Cop P (.makeSlice t n c) ty (.mks i.size i.bytes (V.ofValue z).cells n c)
 | clr {ty t e i z x} (hd:P.underlying t=some (.slice e)) (hi:P.info? e=some i) (hz:i.zero=some z) (hzs:z.cells.size=i.size) (hone:z.cells.toList.all (·.oneCell')=true):Cop P (.call ⟨.builtin .clear,#[x],#[t]⟩) ty (.clr i.size x)
theorem run_binI {P:Program} {op:BinOp} {t:TypeId} {k:IntKind} {a b:Int} {r:Value} (h:intB op k a b=some r) (w:World):(binOp op t (.int k a) (.int k b)).run P w=.ok r w:=by
 cases op <;> simp only [intB,Option.some.injEq,reduceCtorEq,Option.ite_none_left_eq_some] at h <;> first
  | (subst h;simp [binOp,Op.intArith,Op.intBits,Op.intCmp];done)
  | (obtain ⟨h0,rfl⟩:=h;simp [binOp,Op.intDiv,h0];done)
theorem run_binSh {P:Program} {op:BinOp} {t:TypeId} {k k' : IntKind} {a b:Int} {r:Value} (h:intSh op k a b=some r) (w:World):(binOp op t (.int k a) (.int k' b)).run P w=.ok r w:=by
 unfold intSh at h
 split at h
 ·cases h
 ·rename_i h0
  cases op <;> simp only [Option.some.injEq,reduceCtorEq] at h <;> (subst h;simp [binOp,Op.shift,h0])
theorem run_binS {P : Program} {op : BinOp} {t : TypeId} {a b : ByteArray} {r : Value} (h : strB op a b = some r) (w : World) : (binOp op t (.string a) (.string b)).run P w = .ok r w := by
  cases op <;> simp only [strB, Option.some.injEq, reduceCtorEq, Option.ite_none_right_eq_some] at h <;> first
    | (subst h; simp [binOp, Op.stringOp]; done)
    | (obtain ⟨h0, rfl⟩ := h
       have : ¬ ((a.size + b.size : Nat) : Int) > IntKind.i64.max := by
         have : IntKind.i64.max = 9223372036854775807 := rfl
         omega
       simp only [binOp, Op.stringOp, if_neg this]
       rfl)
theorem run_eqGuard_one {P:Program} {op:BinOp} {t:TypeId} {x y:Operand} {a b:Value} (h:∀ cs,a≠.agg cs) (h2:a≠.nilIface) (w:World):(eqGuard op t x y a b).run P w=.ok () w:=by
 unfold eqGuard
 cases op <;> (cases a <;> first | (exact absurd rfl (h _)) | (exact absurd rfl h2) | rfl)
theorem run_un {P:Program} {op:UnOp} {a r:Value} (h:unV op a=some r) (w:World):(Op.unary op a).run P w=.ok r w:=by
 unfold unV at h
 split at h <;> first
  | (simp only [Option.some.injEq] at h;subst h;simp [Op.unary,Op.intArith];done)
  | cases h
theorem run_part {P:Program} {t:TypeId} {d:TypeDesc} {i:TypeInfo} (hd:P.underlying t=some d) (hi:P.info? t=some i) (w:World) (cs:Array Value) (off:Nat) (h:off + (if isAggD d then i.size else 1)≤cs.size) :
  (part t cs off).run P w=.ok (if isAggD d then .agg (usA (fun k=>cs.getD (off + k) undef) i.size) else cs.getD (off + 0) undef) w:=by
 simp only [part,Sem.run_bind,run_isAgg hd,Result.andThen_ok]
 cases hb:isAggD d with
 | true =>
  rw [hb] at h
  simp only [if_true,Sem.run_bind,run_sizeOf hi,Result.andThen_ok,Sem.run_pure]
  congr 2
  simp at h
  apply Array.ext
  ·simp [usA_size];omega
  ·intro j h1 h2
   rw [usA_get]
   simp only [Array.size_extract] at h1
   simp [Array.getD,show off + j < cs.size by omega]
 | false =>
  rw [hb] at h
  simp at h
  simp [show off < cs.size by omega,Array.getD]
end Go.Proofs.YtpkodpcfafipdaaGreatDoor

namespace Go.Proofs.YtpkodpcfafipdaaGreatDoor
open Go.RowKit
section
variable {P : Program} {o : Oper} {a : Act} {w : World} {K : Act → World → Prop} {Q : Exit → Act → World → Prop} {B : Kp} {m0 m : Mem} {bk : Bks} {st : List Slot} {fr : List V}
theorem op_val {S:Sem Value} {c:Value} {v:V} (he:execOp a.eval o=(do pure (.value (← S)))) (hr:S.run P w=.ok c w) (hsim:Sim B m0 m bk w st) (hv:Rep m bk c v)
  (hK:∀ c w',Aft B m0 m bk w st v c w'→K (a.put o.dst c) w'):o.wp P a w K Q:=by
 refine wp_val (c:=c) (w':=w) ?_ (hK _ _ (Aft.same hsim hv))
 rw [he];simp [hr]
theorem rep_usE {m:Mem} {bk:Bks} {b o:Nat} {us:Nat→Value} {cs:List V} (hm:∀ k,k < cs.length→m ⟨b,o + k,none⟩=some (us k)) (h:∀ k (hk:k < cs.length),Rep m noBk (us k) cs[k]):∀ k (hk:k < cs.length),Rep m bk (us k) cs[k] :=
 fun k hk=>(h k hk).mono (fun _ _ h=>h) (fun _ _ h=>by cases h)
theorem eptr_drop {m:Mem} {bk:Bks} {c:Value} {cs:List V} (h:Rep m bk c (.eptr cs)) (n:Nat):∃ b o,c=.pointer (some ⟨b,o,none⟩)∧Rep m bk (.pointer (some ⟨b,o + n,none⟩)) (.eptr (cs.drop n)):=by
 cases h with
 | @eptr _ b o us _ h1 hm h =>
  refine ⟨b,o,rfl,.eptr (us:=fun k=>us (n + k)) (fun u hu=>h1 u (List.mem_of_mem_drop hu)) (fun k hk=>?_) (fun k hk=>?_)⟩
  ·rw [Nat.add_assoc];exact hm _ (by simp at hk;omega)
  ·simp only [List.getElem_drop];exact h _ (by simp at hk;omega)
theorem addr_field {P:Program} {t:TypeId} {fs:Array Field} {f:Field} {n:Nat} {i:TypeInfo} (hd:P.underlying t=some (.struct fs)) (hf:fs[n]?=some f) (hi:P.info? f.type=some i) (h0:i.size≠0) (b o:Nat) (w:World) :
  (Instr.fieldAt t (.pointer (some ⟨b,o,none⟩)) n).run P w=.ok (.pointer (some ⟨b,o + f.offset,none⟩)) w:=by
 simp [Instr.fieldAt,run_underlying hd,hf,Instr.sureAddr,fieldPlace,run_sizeOf hi,h0,Addr.add_lit]
theorem flat_at:∀ {xs:List V} {es:Nat} (_:∀ x ∈ xs,x.cells.length=es) (n:Nat) (hn:n < xs.length) (k:Nat) (hk:k < xs[n].cells.length),
  ∃ h:n * es + k < (xs.flatMap V.cells).length,(xs.flatMap V.cells)[n * es + k]=xs[n].cells[k]
 | x :: xs,es,hes,0,_,k,hk=>by
  have hx:=hes x (by simp)
  refine ⟨by simp [List.flatMap_cons];simp at hk;omega,?_⟩
  simp only [List.flatMap_cons,Nat.zero_mul,Nat.zero_add,List.getElem_cons_zero]
  rw [List.getElem_append_left (by simpa using hk)]
 | x :: xs,es,hes,n + 1,hn,k,hk=>by
  have hx:=hes x (by simp)
  obtain ⟨h1,h2⟩:=flat_at (xs:=xs) (fun y hy=>hes y (List.mem_cons_of_mem _ hy)) n (by simpa using hn) k (by simpa using hk)
  have e:(n + 1) * es + k=x.cells.length + (n * es + k):=by rw [hx,Nat.succ_mul];omega
  refine ⟨by simp only [List.flatMap_cons,List.length_append,e];omega,?_⟩
  simp only [List.flatMap_cons,List.getElem_cons_succ]
  rw [List.getElem_append_right (by rw [e];omega)]
  rw [← h2]
  congr 1
  omega
theorem sl_at {m:Mem} {bk:Bks} {c:Value} {xs:List V} {full:Bool} {es:Nat} (h:Rep m bk c (.sl xs full)) {n:Nat} (hn:n < xs.length) (hes:xs[n].cells.length=es) :
  ∃ b o cap,c=.slice (some ⟨b,o,none⟩) xs.length cap∧Rep m bk (.pointer (some ⟨b,o + n * es,none⟩)) (.eptr xs[n].cells):=by
 cases h with
 | slnil=>simp at hn
 | @sl _ b o _ cap es' _ _ us hl hc hf hes' h1 hm h =>
  subst hl
  have he:es'=es:=by rw [← hes,hes' _ (List.getElem_mem hn)]
  subst he
  refine ⟨b,o,cap,rfl,.eptr (us:=fun k=>us (n * es' + k)) (fun u hu=>h1 u (List.mem_flatMap.2 ⟨_,List.getElem_mem hn,hu⟩)) (fun k hk=>?_) (fun k hk=>?_)⟩
  ·obtain ⟨g1,g2⟩:=flat_at hes' n hn k hk
   rw [Nat.add_assoc];exact hm _ g1
  ·obtain ⟨g1,g2⟩:=flat_at hes' n hn k hk
   rw [← g2];exact h _ g1
theorem index_slice {P:Program} {t e:TypeId} {i:TypeInfo} (hd:P.underlying t=some (.slice e)) (hi:P.info? e=some i) (w:World) (b o len cap n:Nat) (k:IntKind) (hn:n < len) :
  (Instr.indexAt t (.slice (some ⟨b,o,none⟩) len cap) (.int k n)).run P w=.ok (.pointer (some ⟨b,o + n * i.size,none⟩)) w:=by
 simp [Instr.indexAt,asIntOf,run_underlying hd,hn,run_sizeOf hi,Addr.add_lit]
theorem index_array {P:Program} {t e:TypeId} {i:TypeInfo} {len:Nat} (hd:P.underlying t=some (.array len e)) (hi:P.info? e=some i) (w:World) (b o n:Nat) (k:IntKind) (hn:n < len) :
  (Instr.indexAt t (.pointer (some ⟨b,o,none⟩)) (.int k n)).run P w=.ok (.pointer (some ⟨b,o + n * i.size,none⟩)) w:=by
 simp [Instr.indexAt,asIntOf,run_underlying hd,Instr.sureAddr,hn,run_sizeOf hi,Addr.add_lit]
theorem agg_inv {m:Mem} {bk:Bks} {c:Value} {cs:List V} (h:Rep m bk c (.agg cs)):∃ ds:Array Value,c=.agg ds∧ds.size=cs.length∧(∀ v ∈ cs,v.one=true)∧∀ j (h1:j < ds.size) (h2:j < cs.length),Rep m bk ds[j] cs[j]:=by
 cases h with
 | agg hl h1 h=>exact ⟨_,rfl,hl,h1,h⟩
theorem rep_aggpart {m:Mem} {bk:Bks} {ds:Array Value} {cs:List V} {ag:Bool} {sz off:Nat} (hl:ds.size=cs.length) (h1:∀ v ∈ cs,v.one=true) (h:∀ j (h1:j < ds.size) (h2:j < cs.length),Rep m bk ds[j] cs[j])
  (hs:off + (if ag then sz else 1)≤cs.length):Rep m bk (if ag then .agg (usA (fun k=>ds.getD (off + k) undef) sz) else ds.getD (off + 0) undef) (partV ag sz (cs.drop off)):=by
 refine rep_part (us:=fun k=>ds.getD (off + k) undef) (by simp;cases ag <;> simp at hs ⊢ <;> omega) (fun u hu=>h1 u (List.mem_of_mem_drop hu)) fun k hk hk2=>?_
 have hk' : off + k < ds.size:=by simp at hk;omega
 have e:ds.getD (off + k) undef=ds[off + k]:=by simp [Array.getD,hk']
 rw [e]
 simp only [List.getElem_drop]
 exact h _ hk' _
theorem run_bounds_slice {P:Program} {len cap l h:Nat} {lo hi:Option Value} {k k' : IntKind} (isS:Bool) (hl:lo=some (.int k l)∨lo=none∧l=0) (hh:hi=some (.int k' h)∨hi=none∧h=len) (h1:l≤h) (h2:h≤cap) (w:World) :
  (Instr.sliceBounds isS len cap lo hi none).run P w=.ok (l,h,cap) w:=by
 have e1:(l:Int)≤h:=by omega
 have e2:(h:Int)≤cap:=by omega
 rcases hl with rfl | ⟨rfl,rfl⟩ <;> rcases hh with rfl | ⟨rfl,rfl⟩ <;> simp [Instr.sliceBounds,Instr.sliceBound,asIntOf,h1,h2]
theorem run_bounds_slice3 {P:Program} {len cap l h mm:Nat} {lo:Option Value} {k k' k'' : IntKind} (isS:Bool) (hl:lo=some (.int k l)∨lo=none∧l=0) (h1:l≤h) (h2:h≤mm) (h3:mm≤cap) (w:World) :
  (Instr.sliceBounds isS len cap lo (some (.int k' h)) (some (.int k'' mm))).run P w=.ok (l,h,mm) w:=by
 rcases hl with rfl | ⟨rfl,rfl⟩ <;> simp [Instr.sliceBounds,Instr.sliceBound,asIntOf,h1,h2,h3]
theorem sl_sub {m:Mem} {bk:Bks} {A:Option Addr} {n cap:Nat} {xs:List V} {full full' : Bool} {es:Nat} (h:Rep m bk (.slice A n cap) (.sl xs full)) (hes:∀ x ∈ xs,x.cells.length=es) {l hh mm:Nat} (h1:l≤hh) (h2:hh≤xs.length) (h3:hh≤mm) (h4:mm≤cap)
  (hf:full'=true→mm=hh):Rep m bk (.slice (if mm=l then A else A.map (·.add (l * es))) (hh - l) (mm - l)) (.sl ((xs.drop l).take (hh - l)) full'):=by
 cases h with
 | slnil hf0 =>
  have:hh - l=0:=by simp at h2;omega
  rw [this]
  simp only [List.drop_nil,List.take_nil]
  exact .slnil fun e=>by have:=hf e;omega
 | @sl _ b o _ _ es' _ _ us hl hc hf0 hes' hu hm h =>
  subst hl
  by_cases hlen:l=hh
  ·subst hlen
   simp only [Nat.sub_self,List.take_zero]
   exact .slnil fun e=>by have:=hf e;omega
  ·have hml:mm≠l:=by omega
   rw [if_neg hml]
   simp only [Option.map_some,Addr.add_lit]
   have hl' : ((xs.drop l).take (hh - l)).length=hh - l:=by simp;omega
   have hsub:∀ k (hk:k < (((xs.drop l).take (hh - l)).flatMap V.cells).length),∃ g:l * es + k < (xs.flatMap V.cells).length,(xs.flatMap V.cells)[l * es + k]=(((xs.drop l).take (hh - l)).flatMap V.cells)[k]:=by
    intro k hk
    have e1:xs=xs.take l++((xs.drop l).take (hh - l)++xs.drop hh):=by
     have:xs.drop l=(xs.drop l).take (hh - l)++(xs.drop l).drop (hh - l):=(List.take_append_drop _ _).symm
     rw [List.drop_drop,show l + (hh - l)=hh by omega] at this
     rw [← this,List.take_append_drop]
    have e2:xs.flatMap V.cells=(xs.take l).flatMap V.cells++(((xs.drop l).take (hh - l)).flatMap V.cells++(xs.drop hh).flatMap V.cells):=by
     conv=>lhs;rw [e1]
     simp [List.flatMap_append]
    have e3:((xs.take l).flatMap V.cells).length=l * es:=by
     rw [List.length_flatMap,show (xs.take l).map (fun x=>x.cells.length)=(xs.take l).map (fun _=>es) from List.map_congr_left fun x hx=>hes x (List.mem_of_mem_take hx)]
     rw [List.map_const'];simp;rw [Nat.min_eq_left (by omega)]
    refine ⟨by rw [e2];simp only [List.length_append,e3];omega,?_⟩
    simp only [e2]
    rw [List.getElem_append_right (by omega),List.getElem_append_left (by rw [e3];omega)]
    congr 1
    omega
   refine .sl (us:=fun k=>us (l * es + k)) hl'.symm (by omega) (fun e=>by have:=hf e;omega) (fun x hx=>hes x (List.mem_of_mem_drop (List.mem_of_mem_take hx))) (fun u hu'=>?_) (fun k hk=>?_) (fun k hk=>?_)
   ·obtain ⟨x,hx,hu''⟩:=List.mem_flatMap.1 hu'
    exact hu u (List.mem_flatMap.2 ⟨x,List.mem_of_mem_drop (List.mem_of_mem_take hx),hu''⟩)
   ·obtain ⟨g,_⟩:=hsub k hk
    rw [Nat.add_assoc];exact hm _ g
   ·obtain ⟨g,e⟩:=hsub k hk
    rw [← e];exact h _ g
end
end Go.Proofs.YtpkodpcfafipdaaGreatDoor

namespace Go.Proofs.YtpkodpcfafipdaaGreatDoor
open Go.RowKit
theorem run_sameAddr_apart {P:Program} (w:World) {b b2 off off' : Nat} {ca cb:Array Value} {ta tb:TypeId} {lo hi lo2 hi2:Nat} (hne:b≠b2) (ha:w.heap[b]?=some (.cells ca ta (lo,hi))) (h1:hi≤lo) (hb:w.heap[b2]?=some (.cells cb tb (lo2,hi2))) (h2:hi2≤lo2) :
  (sameAddr ⟨b,off,none⟩ ⟨b2,off',none⟩).run P w=.ok false w:=by
 have n1:∀ k,¬ (lo≤k∧k < hi):=fun k=>by omega
 have n2:∀ k,¬ (lo2≤k∧k < hi2):=fun k=>by omega
 simp [sameAddr,hne,World.frozen?,ha,hb,noView,viewAt,World.shape?,mayBeOne,stringish,n1,n2]
theorem run_equal_pointer_one {P:Program} (w:World) (t:TypeId) {te:TypeId} {j:TypeInfo} (hp:P.underlying t=some (.pointer te)) (hte:P.info? te=some j) (hsz:j.size≠0) {b off off' : Nat} :
  (Op.equal t (.pointer (some ⟨b,off,none⟩)) (.pointer (some ⟨b,off',none⟩))).run P w=.ok (off == off') w:=by
 have e:((⟨b,off,none⟩ : Addr) == ⟨b,off',none⟩)=(off == off'):=by
  by_cases h:off=off'
  ·subst h;simp
  ·have:(⟨b,off,none⟩ : Addr)≠⟨b,off',none⟩:=fun q=>h (by injection q)
   rw [beq_eq_false_iff_ne.2 this,beq_eq_false_iff_ne.2 h]
 have h:∀ d:Nat,(Op.equalIn (d + 1) t (.pointer (some ⟨b,off,none⟩)) (.pointer (some ⟨b,off',none⟩))).run P w=.ok (off == off') w:=fun d=>by
  simp only [Op.equalIn,Sem.run_bind,run_underlying hp,Result.andThen_ok]
  simp [sizeOf,typeInfo,hte,hsz,sameAddr,e]
 simp [Op.equal,Op.maxDepth,h 9999]
theorem run_equal_pointer_other {P:Program} (w:World) (t:TypeId) {te:TypeId} {j:TypeInfo} (hp:P.underlying t=some (.pointer te)) (hte:P.info? te=some j) (hsz:j.size≠0) {b b2 off off' : Nat} {ca cb:Array Value} {ta tb:TypeId} {lo hi lo2 hi2:Nat} (hne:b≠b2) (ha:w.heap[b]?=some (.cells ca ta (lo,hi))) (h1:hi≤lo) (hb:w.heap[b2]?=some (.cells cb tb (lo2,hi2))) (h2:hi2≤lo2) :
  (Op.equal t (.pointer (some ⟨b,off,none⟩)) (.pointer (some ⟨b2,off',none⟩))).run P w=.ok false w:=by
 have h:∀ d:Nat,(Op.equalIn (d + 1) t (.pointer (some ⟨b,off,none⟩)) (.pointer (some ⟨b2,off',none⟩))).run P w=.ok false w:=fun d=>by
  simp [Op.equalIn,run_underlying hp,sizeOf,typeInfo,hte,hsz,run_sameAddr_apart w hne ha h1 hb h2]
 simp [Op.equal,Op.maxDepth,h 9999]
section
variable {P : Program} {o : Oper} {a : Act} {w : World} {K : Act → World → Prop} {Q : Exit → Act → World → Prop} {B : Kp} {m0 m : Mem} {bk : Bks} {st : List Slot} {fr : List V}
theorem opt_lo {k:IntKind} {l d:Nat} {lo:Option Operand} (hfr:FrRep m bk a.tmps fr) (hl:∀ y,lo=some y→evO fr y=.lit (.int k l)) (hl0:lo=none→l=d):lo.map a.eval=some (.int k l)∨lo.map a.eval=none∧l=d:=by
 cases lo with
 | none=>exact .inr ⟨rfl,hl0 rfl⟩
 | some y =>
  left
  have:=hfr.ev y
  rw [hl y rfl] at this
  simp [this.int]
def AOp.late:AOp→Bool
 | .eqa .. | .bd .. | .mf .. | .cl .. | .cv .. | .lent .. | .lens .. | .b2s .. | .ap .. | .st .. | .al .. | .bx .. | .bs .. | .s2b .. | .mn .. | .mks .. | .clr ..=>true
 | _=>false
theorem pure_sound {ty:TypeId} {op:Op} {ao:AOp} {v:V} {rd:List Nat} {id:Nat} (he:o.op=op) (hty:o.type=ty) (hc:Cop P op ty ao) (hs:AStep P (evO fr) st id ao v rd []) (hsim:Sim B m0 m bk w st) (hg:GM m) (hfr:FrRep m bk a.tmps fr) (hlate:ao.late=false)
  (hK:∀ c w',Aft B m0 m bk w st v c w'→K (a.put o.dst c) w'):o.wp P a w K Q:=by
 cases hs with
 | mv x =>
  cases hc with
  | mv=>exact op_val (S:=pure (a.eval x)) (by simp [execOp,he]) rfl hsim (hfr.ev x) hK
  | «as»=>exact op_val (S:=pure (a.eval x)) (by simp [execOp,he]) rfl hsim (hfr.ev x) hK
  | @bs0 _ t e i hd hi =>
   have hz:Array.map (fun _:Nat=>(default:Value)) (Array.range 0)=#[]:=by apply Array.ext';simp
   have hrun:(Instr.buildSlice t 0 #[]).run P w=.ok (.slice (some ⟨w.heap.size,0,none⟩) 0 0) (w.alloc (.cells #[] e)):=by simp [Instr.buildSlice,run_underlying hd,sizeOf,typeInfo,hi,newRow,Instr.fill];rw [hz]
   have hex:(execOp a.eval o).run P w=.ok (.value (.slice (some ⟨w.heap.size,0,none⟩) 0 0)) (w.alloc (.cells #[] e)):=by
    unfold execOp
    simp only [he,Sem.run_bind]
    rw [show (Array.map (fun x:Nat × Operand=>(x.1,a.eval x.2)) #[])=#[] by simp,hrun]
    rfl
   refine wp_val hex (hK _ _ ⟨m,bk,hsim.world (by simp) (fun k hk=>heap_alloc_old w _ hk),.slnil fun _=>rfl,fun _ _ h=>h,fun _ _ h=>h,(Bel.refl B w).alloc hsim.base _⟩)
 | pick c x y h =>
  rename_i t
  cases hc
  have hcv:=hfr.ev c
  rw [h] at hcv
  refine wp_val (c:=if t then a.eval x else a.eval y) (w':=w) ?_ (hK _ _ (Aft.same hsim ?_))
  ·simp [execOp,he,hcv.int,asBool]
  ·cases t
   ·exact hfr.ev y
   ·exact hfr.ev x
 | @ldE sz ag x cs h hs =>
  cases hc with
  | @ld _ t d i _ hd hi =>
   have hx:=hfr.ev x
   rw [h] at hx
   cases hce:a.eval x <;> rw [hce] at hx <;> try (cases hx;done)
   rename_i A
   obtain ⟨b,oo,hA,_⟩:=eptr_drop hx 0
   injection hA with hA
   subst hA
   cases hx with
   | @eptr _ _ _ us _ h1 hm h =>
    refine op_val (S:=loadVar t ⟨b,oo,none⟩) (by simp [execOp,he,hce,Instr.loadAt,Instr.sureAddr]) (run_loadVar hd hi w b oo us fun k hk=>hsim.mem _ _ (hm k (by omega))) hsim (rep_part hs h1 fun k hk _=>rep_usE hm h k hk) hK
 | @ldP sz ag x i off cs frz h hi hs =>
  cases hc with
  | @ld _ t d ii _ hd hii =>
   have hx:=hfr.ev x
   rw [h] at hx
   cases hce:a.eval x <;> rw [hce] at hx <;> try (cases hx;done)
   cases hx with
   | @ptr _ _ b' sz' _ hb =>
    rcases hsim.blk _ _ _ hi with ⟨_,_,hn⟩ | ⟨b,sz,arr,tt,lo,hi',hl⟩
    ·rw [hn] at hb;cases hb
    have hbb:=hl.at_
    rw [hb] at hbb
    injection hbb with hbb
    injection hbb with hb1 hb2
    subst hb1 hb2
    have hcell:∀ k,k < cs.length→w.cell? ⟨b',k,none⟩=some (arr.getD k undef):=fun k hk=>by
     obtain ⟨u,hu,_⟩:=hl.rep k hk
     simp [World.cell?,hl.heap,hu,Array.getD_eq_getD_getElem?]
    refine op_val (S:=loadVar t ⟨b',off,none⟩) (by simp [execOp,he,hce,Instr.loadAt,Instr.sureAddr]) (run_loadVar hd hii w b' off (fun k=>arr.getD (off + k) undef) fun k hk=>hcell _ (by omega)) hsim
     (rep_part (by simp;omega) (fun u hu=>hl.one u (List.mem_of_mem_drop hu)) fun k hk _=>?_) hK
    obtain ⟨u,hu,hr⟩:=hl.rep (off + k) (by simp at hk;omega)
    simp only [List.getElem_drop]
    simpa [Array.getD_eq_getD_getElem?,hu] using hr
 | @ncP x i off h =>
  cases hc
  have hx:=hfr.ev x
  rw [h] at hx
  cases hce:a.eval x <;> rw [hce] at hx <;> try (cases hx;done)
  cases hx with
  | ptr hb=>exact wp_val (by simp [execOp,he,hce]) (hK _ _ (Aft.same hsim (.ptr hb)))
 | @ncE x cs h =>
  cases hc
  have hx:=hfr.ev x
  rw [h] at hx
  have hx':=hx
  cases hce:a.eval x <;> rw [hce] at hx <;> try (cases hx;done)
  cases hx with
  | eptr=>rw [hce] at hx';exact wp_val (by simp [execOp,he,hce]) (hK _ _ (Aft.same hsim hx'))
 | @ncC x g caps h =>
  cases hc
  have hx:=hfr.ev x
  rw [h] at hx
  have hx':=hx
  cases hce:a.eval x <;> rw [hce] at hx <;> try (cases hx;done)
  cases hx with
  | clo=>rw [hce] at hx';exact wp_val (by simp [execOp,he,hce]) (hK _ _ (Aft.same hsim hx'))
 | @binI op x y k p q r hx hy hr =>
  cases hc
  have h1:=(hx ▸ hfr.ev x).int
  have h2:=(hy ▸ hfr.ev y).int
  refine wp_val (c:=r) (w':=w) ?_ (hK _ _ (Aft.same hsim (.lit ?_)))
  ·simp only [execOp,he,h1,h2,Sem.run_bind,run_eqGuard_one (a:=.int k p) (fun _ h=>by cases h) (fun h=>by cases h),Result.andThen_ok,run_binI hr,Sem.run_pure]
  ·cases op <;> simp only [intB,Option.some.injEq,reduceCtorEq,Option.ite_none_left_eq_some] at hr <;> first | (subst hr;rfl) | (obtain ⟨_,rfl⟩:=hr;rfl)
 | @binSh op x y k p k' q r hx hy hr =>
  cases hc
  have h1:=(hx ▸ hfr.ev x).int
  have h2:=(hy ▸ hfr.ev y).int
  refine wp_val (c:=r) (w':=w) ?_ (hK _ _ (Aft.same hsim (.lit ?_)))
  ·simp only [execOp,he,h1,h2,Sem.run_bind,run_eqGuard_one (a:=.int k p) (fun _ h=>by cases h) (fun h=>by cases h),Result.andThen_ok,run_binSh hr,Sem.run_pure]
  ·unfold intSh at hr
   split at hr
   ·cases hr
   ·cases op <;> simp only [Option.some.injEq,reduceCtorEq] at hr <;> (subst hr;rfl)
 | @binS op x y p q r hx hy hr =>
  cases hc
  have h1:=(hx ▸ hfr.ev x).int
  have h2:=(hy ▸ hfr.ev y).int
  refine wp_val (c:=r) (w':=w) ?_ (hK _ _ (Aft.same hsim (.lit ?_)))
  ·simp only [execOp,he,h1,h2,Sem.run_bind,run_eqGuard_one (a:=.string p) (fun _ h=>by cases h) (fun h=>by cases h),Result.andThen_ok,run_binS hr,Sem.run_pure]
  ·cases op <;> simp only [strB,Option.some.injEq,reduceCtorEq,Option.ite_none_right_eq_some] at hr <;> first | (subst hr;rfl) | (obtain ⟨_,rfl⟩:=hr;rfl)
 | @binb neg x y p q hx hy =>
  cases hc with
  | @binb _ _ t _ _ t' hd =>
  have h1:=(hx ▸ hfr.ev x).int
  have h2:=(hy ▸ hfr.ev y).int
  refine wp_val (c:=.bool (if neg then p != q else p == q)) (w':=w) ?_ (hK _ _ (Aft.same hsim (.lit rfl)))
  have heq:(Op.equal t (.bool p) (.bool q)).run P w=.ok (p == q) w:=by
   show (Op.equalIn (9999 + 1) t (.bool p) (.bool q)).run P w=_
   rw [Op.equalIn];simp [run_underlying hd]
  cases neg <;> simp only [execOp,he,h1,h2,Sem.run_bind,run_eqGuard_one (a:=.bool p) (fun _ h=>by cases h) (fun h=>by cases h),Result.andThen_ok,binOp,heq,Sem.run_pure,if_true,if_false,Bool.false_eq_true,bne]
 | @eqpP neg x y i off hx hy =>
  cases hc with
  | @eqp _ _ t _ _ t' jt hd hjt hjs =>
  have h2:=(hy ▸ hfr.ev y).int
  have h0:=hfr.ev x
  rw [hx] at h0
  cases hce:a.eval x <;> rw [hce] at h0 <;> try (cases h0;done)
  cases h0 with
  | @ptr _ _ b sz _ hb =>
  have heq:=run_equal_pointer_nil (P:=P) w t (some ⟨b,off,none⟩) hd
  refine wp_val (c:=.bool neg) (w':=w) ?_ (hK _ _ (Aft.same hsim (.lit rfl)))
  cases neg <;> simp only [execOp,he,h2,hce,Sem.run_bind,run_eqGuard_one (a:=.pointer (some ⟨b,off,none⟩)) (fun _ h=>by cases h) (fun h=>by cases h),Result.andThen_ok,binOp,heq,Sem.run_pure,if_true,if_false,Bool.false_eq_true,Option.isNone_some,Bool.not_false]
 | @eqpQ neg x y i off j off' ci fi cj fj hx hy hne hi hj =>
  cases hc with
  | @eqp _ _ t _ _ t' jt hd hjt hjs =>
  have h0:=hfr.ev x
  have h2:=hfr.ev y
  rw [hx] at h0
  rw [hy] at h2
  cases hce:a.eval x <;> rw [hce] at h0 <;> try (cases h0;done)
  cases hcf:a.eval y <;> rw [hcf] at h2 <;> try (cases h2;done)
  cases h0 with
  | @ptr _ _ b sz _ hb =>
  cases h2 with
  | @ptr _ _ b2 sz2 _ hb2 =>
  rcases hsim.blk _ _ _ hi with ⟨_,_,hn⟩ | ⟨p1,p2,arr,tt,lo,hi',hl⟩
  ·rw [hn] at hb;cases hb
  rcases hsim.blk _ _ _ hj with ⟨_,_,hn⟩ | ⟨q1,q2,arr2,tt2,lo2,hi2,hl2⟩
  ·rw [hn] at hb2;cases hb2
  have e1:=hl.at_
  rw [hb] at e1
  injection e1 with e1
  injection e1 with e1 e3
  subst e1 e3
  have e2:=hl2.at_
  rw [hb2] at e2
  injection e2 with e2
  injection e2 with e2 e3
  subst e2 e3
  have hbb:b≠b2:=fun e=>hne (hsim.inj i j _ _ _ _ _ _ hi hj hb hb2 e)
  have heq:=run_equal_pointer_other (P:=P) w t hd hjt hjs (off:=off) (off':=off') hbb hl.heap hl.free hl2.heap hl2.free
  refine wp_val (c:=.bool neg) (w':=w) ?_ (hK _ _ (Aft.same hsim (.lit rfl)))
  cases neg <;> simp only [execOp,he,hcf,hce,Sem.run_bind,run_eqGuard_one (a:=.pointer (some ⟨b,off,none⟩)) (fun _ h=>by cases h) (fun h=>by cases h),Result.andThen_ok,binOp,heq,Sem.run_pure,if_true,if_false,Bool.false_eq_true,Bool.not_false]
 | @eqpS neg x y i off off' hx hy =>
  cases hc with
  | @eqp _ _ t _ _ t' jt hd hjt hjs =>
  have h0:=hfr.ev x
  have h2:=hfr.ev y
  rw [hx] at h0
  rw [hy] at h2
  cases hce:a.eval x <;> rw [hce] at h0 <;> try (cases h0;done)
  cases hcf:a.eval y <;> rw [hcf] at h2 <;> try (cases h2;done)
  cases h0 with
  | @ptr _ _ b sz _ hb =>
  cases h2 with
  | @ptr _ _ b2 sz2 _ hb2 =>
  have e:b2=b:=by rw [hb] at hb2;injection hb2 with h;injection h with h1 h2;exact h1.symm
  subst e
  have heq:=run_equal_pointer_one (P:=P) w t hd hjt hjs (b:=b2) (off:=off) (off':=off')
  refine wp_val (c:=.bool (if neg then off != off' else off == off')) (w':=w) ?_ (hK _ _ (Aft.same hsim (.lit rfl)))
  cases neg <;> simp only [execOp,he,hcf,hce,Sem.run_bind,run_eqGuard_one (a:=.pointer (some ⟨b2,off,none⟩)) (fun _ h=>by cases h) (fun h=>by cases h),Result.andThen_ok,binOp,heq,Sem.run_pure,if_true,if_false,Bool.false_eq_true,bne]
 | @eqpN neg x y hx hy =>
  cases hc with
  | @eqp _ _ t _ _ t' jt hd hjt hjs =>
  have h2:=(hy ▸ hfr.ev y).int
  have h1:=(hx ▸ hfr.ev x).int
  have heq:=run_equal_pointer_nil (P:=P) w t none hd
  refine wp_val (c:=.bool (!neg)) (w':=w) ?_ (hK _ _ (Aft.same hsim (.lit rfl)))
  cases neg <;> simp only [execOp,he,h2,h1,Sem.run_bind,run_eqGuard_one (a:=.pointer none) (fun _ h=>by cases h) (fun h=>by cases h),Result.andThen_ok,binOp,heq,Sem.run_pure,if_true,if_false,Bool.false_eq_true,Option.isNone_none,Bool.not_true,Bool.not_false]
 | @un op x p r hx hr =>
  cases hc
  have h1:=(hx ▸ hfr.ev x).int
  refine op_val (S:=Op.unary op (a.eval x)) (c:=r) (by simp [execOp,he]) (by rw [h1];exact run_un hr w) hsim (.lit ?_) hK
  unfold unV at hr
  split at hr <;> first | (simp only [Option.some.injEq] at hr;subst hr;rfl) | cases hr
 | @cvi k x k' n hx =>
  cases hc with
  | @cvi _ s d _ _ _ hs hd =>
  have h1:=(hx ▸ hfr.ev x).int
  refine op_val (S:=convert s d (a.eval x)) (c:=.int k (k.wrap n)) (by simp [execOp,he]) ?_ hsim (.lit rfl) hK
  simp [convert,run_underlying hs,run_underlying hd,h1,Conv.intToInt]
 | @cvs x s hx =>
  cases hc with
  | @cvs _ s d _ hs hd =>
  have h1:=(hx ▸ hfr.ev x).int
  refine op_val (S:=convert s d (a.eval x)) (c:=.string _) (by simp [execOp,he]) ?_ hsim (.lit rfl) hK
  simp [convert,run_underlying hs,run_underlying hd,h1]
 | @faP o' x i off h =>
  cases hc with
  | @fa _ t fs f _ n ii hd hf hi h0 =>
  have hx:=hfr.ev x
  rw [h] at hx
  cases hce:a.eval x <;> rw [hce] at hx <;> try (cases hx;done)
  cases hx with
  | ptr hb=>exact op_val (S:=Instr.fieldAt t (a.eval x) n) (by simp [execOp,he]) (by rw [hce];exact addr_field hd hf hi h0 _ _ w) hsim (.ptr hb) hK
 | @faE o' x cs h hs =>
  cases hc with
  | @fa _ t fs f _ n ii hd hf hi h0 =>
  have hx:=hfr.ev x
  rw [h] at hx
  obtain ⟨b,oo,hce,hx'⟩:=eptr_drop hx f.offset
  exact op_val (S:=Instr.fieldAt t (a.eval x) n) (by simp [execOp,he]) (by rw [hce];exact addr_field hd hf hi h0 _ _ w) hsim hx' hK
 | @fd o' sz ag x cs h hs =>
  cases hc with
  | @fd _ t fs f _ n ii d hd hf hi hdd =>
  have hx:=hfr.ev x
  rw [h] at hx
  obtain ⟨ds,hce,hl,h1,h2⟩:=agg_inv hx
  refine op_val (S:=Instr.field t (a.eval x) n) (by simp [execOp,he]) ?_ hsim (rep_aggpart hl h1 h2 hs) hK
  simp [Instr.field,run_underlying hd,hf,hce,asAgg,run_part hdd hi w ds f.offset (by rw [hl];exact hs)]
 | @ixs es x ix xs full k n j h hi hj hn hes =>
  cases hc with
  | @ixs _ t e i _ _ hd hii =>
  have hx:=hfr.ev x
  rw [h] at hx
  obtain ⟨b,oo,cap,hce,hx'⟩:=sl_at hx hn hes
  have h1:=(hi ▸ hfr.ev ix).int
  subst hj
  exact op_val (S:=Instr.indexAt t (a.eval x) (a.eval ix)) (by simp [execOp,he]) (by rw [hce,h1];exact index_slice hd hii w b oo _ cap n k hn) hsim hx' hK
 | @ixo es x ix i off mm full k n j h hi hj hn =>
  cases hc with
  | @ixs _ t e ii _ _ hd hii =>
  have hx:=hfr.ev x
  rw [h] at hx
  have h1:=(hi ▸ hfr.ev ix).int
  subst hj
  cases hce:a.eval x <;> rw [hce] at hx <;> try (cases hx;done)
  cases hx with
  | oslnil=>exact absurd hn (Nat.not_lt_zero _)
  | osl hb=>exact op_val (S:=Instr.indexAt t (a.eval x) (a.eval ix)) (by simp [execOp,he]) (by rw [hce,h1];exact index_slice hd hii w _ _ _ _ n k hn) hsim (.ptr hb) hK
 | @ixa len es x ix i off k n j h hi hj hn =>
  cases hc with
  | @ixa _ t e ii _ _ _ hd hii =>
  have hx:=hfr.ev x
  rw [h] at hx
  have h1:=(hi ▸ hfr.ev ix).int
  subst hj
  cases hce:a.eval x <;> rw [hce] at hx <;> try (cases hx;done)
  cases hx with
  | ptr hb=>exact op_val (S:=Instr.indexAt t (a.eval x) (a.eval ix)) (by simp [execOp,he]) (by rw [hce,h1];exact index_array hd hii w _ _ n k hn) hsim (.ptr hb) hK
 | @ixae len es x ix cs k n j h hi hj hn hs =>
  cases hc with
  | @ixa _ t e ii _ _ _ hd hii =>
  have hx:=hfr.ev x
  rw [h] at hx
  have h1:=(hi ▸ hfr.ev ix).int
  subst hj
  obtain ⟨b,oo,hce,hx'⟩:=eptr_drop hx (n * ii.size)
  exact op_val (S:=Instr.indexAt t (a.eval x) (a.eval ix)) (by simp [execOp,he]) (by rw [hce,h1];exact index_array hd hii w b oo n k hn) hsim hx' hK
 | @ixg len es ag x ix cs k n j h hi hj hn hs =>
  cases hc with
  | @ixg _ t e ii _ _ _ d hd hii hdd =>
  have hx:=hfr.ev x
  rw [h] at hx
  have h1:=(hi ▸ hfr.ev ix).int
  subst hj
  obtain ⟨ds,hce,hl,h3,h2⟩:=agg_inv hx
  refine op_val (S:=Instr.index t (a.eval x) (a.eval ix)) (by simp [execOp,he]) ?_ hsim (rep_aggpart hl h3 h2 hs) hK
  simp [Instr.index,h1,hce,asIntOf,run_underlying hd,hn,run_sizeOf hii,run_part hdd hii w ds (n * ii.size) (by rw [hl];exact hs)]
 | @ixt x ix s k n j h hi hj hn =>
  cases hc with
  | @ixt _ t _ _ hd =>
  have h0:=(h ▸ hfr.ev x).int
  have h1:=(hi ▸ hfr.ev ix).int
  subst hj
  refine op_val (S:=Instr.index t (a.eval x) (a.eval ix)) (c:=.int .u8 s[n].toNat) (by simp [execOp,he]) ?_ hsim (.lit rfl) hK
  have hs:s[n]?=some s[n]:=by simp [hn]
  simp [Instr.index,h1,h0,asIntOf,run_underlying hd,hs]
 | @slt x lo hi s k k' l hh hx hl hl0 hh' hh0 h1 h2 =>
  cases hc with
  | @slt _ t _ _ _ hd =>
  have h0:=(hx ▸ hfr.ev x).int
  refine op_val (S:=Instr.sliceAt t (a.eval x) (lo.map a.eval) (hi.map a.eval) none) (c:=.string (s.extract l hh)) (by simp [execOp,he]) ?_ hsim (.lit rfl) hK
  simp [Instr.sliceAt,Instr.slice,run_underlying hd,h0,run_bounds_slice false (opt_lo hfr hl hl0) (opt_lo hfr hh' hh0) h1 h2]
 | @slsE es x lo xs full k l hx hl hl0 h1 hes =>
  cases hc with
  | @sls _ t e ii _ _ _ _ hd hii =>
  have hx':=hfr.ev x
  rw [hx] at hx'
  have hxx:=hx'
  cases hce:a.eval x <;> rw [hce] at hx' <;> try (cases hx';done)
  rename_i A n cap
  have hn:n=xs.length∧n≤cap∧(full=true→cap=n):=by
   cases hx' with
   | slnil hf=>exact ⟨rfl,by omega,hf⟩
   | sl hn hc hf=>exact ⟨hn,hc,hf⟩
  obtain ⟨hn1,hn2,hn3⟩:=hn
  subst hn1
  rw [hce] at hxx
  have:=sl_sub (full':=full) (mm:=cap) hxx hes h1 (Nat.le_refl _) (by omega) (Nat.le_refl _) fun e=>hn3 e
  rw [List.take_of_length_le (by simp)] at this
  refine op_val (S:=Instr.sliceAt t (a.eval x) (lo.map a.eval) none none) (by simp [execOp,he]) ?_ hsim this hK
  simp [Instr.sliceAt,Instr.slice,run_underlying hd,hce,run_sizeOf hii,run_bounds_slice (k':=.i64) true (opt_lo hfr hl hl0) (.inr ⟨rfl,rfl⟩) h1 hn2]
 | @sls es x lo hi xs full k k' l hh hx hl hl0 hh' hh0 h1 h2 hes =>
  cases hc with
  | @sls _ t e ii _ _ _ _ hd hii =>
  have hx':=hfr.ev x
  rw [hx] at hx'
  have hxx:=hx'
  cases hce:a.eval x <;> rw [hce] at hx' <;> try (cases hx';done)
  rename_i A n cap
  have hn:n=xs.length∧n≤cap:=by
   cases hx' with
   | slnil hf=>exact ⟨rfl,by omega⟩
   | sl hn hc hf=>exact ⟨hn,hc⟩
  obtain ⟨hn1,hn2⟩:=hn
  subst hn1
  rw [hce] at hxx
  refine op_val (S:=Instr.sliceAt t (a.eval x) (lo.map a.eval) (hi.map a.eval) none) (by simp [execOp,he]) ?_ hsim (sl_sub (full':=false) (mm:=cap) hxx hes h1 h2 (by omega) (Nat.le_refl _) fun e=>by cases e) hK
  simp [Instr.sliceAt,Instr.slice,run_underlying hd,hce,run_sizeOf hii,run_bounds_slice true (opt_lo hfr hl hl0) (opt_lo hfr hh' hh0) h1 (Nat.le_trans h2 hn2)]
 | @slsO es x lo hi i off n full k k' l hh hx hl hl0 hh' hh0 h1 h2 h3 =>
  cases hc with
  | @sls _ t e ii _ _ _ _ hd hii =>
  have hx':=hfr.ev x
  rw [hx] at hx'
  cases hce:a.eval x <;> rw [hce] at hx' <;> try (cases hx';done)
  cases hx' with
  | oslnil =>
   rename_i A
   have e1:hh=0:=by omega
   have e2:l=0:=by omega
   subst e1 e2
   have hr:Rep m bk (.slice A 0 0) (.osl i (0 + 0 * ii.size) (0 - 0) ii.size false):=by rw [Nat.zero_mul];exact .oslnil
   refine op_val (S:=Instr.sliceAt t (a.eval x) (lo.map a.eval) (hi.map a.eval) none) (by simp [execOp,he]) ?_ hsim hr hK
   simp [Instr.sliceAt,Instr.slice,run_underlying hd,hce,run_sizeOf hii,run_bounds_slice true (opt_lo hfr hl hl0) (opt_lo hfr hh' hh0) (Nat.le_refl 0) (Nat.le_refl 0)]
  | @osl _ _ b sz _ _ _ _ _ hb hcc hf hs =>
  rename_i cap
  have hr:Rep m bk (.slice (if cap=l then (some ⟨b,off,none⟩ : Option Addr) else (some ⟨b,off,none⟩ : Option Addr).map (·.add (l * ii.size))) (hh - l) (cap - l)) (.osl i (off + l * ii.size) (hh - l) ii.size false):=by
   have hle:l * ii.size≤cap * ii.size:=Nat.mul_le_mul_right _ (by omega)
   have hsub:(cap - l) * ii.size=cap * ii.size - l * ii.size:=Nat.sub_mul _ _ _
   by_cases hcl:cap=l
   ·have:l=0:=by omega
    subst this
    rw [if_pos hcl]
    simp only [Nat.zero_mul,Nat.add_zero]
    exact .osl hb (by omega) (fun e=>by cases e) (by simpa using hs)
   ·rw [if_neg hcl]
    simp only [Option.map_some,Addr.add_lit]
    exact .osl hb (by omega) (fun e=>by cases e) (by omega)
  refine op_val (S:=Instr.sliceAt t (a.eval x) (lo.map a.eval) (hi.map a.eval) none) (by simp [execOp,he]) ?_ hsim hr hK
  simp [Instr.sliceAt,Instr.slice,run_underlying hd,hce,run_sizeOf hii,run_bounds_slice true (opt_lo hfr hl hl0) (opt_lo hfr hh' hh0) h1 (Nat.le_trans h2 hcc)]
 | @slsZ es x lo hi i off n full k k' hx hl hl0 hh' =>
  cases hc with
  | @sls _ t e ii _ _ _ _ hd hii =>
  have hx':=hfr.ev x
  rw [hx] at hx'
  cases hce:a.eval x <;> rw [hce] at hx' <;> try (cases hx';done)
  cases hx' with
  | oslnil =>
   rename_i A
   have hr:Rep m bk (.slice A 0 0) (.sl [] false):=.slnil (fun e=>by cases e)
   refine op_val (S:=Instr.sliceAt t (a.eval x) (lo.map a.eval) (hi.map a.eval) none) (by simp [execOp,he]) ?_ hsim hr hK
   simp [Instr.sliceAt,Instr.slice,run_underlying hd,hce,run_sizeOf hii,run_bounds_slice true (opt_lo hfr hl hl0) (opt_lo hfr hh' (fun _=>rfl)) (Nat.le_refl 0) (Nat.le_refl 0)]
  | @osl _ _ b sz _ _ _ _ _ hb hcc hf hs =>
  rename_i cap
  have hr:Rep m bk (.slice (if cap=n then (some ⟨b,off,none⟩ : Option Addr) else (some ⟨b,off,none⟩ : Option Addr).map (·.add (n * ii.size))) (n - n) (cap - n)) (.sl [] false):=by
   rw [Nat.sub_self];exact .slnil (fun e=>by cases e)
  refine op_val (S:=Instr.sliceAt t (a.eval x) (lo.map a.eval) (hi.map a.eval) none) (by simp [execOp,he]) ?_ hsim hr hK
  simp [Instr.sliceAt,Instr.slice,run_underlying hd,hce,run_sizeOf hii,run_bounds_slice true (opt_lo hfr hl hl0) (opt_lo hfr hh' (fun _=>rfl)) (Nat.le_refl n) hcc]
 | @sls3 es x lo hi mx xs full k k' k'' l hh hx hl hl0 hh' hm h1 h2 hes =>
  cases hc with
  | @sls _ t e ii _ _ _ _ hd hii =>
  have hx':=hfr.ev x
  rw [hx] at hx'
  have hxx:=hx'
  cases hce:a.eval x <;> rw [hce] at hx' <;> try (cases hx';done)
  rename_i A n cap
  have hn:n=xs.length∧n≤cap:=by
   cases hx' with
   | slnil hf=>exact ⟨rfl,by omega⟩
   | sl hn hc hf=>exact ⟨hn,hc⟩
  obtain ⟨hn1,hn2⟩:=hn
  subst hn1
  rw [hce] at hxx
  have g1:=(hh' ▸ hfr.ev hi).int
  have g2:=(hm ▸ hfr.ev mx).int
  refine op_val (S:=Instr.sliceAt t (a.eval x) (lo.map a.eval) (some (a.eval hi)) (some (a.eval mx))) (by simp [execOp,he]) ?_ hsim (sl_sub (mm:=hh) hxx hes h1 h2 (Nat.le_refl _) (by omega) fun _=>rfl) hK
  simp [Instr.sliceAt,Instr.slice,run_underlying hd,hce,run_sizeOf hii,g1,g2,run_bounds_slice3 true (opt_lo hfr hl hl0) h1 (Nat.le_refl _) (Nat.le_trans h2 hn2)]
 | @ex x i vs v h hv =>
  cases hc
  have hx:=hfr.ev x
  rw [h] at hx
  cases hce:a.eval x <;> rw [hce] at hx <;> try (cases hx;done)
  rename_i cs
  cases hx with
  | tup hl hr =>
  have hi:i < vs.length:=(List.getElem?_eq_some_iff.1 hv).1
  have hi' : i < cs.size:=by omega
  have hvv:vs[i]=v:=(List.getElem?_eq_some_iff.1 hv).2
  refine op_val (S:=Instr.extract (a.eval x) i) (c:=cs[i]) (by simp [execOp,he]) ?_ hsim (by rw [← hvv];exact hr i hi' hi) hK
  simp [Instr.extract,hce,hi']
 | _=>simp [AOp.late] at hlate
end
end Go.Proofs.YtpkodpcfafipdaaGreatDoor

