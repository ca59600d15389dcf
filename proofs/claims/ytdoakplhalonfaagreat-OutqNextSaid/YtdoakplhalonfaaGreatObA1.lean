/- A part of the proof: 3 texts joined. -/
import Derived.Test.YtdoakplhalonfaaGreatOaA11
import Derived.Test.YtdoakplhalonfaaGreatOaA6
import Derived.Test.YtdoakplhalonfaaGreatOaA1
import Derived.KernelRfl
import Derived.HandedShaped
import Derived.Shelf.Vars
import Derived.Lib.SmallJoins
import Derived.Deep.Slices
import Derived.ProofKit
import Derived.Test.YtdoakplhalonfaaGreatChecked
set_option linter.all false
namespace Go.Proofs.YtdoakplhalonfaaGreat
open Go.RowKit
theorem callsV_old {P:Program} {f:FuncId} {args:List V} {rv:V} {v:Value} (cs:Array Value) (ha:∀ (m:Mem) (cargs:Array Value),RepA m noBk cargs args→cargs=cs) (hc:∀ w,ML w→Calls P f cs w (Ret w v)) (hr:∀ m,Rep m noBk v rv):CallsV P f args rv:=by
 intro m w cargs hg hmem hargs
 obtain rfl:=ha m cargs hargs
 obtain ⟨n,hn⟩:=hg
 have hml:=hmem _ _ hn
 refine (hc w ⟨by have:=cell_lt hml;omega,n,hml⟩).mono ?_
 rintro e w' ⟨rfl,hb⟩
 exact ⟨v,m,rfl,hb,fun a u h=>(hb.cell (cell_lt (hmem a u h))).trans (hmem a u h),fun _ _ h=>h,fun _ _ h=>.inl h,hr m⟩
theorem lits_eq {m:Mem} {cargs:Array Value}:∀ {vs:List Value},RepA m noBk cargs (vs.map V.lit)→cargs=vs.toArray:=by
 intro vs h
 apply Array.ext
 ·have:=h.1;simpa using this
 ·intro i h1 h2
  have hl:i < (vs.map V.lit).length:=by simpa using h2
  have:=h.2 i h1 hl
  simp only [List.getElem_map] at this
  rw [this.int];simp
theorem ret_of {w:World} {v:Value} {P:Program} {f:FuncId} {cs:Array Value} (h:Calls P f cs w fun e w'=>e=.returned v∧w=w'):Calls P f cs w (Ret w v):=h.mono fun e w' ⟨h1,h2⟩=>⟨h1,h2 ▸ Below.refl _ _⟩
theorem tup_lits {m:Mem} {vs:List Value} (h:∀ v ∈ vs,v.oneCell'=true):Rep m noBk (.tuple vs.toArray) (.tup (vs.map V.lit)) :=
 .tup (by simp) fun j h1 h2=>by simp only [List.getElem_map,List.getElem_toArray];exact .lit (h _ (List.getElem_mem _))
theorem isBare_v (s:ByteArray) (hs:s.size≤100000):CallsV Tryz.prog 110 [.s s] (.b (isBareL s.data.toList)) :=
 callsV_old #[.string s] (fun _ _ h=>lits_eq (vs:=[.string s]) h) (fun w hm=>isBare_c s w hm hs) fun _=>.lit rfl
theorem refIsBare_v (s:ByteArray) (hs:s.size≤100000):CallsV Tryz.prog 91 [.s s] (.b (isBareL s.data.toList)) :=
 callsV_old #[.string s] (fun _ _ h=>lits_eq (vs:=[.string s]) h) (fun w _=>refIsBare_c s w hs) fun _=>.lit rfl
theorem res_v (s:ByteArray) (hs:s.size≤100000):CallsV Tryz.prog 109 [.s s] (.i (resL s.data.toList)) :=
 callsV_old #[.string s] (fun _ _ h=>lits_eq (vs:=[.string s]) h) (fun w _=>res_c s w hs) fun _=>.lit rfl
theorem refRes_v (s:ByteArray) (hs:s.size≤100000):CallsV Tryz.prog 92 [.s s] (.i (resL s.data.toList)) :=
 callsV_old #[.string s] (fun _ _ h=>lits_eq (vs:=[.string s]) h) (fun w _=>refRes_c s w hs) fun _=>.lit rfl
theorem cut_v (s:ByteArray) (c:UInt8) (hs:s.size≤100000):CallsV Tryz.prog 124 [.s s,.s ⟨#[c]⟩] (.tup [.s (ba (s.data.toList.take (findL s.data.toList c))),.s (ba (s.data.toList.drop (findL s.data.toList c + 1))),.b (decide (findL s.data.toList c < s.data.toList.length))]) :=
 callsV_old #[.string s,.string ⟨#[c]⟩] (fun _ _ h=>lits_eq (vs:=[.string s,.string ⟨#[c]⟩]) h) (fun w hm=>cut_c s c w hm (by omega)) fun _=>tup_lits (vs:=[.string _,.string _,.bool _]) (by simp [Value.oneCell'])
end Go.Proofs.YtdoakplhalonfaaGreat

namespace Go.Proofs.YtdoakplhalonfaaGreat
theorem mix:Tryz.prog.follows .mixedOrders=true:=by kernel_rfl
end Go.Proofs.YtdoakplhalonfaaGreat

namespace Go.Proofs.YtdoakplhalonfaaGreat
open Go.ChangeShapes Go.WideShapes Go.ChangeAt Go.RowKit
theorem own0:ownKnob Tryz.prog.godebug=none:=by kernel_rfl
theorem laid0:laidOutB Tryz.prog=true:=by kernel_rfl
theorem maxLen_cell (W:World) (h:W.ShapedOpen Tryz.prog):∃ n,W.cell? ⟨0,0,none⟩=some (.int .i64 n) :=
 cell_of_shapedOpen_int (zero:=#[.int .i64 0]) (t:=3) h (of_decide_eq_true (by kernel_rfl)) (by kernel_rfl) (by kernel_rfl) (by kernel_rfl) (by kernel_rfl) (by kernel_rfl)
theorem trodAll_below {H:Type} {enc:TypeId × Value→H} {P:Program} (hl:laidOutB P=true) {W W' : World} (hb:Below W.heap.size W W') :
  ∀ {ts:List TypeId} {vs:List Value} {ds:List (DataW H)} {ps:List MemPlace},(∀ t ∈ ts,P.readableRec t=true∧t < P.types.size)→DataW.TrodAll enc P W 0 (fun _=>true) true ts vs ds ps →
   DataW.TrodAll enc P W' 0 (fun b=>decide (b < W.heap.size)) true ts vs ds ps
 | [],[],[],_,_,h=>h
 | t :: ts,v :: vs,d :: ds,ps,ht,h=>by
  have hlt:=h.lt
  obtain ⟨p,q,h1,h2,rfl⟩:=h
  exact ⟨p,q,Below.trod hl (ht t (by simp)).1 (ht t (by simp)).2 h1 hb (fun x hx=>hlt x (by simp [hx])),trodAll_below hl hb (fun t' h'=>ht t' (by simp [h'])) h2,rfl⟩
theorem flat_ok {α:Type} (f:α→V) (es:Nat) (hes:∀ a,(f a).cells.length=es):∀ (l:List α) (Q:Nat→V→Prop),(∀ i (hi:i < l.length) j (hj:j < (f l[i]).cells.length),Q (i * es + j) (f l[i]).cells[j])→∀ k (hk:k < (cellsM f l).length),Q k (cellsM f l)[k]
 | [],_,_,k,hk=>by simp [cellsM] at hk
 | a :: l,Q,h,k,hk=>by
  have e:cellsM f (a :: l)=(f a).cells++cellsM f l:=rfl
  have hea:=hes a
  by_cases hlt:k < es
  ·have h0:=h 0 (by simp) k (by simpa [hea] using hlt)
   simp only [e]
   rw [List.getElem_append_left (by omega)]
   simpa using h0
  ·have h1:=flat_ok f es hes l (fun n v=>Q (es + n) v) (fun i hi j hj=>by
    have:=h (i + 1) (by simp;omega) j (by simpa using hj)
    have e2:(i + 1) * es + j=es + (i * es + j):=by rw [Nat.add_mul];omega
    rw [e2] at this
    simpa using this) (k - es) (by rw [e,List.length_append] at hk;omega)
   have e3:es + (k - es)=k:=by omega
   rw [e3] at h1
   simp only [e]
   rw [List.getElem_append_right (by omega)]
   simpa [hea] using h1
theorem rep_slice {α:Type} [Inhabited α] {f:α→V} {es:Nat} {W:World} {a:Addr} {len cap:Nat} (hes:∀ a,(f a).cells.length=es) (h1:∀ a,∀ v ∈ (f a).cells,v.one=true) (hp:0 < es) (hc:len≤cap)
  (h:∀ i,i < len→∃ (x:α) (cs:List Value),W.cells? 0 (a.add (i * es)) es=some cs∧∀ j (hj:j < (f x).cells.length) (hj' : j < cs.length),Rep (fun p=>W.cell? p) noBk cs[j] (f x).cells[j]) :
  ∃ l:List α,l.length=len∧Rep (fun p=>W.cell? p) noBk (.slice (some a) len cap) (.sl (l.map f) false):=by
 classical
 rcases Nat.eq_zero_or_pos len with rfl | hlen
 ·exact ⟨[],rfl,.slnil (fun e=>by cases e)⟩
 ·have hx:∀ i,∃ x:α,i < len→∃ cs:List Value,W.cells? 0 (a.add (i * es)) es=some cs∧∀ j (hj:j < (f x).cells.length) (hj' : j < cs.length),Rep (fun p=>W.cell? p) noBk cs[j] (f x).cells[j]:=by
   intro i
   by_cases hi:i < len
   ·obtain ⟨x,hx⟩:=h i hi;exact ⟨x,fun _=>hx⟩
   ·exact ⟨default,fun g=>absurd g hi⟩
  obtain ⟨g,hg⟩:=Classical.axiomOfChoice hx
  have cell:∀ i (hi:i < len) j (hj:j < es),∃ u,W.cell? ((a.add (i * es)).add j)=some u∧Rep (fun p=>W.cell? p) noBk u ((f (g i)).cells[j]'(by rw [hes];exact hj)):=by
   intro i hi j hj
   obtain ⟨cs,h2,h3⟩:=hg i hi
   obtain ⟨_,hl,hcell⟩:=World.cells?_some h2
   exact ⟨cs[j]'(by omega),by rw [hcell j hj];simp [hl,hj],h3 j (by rw [hes];exact hj) (by omega)⟩
  have hspot:a.spot=none:=by
   obtain ⟨u,hu,_⟩:=cell 0 hlen 0 hp
   rw [Nat.zero_mul,show a.add 0=a from rfl,show a.add 0=a from rfl] at hu
   unfold World.cell? at hu
   cases hs:a.spot with
   | none=>rfl
   | some s =>
    rw [hs] at hu
    split at hu <;> simp at hu
  obtain ⟨b,o,sp⟩:=a
  simp only at hspot
  subst hspot
  have add1:∀ i j,((⟨b,o,none⟩ : Addr).add i).add j=⟨b,o + (i + j),none⟩:=by
   intro i j
   unfold Addr.add
   by_cases hi:i=0 <;> by_cases hj:j=0 <;> simp [hi,hj,Nat.add_assoc]
  refine ⟨(List.range len).map g,by simp,?_⟩
  have key:∀ k (hk:k < (cellsM f ((List.range len).map g)).length),∃ u,W.cell? ⟨b,o + k,none⟩=some u∧Rep (fun p=>W.cell? p) noBk u (cellsM f ((List.range len).map g))[k] :=
   flat_ok f es hes _ (fun k v=>∃ u,W.cell? ⟨b,o + k,none⟩=some u∧Rep (fun p=>W.cell? p) noBk u v) (fun i hi j hj=>by
    have hi' : i < len:=by simpa using hi
    simp only [List.getElem_map,List.getElem_range] at hj ⊢
    have:=cell i hi' j (by rw [hes] at hj;exact hj)
    rw [add1] at this
    exact this)
  have hfl:(((List.range len).map g).map f).flatMap V.cells=cellsM f ((List.range len).map g):=cellsM_map f _
  refine .sl (us:=fun k=>(W.cell? ⟨b,o + k,none⟩).getD undef) (es:=es) (by simp) hc (fun e=>by cases e) ?_ ?_ ?_ ?_
  ·intro x hx
   obtain ⟨y,_,rfl⟩:=List.mem_map.1 hx
   exact hes y
  ·rw [hfl]
   intro u hu
   obtain ⟨y,_,hy⟩:=List.mem_flatMap.1 hu
   exact h1 y u hy
  ·rw [hfl]
   intro k hk
   obtain ⟨u,hu,_⟩:=key k hk
   show W.cell? _=_
   rw [hu];rfl
  ·intro k hk
   have hk' : k < (cellsM f ((List.range len).map g)).length:=by rw [← hfl];exact hk
   obtain ⟨u,hu,hr⟩:=key k hk'
   simp only [hu,Option.getD_some]
   have:((((List.range len).map g).map f).flatMap V.cells)[k]=(cellsM f ((List.range len).map g))[k]:=by simp only [hfl]
   rw [this];exact hr
theorem rep_one {P:Program} {f:FuncId} {vs:List V} {W:World} {args:Array Value} (hc:CallsV P f vs (.b true)) (hg:∃ n,W.cell? ⟨0,0,none⟩=some (.int .i64 n)) (ha:RepA (fun a=>W.cell? a) noBk args vs) :
  Calls P f args W fun e W'=>e=.returned (.bool true)∧Below W.heap.size W W':=by
 refine (hc (fun a=>W.cell? a) W args hg (fun _ _ h=>h) ha).mono ?_
 rintro e W' ⟨c,m',rfl,hb,_,_,_,hr⟩
 exact ⟨by rw [hr.int],hb⟩
end Go.Proofs.YtdoakplhalonfaaGreat

