/- A part of the proof: 7 texts joined. -/
import Derived.Test.YtpkodpcfafipdaaGreatDoorSuA11
import Derived.Test.YtpkodpcfafipdaaGreatDoorSuA6
import Derived.Test.YtpkodpcfafipdaaGreatDoorSuA1
import Derived.KernelRfl
import Derived.HandedShaped
import Derived.Shelf.Vars
import Derived.Lib.SmallJoins
import Derived.Deep.Slices
import Derived.ProofKit
import Derived.Test.YtpkodpcfafipdaaGreatDoorChecked
set_option linter.all false
namespace Go.Proofs.YtpkodpcfafipdaaGreatDoor
open Go.RowKit
theorem callsV_oldT {P:Program} {f:FuncId} {args:List V} {rv:V} {v:Value} (cs:Array Value) (ha:∀ (m:Mem) (cargs:Array Value),RepA m noBk cargs args→cargs=cs) (hc:∀ w,ML w→GT w→Calls P f cs w (Ret w v)) (hr:∀ m,Rep m noBk v rv):CallsV P f args rv:=by
 intro m w cargs hg hmem hargs
 obtain rfl:=ha m cargs hargs
 obtain ⟨n,hn⟩:=hg
 have hml:=hmem _ _ hn
 refine (hc w ⟨by have:=cell_lt hml;omega,n,hml⟩ hmem.tab).mono ?_
 rintro e w' ⟨rfl,hb⟩
 exact ⟨v,m,rfl,hb,fun a u h=>(hb.cell (cell_lt (hmem a u h))).trans (hmem a u h),fun _ _ h=>h,fun _ _ h=>.inl h,hr m⟩
theorem callsV_old {P:Program} {f:FuncId} {args:List V} {rv:V} {v:Value} (cs:Array Value) (ha:∀ (m:Mem) (cargs:Array Value),RepA m noBk cargs args→cargs=cs) (hc:∀ w,ML w→Calls P f cs w (Ret w v)) (hr:∀ m,Rep m noBk v rv):CallsV P f args rv:=callsV_oldT cs ha (fun w h _=>hc w h) hr
theorem lits_eq {m:Mem} {cargs:Array Value}:∀ {vs:List Value},RepA m noBk cargs (vs.map V.lit)→cargs=vs.toArray:=by
 intro vs h
 apply Array.ext
 ·have:=h.1;simpa using this
 ·intro i h1 h2
  have hl:i < (vs.map V.lit).length:=by simpa using h2
  have:=h.2 i h1 hl
  simp only [List.getElem_map] at this
  rw [this.int];simp
theorem agg_lits {m:Mem} {bk:Bks} {c:Value} {vs:List Value} (h:Rep m bk c (.agg (vs.map V.lit))):c=.agg vs.toArray:=by
 obtain ⟨ds,rfl,hl,_,h2⟩:=agg_inv h
 congr 1
 apply Array.ext
 ·simpa using hl
 ·intro i g1 g2
  have hl2:i < (vs.map V.lit).length:=by simpa using g2
  have:=h2 i g1 hl2
  simp only [List.getElem_map] at this
  rw [this.int];simp
theorem ret_of {w:World} {v:Value} {P:Program} {f:FuncId} {cs:Array Value} (h:Calls P f cs w fun e w'=>e=.returned v∧w=w'):Calls P f cs w (Ret w v):=h.mono fun e w' ⟨h1,h2⟩=>⟨h1,h2 ▸ Below.refl _ _⟩
theorem isBare_v (s:ByteArray) (hs:s.size≤100000):CallsV Tryz.prog 76 [.s s] (.b (isBareL s.data.toList)) :=
 callsV_old #[.string s] (fun _ _ h=>lits_eq (vs:=[.string s]) h) (fun w hm=>isBare_c s w hm hs) fun _=>.lit rfl
theorem res_v (s:ByteArray) (hs:s.size≤100000):CallsV Tryz.prog 77 [.s s] (.i (resL s.data.toList)) :=
 callsV_old #[.string s] (fun _ _ h=>lits_eq (vs:=[.string s]) h) (fun w _=>res_c s w hs) fun _=>.lit rfl
theorem plain_v (s:ByteArray) (hs:s.size≤100000):CallsV Tryz.prog 75 [.s s] (.b (plainL s.data.toList)) :=
 callsV_old #[.string s] (fun _ _ h=>lits_eq (vs:=[.string s]) h) (fun w _=>plain_c s w (by omega)) fun _=>.lit rfl
end Go.Proofs.YtpkodpcfafipdaaGreatDoor

namespace Go.Proofs.YtpkodpcfafipdaaGreatDoor
theorem mix:Tryz.prog.follows .mixedOrders=true:=by kernel_rfl
end Go.Proofs.YtpkodpcfafipdaaGreatDoor

namespace Go.Proofs.YtpkodpcfafipdaaGreatDoor
open Go.ChangeShapes Go.WideShapes Go.ChangeAt Go.RowKit
theorem own0:ownKnob Tryz.prog.godebug=none:=by kernel_rfl
theorem laid0:laidOutB Tryz.prog=true:=by kernel_rfl
theorem maxLen_cell (W:World) (h:W.ShapedOpen Tryz.prog):∃ n,W.cell? ⟨0,0,none⟩=some (.int .i64 n) :=
 cell_of_shapedOpen_int (zero:=#[.int .i64 0]) (t:=3) h (of_decide_eq_true (by kernel_rfl)) (by kernel_rfl) (by kernel_rfl) (by kernel_rfl) (by kernel_rfl) (by kernel_rfl)
theorem trodAll_below {H:Type} {enc:TypeId × Value→H} {P:Program} (hl:laidOutB P=true) {W W' : World} (hb:Below W.heap.size W W') :
  ∀ {ts:List TypeId} {vs:List Value} {ds:List (DataW H)} {ps:List MemPlace},(∀ t ∈ ts,P.readableRec t=true∧t < P.types.size)→DataW.TrodAll enc P W 0 (fun _=>true) true ts vs ds ps →
   DataW.TrodAll enc P W' 0 (fun b=>decide (b < W.heap.size)) true ts vs ds ps
 | [],[],[],_,_,h=>h
 | t :: ts,v :: vs,d :: ds,ps,ht,h=>by
  have hlt:=h.lt
  obtain ⟨p,q,h1,h2,rfl⟩:=h
  exact ⟨p,q,Below.trod hl (ht t (by simp)).1 (ht t (by simp)).2 h1 hb (fun x hx=>hlt x (by simp [hx])),trodAll_below hl hb (fun t' h'=>ht t' (by simp [h'])) h2,rfl⟩
theorem flat_ok {α:Type} (f:α→V) (es:Nat) (hes:∀ a,(f a).cells.length=es):∀ (l:List α) (Q:Nat→V→Prop),(∀ i (hi:i < l.length) j (hj:j < (f l[i]).cells.length),Q (i * es + j) (f l[i]).cells[j])→∀ k (hk:k < (cellsM f l).length),Q k (cellsM f l)[k]
 | [],_,_,k,hk=>by simp [cellsM] at hk
 | a :: l,Q,h,k,hk=>by
  have e:cellsM f (a :: l)=(f a).cells++cellsM f l:=rfl
  have hea:=hes a
  by_cases hlt:k < es
  ·have h0:=h 0 (by simp) k (by simpa [hea] using hlt)
   simp only [e]
   rw [List.getElem_append_left (by omega)]
   simpa using h0
  ·have h1:=flat_ok f es hes l (fun n v=>Q (es + n) v) (fun i hi j hj=>by
    have:=h (i + 1) (by simp;omega) j (by simpa using hj)
    have e2:(i + 1) * es + j=es + (i * es + j):=by rw [Nat.add_mul];omega
    rw [e2] at this
    simpa using this) (k - es) (by rw [e,List.length_append] at hk;omega)
   have e3:es + (k - es)=k:=by omega
   rw [e3] at h1
   simp only [e]
   rw [List.getElem_append_right (by omega)]
   simpa [hea] using h1
theorem rep_slice {α:Type} [Inhabited α] {f:α→V} {es:Nat} {W:World} {a:Addr} {len cap:Nat} (hes:∀ a,(f a).cells.length=es) (h1:∀ a,∀ v ∈ (f a).cells,v.one=true) (hp:0 < es) (hc:len≤cap)
  (h:∀ i,i < len→∃ (x:α) (cs:List Value),W.cells? 0 (a.add (i * es)) es=some cs∧∀ j (hj:j < (f x).cells.length) (hj' : j < cs.length),Rep (fun p=>W.cell? p) noBk cs[j] (f x).cells[j]) :
  ∃ l:List α,l.length=len∧Rep (fun p=>W.cell? p) noBk (.slice (some a) len cap) (.sl (l.map f) false):=by
 classical
 rcases Nat.eq_zero_or_pos len with rfl | hlen
 ·exact ⟨[],rfl,.slnil (fun e=>by cases e)⟩
 ·have hx:∀ i,∃ x:α,i < len→∃ cs:List Value,W.cells? 0 (a.add (i * es)) es=some cs∧∀ j (hj:j < (f x).cells.length) (hj' : j < cs.length),Rep (fun p=>W.cell? p) noBk cs[j] (f x).cells[j]:=by
   intro i
   by_cases hi:i < len
   ·obtain ⟨x,hx⟩:=h i hi;exact ⟨x,fun _=>hx⟩
   ·exact ⟨default,fun g=>absurd g hi⟩
  obtain ⟨g,hg⟩:=Classical.axiomOfChoice hx
  have cell:∀ i (hi:i < len) j (hj:j < es),∃ u,W.cell? ((a.add (i * es)).add j)=some u∧Rep (fun p=>W.cell? p) noBk u ((f (g i)).cells[j]'(by rw [hes];exact hj)):=by
   intro i hi j hj
   obtain ⟨cs,h2,h3⟩:=hg i hi
   obtain ⟨_,hl,hcell⟩:=World.cells?_some h2
   exact ⟨cs[j]'(by omega),by rw [hcell j hj];simp [hl,hj],h3 j (by rw [hes];exact hj) (by omega)⟩
  have hspot:a.spot=none:=by
   obtain ⟨u,hu,_⟩:=cell 0 hlen 0 hp
   rw [Nat.zero_mul,show a.add 0=a from rfl,show a.add 0=a from rfl] at hu
   unfold World.cell? at hu
   cases hs:a.spot with
   | none=>rfl
   | some s =>
    rw [hs] at hu
    split at hu <;> simp at hu
  obtain ⟨b,o,sp⟩:=a
  simp only at hspot
  subst hspot
  have add1:∀ i j,((⟨b,o,none⟩ : Addr).add i).add j=⟨b,o + (i + j),none⟩:=by
   intro i j
   unfold Addr.add
   by_cases hi:i=0 <;> by_cases hj:j=0 <;> simp [hi,hj,Nat.add_assoc]
  refine ⟨(List.range len).map g,by simp,?_⟩
  have key:∀ k (hk:k < (cellsM f ((List.range len).map g)).length),∃ u,W.cell? ⟨b,o + k,none⟩=some u∧Rep (fun p=>W.cell? p) noBk u (cellsM f ((List.range len).map g))[k] :=
   flat_ok f es hes _ (fun k v=>∃ u,W.cell? ⟨b,o + k,none⟩=some u∧Rep (fun p=>W.cell? p) noBk u v) (fun i hi j hj=>by
    have hi' : i < len:=by simpa using hi
    simp only [List.getElem_map,List.getElem_range] at hj ⊢
    have:=cell i hi' j (by rw [hes] at hj;exact hj)
    rw [add1] at this
    exact this)
  have hfl:(((List.range len).map g).map f).flatMap V.cells=cellsM f ((List.range len).map g):=cellsM_map f _
  refine .sl (us:=fun k=>(W.cell? ⟨b,o + k,none⟩).getD undef) (es:=es) (by simp) hc (fun e=>by cases e) ?_ ?_ ?_ ?_
  ·intro x hx
   obtain ⟨y,_,rfl⟩:=List.mem_map.1 hx
   exact hes y
  ·rw [hfl]
   intro u hu
   obtain ⟨y,_,hy⟩:=List.mem_flatMap.1 hu
   exact h1 y u hy
  ·rw [hfl]
   intro k hk
   obtain ⟨u,hu,_⟩:=key k hk
   show W.cell? _=_
   rw [hu];rfl
  ·intro k hk
   have hk' : k < (cellsM f ((List.range len).map g)).length:=by rw [← hfl];exact hk
   obtain ⟨u,hu,hr⟩:=key k hk'
   simp only [hu,Option.getD_some]
   have:((((List.range len).map g).map f).flatMap V.cells)[k]=(cellsM f ((List.range len).map g))[k]:=by simp only [hfl]
   rw [this];exact hr
theorem rep_one {P:Program} {f:FuncId} {vs:List V} {W:World} {args:Array Value} (hc:CallsV P f vs (.b true)) (hg:∃ n,W.cell? ⟨0,0,none⟩=some (.int .i64 n)) (ha:RepA (fun a=>W.cell? a) noBk args vs) (ht:GT W:=by first | exact trivial | assumption) :
  Calls P f args W fun e W'=>e=.returned (.bool true)∧Below W.heap.size W W':=by
 refine (hc (fun a=>W.cell? a) W args hg ⟨fun _ _ h=>h,ht⟩ ha).mono ?_
 rintro e W' ⟨c,m',rfl,hb,_,_,_,hr⟩
 exact ⟨by rw [hr.int],hb⟩
theorem repA3 {m:Mem} {a b c:Value} {x y z:V} (h1:Rep m noBk a x) (h2:Rep m noBk b y) (h3:Rep m noBk c z):RepA m noBk #[a,b,c] [x,y,z] :=
 ⟨rfl,fun j g1 g2=>match j,g1 with
  | 0,_=>h1
  | 1,_=>h2
  | 2,_=>h3
  | j + 3,g=>absurd g (by simp)⟩
end Go.Proofs.YtpkodpcfafipdaaGreatDoor

namespace Go.Proofs.YtpkodpcfafipdaaGreatDoor
open Go.RowKit
inductive WC (st:List Slot) (sg:List Nat) (n:Nat):V→V→Prop
 | any {u}:WC st sg n u .any
 | ren {u v} (h:v.ren sg=u) (h0:v.idlt n=true):WC st sg n u v
 | fz {u v rd} (h:FzC st u v rd):WC st sg n u v
inductive WCL (st:List Slot) (sg:List Nat) (n:Nat):List V→List V→Prop
 | nil:WCL st sg n [] []
 | cons {u v l m} (h:WC st sg n u v) (t:WCL st sg n l m):WCL st sg n (u :: l) (v :: m)
inductive WV (st:List Slot) (sg:List Nat) (n:Nat):V→V→Prop
 | c {u v} (h:WC st sg n u v):WV st sg n u v
 | agg {l m} (h:WCL st sg n l m) (h1:∀ v ∈ m,v.one=true):WV st sg n (.agg l) (.agg m)
inductive WVL (st:List Slot) (sg:List Nat) (n:Nat):List V→List V→Prop
 | nil:WVL st sg n [] []
 | cons {u v l m} (h:WV st sg n u v) (t:WVL st sg n l m):WVL st sg n (u :: l) (v :: m)
inductive WR (st:List Slot) (sg:List Nat) (n:Nat):V→V→Prop
 | v {u v} (h:WV st sg n u v):WR st sg n u v
 | tup {l m} (h:WVL st sg n l m):WR st sg n (.tup l) (.tup m)
section
variable {B : Kp} {m0 m : Mem} {bk : Bks} {w : World} {st : List Slot} {sg : List Nat} {n : Nat}
theorem WC.rep (hsim:Sim B m0 m bk w st) {c:Value} {u v:V} (h:Rep m bk c u) (hw:WC st sg n u v):Rep m (cutBk n (fun i=>bk (sgm sg i))) c v:=by
 cases hw with
 | any=>exact .any
 | ren e h0=>exact (Rep.ren h _ e).cut h0
 | fz hf=>exact (hf.rep hsim h).mono (fun _ _ h=>h) fun _ _ h=>by cases h
theorem WCL.rep (hsim:Sim B m0 m bk w st) {l l' : List V} (hf:WCL st sg n l l'):∀ {cs:List Value},RepL m bk cs l→RepL m (cutBk n (fun i=>bk (sgm sg i))) cs l':=by
 induction hf with
 | nil=>intro cs h;exact ⟨h.1,fun j _ h2=>absurd h2 (by simp)⟩
 | @cons v v' l l' h t ih =>
  intro cs hr
  cases cs with
  | nil=>have:=hr.1;simp at this
  | cons c cs =>
   have h0:=hr.2 0 (by simp) (by simp)
   have ih':=@ih cs ⟨by simpa using hr.1,fun j h1 h2=>hr.2 (j + 1) (Nat.succ_lt_succ h1) (Nat.succ_lt_succ h2)⟩
   refine ⟨by simpa using ih'.1,fun j h1 h2=>?_⟩
   cases j with
   | zero=>exact h.rep hsim h0
   | succ j=>exact ih'.2 j (Nat.lt_of_succ_lt_succ h1) (Nat.lt_of_succ_lt_succ h2)
theorem WV.rep (hsim:Sim B m0 m bk w st) {c:Value} {u v:V} (h:Rep m bk c u) (hf:WV st sg n u v):Rep m (cutBk n (fun i=>bk (sgm sg i))) c v:=by
 cases hf with
 | c h'=>exact h'.rep hsim h
 | agg hl h1 =>
  obtain ⟨ds,rfl,g1,g2,g3⟩:=agg_inv h
  exact rep_agg (WCL.rep hsim hl ⟨by simpa using g1,fun j a b=>by simpa using g3 j (by simpa using a) b⟩) h1
theorem WVL.rep (hsim:Sim B m0 m bk w st) {l l' : List V} (hf:WVL st sg n l l'):∀ {cs:List Value},RepL m bk cs l→RepL m (cutBk n (fun i=>bk (sgm sg i))) cs l':=by
 induction hf with
 | nil=>intro cs h;exact ⟨h.1,fun j _ h2=>absurd h2 (by simp)⟩
 | @cons v v' l l' h t ih =>
  intro cs hr
  cases cs with
  | nil=>have:=hr.1;simp at this
  | cons c cs =>
   have h0:=hr.2 0 (by simp) (by simp)
   have ih':=@ih cs ⟨by simpa using hr.1,fun j h1 h2=>hr.2 (j + 1) (Nat.succ_lt_succ h1) (Nat.succ_lt_succ h2)⟩
   refine ⟨by simpa using ih'.1,fun j h1 h2=>?_⟩
   cases j with
   | zero=>exact h.rep hsim h0
   | succ j=>exact ih'.2 j (Nat.lt_of_succ_lt_succ h1) (Nat.lt_of_succ_lt_succ h2)
theorem WR.rep (hsim:Sim B m0 m bk w st) {c:Value} {u v:V} (h:Rep m bk c u) (hf:WR st sg n u v):Rep m (cutBk n (fun i=>bk (sgm sg i))) c v:=by
 cases hf with
 | v h'=>exact h'.rep hsim h
 | @tup l l' ha =>
  cases h with
  | @tup _ cs _ hl hr =>
   have g:=WVL.rep hsim ha (cs:=cs.toList) ⟨by simpa using hl,fun j a b=>by simpa using hr j (by simpa using a) b⟩
   exact .tup (by simpa using g.1) fun j a b=>by have:=g.2 j (by rw [Array.length_toList];exact a) b;rw [Array.getElem_toList] at this;exact this
theorem WCL.len {l l' : List V} (h:WCL st sg n l l'):l'.length=l.length:=by
 induction h with
 | nil=>rfl
 | cons _ _ ih=>simp [ih]
end
structure WS (n0:Nat) (sg:List Nat) (st1 st' : List Slot):Prop where
 size:st'.length=n0
 live:∀ (i:Nat) (cs:List V) (frz:Nat),st'[i]?=some (Slot.live cs frz)→∃ cs0,st1[sgm sg i]?=some (Slot.live cs0 frz)∧WCL st1 sg n0 cs0 cs∧((∀ u ∈ cs,u.one=true)∨cs0=V.ren.renL sg cs)
 fresh:∀ i:Nat,st'[i]?=some Slot.fresh→st1[sgm sg i]?=some Slot.fresh
 inj:∀ (i j:Nat) (ci:List V) (fi:Nat) (cj:List V) (fj:Nat),st'[i]?=some (Slot.live ci fi)→st'[j]?=some (Slot.live cj fj)→sgm sg i=sgm sg j→i=j
def FinR (st0:List Slot) (rs:List ARes) (v:V) (st' : List Slot):AExit→List V→List Slot→Prop:=fun e fr st =>
 (e=.normal∨e=.ret)∧∃ sg st1 vs,Frz st st1∧ResL fr st1 rs vs∧WR st1 sg st0.length (mkR vs) v∧(∀ i,i < st0.length→st0[i]?≠some .fresh→sgm sg i=i)∧WS st0.length sg st1 st'
theorem callsR_of {P:Program} {f:FuncId} {fn:Func} {c:Code} {ac:ACode} {n:Nat} {rs:List ARes} {args:List V} {v:V} {st st' : List Slot} {n0:Nat} (hmix:P.follows .mixedOrders=true) (hf:P.funcs[f]?=some fn) (hb:fn.body=some c) (hm:MatchC P c ac) (hnt:fn.ntmps=n) (hres:MatchRL P fn.results.toList rs) (hn0:∀ i,n0≤i→st[i]?=none∨st[i]?=some .fresh)
  (h:AW P n0 ac (FinR st rs v st') (args++List.replicate (n - args.length) (.tup [])) st):CallsS P f args st v st':=by
 intro B m0 m bk w cargs hg hsim hargs
 subst hnt
 have hk0:∀ id x,bk id=some x→id < st.length:=by
  intro id x hx
  rcases Nat.lt_or_ge id st.length with g | g
  ·exact g
  ·rw [hsim.nb id (.inl (List.getElem?_eq_none g))] at hx;cases hx
 have hk1:∀ id x,bk id=some x→id < n0:=by
  intro id x hx
  rcases Nat.lt_or_ge id n0 with g | g
  ·exact g
  ·rw [hsim.nb id (hn0 id g)] at hx;cases hx
 refine calls_of_wpD (B:=B) hf hb (wp_mono (aw_sound (B:=B) (w0:=⟨w,true⟩) (m0:=m) (bk0:=bk) hk1 hmix hg rfl hm _ _ st _ w ?_ h) ?_)
 ·refine ⟨m,bk,⟨hsim.base,hsim.mem,fun _ _ h=>h,fun _ _ h=>.inl h,hsim.blk,hsim.inj,hsim.nb⟩,⟨?_,fun j h1 h2=>?_⟩,.nil,Bel.refl _ _,fun _ _ h=>h⟩
  ·simp only [Array.size_append,Array.size_replicate,List.length_append,List.length_replicate,hargs.1]
  ·have hsz:=hargs.1
   by_cases hj:j < cargs.size
   ·rw [Array.getElem_append_left hj,List.getElem_append_left (by omega)]
    exact hargs.2 j hj _
   ·rw [Array.getElem_append_right (by omega),List.getElem_append_right (by omega),Array.getElem_replicate,List.getElem_replicate]
    exact .tup rfl fun j h1 _=>absurd h1 (Nat.not_lt_zero _)
 ·rintro e a w' ⟨ae,fr,st2,h1,h2,h3,sg,st1,vs,hfz,hrl,hwr,hfix,hws⟩
  refine ⟨exit_of h1 h3,h2.defers,fun w' hsh=>?_⟩
  obtain ⟨m',bk',hsim',hfrr,hd,hbl,hbk⟩:=(h2.shut hsh).frz hfz
  obtain ⟨cs,c1,c2⟩:=res_run hsim' hfrr hres hrl
  have hrun:=results_run c1
  have hrep:Rep m' bk' (mkC cs) (mkR vs):=by
   have hl:=c2.1
   match cs,vs,hl with
   | [],[],_=>exact .tup rfl fun j h1 _=>absurd h1 (Nat.not_lt_zero _)
   | [c],[v],_=>exact c2.2 0 (by simp) (by simp)
   | c :: d :: cs,v :: u :: vs,hl=>exact .tup (by simpa using hl) fun j g1 g2=>by have:=c2.2 j (by simpa using g1) g2;rw [List.getElem_toArray];exact this
  have hpost:∃ v',(results fn a.tmps).run P w'=.ok v' w'∧(∃ c,Ending.returned v'=.returned c∧Aft B m0 m bk w st' v c w'):=by
   refine ⟨_,hrun,_,rfl,?_⟩
   have lt:∀ (k:Nat) (s:Slot),st'[k]?=some s→k < st.length:=by
    intro k s hk;have:=(List.getElem?_eq_some_iff.1 hk).1;rw [hws.size] at this;exact this
   refine ⟨m',cutBk st.length (fun i=>bk' (sgm sg i)),⟨hsim'.base,hsim'.mem,fun a u h=>hsim'.ext a u (hsim.ext a u h),fun a u h=>?_,fun id cs f hid=>?_,fun i j ci fi cj fj x y hi hj hx hy e=>?_,fun id hid=>?_⟩,hwr.rep hsim' hrep,hsim'.ext,fun id x h=>?_,hbl⟩
   ·rcases hsim'.old a u h with g | g
    ·exact hsim.old a u g
    ·exact .inr g
   ·have hlt:=lt _ _ hid
    obtain ⟨cs0,h0,hcl,hone⟩:=hws.live id cs f hid
    rcases hsim'.blk _ _ f h0 with ⟨n1,n2,n3⟩ | ⟨b,sz,arr,t,lo,hi,hl⟩
    ·refine .inl ⟨?_,n2,by unfold cutBk;rw [if_pos hlt];exact n3⟩
     have:=hcl.len
     rw [n1] at this
     exact List.length_eq_zero_iff.1 this
    have hone' : ∀ u ∈ cs,u.one=true:=by
     rcases hone with h | h
     ·exact h
     ·intro u hu
      have:=hl.one _ (h ▸ renL_mem (sg:=sg) hu)
      rwa [ren_one] at this
    refine .inr ⟨b,sz,arr,t,lo,hi,⟨by unfold cutBk;rw [if_pos hlt];exact hl.at_,hl.own,hl.heap,hl.size,hl.free,by rw [hcl.len];exact hl.fit,hone',fun k hk=>?_,hl.mu,hl.fz⟩⟩
    have hlen:=hcl.len
    have hget:∀ j,j < cs0.length→arr[j]?=some (arr.getD j undef):=fun j hj=>by
     obtain ⟨u,g1,_⟩:=hl.rep j hj
     rw [g1,Array.getD_eq_getD_getElem?,g1];rfl
    have hR:RepL m' bk' ((List.range cs0.length).map fun j=>arr.getD j undef) cs0:=⟨by simp,fun j a b=>by
     obtain ⟨u,g1,g2⟩:=hl.rep j b
     simp only [List.getElem_map,List.getElem_range]
     rw [Array.getD_eq_getD_getElem?,g1]
     exact g2⟩
    have hR2:=hcl.rep hsim' hR
    have:=hR2.2 k (by simp;omega) hk
    simp only [List.getElem_map,List.getElem_range] at this
    exact ⟨_,hget k (by omega),this⟩
   ·unfold cutBk at hx hy
    rw [if_pos (lt _ _ hi)] at hx
    rw [if_pos (lt _ _ hj)] at hy
    obtain ⟨c1,g1,_⟩:=hws.live i ci fi hi
    obtain ⟨c2,g2,_⟩:=hws.live j cj fj hj
    exact hws.inj i j ci fi cj fj hi hj (hsim'.inj _ _ _ _ _ _ x y g1 g2 hx hy e)
   ·unfold cutBk
    by_cases hlt:id < st.length
    ·rw [if_pos hlt]
     rcases hid with h | h
     ·rw [List.getElem?_eq_none_iff,hws.size] at h;omega
     ·exact hsim'.nb _ (.inr (hws.fresh id h))
    ·rw [if_neg hlt]
   ·have hlt:=hk0 _ _ h
    unfold cutBk
    rw [if_pos hlt]
    show bk' (sgm sg id)=some x
    rw [hfix id hlt (fun e=>by rw [hsim.nb id (.inr e)] at h;cases h)]
    exact hbk _ _ h
  exact hpost
theorem callsR_compN {P:Program} {f:FuncId} {fn:Func} {ac:ACode} {n n0:Nat} {rs:List ARes} {args:List V} {v:V} {st st' : List Slot} (hmix:P.follows .mixedOrders=true) (hf:P.funcs[f]?=some fn) (hc:compF P fn=some (ac,n,rs)) (hn0:∀ i,n0≤i→st[i]?=none∨st[i]?=some .fresh)
  (h:AW P n0 ac (FinR st rs v st') (args++List.replicate (n - args.length) (.tup [])) st):CallsS P f args st v st':=by
 unfold compF at hc
 split at hc
 ·rename_i c hb
  split at hc
  ·simp only [Option.some.injEq,Prod.mk.injEq] at hc
   obtain ⟨rfl,rfl,rfl⟩:=hc
   exact callsR_of hmix hf hb (comp_ok ‹_›) rfl (compR_ok ‹_›) hn0 h
  ·cases hc
 ·cases hc
theorem callsR_comp {P:Program} {f:FuncId} {fn:Func} {ac:ACode} {n n0:Nat} {rs:List ARes} {args:List V} {v:V} {st st' : List Slot} (hmix:P.follows .mixedOrders=true) (hf:P.funcs[f]?=some fn) (hc:compF P fn=some (ac,n,rs)) (hn0:st.length=n0)
  (h:AW P n0 ac (FinR st rs v st') (args++List.replicate (n - args.length) (.tup [])) st):CallsS P f args st v st' :=
 callsR_compN hmix hf hc (fun i hi=>.inl (List.getElem?_eq_none (by omega))) h
theorem wcl_nil {st:List Slot} {n:Nat}:∀ {l:List V},V.idlt.belowL n l=true→WCL st [] n l l
 | [],_=>.nil
 | v :: l,h=>by
  simp only [V.idlt.belowL,Bool.and_eq_true] at h
  exact .cons (.ren (ren_nil v) h.1) (wcl_nil h.2)
theorem f_R0 {fr:List V} {st st0 st' : List Slot} {rs:List ARes} {e:AExit} {vs:List V} {v:V} (he:e=.normal∨e=.ret) (hr:ResL fr st rs vs) (hv:mkR vs=v) (h0:v.idlt st0.length=true) (hl:st'.length=st0.length) (hs:st.take st0.length=st') (hc:wkS st0.length st'):FinR st0 rs v st' e fr st:=by
 have get:∀ (i:Nat) (s:Slot),st'[i]?=some s→st[i]?=some s:=by
  intro i s h
  rw [← hs,List.getElem?_take] at h
  split at h
  ·exact h
  ·cases h
 exact ⟨he,[],st,vs,.refl,hr,.v (.c (.ren (by rw [ren_nil,hv]) h0)),fun i _ _=>rfl,⟨hl,fun i cs f h=>⟨cs,get _ _ h,wcl_nil (wkS_ok hc i cs f h),.inr (renL_nil cs).symm⟩,fun i h=>get _ _ h,fun i j _ _ _ _ _ _ h=>h⟩⟩
theorem f_R {fr:List V} {st st0 st' : List Slot} {rs:List ARes} {e:AExit} {vs:List V} {v:V} (sg:List Nat) (he:e=.normal∨e=.ret) (hr:ResL fr st rs vs) (hv:mkR vs=v.ren sg) (h0:v.idlt st0.length=true) (hl:st'.length=st0.length)
  (hfx:∀ i,i < st0.length→st0[i]?≠some .fresh→sgm sg i=i) (hc:wkB st0.length sg st 0 st'):FinR st0 rs v st' e fr st:=by
 obtain ⟨g1,g2⟩:=wkB_ok hc
 simp only [Nat.zero_add] at g1 g2
 have wcl:∀ {n:Nat} {l:List V},V.idlt.belowL n l=true→WCL st sg n (V.ren.renL sg l) l:=by
  intro n l
  induction l with
  | nil=>intro _;exact .nil
  | cons v l ih =>
   intro h
   simp only [V.idlt.belowL,Bool.and_eq_true] at h
   exact .cons (.ren rfl h.1) (ih h.2)
 refine ⟨he,sg,st,vs,.refl,hr,.v (.c (.ren hv.symm h0)),hfx,⟨hl,fun i cs f h=>⟨_,(g1 i cs f h).1,wcl (g1 i cs f h).2.1,.inr rfl⟩,g2,fun i j ci fi cj fj hi hj e=>?_⟩⟩
 have li:=(List.getElem?_eq_some_iff.1 hi).1
 have lj:=(List.getElem?_eq_some_iff.1 hj).1
 rcases Nat.lt_trichotomy i j with h | h | h
 ·exact absurd e ((g1 i ci fi hi).2.2 j h lj)
 ·exact h
 ·exact absurd e.symm ((g1 j cj fj hj).2.2 i h li)
end Go.Proofs.YtpkodpcfafipdaaGreatDoor

namespace Go.Proofs.YtpkodpcfafipdaaGreatDoor
open Go.RowKit
abbrev agz (ag:Bool) (sz:Nat):Nat:=if ag then sz else 1
def getK:List V→Nat→(V→Prop)→Prop
 | [],_,k=>k .any
 | v :: _,0,k=>k v
 | _ :: l,i + 1,k=>getK l i k
theorem getK_eq:∀ (l:List V) (i:Nat) (k:V→Prop),getK l i k=k (l.getD i .any)
 | [],i,k=>by simp [getK]
 | v :: _,0,k=>rfl
 | _ :: l,i + 1,k=>by rw [getK,getK_eq l i k];simp
def setK:List V→Nat→V→(List V→Prop)→Prop
 | [],_,_,k=>k []
 | _ :: l,0,v,k=>k (v :: l)
 | u :: l,i + 1,v,k=>setK l i v fun l'=>k (u :: l')
theorem setK_eq:∀ (l:List V) (i:Nat) (v:V) (k:List V→Prop),setK l i v k=k (l.set i v)
 | [],i,v,k=>by cases i <;> simp [setK]
 | _ :: l,0,v,k=>rfl
 | u :: l,i + 1,v,k=>by rw [setK,setK_eq l i v];simp
def putK (fr:List V) (d:Option Nat) (v:V) (k:List V→Prop):Prop :=
 match d with
 | none=>k fr
 | some d=>setK fr d v k
theorem putK_eq (fr:List V) (d:Option Nat) (v:V) (k:List V→Prop):putK fr d v k=k (putF fr d v):=by
 cases d with
 | none=>rfl
 | some d=>exact setK_eq fr d v k
def slotK (s:Slot) (k:List V→Nat→Prop):Prop:=match s with
 | .live cs f=>k cs f
 | _=>False
def sgetK:List Slot→Nat→(List V→Nat→Prop)→Prop
 | [],_,_=>False
 | s :: _,0,k=>slotK s k
 | _ :: l,i + 1,k=>sgetK l i k
theorem sgetK_ok:∀ {l:List Slot} {i:Nat} {k:List V→Nat→Prop},sgetK l i k→∃ cs f,l[i]?=some (.live cs f)∧k cs f
 | [],i,k,h=>h.elim
 | .live cs f :: _,0,k,h=>⟨cs,f,rfl,h⟩
 | .fresh :: _,0,k,h=>h.elim
 | .dead :: _,0,k,h=>h.elim
 | s :: l,i + 1,k,h=>by
  obtain ⟨cs,f,h1,h2⟩:=sgetK_ok (l:=l) (i:=i) (k:=k) (by cases s <;> exact h)
  exact ⟨cs,f,by simpa using h1,h2⟩
def ssetK:List Slot→Nat→Slot→(List Slot→Prop)→Prop
 | [],_,_,k=>k []
 | _ :: l,0,s,k=>k (s :: l)
 | u :: l,i + 1,s,k=>ssetK l i s fun l'=>k (u :: l')
theorem ssetK_eq:∀ (l:List Slot) (i:Nat) (v:Slot) (k:List Slot→Prop),ssetK l i v k=k (l.set i v)
 | [],i,v,k=>by cases i <;> simp [ssetK]
 | _ :: l,0,v,k=>rfl
 | u :: l,i + 1,v,k=>by rw [ssetK,ssetK_eq l i v];simp
def freshS (s:Slot) (k:Prop):Prop:=match s with
 | .fresh=>k
 | _=>False
def freshK:List Slot→Nat→Prop→Prop
 | [],_,_=>False
 | s :: _,0,k=>freshS s k
 | _ :: l,i + 1,k=>freshK l i k
theorem freshK_ok:∀ {l:List Slot} {i:Nat} {k:Prop},freshK l i k→l[i]?=some .fresh∧k
 | [],i,k,h=>h.elim
 | .fresh :: _,0,k,h=>⟨rfl,h⟩
 | .live _ _ :: _,0,k,h=>h.elim
 | .dead :: _,0,k,h=>h.elim
 | s :: l,i + 1,k,h=>by
  obtain ⟨h1,h2⟩:=freshK_ok (l:=l) (i:=i) (k:=k) (by cases s <;> exact h)
  exact ⟨by simpa using h1,h2⟩
def opK (fr:List V) (x:Operand) (k:V→Prop):Prop :=
 match x with
 | .tmp t=>getK fr t k
 | .const v=>k (V.ofValue v)
 | .global g=>k (.lit (.pointer (some ⟨g,0,none⟩)))
 | .func f=>k (.clo (.func f) [])
theorem opK_eq (fr:List V) (x:Operand) (k:V→Prop):opK fr x k=k (evO fr x):=by
 cases x with
 | tmp t=>exact getK_eq fr t k
 | _=>rfl
def argsK (fr:List V):List Operand→(List V→Prop)→Prop
 | [],k=>k []
 | x :: xs,k=>opK fr x fun v=>argsK fr xs fun vs=>k (v :: vs)
theorem argsK_eq (fr:List V):∀ (xs:List Operand) (k:List V→Prop),argsK fr xs k=k (xs.map (evO fr))
 | [],k=>rfl
 | x :: xs,k=>by rw [argsK,opK_eq,argsK_eq fr xs];rfl
def takeK:List V→Nat→(List V→Prop)→Prop
 | _,0,k=>k []
 | [],_ + 1,_=>False
 | v :: l,n + 1,k=>takeK l n fun r=>k (v :: r)
theorem takeK_ok:∀ {l:List V} {n:Nat} {k:List V→Prop},takeK l n k→n≤l.length∧k (l.take n)
 | l,0,k,h=>⟨Nat.zero_le _,by cases l <;> exact h⟩
 | [],n + 1,k,h=>h.elim
 | v :: l,n + 1,k,h=>by
  obtain ⟨h1,h2⟩:=takeK_ok (l:=l) (n:=n) h
  exact ⟨Nat.succ_le_succ h1,h2⟩
def ldK:List V→Nat→Nat→Bool→(V→Prop)→Prop
 | v :: l,0,sz,ag,k=>match ag with
  | true=>takeK (v :: l) sz fun r=>k (.agg r)
  | false=>k v
 | _ :: l,o + 1,sz,ag,k=>ldK l o sz ag k
 | [],_,_,_,_=>False
theorem ldK_ok:∀ {l:List V} {o sz:Nat} {ag:Bool} {k:V→Prop},ldK l o sz ag k→o + (if ag then sz else 1)≤l.length∧k (partV ag sz (l.drop o))
 | v :: l,0,sz,true,k,h=>by
  obtain ⟨h1,h2⟩:=takeK_ok h
  exact ⟨by simpa using h1,h2⟩
 | v :: l,0,sz,false,k,h=>⟨by simp,h⟩
 | v :: l,o + 1,sz,ag,k,h=>by
  obtain ⟨h1,h2⟩:=ldK_ok (l:=l) (o:=o) h
  exact ⟨by rw [List.length_cons];omega,h2⟩
 | [],o,sz,ag,k,h=>by cases o <;> exact h.elim
def litOne:Value→Prop→Prop
 | .bool _,k=>k
 | .int _ _,k=>k
 | .string _,k=>k
 | .pointer none,k=>k
 | _,_=>False
theorem litOne_ok {v:Value} {k:Prop} (h:litOne v k):v.oneCell'=true∧k:=by
 unfold litOne at h
 split at h <;> first | exact ⟨rfl,h⟩ | exact h.elim
def cellsK (v:V) (k:List V→Prop):Prop :=
 match v with
 | .agg cs=>k cs
 | .lit w=>litOne w (k [.lit w])
 | .sl xs f=>k [.sl xs f]
 | .osl i o n es f=>k [.osl i o n es f]
 | .ptr i o=>k [.ptr i o]
 | .eptr cs=>k [.eptr cs]
 | .clo f cs=>k [.clo f cs]
 | _=>False
theorem cellsK_ok {v:V} {k:List V→Prop} (h:cellsK v k):v.stb=true∧k v.cells:=by
 unfold cellsK at h
 split at h <;> first | exact ⟨rfl,h⟩ | exact h.elim | skip
 obtain ⟨h1,h2⟩:=litOne_ok h
 exact ⟨h1,h2⟩
def layK:List V→Nat→List V→(List V→Prop)→Prop
 | l,0,[],k=>k l
 | _ :: l,0,v :: vs,k=>layK l 0 vs fun r=>k (v :: r)
 | u :: l,o + 1,vs,k=>layK l o vs fun r=>k (u :: r)
 | [],0,_ :: _,_=>False
 | [],_ + 1,_,_=>False
theorem layK_ok:∀ {l:List V} {o:Nat} {vs:List V} {k:List V→Prop},layK l o vs k→o + vs.length≤l.length∧k (l.take o++vs++l.drop (o + vs.length))
 | l,0,[],k,h=>by
  have:layK l 0 [] k=k l:=by cases l <;> rfl
  rw [this] at h
  exact ⟨by simp,by simpa using h⟩
 | u :: l,0,v :: vs,k,h=>by
  obtain ⟨h1,h2⟩:=layK_ok (l:=l) (o:=0) (vs:=vs) h
  exact ⟨by simp at h1 ⊢;omega,by simpa using h2⟩
 | u :: l,o + 1,vs,k,h=>by
  obtain ⟨h1,h2⟩:=layK_ok (l:=l) (o:=o) (vs:=vs) (k:=fun r=>k (u :: r)) (by cases vs <;> exact h)
  exact ⟨by rw [List.length_cons];omega,by rw [show o + 1 + vs.length=(o + vs.length) + 1 by omega];simpa using h2⟩
 | [],0,v :: vs,k,h=>h.elim
 | [],o + 1,vs,k,h=>by cases vs <;> exact h.elim
def fillK (fr:List V):List V→List (Nat × Nat × Operand)→(List V→Prop)→Prop
 | z,[],k=>k z
 | z,(off,sz,x) :: r,k=>opK fr x fun v=>cellsK v fun cs=>lenK cs sz (layK z off cs fun z'=>fillK fr z' r k)
where lenK:List V→Nat→Prop→Prop
 | [],0,k=>k
 | _ :: l,n + 1,k=>lenK l n k
 | _,_,_=>False
theorem lenK_ok:∀ {l:List V} {n:Nat} {k:Prop},fillK.lenK l n k→l.length=n∧k
 | [],0,k,h=>⟨rfl,h⟩
 | _ :: l,n + 1,k,h=>by obtain ⟨h1,h2⟩:=lenK_ok (l:=l) (n:=n) h;exact ⟨by simp [h1],h2⟩
 | [],n + 1,k,h=>h.elim
 | _ :: l,0,k,h=>h.elim
theorem fillK_ok {fr:List V}:∀ {ps:List (Nat × Nat × Operand)} {z:List V} {k:List V→Prop},fillK fr z ps k→∃ cs,fillV z (ps.map fun p=>(p.1,p.2.1,evO fr p.2.2))=some cs∧k cs
 | [],z,k,h=>⟨z,rfl,h⟩
 | (off,sz,x) :: r,z,k,h=>by
  simp only [fillK,opK_eq] at h
  obtain ⟨h1,h2⟩:=cellsK_ok h
  obtain ⟨h3,h4⟩:=lenK_ok h2
  obtain ⟨h5,h6⟩:=layK_ok h4
  obtain ⟨cs,h7,h8⟩:=fillK_ok h6
  refine ⟨cs,?_,h8⟩
  simp only [List.map_cons,fillV]
  rw [if_pos ⟨h3,by omega,h1⟩,← h3]
  exact h7
structure Tst (b:Bool) (A B:Prop):Prop where
 out:(b=true→A)∧(b=false→B)
structure LenQ (n:Nat) (k:Int→Prop):Prop where
 out:k n
structure Ari (k:IntKind) (r:Int) (K:Int→Prop):Prop where
 out:K (k.wrap r)
structure IxO (m:Nat) (j:Int) (k:Nat→Prop):Prop where
 out:0≤j∧j.toNat < m∧k j.toNat
structure IxS (es:Nat) (xs:List V) (j:Int) (k:V→Prop):Prop where
 out:0≤j∧∃ h:j.toNat < xs.length,xs[j.toNat].cells.length=es∧k (.eptr xs[j.toNat].cells)
structure IxT (s:ByteArray) (j:Int) (k:V→Prop):Prop where
 out:0≤j∧∃ h:j.toNat < s.size,k (.lit (.int .u8 s[j.toNat].toNat))
structure SlT (s:ByteArray) (lo hi:Option Int) (k:V→Prop):Prop where
 out:0≤lo.getD 0∧lo.getD 0≤hi.getD s.size∧hi.getD s.size≤s.size∧k (.lit (.string (s.extract (lo.getD 0).toNat (hi.getD s.size).toNat)))
structure SlS (es:Nat) (xs:List V) (full:Bool) (lo hi mx:Option Int) (k:V→Prop):Prop where
 out :
 (∀ u ∈ xs,u.cells.length=es)∧0≤lo.getD 0∧lo.getD 0≤hi.getD xs.length∧hi.getD xs.length≤xs.length ∧
 ((hi=none∧mx=none∧k (.sl (xs.drop (lo.getD 0).toNat) full))∨(hi≠none∧mx=none∧k (.sl ((xs.drop (lo.getD 0).toNat).take ((hi.getD xs.length).toNat - (lo.getD 0).toNat)) false))∨(hi≠none∧mx=hi∧k (.sl ((xs.drop (lo.getD 0).toNat).take ((hi.getD xs.length).toNat - (lo.getD 0).toNat)) true)))
structure SlO (i off n es:Nat) (lo hi:Option Int) (k:V→Prop):Prop where
 out:0≤lo.getD 0∧lo.getD 0≤hi.getD n∧hi.getD n≤n∧(((lo.getD 0 < n∨lo.getD 0=0)∧k (.osl i (off + (lo.getD 0).toNat * es) ((hi.getD n).toNat - (lo.getD 0).toNat) es false))∨(lo.getD 0=n∧k (.sl [] false)))
structure ClrQ (cs:List V) (off n frz:Nat) (k:List V→Prop):Prop where
 out:frz≤off∧off≤cs.length∧0 < n∧k (cs.take off)
structure Cat (a b:ByteArray) (k:V→Prop):Prop where
 out:a.size + b.size≤4611686018427387904∧k (.lit (.string (a++b)))
structure B2S (st:List Slot) (v:V) (k:V→List Nat→Prop):Prop where
 out:(∃ (l:List UInt8) (f:Bool),v=.sl (l.map byteV) f∧k (.lit (.string ⟨l.toArray⟩)) [])∨∃ (i off:Nat) (f:Bool) (cs:List V) (frz:Nat) (l:List UInt8),v=.osl i off l.length 1 f∧st[i]?=some (.live cs frz)∧(cs.drop off).take l.length=l.map byteV∧k (.lit (.string ⟨l.toArray⟩)) [i]
structure Mks (es bytes:Nat) (z:List V) (n c:Int) (k:Nat→List V→Bool→Prop):Prop where
 out:0≤n∧n≤c∧c≤1000000∧bytes≤1000∧k n.toNat ((List.range (n.toNat * es)).map fun k=>z.getD (k % es) .any) (decide (n=c))
structure Ask (P:Program) (f:Nat) (vs:List V) (st:List Slot) (k:V→List Nat→List Nat→List Slot→Prop):Prop where
 out :
 (∃ vs' rd v,FzA st vs vs' rd∧CallsV P f vs' v∧k v rd [] st)∨(∃ v st',CallsS P f vs st v st'∧st'.length=st.length∧k v [] ((allEff st').map Prod.fst) st')∨∃ v rd ef,CallsL P f vs st v rd ef∧k v rd (ef.map Prod.fst) (AStep.eff st ef)
structure App (st:List Slot) (id es bytes:Nat) (s x:V) (k:V→List Nat→List Nat→List Slot→Prop):Prop where
 out :
 (∃ n ds rd rd',SrcV st es s n ds rd∧SrcX st es x 0 [] rd'∧k s (rd++rd') [] st) ∨
 (∃ n ds rd m ds' rd' fz,SrcV st es s n ds rd∧s.full=true∧SrcX st es x m ds' rd'∧0 < m∧n + m≤1000000∧bytes≤1000∧st[id]?=some .fresh∧fz≤(ds++ds').length∧k (.osl id 0 (n + m) es false) (rd++rd') [id] (st.set id (.live (ds++ds') fz))) ∨
 ∃ i n cs frz m ds' rd' fz,s=.osl i 0 n es false∧st[i]?=some (.live cs frz)∧cs.length=n * es∧frz≤cs.length∧SrcX st es x m ds' rd'∧0 < m∧n + m≤1000000∧bytes≤1000∧st[id]?=some .fresh∧frz≤fz∧fz≤(cs++ds').length ∧
  k (.osl id 0 (n + m) es false) (rd'++[i]) [i,id] ((st.set i .dead).set id (.live (cs++ds') fz))
def binK (op:BinOp) (k:IntKind) (a b:Int) (K:V→Prop):Prop :=
 match op with
 | .add=>Ari k (a + b) fun r=>K (.lit (.int k r))
 | .sub=>Ari k (a - b) fun r=>K (.lit (.int k r))
 | .mul=>Ari k (a * b) fun r=>K (.lit (.int k r))
 | .quo=>b≠0∧Ari k (a.tdiv b) fun r=>K (.lit (.int k r))
 | .rem=>b≠0∧K (.lit (.int k (a.tmod b)))
 | .and=>K (.lit (.int k (k.wrap (BitVec.ofInt k.bits a &&& BitVec.ofInt k.bits b).toNat)))
 | .or=>K (.lit (.int k (k.wrap (BitVec.ofInt k.bits a ||| BitVec.ofInt k.bits b).toNat)))
 | .xor=>K (.lit (.int k (k.wrap (BitVec.ofInt k.bits a ^^^ BitVec.ofInt k.bits b).toNat)))
 | .andNot=>K (.lit (.int k (k.wrap (BitVec.ofInt k.bits a &&& ~~~ BitVec.ofInt k.bits b).toNat)))
 | .eql=>K (.lit (.bool (a == b)))
 | .neq=>K (.lit (.bool (a != b)))
 | .lss=>K (.lit (.bool (decide (a < b))))
 | .leq=>K (.lit (.bool (decide (a≤b))))
 | .gtr=>K (.lit (.bool (decide (b < a))))
 | .geq=>K (.lit (.bool (decide (b≤a))))
 | _=>False
structure Shl (k:IntKind) (a b:Int) (K:V→Prop):Prop where
 out:0≤b∧K (.lit (.int k (k.wrap (a * 2 ^ (min b.toNat k.bits)))))
structure Shr (k:IntKind) (a b:Int) (K:V→Prop):Prop where
 out:0≤b∧K (.lit (.int k (a.fdiv (2 ^ (min b.toNat k.bits)))))
def strK (op:BinOp) (x y:ByteArray) (K:V→Prop):Prop :=
 match op with
 | .add=>Cat x y K
 | .eql=>K (.lit (.bool (x.toList == y.toList)))
 | .neq=>K (.lit (.bool !(x.toList == y.toList)))
 | .lss=>K (.lit (.bool (Op.bytesLess x.toList y.toList)))
 | .leq=>K (.lit (.bool (Op.bytesLess x.toList y.toList || x.toList == y.toList)))
 | .gtr=>K (.lit (.bool !(Op.bytesLess x.toList y.toList || x.toList == y.toList)))
 | .geq=>K (.lit (.bool !(Op.bytesLess x.toList y.toList)))
 | _=>False
def kindK (k k' : IntKind) (K:Prop):Prop :=
 match decide (k=k') with
 | true=>K
 | false=>False
theorem kindK_ok {k k' : IntKind} {K:Prop} (h:kindK k k' K):k=k'∧K:=by
 unfold kindK at h
 split at h
 ·rename_i e;exact ⟨of_decide_eq_true e,h⟩
 ·exact h.elim
def eqK:List Nat→List V→List V→(Bool→Prop)→Prop
 | [],[],[],K=>K true
 | 0 :: ks,.lit (.bool a) :: l,.lit (.bool b) :: m,K=>eqK ks l m fun r=>K ((a == b) && r)
 | 1 :: ks,.lit (.int k a) :: l,.lit (.int k' b) :: m,K=>kindK k k' (eqK ks l m fun r=>K ((a == b) && r))
 | 2 :: ks,.lit (.string a) :: l,.lit (.string b) :: m,K=>eqK ks l m fun r=>K ((a.toList == b.toList) && r)
 | _,_,_,_=>False
abbrev KOp:=List V→V→List Nat→List Nat→List Slot→Prop
def optK (fr:List V) (x:Option Operand) (K:Option Int→Prop):Prop :=
 match x with
 | none=>K none
 | some x=>opK fr x fun v=>match v with
  | .lit (.int _ j)=>K (some j)
  | _=>False
def Setb (fr:List V) (x:Operand) (b:Bool) (K:List V→Prop):Prop :=
 match x with
 | .tmp t=>setK fr t (.lit (.bool b)) K
 | _=>K fr
def wpOp (P:Program) (fr:List V) (st:List Slot) (id:Nat) (op:AOp) (K:KOp):Prop :=
 match op with
 | .mv x=>opK fr x fun v=>K fr v [] [] st
 | .pick c a b=>opK fr c fun v=>match v with
  | .lit (.bool t)=>Tst t (Setb fr c true fun fr=>opK fr a fun v=>K fr v [] [] st) (Setb fr c false fun fr=>opK fr b fun v=>K fr v [] [] st)
  | _=>False
 | .ld sz ag x=>opK fr x fun v=>match v with
  | .eptr cs=>ldK cs 0 sz ag fun v=>K fr v [] [] st
  | .ptr i off=>sgetK st i fun cs _=>ldK cs off sz ag fun v=>K fr v [i] [] st
  | _=>False
 | .st sz a x=>opK fr a fun v=>match v with
  | .ptr i off=>opK fr x fun u=>cellsK u fun vs=>fillK.lenK vs sz (sgetK st i fun cs frz=>Nat.le frz off∧layK cs off vs fun cs'=>ssetK st i (.live cs' frz) fun st'=>K fr .any [i] [i] st')
  | _=>False
 | .al z=>cellsK z fun cs=>freshK st id (ssetK st id (.live cs 0) fun st'=>K fr (.ptr id 0) [] [id] st')
 | .bx x=>opK fr x fun v=>cellsK v fun cs=>freshK st id (ssetK st id (.live cs 0) fun st'=>K fr (.ptr id 0) [] [id] st')
 | .nc x=>opK fr x fun v=>match v with
  | .ptr i off=>K fr (.ptr i off) [] [] st
  | .eptr cs=>K fr (.eptr cs) [] [] st
  | .clo (.func g) caps=>K fr (.clo (.func g) caps) [] [] st
  | _=>False
 | .bin op x y=>opK fr x fun v=>opK fr y fun u=>match v,u with
  | .lit (.int k a),.lit (.int k' b)=>match op with
   | .shl=>Shl k a b fun r=>K fr r [] [] st
   | .shr=>Shr k a b fun r=>K fr r [] [] st
   | op=>kindK k' k (binK op k a b fun r=>K fr r [] [] st)
  | .lit (.string a),.lit (.string b)=>strK op a b fun r=>K fr r [] [] st
  | _,_=>False
 | .binb neg x y=>opK fr x fun v=>opK fr y fun u=>match v,u with
  | .lit (.bool a),.lit (.bool b)=>match neg with
   | true=>K fr (.lit (.bool (a != b))) [] [] st
   | false=>K fr (.lit (.bool (a == b))) [] [] st
  | _,_=>False
 | .eqp neg x y=>opK fr x fun v=>opK fr y fun u=>match v,u with
  | .ptr _ _,.lit (.pointer none)=>K fr (.lit (.bool neg)) [] [] st
  | .lit (.pointer none),.lit (.pointer none)=>K fr (.lit (.bool (!neg))) [] [] st
  | .ptr i o,.ptr j o'=>match Nat.beq i j with
   | true=>K fr (.lit (.bool (if neg then o != o' else o == o'))) [] [] st
   | false=>sgetK st i fun _ _=>sgetK st j fun _ _=>K fr (.lit (.bool neg)) [i,j] [] st
  | _,_=>False
 | .eqa neg ks x y=>opK fr x fun v=>opK fr y fun u=>match v,u with
  | .agg l,.agg m=>eqK ks l m fun r=>match neg with
   | true=>K fr (.lit (.bool (!r))) [] [] st
   | false=>K fr (.lit (.bool r)) [] [] st
  | _,_=>False
 | .un op x=>opK fr x fun v=>match op,v with
  | .neg,.lit (.int k n)=>Ari k (0 - n) fun r=>K fr (.lit (.int k r)) [] [] st
  | .not,.lit (.bool b)=>K fr (.lit (.bool (!b))) [] [] st
  | _,_=>False
 | .cvi k x=>opK fr x fun v=>match v with
  | .lit (.int _ n)=>Ari k n fun r=>K fr (.lit (.int k r)) [] [] st
  | _=>False
 | .cvs x=>opK fr x fun v=>match v with
  | .lit (.string s)=>K fr (.lit (.string s)) [] [] st
  | _=>False
 | .s2b x=>opK fr x fun v=>match v with
  | .lit (.string s)=>K fr (.sl (s.data.toList.map byteV) false) [] [] st
  | _=>False
 | .b2s x=>opK fr x fun v=>B2S st v fun v rd=>K fr v rd [] st
 | .fa o x=>opK fr x fun v=>match v with
  | .ptr i off=>K fr (.ptr i (off + o)) [] [] st
  | .eptr cs=>Nat.le o cs.length∧K fr (.eptr (cs.drop o)) [] [] st
  | _=>False
 | .fd o sz ag x=>opK fr x fun v=>match v with
  | .agg cs=>ldK cs o sz ag fun v=>K fr v [] [] st
  | _=>False
 | .ixs es x ix=>opK fr x fun v=>opK fr ix fun u=>match v,u with
  | .sl xs _,.lit (.int _ j)=>IxS es xs j fun v=>K fr v [] [] st
  | .osl i off m es' _,.lit (.int _ j)=>es'=es∧IxO m j fun n=>K fr (.ptr i (off + n * es)) [] [] st
  | _,_=>False
 | .ixa len es x ix=>opK fr x fun v=>opK fr ix fun u=>match v,u with
  | .ptr i off,.lit (.int _ j)=>IxO len j fun n=>K fr (.ptr i (off + n * es)) [] [] st
  | .eptr cs,.lit (.int _ j)=>IxO len j fun n=>Nat.le (n * es) cs.length∧K fr (.eptr (cs.drop (n * es))) [] [] st
  | _,_=>False
 | .ixg len es ag x ix=>opK fr x fun v=>opK fr ix fun u=>match v,u with
  | .agg cs,.lit (.int _ j)=>IxO len j fun n=>ldK cs (n * es) es ag fun v=>K fr v [] [] st
  | _,_=>False
 | .ixt x ix=>opK fr x fun v=>opK fr ix fun u=>match v,u with
  | .lit (.string s),.lit (.int _ j)=>IxT s j fun v=>K fr v [] [] st
  | _,_=>False
 | .slt x lo hi=>opK fr x fun v=>match v with
  | .lit (.string s)=>optK fr lo fun lo=>optK fr hi fun hi=>SlT s lo hi fun v=>K fr v [] [] st
  | _=>False
 | .sls es x lo hi mx=>opK fr x fun v=>match v with
  | .sl xs full=>optK fr lo fun lo=>optK fr hi fun hi=>optK fr mx fun mx=>SlS es xs full lo hi mx fun v=>K fr v [] [] st
  | .osl i off n es' _=>match mx with
   | none=>es'=es∧optK fr lo fun lo=>optK fr hi fun hi=>SlO i off n es lo hi fun v=>K fr v [] [] st
   | some _=>False
  | _=>False
 | .ex x i=>opK fr x fun v=>match v with
  | .tup vs=>nthK vs i fun v=>K fr v [] [] st
  | _=>False
 | .bd z ps=>fillK fr z ps fun cs=>K fr (.agg cs) [] [] st
 | .bs es len z ps=>fillK fr z (ps.map fun p=>(p.1 * es,es,p.2)) fun cs=>fillK.lenK z (len * es) (freshK st id (ssetK st id (.live cs cs.length) fun st'=>K fr (.osl id 0 len es true) [] [id] st'))
 | .mf fn caps=>argsK fr caps fun cs=>K fr (.clo fn cs) [] [] st
 | .cl f args=>argsK fr args fun vs=>Ask P f vs st fun v rd wr st'=>K fr v rd wr st'
 | .cv x args=>opK fr x fun v=>argsK fr args fun vs=>match cloA v vs with
  | some (g,l)=>Callable P g∧Ask P g l st fun v rd wr st'=>K fr v rd wr st'
  | none=>False
 | .lent x=>opK fr x fun v=>match v with
  | .lit (.string s)=>K fr (.lit (.int .i64 s.size)) [] [] st
  | _=>False
 | .lens x=>opK fr x fun v=>match v with
  | .sl xs _=>LenQ xs.length fun n=>K fr (.lit (.int .i64 n)) [] [] st
  | .osl _ _ n _ _=>K fr (.lit (.int .i64 n)) [] [] st
  | _=>False
 | .clr es x=>opK fr x fun v=>match v with
  | .osl i off n es' _=>es'=es∧sgetK st i fun cs frz=>ClrQ cs off n frz fun cs'=>ssetK st i (.live cs' frz) fun st'=>K fr (.tup []) [i] [i] st'
  | _=>False
 | .ap es bytes s x=>opK fr s fun v=>opK fr x fun u=>App st id es bytes v u fun v rd wr st'=>K fr v rd wr st'
 | .mn mx x y=>opK fr x fun v=>opK fr y fun u=>match v,u with
  | .lit (.int k a),.lit (.int _ b)=>match mx with
   | true=>K fr (.lit (.int k (if b > a then b else a))) [] [] st
   | false=>K fr (.lit (.int k (if b < a then b else a))) [] [] st
  | _,_=>False
 | .mks es bytes z x y=>opK fr x fun v=>opK fr y fun u=>match v,u with
  | .lit (.int _ n),.lit (.int _ c)=>Mks es bytes z n c fun n cs full=>freshK st id (ssetK st id (.live cs 0) fun st'=>K fr (.osl id 0 n es full) [] [id] st')
  | _,_=>False
where nthK:List V→Nat→(V→Prop)→Prop
 | v :: _,0,k=>k v
 | _ :: l,i + 1,k=>nthK l i k
 | [],_,_=>False
def wpOps (P:Program) (base:Nat):List AOper→List (List Nat × List Nat)→List V→List Slot→(List (List Nat × List Nat)→List V→List Slot→Prop)→Prop
 | [],fp,fr,st,K=>K fp fr st
 | ⟨d,op,none,c⟩ :: os,fp,fr,st,K=>wpOp P fr st (base + c) op fun fr v rd wr st'=>putK fr d v fun fr=>wpOps P base os ((rd,wr) :: fp) fr st' K
 | ⟨d,op,some (t,w),c⟩ :: os,fp,fr,st,K=>getK fr t fun g=>match g with
  | .lit (.bool b)=>Tst b
   (setK fr t (.lit (.bool true)) fun fr=>match w with
    | true=>wpOp P fr st (base + c) op fun fr v rd wr st'=>putK fr d v fun fr=>wpOps P base os ((rd,wr) :: fp) fr st' K
    | false=>putK fr d (.tup []) fun fr=>wpOps P base os (([],[]) :: fp) fr st K)
   (setK fr t (.lit (.bool false)) fun fr=>match w with
    | false=>wpOp P fr st (base + c) op fun fr v rd wr st'=>putK fr d v fun fr=>wpOps P base os ((rd,wr) :: fp) fr st' K
    | true=>putK fr d (.tup []) fun fr=>wpOps P base os (([],[]) :: fp) fr st K)
  | .tup []=>putK fr d (.tup []) fun fr=>wpOps P base os (([],[]) :: fp) fr st K
  | _=>False
end Go.Proofs.YtpkodpcfafipdaaGreatDoor

namespace Go.Proofs.YtpkodpcfafipdaaGreatDoor
open Go.RowKit
section
variable {P : Program} {fr : List V} {st : List Slot} {id : Nat}
def Gives (P:Program) (fr:List V) (st:List Slot) (id:Nat) (op:AOp) (K:KOp):Prop:=∃ v rd ef,AStep P (evO fr) st id op v rd ef∧K fr v rd (ef.map Prod.fst) (AStep.eff st ef)
theorem Gives.pure {op:AOp} {K:KOp} {v:V} (hs:AStep P (evO fr) st id op v [] []) (h:K fr v [] [] st):Gives P fr st id op K:=⟨v,[],[],hs,h⟩
theorem Gives.rd {op:AOp} {K:KOp} {v:V} {rd:List Nat} (hs:AStep P (evO fr) st id op v rd []) (h:K fr v rd [] st):Gives P fr st id op K:=⟨v,rd,[],hs,h⟩
theorem Gives.mk1 {op:AOp} {K:KOp} {v:V} {rd:List Nat} {s:Slot} (hs:AStep P (evO fr) st id op v rd [(id,s)]) (h:K fr v rd [id] (st.set id s)):Gives P fr st id op K:=⟨v,rd,[(id,s)],hs,h⟩
theorem setb_ok {x:Operand} {b:Bool} {K:List V→Prop} (hx:evO fr x=.lit (.bool b)) (h:Setb fr x b K):K fr:=by
 cases x with
 | tmp t=>simp only [Setb,setK_eq] at h;rw [set_getD hx] at h;exact h
 | _=>exact h
theorem tst_ok {t:Bool} {A B C:Prop} (h:Tst t A B) (h1:t=true→A→C) (h2:t=false→B→C):C:=by
 cases t with
 | true=>exact h1 rfl (h.out.1 rfl)
 | false=>exact h2 rfl (h.out.2 rfl)
theorem ixO_ok {m:Nat} {j:Int} {k:Nat→Prop} (h:IxO m j k):∃ n:Nat,j=n∧n < m∧k n:=⟨j.toNat,by have:=h.out.1;omega,h.out.2.1,h.out.2.2⟩
theorem bin_ok {op:BinOp} {x y:Operand} {K:KOp} {k k' : IntKind} {a b:Int} (hx:evO fr x=.lit (.int k a)) (hy:evO fr y=.lit (.int k' b)) (hk:k'=k) (h:binK op k a b fun r=>K fr r [] [] st):Gives P fr st id (.bin op x y) K:=by
 subst hk
 have go:∀ r:Value,intB op k' a b=some r→K fr (.lit r) [] [] st→Gives P fr st id (.bin op x y) K:=fun r hr h=>.pure (.binI hx hy hr) h
 cases op <;> first
  | exact go _ rfl h
  | exact go _ rfl h.out
  | exact h.elim
  | skip
 ·exact go _ (by simp only [intB];rw [if_neg h.1]) h.2.out
 ·exact go _ (by simp only [intB];rw [if_neg h.1]) h.2
theorem str_ok {op:BinOp} {x y:Operand} {K:KOp} {a b:ByteArray} (hx:evO fr x=.lit (.string a)) (hy:evO fr y=.lit (.string b)) (h:strK op a b fun r=>K fr r [] [] st):Gives P fr st id (.bin op x y) K:=by
 have go:∀ r:Value,strB op a b=some r→K fr (.lit r) [] [] st→Gives P fr st id (.bin op x y) K:=fun r hr h=>.pure (.binS hx hy hr) h
 cases op <;> first
  | exact go _ rfl h
  | exact h.elim
  | skip
 exact go _ (by simp only [strB];rw [if_pos h.out.1]) h.out.2
theorem eqK_ok:∀ {ks:List Nat} {l m:List V} {K:Bool→Prop},eqK ks l m K→∃ r,eqL ks l m=some r∧l.length=ks.length∧m.length=ks.length∧K r:=by
 intro ks
 induction ks with
 | nil =>
  intro l m K h
  cases l with
  | nil=>cases m with
   | nil=>exact ⟨true,rfl,rfl,rfl,h⟩
   | cons=>exact h.elim
  | cons=>exact h.elim
 | cons k ks ih =>
  intro l m K h
  unfold eqK at h
  split at h
  ·rename_i e;cases e
  ·rename_i e;cases e
   obtain ⟨r,h1,h2,h3,h4⟩:=ih h
   exact ⟨_,by simp only [eqL,cellEq,Option.bind_some,h1,Option.map_some],by simp [h2],by simp [h3],h4⟩
  ·rename_i e;cases e
   obtain ⟨hkk,hk'⟩:=kindK_ok h
   subst hkk
   obtain ⟨r,h1,h2,h3,h4⟩:=ih hk'
   exact ⟨_,by simp only [eqL,cellEq,if_true,Option.bind_some,h1,Option.map_some],by simp [h2],by simp [h3],h4⟩
  ·rename_i e;cases e
   obtain ⟨r,h1,h2,h3,h4⟩:=ih h
   exact ⟨_,by simp only [eqL,cellEq,Option.bind_some,h1,Option.map_some],by simp [h2],by simp [h3],h4⟩
  ·exact h.elim
theorem nthK_ok:∀ {l:List V} {i:Nat} {k:V→Prop},wpOp.nthK l i k→∃ v,l[i]?=some v∧k v
 | v :: _,0,k,h=>⟨v,rfl,h⟩
 | _ :: l,i + 1,k,h=>by obtain ⟨v,h1,h2⟩:=nthK_ok (l:=l) (i:=i) h;exact ⟨v,by simpa using h1,h2⟩
 | [],0,k,h=>h.elim
 | [],i + 1,k,h=>h.elim
theorem optK_ok {x:Option Operand} {K:Option Int→Prop} (h:optK fr x K):∃ (o:Option Int) (k:IntKind),K o∧(∀ y,x=some y→∃ j,o=some j∧evO fr y=.lit (.int k j))∧(x=none→o=none):=by
 unfold optK at h
 split at h
 ·exact ⟨none,.i64,h,fun y e=>(by cases e),fun _=>rfl⟩
 ·rename_i y
  rw [opK_eq] at h
  split at h
  ·rename_i k j e
   exact ⟨some j,k,h,fun z ez=>(by injection ez with ez;subst ez;exact ⟨j,rfl,e⟩),fun e=>(by cases e)⟩
  ·exact h.elim
theorem wpOp_ok {op:AOp} {K:KOp} (h:wpOp P fr st id op K):Gives P fr st id op K:=by
 cases op with
 | mv x=>simp only [wpOp,opK_eq] at h;exact .pure (.mv x) h
 | pick c a b =>
  simp only [wpOp,opK_eq] at h
  split at h
  ·rename_i t e
   refine tst_ok h (fun ht h'=>?_) (fun ht h'=>?_)
   ·clear h
    subst ht
    exact .pure (v:=evO fr a) (by have:=AStep.pick (P:=P) (st:=st) (id:=id) c a b e;simpa using this) (setb_ok (K:=fun fr'=>K fr' (evO fr' a) [] [] st) e h')
   ·clear h
    subst ht
    exact .pure (v:=evO fr b) (by have:=AStep.pick (P:=P) (st:=st) (id:=id) c a b e;simpa using this) (setb_ok (K:=fun fr'=>K fr' (evO fr' b) [] [] st) e h')
  ·exact h.elim
 | ld sz ag x =>
  simp only [wpOp,opK_eq] at h
  split at h
  ·obtain ⟨h1,h2⟩:=ldK_ok h
   rw [Nat.zero_add] at h1
   exact .pure (.ldE ‹_› h1) h2
  ·obtain ⟨cs,f,h1,h2⟩:=sgetK_ok h
   obtain ⟨h3,h4⟩:=ldK_ok h2
   exact .rd (.ldP ‹_› h1 h3) h4
  ·exact h.elim
 | st sz a x =>
  simp only [wpOp,opK_eq] at h
  split at h
  ·rename_i i off e
   obtain ⟨h1,h2⟩:=cellsK_ok h
   obtain ⟨h3,h4⟩:=lenK_ok h2
   obtain ⟨cs,frz,h5,h6,h7⟩:=sgetK_ok h4
   obtain ⟨h8,h9⟩:=layK_ok h7
   rw [ssetK_eq,h3] at h9
   exact ⟨.any,[i],[(i,_)],.stP e rfl h1 h3 h5 h6 (by omega),h9⟩
  ·exact h.elim
 | al z =>
  simp only [wpOp] at h
  obtain ⟨h1,h2⟩:=cellsK_ok h
  obtain ⟨h3,h4⟩:=freshK_ok h2
  rw [ssetK_eq] at h4
  exact .mk1 (.al h1 h3) h4
 | bx x =>
  simp only [wpOp,opK_eq] at h
  obtain ⟨h1,h2⟩:=cellsK_ok h
  obtain ⟨h3,h4⟩:=freshK_ok h2
  rw [ssetK_eq] at h4
  exact .mk1 (.bx rfl h1 h3) h4
 | nc x =>
  simp only [wpOp,opK_eq] at h
  split at h
  ·exact .pure (.ncP ‹_›) h
  ·exact .pure (.ncE ‹_›) h
  ·exact .pure (.ncC ‹_›) h
  ·exact h.elim
 | bin op x y =>
  simp only [wpOp,opK_eq] at h
  split at h
  ·rename_i k a k' b e1 e2
   split at h
   ·exact .pure (.binSh e1 e2 (by simp only [intSh];rw [if_neg (by have:=h.out.1;omega)])) h.out.2
   ·exact .pure (.binSh e1 e2 (by simp only [intSh];rw [if_neg (by have:=h.out.1;omega)])) h.out.2
   ·obtain ⟨hk,h⟩:=kindK_ok h
    exact bin_ok e1 e2 hk h
  ·exact str_ok ‹_› ‹_› h
  ·exact h.elim
 | binb neg x y =>
  simp only [wpOp,opK_eq] at h
  split at h
  ·rename_i a b e1 e2
   cases neg
   ·exact .pure (.binb e1 e2) h
   ·exact .pure (.binb e1 e2) h
  ·exact h.elim
 | eqp neg x y =>
  simp only [wpOp,opK_eq] at h
  split at h
  ·exact .pure (.eqpP ‹_› ‹_›) h
  ·exact .pure (.eqpN ‹_› ‹_›) h
  ·rename_i i o j o' e1 e2
   split at h
   ·rename_i hb
    obtain rfl:=Nat.eq_of_beq_eq_true hb
    exact .pure (.eqpS e1 e2) h
   ·rename_i hb
    obtain ⟨ci,fi,hi,h⟩:=sgetK_ok h
    obtain ⟨cj,fj,hj,h⟩:=sgetK_ok h
    exact .rd (.eqpQ e1 e2 (Nat.ne_of_beq_eq_false hb) hi hj) h
  ·exact h.elim
 | eqa neg ks x y =>
  simp only [wpOp,opK_eq] at h
  split at h
  ·rename_i l m e1 e2
   obtain ⟨r,h1,h2,h3,h4⟩:=eqK_ok h
   cases neg
   ·exact .pure (.eqa e1 e2 h1 h2 h3) h4
   ·exact .pure (.eqa e1 e2 h1 h2 h3) h4
  ·exact h.elim
 | un op x =>
  simp only [wpOp,opK_eq] at h
  split at h
  ·exact .pure (.un ‹_› rfl) h.out
  ·exact .pure (.un ‹_› rfl) h
  ·exact h.elim
 | cvi k x =>
  simp only [wpOp,opK_eq] at h
  split at h
  ·exact .pure (.cvi ‹_›) h.out
  ·exact h.elim
 | cvs x =>
  simp only [wpOp,opK_eq] at h
  split at h
  ·exact .pure (.cvs ‹_›) h
  ·exact h.elim
 | s2b x =>
  simp only [wpOp,opK_eq] at h
  split at h
  ·exact .pure (.s2b ‹_›) h
  ·exact h.elim
 | b2s x =>
  simp only [wpOp,opK_eq] at h
  rcases h.out with ⟨l,f,e,h⟩ | ⟨i,off,f,cs,frz,l,e,h1,h2,h3⟩
  ·exact .pure (.b2sI e) h
  ·exact .rd (.b2sO e h1 h2) h3
 | fa o x =>
  simp only [wpOp,opK_eq] at h
  split at h
  ·exact .pure (.faP ‹_›) h
  ·exact .pure (.faE ‹_› h.1) h.2
  ·exact h.elim
 | fd o sz ag x =>
  simp only [wpOp,opK_eq] at h
  split at h
  ·obtain ⟨h1,h2⟩:=ldK_ok h
   exact .pure (.fd ‹_› h1) h2
  ·exact h.elim
 | ixs es x ix =>
  simp only [wpOp,opK_eq] at h
  split at h
  ·obtain ⟨h1,hn,h2,h3⟩:=h.out
   exact .pure (.ixs ‹_› ‹_› (by omega) hn h2) h3
  ·obtain ⟨rfl,h⟩:=h
   obtain ⟨n,e,hn,h3⟩:=ixO_ok h
   exact .pure (.ixo ‹_› ‹_› e hn) h3
  ·exact h.elim
 | ixa len es x ix =>
  simp only [wpOp,opK_eq] at h
  split at h
  ·obtain ⟨n,e,hn,h3⟩:=ixO_ok h
   exact .pure (.ixa ‹_› ‹_› e hn) h3
  ·obtain ⟨n,e,hn,h3,h4⟩:=ixO_ok h
   exact .pure (.ixae ‹_› ‹_› e hn h3) h4
  ·exact h.elim
 | ixg len es ag x ix =>
  simp only [wpOp,opK_eq] at h
  split at h
  ·obtain ⟨n,e,hn,h3⟩:=ixO_ok h
   obtain ⟨h4,h5⟩:=ldK_ok h3
   exact .pure (.ixg ‹_› ‹_› e hn h4) h5
  ·exact h.elim
 | ixt x ix =>
  simp only [wpOp,opK_eq] at h
  split at h
  ·obtain ⟨h1,hn,h3⟩:=h.out
   exact .pure (.ixt ‹_› ‹_› (by omega) hn) h3
  ·exact h.elim
 | slt x lo hi =>
  simp only [wpOp,opK_eq] at h
  split at h
  ·rename_i s e
   obtain ⟨o1,k1,h,h1,h2⟩:=optK_ok h
   obtain ⟨o2,k2,h,h3,h4⟩:=optK_ok h
   obtain ⟨g1,g2,g3,g4⟩:=h.out
   refine .pure (.slt (k:=k1) (k':=k2) (l:=(o1.getD 0).toNat) (h:=(o2.getD s.size).toNat) e (fun y hy=>?_) (fun e=>by rw [h2 e];rfl) (fun y hy=>?_) (fun e=>by rw [h4 e];simp) (by omega) (by omega)) g4
   ·obtain ⟨j,e1,e2⟩:=h1 y hy
    subst e1
    rw [e2,Int.toNat_of_nonneg g1];rfl
   ·obtain ⟨j,e1,e2⟩:=h3 y hy
    subst e1
    rw [e2,Int.toNat_of_nonneg (by omega)];rfl
  ·exact h.elim
 | sls es x lo hi mx =>
  simp only [wpOp,opK_eq] at h
  split at h
  ·rename_i xs full e
   obtain ⟨o1,k1,hA,h1,h2⟩:=optK_ok h
   obtain ⟨o2,k2,hB,h3,h4⟩:=optK_ok hA
   obtain ⟨o3,k3,hC,h5,h6⟩:=optK_ok hB
   obtain ⟨hes,g1,g2,g3,hD⟩:=hC.out
   clear h hA hB
   have q1:∀ y,lo=some y→evO fr y=.lit (.int k1 ((o1.getD 0).toNat:Nat)):=fun y hy=>by
    obtain ⟨j,e1,e2⟩:=h1 y hy
    subst e1
    rw [e2,Int.toNat_of_nonneg g1];rfl
   have q2:lo=none→(o1.getD 0).toNat=0:=fun e=>by rw [h2 e];rfl
   have none_of:∀ {z:Option Operand} {oz:Option Int} {kz:IntKind},(∀ y,z=some y→∃ j,oz=some j∧evO fr y=.lit (.int kz j))→oz=none→z=none:=by
    intro z oz kz hz ho
    cases z with
    | none=>rfl
    | some y=>obtain ⟨j,e1,_⟩:=hz y rfl;rw [ho] at e1;cases e1
   have some_of:∀ {z:Option Operand} {oz:Option Int} {kz:IntKind},(∀ y,z=some y→∃ j,oz=some j∧evO fr y=.lit (.int kz j))→(z=none→oz=none)→oz≠none→∃ y j,z=some y∧oz=some j∧evO fr y=.lit (.int kz j):=by
    intro z oz kz hz hn ho
    cases z with
    | none=>exact absurd (hn rfl) ho
    | some y=>obtain ⟨j,e1,e2⟩:=hz y rfl;exact ⟨y,j,rfl,e1,e2⟩
   rcases hD with ⟨e1,e2,hE⟩ | ⟨e1,e2,hE⟩ | ⟨e1,e2,hE⟩
   ·have a1:=none_of h3 e1
    have a2:=none_of h5 e2
    subst a1 a2 e1
    exact .pure (.slsE e q1 q2 (by simp at g2;omega) hes) hE
   ·obtain ⟨y,j,b1,b2,b3⟩:=some_of h3 h4 e1
    have a2:=none_of h5 e2
    subst a2 b1 b2
    simp only [Option.getD_some] at g2 g3 hE
    exact .pure (.sls (k':=k2) (h:=j.toNat) e q1 q2 (fun z ez=>by injection ez with ez;subst ez;rw [b3,Int.toNat_of_nonneg (by omega)]) (fun e=>by cases e) (by omega) (by omega) hes) hE
   ·obtain ⟨y,j,b1,b2,b3⟩:=some_of h3 h4 e1
    obtain ⟨y',j',c1,c2,c3⟩:=some_of h5 h6 (by rw [e2];exact e1)
    rw [e2,b2] at c2
    injection c2 with c2
    subst b1 b2 c1 c2
    simp only [Option.getD_some] at g2 g3 hE
    exact .pure (.sls3 (h:=j.toNat) e q1 q2 (by rw [b3,Int.toNat_of_nonneg (by omega)]) (by rw [c3,Int.toNat_of_nonneg (by omega)]) (by omega) (by omega) hes) hE
  ·rename_i i off n es' full e
   split at h
   ·obtain ⟨rfl,h⟩:=h
    obtain ⟨o1,k1,hA,h1,h2⟩:=optK_ok h
    obtain ⟨o2,k2,hB,h3,h4⟩:=optK_ok hA
    obtain ⟨g1,g2,g3,hD⟩:=hB.out
    have hz:((o1.getD 0).toNat:Int)=o1.getD 0:=Int.toNat_of_nonneg g1
    have hz2:((o2.getD n).toNat:Int)=o2.getD n:=Int.toNat_of_nonneg (by omega)
    rcases hD with ⟨g4,hD⟩ | ⟨g4,hD⟩
    ·refine .pure (.slsO (k:=k1) (k':=k2) (l:=(o1.getD 0).toNat) (h:=(o2.getD n).toNat) e (fun y hy=>?_) (fun e=>by rw [h2 e];rfl) (fun y hy=>?_) (fun e=>by rw [h4 e];rfl) (by omega) (by omega) (by omega)) hD
     ·obtain ⟨j,e1,e2⟩:=h1 y hy
      subst e1
      rw [e2,hz];rfl
     ·obtain ⟨j,e1,e2⟩:=h3 y hy
      subst e1
      rw [e2,hz2];rfl
    ·refine .pure (.slsZ (k:=k1) (k':=k2) e (fun y hy=>?_) (fun e=>by rw [h2 e] at g4;simp at g4;omega) (fun y hy=>?_)) hD
     ·obtain ⟨j,e1,e2⟩:=h1 y hy
      subst e1
      have:j=(n:Int):=g4
      rw [e2,this]
     ·obtain ⟨j,e1,e2⟩:=h3 y hy
      subst e1
      have h5:o1.getD 0≤j:=g2
      have h6:j≤(n:Int):=g3
      have:j=(n:Int):=(by omega);rw [e2,this]
   ·exact h.elim
  ·exact h.elim
 | ex x i =>
  simp only [wpOp,opK_eq] at h
  split at h
  ·obtain ⟨v,h1,h2⟩:=nthK_ok h
   exact .pure (.ex ‹_› h1) h2
  ·exact h.elim
 | bd z ps =>
  simp only [wpOp] at h
  obtain ⟨cs,h1,h2⟩:=fillK_ok h
  exact .pure (.bd h1) h2
 | bs es len z ps =>
  simp only [wpOp] at h
  obtain ⟨cs,h1,h2⟩:=fillK_ok h
  obtain ⟨h3,h4⟩:=lenK_ok h2
  obtain ⟨h5,h6⟩:=freshK_ok h4
  rw [ssetK_eq] at h6
  exact .mk1 (.bs (by rw [List.map_map] at h1;exact h1) h3 h5 (Nat.le_refl _)) h6
 | mf fn caps =>
  simp only [wpOp,argsK_eq] at h
  exact .pure .mf h
 | cl f args =>
  simp only [wpOp,argsK_eq] at h
  rcases h.out with ⟨vs',rd,v,h1,h2,h3⟩ | ⟨v,st',h1,h2,h3⟩ | ⟨v,rd,ef,h1,h3⟩
  ·exact .rd (.cl h1 h2) h3
  ·exact ⟨v,[],_,.clS h1 h2 rfl,by rw [eff_all h2];exact h3⟩
  ·exact ⟨v,rd,ef,.clL h1,h3⟩
 | cv x args =>
  simp only [wpOp,opK_eq,argsK_eq] at h
  split at h
  ·obtain ⟨hc,h⟩:=h
   rcases h.out with ⟨vs',rd,v,h1,h2,h3⟩ | ⟨v,st',h1,h2,h3⟩ | ⟨v,rd,ef,h1,h3⟩
   ·exact .rd (.cv ‹_› hc h1 h2) h3
   ·exact ⟨v,[],_,.cvS ‹_› hc h1 h2 rfl,by rw [eff_all h2];exact h3⟩
   ·exact ⟨v,rd,ef,.cvL ‹_› hc h1,h3⟩
  ·exact h.elim
 | lent x =>
  simp only [wpOp,opK_eq] at h
  split at h
  ·exact .pure (.lenT ‹_›) h
  ·exact h.elim
 | clr es x =>
  simp only [wpOp,opK_eq] at h
  split at h
  ·obtain ⟨rfl,h⟩:=h
   obtain ⟨cs,f,h1,h2⟩:=sgetK_ok h
   obtain ⟨g1,g2,g3,h3⟩:=h2.out
   rw [ssetK_eq] at h3
   exact ⟨.tup [],[_],[(_,_)],.clr ‹_› h1 g1 g2 g3,h3⟩
  ·exact h.elim
 | lens x =>
  simp only [wpOp,opK_eq] at h
  split at h
  ·exact .pure (.lenS ‹_›) h.out
  ·exact .pure (.lenO ‹_›) h
  ·exact h.elim
 | ap es bytes s x =>
  simp only [wpOp,opK_eq] at h
  rcases h.out with ⟨n,ds,rd,rd',h1,h2,h3⟩ | ⟨n,ds,rd,m,ds',rd',fz,h1,h2,h3,h4,h5,h6,h7,h8,h9⟩ | ⟨i,n,cs,frz,m,ds',rd',fz,h1,h2,h3,h4,h5,h6,h7,h8,h9,h10,h11,h12⟩
  ·exact .rd (.apZ h1 h2) h3
  ·exact .mk1 (.apN h1 h2 h3 h4 h5 h6 h7 h8) h9
  ·exact ⟨_,_,_,.apO h1 h2 h3 h4 h5 h6 h7 h8 h9 h10 h11,h12⟩
 | mn mx x y =>
  simp only [wpOp,opK_eq] at h
  split at h
  ·cases mx
   ·exact .pure (.mn ‹_› ‹_›) h
   ·exact .pure (.mn ‹_› ‹_›) h
  ·exact h.elim
 | mks es bytes z x y =>
  simp only [wpOp,opK_eq] at h
  split at h
  ·rename_i kn n kc c e1 e2
   obtain ⟨h1,h2,h3,h4,h5⟩:=h.out
   obtain ⟨h6,h7⟩:=freshK_ok h5
   rw [ssetK_eq] at h7
   exact .mk1 (.mks (n:=n.toNat) (c:=c.toNat) (by rw [e1,Int.toNat_of_nonneg h1]) (by rw [e2,Int.toNat_of_nonneg (by omega)]) (by omega) (by omega) h4 (by intro e;have:=of_decide_eq_true e;omega) h6 (Nat.zero_le _)) h7
  ·exact h.elim
theorem wpOps_ok {base:Nat}:∀ {os:List AOper} {fp:List (List Nat × List Nat)} {fr:List V} {st:List Slot} {K:List (List Nat × List Nat)→List V→List Slot→Prop},wpOps P base os fp fr st K→AOps P base os fp fr st K
 | [],fp,fr,st,K,h=>h
 | ⟨d,op,none,c⟩ :: os,fp,fr,st,K,h=>by
  obtain ⟨v,rd,ef,h1,h2⟩:=wpOp_ok h
  rw [putK_eq] at h2
  exact .inr ⟨rfl,v,rd,ef,h1,wpOps_ok h2⟩
 | ⟨d,op,some (t,w),c⟩ :: os,fp,fr,st,K,h=>by
  simp only [wpOps,getK_eq] at h
  have on:∀ {b:Bool},fr.getD t .any=.lit (.bool b)→b=w→(wpOp P fr st (base + c) op fun fr v rd wr st'=>putK fr d v fun fr=>wpOps P base os ((rd,wr) :: fp) fr st' K)→AOps P base (⟨d,op,some (t,w),c⟩ :: os) fp fr st K:=by
   intro b e hb h
   obtain ⟨v,rd,ef,h1,h2⟩:=wpOp_ok h
   rw [putK_eq] at h2
   exact .inr ⟨by simp [gval,List.getD] at *;simp [e,hb],v,rd,ef,h1,wpOps_ok h2⟩
  have off:gval (some (t,w)) fr=some false→(putK fr d (.tup []) fun fr=>wpOps P base os (([],[]) :: fp) fr st K)→AOps P base (⟨d,op,some (t,w),c⟩ :: os) fp fr st K:=by
   intro hg h
   rw [putK_eq] at h
   exact .inl ⟨hg,wpOps_ok h⟩
  split at h
  ·rename_i b e
   refine tst_ok h (fun hb h'=>?_) (fun hb h'=>?_)
   ·clear h
    subst hb
    rw [setK_eq,set_getD e] at h'
    cases w
    ·exact off (by simp only [gval,e];rfl) h'
    ·exact on e rfl h'
   ·clear h
    subst hb
    rw [setK_eq,set_getD e] at h'
    cases w
    ·exact on e rfl h'
    ·exact off (by simp only [gval,e];rfl) h'
  ·rename_i e
   exact off (by simp only [gval,e]) h
  ·exact h.elim
end
end Go.Proofs.YtpkodpcfafipdaaGreatDoor

namespace Go.Proofs.YtpkodpcfafipdaaGreatDoor
open Go.RowKit
section
variable {A B : Prop} {P : Program} {st : List Slot}
theorem Tst.T (h:A):Tst true A B:=⟨fun _=>h,fun e=>(by cases e)⟩
theorem Tst.F (h:B):Tst false A B:=⟨fun e=>(by cases e),fun _=>h⟩
theorem Tst.dec {p:Prop} {i:Decidable p} (h1:p→A) (h2:¬ p→B):Tst (@decide p i) A B:=⟨fun e=>h1 (of_decide_eq_true e),fun e=>h2 (of_decide_eq_false e)⟩
theorem Tst.eqI {a b:Int} (h1:a=b→A) (h2:a≠b→B):Tst (a == b) A B:=⟨fun e=>h1 (by simpa using e),fun e=>h2 (by simpa using e)⟩
theorem Tst.neI {a b:Int} (h1:a≠b→A) (h2:a=b→B):Tst (a != b) A B:=⟨fun e=>h1 (by simpa using e),fun e=>h2 (by simpa using e)⟩
theorem Tst.not {b:Bool} (h:Tst b B A):Tst (!b) A B:=⟨fun e=>h.out.2 (by simpa using e),fun e=>h.out.1 (by simpa using e)⟩
theorem Tst.any {b:Bool} (h1:b=true→A) (h2:b=false→B):Tst b A B:=⟨h1,h2⟩
theorem Tst.isT {b:Bool} (h:b=true) (hA:A):Tst b A B:=⟨fun _=>hA,fun e=>(by rw [h] at e;cases e)⟩
theorem Tst.isF {b:Bool} (h:b=false) (hB:B):Tst b A B:=⟨fun e=>(by rw [h] at e;cases e),fun _=>hB⟩
theorem Tst.decT {p:Prop} {i:Decidable p} (h:p) (hA:A):Tst (@decide p i) A B:=.isT (decide_eq_true h) hA
theorem Tst.decF {p:Prop} {i:Decidable p} (h:¬ p) (hB:B):Tst (@decide p i) A B:=.isF (decide_eq_false h) hB
theorem Tst.eqT {a b:Int} (h:a=b) (hA:A):Tst (a == b) A B:=.isT (by simpa using h) hA
theorem Tst.eqF {a b:Int} (h:¬ a=b) (hB:B):Tst (a == b) A B:=.isF (by simpa using h) hB
theorem Tst.neT {a b:Int} (h:¬ a=b) (hA:A):Tst (a != b) A B:=.isT (by simpa using h) hA
theorem Tst.neF {a b:Int} (h:a=b) (hB:B):Tst (a != b) A B:=.isF (by simpa using h) hB
theorem LenQ.ok {n:Nat} {k:Int→Prop} (h:k n):LenQ n k:=⟨h⟩
theorem LenQ.M {α:Type} {f:α→V} {l:List α} {k:Int→Prop} (h:k l.length):LenQ (l.map f).length k:=⟨by rw [List.length_map];exact h⟩
theorem Ari.ok {r:Int} {K:Int→Prop} (hr:-9223372036854775808≤r∧r≤9223372036854775807) (h:K r):Ari .i64 r K:=by
 constructor;rw [wrap_ok hr];exact h
theorem u8_in {r:Int} (hr:0≤r∧r≤255):IntKind.u8.wrap r=r:=by
 simp only [IntKind.wrap,IntKind.signed,IntKind.bits]
 first | omega | (simp;omega)
theorem Ari.u8 {r:Int} {K:Int→Prop} (hr:0≤r∧r≤255) (h:K r):Ari .u8 r K:=by
 constructor;rw [u8_in hr];exact h
theorem Ari.w {k:IntKind} {r:Int} {K:Int→Prop} (h:K (k.wrap r)):Ari k r K:=⟨h⟩
theorem IxO.ok {m:Nat} {j:Int} {k:Nat→Prop} (h0:0≤j) (h1:j.toNat < m) (h:k j.toNat):IxO m j k:=⟨h0,h1,h⟩
theorem IxS.M {α:Type} {f:α→V} {es:Nat} {l:List α} {j:Int} {k:V→Prop} (h0:0≤j) (h1:j.toNat < l.length) (hes:∀ a,(f a).cells.length=es) (h:k (.eptr (f l[j.toNat]).cells)):IxS es (l.map f) j k :=
 ⟨h0,by rw [List.length_map];exact h1,by rw [List.getElem_map];exact hes _,by rw [List.getElem_map];exact h⟩
theorem IxS.L {es:Nat} {xs:List V} {j:Int} {k:V→Prop} (h0:0≤j) (h1:j.toNat < xs.length) (hes:xs[j.toNat].cells.length=es) (h:k (.eptr xs[j.toNat].cells)):IxS es xs j k:=⟨h0,h1,hes,h⟩
theorem IxT.ok {s:ByteArray} {j:Int} {k:V→Prop} (h0:0≤j) (h1:j.toNat < s.size) (h:k (.lit (.int .u8 s[j.toNat].toNat))):IxT s j k:=⟨h0,h1,h⟩
theorem SlT.ok {s:ByteArray} {lo hi:Option Int} {k:V→Prop} (h0:0≤lo.getD 0) (h1:lo.getD 0≤hi.getD s.size) (h2:hi.getD s.size≤s.size) (h:k (.lit (.string (s.extract (lo.getD 0).toNat (hi.getD s.size).toNat)))):SlT s lo hi k:=⟨h0,h1,h2,h⟩
theorem SlS.E {es:Nat} {xs:List V} {full:Bool} {lo:Option Int} {k:V→Prop} (hes:∀ u ∈ xs,u.cells.length=es) (h0:0≤lo.getD 0) (h1:lo.getD 0≤xs.length) (h:k (.sl (xs.drop (lo.getD 0).toNat) full)):SlS es xs full lo none none k :=
 ⟨hes,h0,h1,Int.le_refl _,.inl ⟨rfl,rfl,h⟩⟩
theorem SlS.H {es:Nat} {xs:List V} {full:Bool} {lo:Option Int} {hi:Int} {k:V→Prop} (hes:∀ u ∈ xs,u.cells.length=es) (h0:0≤lo.getD 0) (h1:lo.getD 0≤hi) (h2:hi≤xs.length) (h:k (.sl ((xs.drop (lo.getD 0).toNat).take (hi.toNat - (lo.getD 0).toNat)) false)):SlS es xs full lo (some hi) none k :=
 ⟨hes,h0,h1,h2,.inr (.inl ⟨by simp,rfl,h⟩)⟩
theorem SlS.C {es:Nat} {xs:List V} {full:Bool} {lo:Option Int} {hi:Int} {k:V→Prop} (hes:∀ u ∈ xs,u.cells.length=es) (h0:0≤lo.getD 0) (h1:lo.getD 0≤hi) (h2:hi≤xs.length) (h:k (.sl ((xs.drop (lo.getD 0).toNat).take (hi.toNat - (lo.getD 0).toNat)) true)):SlS es xs full lo (some hi) (some hi) k :=
 ⟨hes,h0,h1,h2,.inr (.inr ⟨by simp,rfl,h⟩)⟩
theorem mem_es {α:Type} {f:α→V} {es:Nat} (hes:∀ a,(f a).cells.length=es) (l:List α):∀ u ∈ l.map f,u.cells.length=es:=fun u hu=>by
 obtain ⟨a,_,rfl⟩:=List.mem_map.1 hu;exact hes a
theorem Cat.ok {a b:ByteArray} {k:V→Prop} (h:a.size + b.size≤4611686018427387904) (h2:k (.lit (.string (a++b)))):Cat a b k:=⟨h,h2⟩
theorem B2S.I {l:List UInt8} {f:Bool} {k:V→List Nat→Prop} (h:k (.lit (.string ⟨l.toArray⟩)) []):B2S st (.sl (l.map byteV) f) k:=⟨.inl ⟨l,f,rfl,h⟩⟩
theorem B2S.O {l:List UInt8} {i n frz:Nat} {f:Bool} {cs:List V} {k:V→List Nat→Prop} (hi:st[i]?=some (.live cs frz)) (hn:n=l.length) (hc:cs=l.map byteV) (h:k (.lit (.string ⟨l.toArray⟩)) [i]):B2S st (.osl i 0 n 1 f) k:=by
 subst hn hc
 exact ⟨.inr ⟨i,0,f,_,frz,l,rfl,hi,by rw [List.drop_zero,← List.length_map (f:=byteV),List.take_length],h⟩⟩
theorem Shr.ok {k:IntKind} {a b:Int} {K:V→Prop} (h0:0≤b) (h:K (.lit (.int k (a.fdiv (2 ^ (min b.toNat k.bits)))))):Shr k a b K:=⟨h0,h⟩
theorem Shl.ok {k:IntKind} {a b:Int} {K:V→Prop} (h0:0≤b) (h:K (.lit (.int k (k.wrap (a * 2 ^ (min b.toNat k.bits)))))):Shl k a b K:=⟨h0,h⟩
theorem Mks.ok {es bytes:Nat} {z:List V} {n c:Int} {k:Nat→List V→Bool→Prop} (h0:0≤n) (h1:n≤c) (h2:c≤1000000) (h3:bytes≤1000) (h:k n.toNat ((List.range (n.toNat * es)).map fun k=>z.getD (k % es) .any) (decide (n=c))):Mks es bytes z n c k:=⟨h0,h1,h2,h3,h⟩
theorem Ask_V {f:Nat} {vs vs' : List V} {rd:List Nat} {v:V} {k:V→List Nat→List Nat→List Slot→Prop} (hc:CallsV P f vs' v) (ha:FzA st vs vs' rd) (h:k v rd [] st):Ask P f vs st k:=⟨.inl ⟨vs',rd,v,ha,hc,h⟩⟩
theorem Ask_V0 {f:Nat} {vs vs' : List V} {v:V} {k:V→List Nat→List Nat→List Slot→Prop} (hc:CallsV P f vs' v) (ha:vs=vs') (h0:V.idlt.belowL 0 vs'=true) (h:k v [] [] st):Ask P f vs st k:=⟨.inl ⟨vs',[],v,by subst ha;exact fza_id h0,hc,h⟩⟩
theorem Ask_S {f:Nat} {vs:List V} {v:V} {st' : List Slot} {k:V→List Nat→List Nat→List Slot→Prop} (hc:CallsS P f vs st v st') (hl:st'.length=st.length) (h:k v [] ((allEff st').map Prod.fst) st'):Ask P f vs st k:=⟨.inr (.inl ⟨v,st',hc,hl,h⟩)⟩
theorem App.N {id bytes es n m:Nat} {s x:V} {ds ds' : List V} {rd rd' : List Nat} {k:V→List Nat→List Nat→List Slot→Prop} (hs:SrcV st es s n ds rd) (hfu:s.full=true) (hx:SrcX st es x m ds' rd') (hk:0 < m) (hn:n + m≤1000000) (hb:bytes≤1000) (hf:st[id]?=some .fresh)
  (h:k (.osl id 0 (n + m) es false) (rd++rd') [id] (st.set id (.live (ds++ds') (ds++ds').length))):App st id es bytes s x k:=⟨.inr (.inl ⟨n,ds,rd,m,ds',rd',_,hs,hfu,hx,hk,hn,hb,hf,Nat.le_refl _,h⟩)⟩
theorem App.O {id bytes es i n m frz:Nat} {cs ds' : List V} {x:V} {rd' : List Nat} {k:V→List Nat→List Nat→List Slot→Prop} (hi:st[i]?=some (.live cs frz)) (hl:cs.length=n * es) (hz:frz≤cs.length) (hx:SrcX st es x m ds' rd') (hk:0 < m) (hn:n + m≤1000000) (hb:bytes≤1000) (hf:st[id]?=some .fresh)
  (h:k (.osl id 0 (n + m) es false) (rd'++[i]) [i,id] ((st.set i .dead).set id (.live (cs++ds') (cs++ds').length))):App st id es bytes (.osl i 0 n es false) x k:=⟨.inr (.inr ⟨i,n,cs,frz,m,ds',rd',_,rfl,hi,hl,hz,hx,hk,hn,hb,hf,by rw [List.length_append];omega,Nat.le_refl _,h⟩)⟩
theorem App.Z {id bytes es n:Nat} {s x:V} {ds:List V} {rd rd' : List Nat} {k:V→List Nat→List Nat→List Slot→Prop} (hs:SrcV st es s n ds rd) (hx:SrcX st es x 0 [] rd') (h:k s (rd++rd') [] st):App st id es bytes s x k:=⟨.inl ⟨n,ds,rd,rd',hs,hx,h⟩⟩
theorem w_condTst {n0:Nat} {fr:List V} {Q:AExit→List V→List Slot→Prop} {a b:ACode} {i:Nat} {t:Bool} (hc:fr.getD i .any=.lit (.bool t)) (h:Tst t (setK fr i (.lit (.bool true)) fun fr=>AW P n0 a Q fr st) (setK fr i (.lit (.bool false)) fun fr=>AW P n0 b Q fr st)):AW P n0 (.cond (.tmp i) a b) Q fr st:=by
 rw [setK_eq,setK_eq] at h
 cases t with
 | true=>exact w_condT hc (by have:=h.out.1 rfl;rwa [set_getD hc] at this)
 | false=>exact w_condF hc (by have:=h.out.2 rfl;rwa [set_getD hc] at this)
theorem App_strZ {id bytes n:Nat} {s:ByteArray} {v:V} {ds:List V} {rd:List Nat} {k:V→List Nat→List Nat→List Slot→Prop} (h0:s.size=0) (hs:SrcV st 1 v n ds rd) (h:k v (rd++[]) [] st):App st id 1 bytes v (.lit (.string s)) k:=by
 have he:s.data.toList=[]:=List.eq_nil_of_length_eq_zero (by simpa using h0)
 have h2:SrcX st 1 (.lit (.string s)) 0 [] []:=by
  have:=SrcX.str (st:=st) (es:=1) (s:=s) rfl
  rw [he,h0] at this;exact this
 exact App.Z hs h2 h
theorem App_strN {id bytes n:Nat} {s:ByteArray} {v:V} {ds:List V} {rd:List Nat} {k:V→List Nat→List Nat→List Slot→Prop} (hs:SrcV st 1 v n ds rd) (hfu:v.full=true) (hk:0 < s.size) (hn:n + s.size≤1000000) (hb:bytes≤1000) (hf:st[id]?=some .fresh)
  (h:k (.osl id 0 (n + s.size) 1 false) (rd++[]) [id] (st.set id (.live (ds++s.data.toList.map byteV) (ds++s.data.toList.map byteV).length))):App st id 1 bytes v (.lit (.string s)) k:=App.N hs hfu (.str rfl) hk hn hb hf h
theorem wkS_f {n:Nat} {r:List Slot} (h:wkS n r):wkS n (.fresh :: r):=h
theorem wkS_d {n:Nat} {r:List Slot} (h:wkS n r):wkS n (.dead :: r):=h
theorem wkB_d {n:Nat} {sg:List Nat} {i:Nat} {r:List Slot} (h:wkB n sg st (i + 1) r):wkB n sg st i (.dead :: r):=h
end
section
variable {P : Program} {n0 : Nat} {fr : List V} {st : List Slot} {Q : AExit → List V → List Slot → Prop} {a : ACode} {j : Nat}
def unrQ (P:Program) (n0:Nat) (a:ACode) (Q:AExit→List V→List Slot→Prop) (j:Nat):AExit→List V→List Slot→Prop:=fun e fr' st'=>match e with | .normal=>unr n0 (fun Q fr st=>AW P n0 a Q fr st) Q j fr' st' | e=>Q e fr' st'
theorem w_unr' (j:Nat) (h:AW P n0 a (unrQ P n0 a Q j) fr st):AW P n0 (.loop a) Q fr st:=w_unr h
theorem q_unrN (h:AW P n0 a (unrQ P n0 a Q j) fr st):unrQ P n0 a Q (j + 1) .normal fr st:=h
theorem q_unrR (h:Q .ret fr st):unrQ P n0 a Q j .ret fr st:=h
theorem q_unrE {i:Nat} (h:Q (.exit i) fr st):unrQ P n0 a Q j (.exit i) fr st:=h
end
end Go.Proofs.YtpkodpcfafipdaaGreatDoor

