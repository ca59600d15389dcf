/- A part of the proof: 10 texts joined. -/
import Derived.Test.YtbimgghogflikaaGreatDoorSaA11
import Derived.HandedShaped
import Derived.Shelf.Vars
import Derived.Lib.SmallJoins
import Derived.Deep.Slices
import Derived.ProofKit
import Derived.Test.YtbimgghogflikaaGreatDoorChecked
import Derived.OpenShut
import Derived.Test.YtbimgghogflikaaGreatDoorSaA12
import Derived.Test.YtbimgghogflikaaGreatDoorSaA18
import Derived.Test.YtbimgghogflikaaGreatDoorSaA17
import Derived.KernelRfl
import Derived.Test.YtbimgghogflikaaGreatDoorSaA21
import Derived.Test.YtbimgghogflikaaGreatDoorSaA13
set_option linter.all false
namespace Go.Proofs.YtbimgghogflikaaGreatDoor
open Go.ChangeShapes Go.WideShapes Go.ChangeAt Go.RowKit
theorem own0:ownKnob Tryz.prog.godebug=none:=by kernel_rfl
theorem laid0:laidOutB Tryz.prog=true:=by kernel_rfl
theorem maxLen_cell (W:World) (h:W.ShapedOpen Tryz.prog):∃ n,W.cell? ⟨0,0,none⟩=some (.int .i64 n) :=
 cell_of_shapedOpen_int (zero:=#[.int .i64 0]) (t:=3) h (of_decide_eq_true (by kernel_rfl)) (by kernel_rfl) (by kernel_rfl) (by kernel_rfl) (by kernel_rfl) (by kernel_rfl)
theorem trodAll_below {H:Type} {enc:TypeId × Value→H} {P:Program} (hl:laidOutB P=true) {W W' : World} (hb:Below W.heap.size W W') :
  ∀ {ts:List TypeId} {vs:List Value} {ds:List (DataW H)} {ps:List MemPlace},(∀ t ∈ ts,P.readableRec t=true∧t < P.types.size)→DataW.TrodAll enc P W 0 (fun _=>true) true ts vs ds ps →
   DataW.TrodAll enc P W' 0 (fun b=>decide (b < W.heap.size)) true ts vs ds ps
 | [],[],[],_,_,h=>h
 | t :: ts,v :: vs,d :: ds,ps,ht,h=>by
  have hlt:=h.lt
  obtain ⟨p,q,h1,h2,rfl⟩:=h
  exact ⟨p,q,Below.trod hl (ht t (by simp)).1 (ht t (by simp)).2 h1 hb (fun x hx=>hlt x (by simp [hx])),trodAll_below hl hb (fun t' h'=>ht t' (by simp [h'])) h2,rfl⟩
theorem flat_ok {α:Type} (f:α→V) (es:Nat) (hes:∀ a,(f a).cells.length=es):∀ (l:List α) (Q:Nat→V→Prop),(∀ i (hi:i < l.length) j (hj:j < (f l[i]).cells.length),Q (i * es + j) (f l[i]).cells[j])→∀ k (hk:k < (cellsM f l).length),Q k (cellsM f l)[k]
 | [],_,_,k,hk=>by simp [cellsM] at hk
 | a :: l,Q,h,k,hk=>by
  have e:cellsM f (a :: l)=(f a).cells++cellsM f l:=rfl
  have hea:=hes a
  by_cases hlt:k < es
  ·have h0:=h 0 (by simp) k (by simpa [hea] using hlt)
   simp only [e]
   rw [List.getElem_append_left (by omega)]
   simpa using h0
  ·have h1:=flat_ok f es hes l (fun n v=>Q (es + n) v) (fun i hi j hj=>by
    have:=h (i + 1) (by simp;omega) j (by simpa using hj)
    have e2:(i + 1) * es + j=es + (i * es + j):=by rw [Nat.add_mul];omega
    rw [e2] at this
    simpa using this) (k - es) (by rw [e,List.length_append] at hk;omega)
   have e3:es + (k - es)=k:=by omega
   rw [e3] at h1
   simp only [e]
   rw [List.getElem_append_right (by omega)]
   simpa [hea] using h1
theorem rep_slice {α:Type} [Inhabited α] {f:α→V} {es:Nat} {W:World} {a:Addr} {len cap:Nat} (hes:∀ a,(f a).cells.length=es) (h1:∀ a,∀ v ∈ (f a).cells,v.one=true) (hp:0 < es) (hc:len≤cap)
  (h:∀ i,i < len→∃ (x:α) (cs:List Value),W.cells? 0 (a.add (i * es)) es=some cs∧∀ j (hj:j < (f x).cells.length) (hj' : j < cs.length),Rep (fun p=>W.cell? p) noBk cs[j] (f x).cells[j]) :
  ∃ l:List α,l.length=len∧Rep (fun p=>W.cell? p) noBk (.slice (some a) len cap) (.sl (l.map f) false):=by
 classical
 rcases Nat.eq_zero_or_pos len with rfl | hlen
 ·exact ⟨[],rfl,.slnil (fun e=>by cases e)⟩
 ·have hx:∀ i,∃ x:α,i < len→∃ cs:List Value,W.cells? 0 (a.add (i * es)) es=some cs∧∀ j (hj:j < (f x).cells.length) (hj' : j < cs.length),Rep (fun p=>W.cell? p) noBk cs[j] (f x).cells[j]:=by
   intro i
   by_cases hi:i < len
   ·obtain ⟨x,hx⟩:=h i hi;exact ⟨x,fun _=>hx⟩
   ·exact ⟨default,fun g=>absurd g hi⟩
  obtain ⟨g,hg⟩:=Classical.axiomOfChoice hx
  have cell:∀ i (hi:i < len) j (hj:j < es),∃ u,W.cell? ((a.add (i * es)).add j)=some u∧Rep (fun p=>W.cell? p) noBk u ((f (g i)).cells[j]'(by rw [hes];exact hj)):=by
   intro i hi j hj
   obtain ⟨cs,h2,h3⟩:=hg i hi
   obtain ⟨_,hl,hcell⟩:=World.cells?_some h2
   exact ⟨cs[j]'(by omega),by rw [hcell j hj];simp [hl,hj],h3 j (by rw [hes];exact hj) (by omega)⟩
  have hspot:a.spot=none:=by
   obtain ⟨u,hu,_⟩:=cell 0 hlen 0 hp
   rw [Nat.zero_mul,show a.add 0=a from rfl,show a.add 0=a from rfl] at hu
   unfold World.cell? at hu
   cases hs:a.spot with
   | none=>rfl
   | some s =>
    rw [hs] at hu
    split at hu <;> simp at hu
  obtain ⟨b,o,sp⟩:=a
  simp only at hspot
  subst hspot
  have add1:∀ i j,((⟨b,o,none⟩ : Addr).add i).add j=⟨b,o + (i + j),none⟩:=by
   intro i j
   unfold Addr.add
   by_cases hi:i=0 <;> by_cases hj:j=0 <;> simp [hi,hj,Nat.add_assoc]
  refine ⟨(List.range len).map g,by simp,?_⟩
  have key:∀ k (hk:k < (cellsM f ((List.range len).map g)).length),∃ u,W.cell? ⟨b,o + k,none⟩=some u∧Rep (fun p=>W.cell? p) noBk u (cellsM f ((List.range len).map g))[k] :=
   flat_ok f es hes _ (fun k v=>∃ u,W.cell? ⟨b,o + k,none⟩=some u∧Rep (fun p=>W.cell? p) noBk u v) (fun i hi j hj=>by
    have hi' : i < len:=by simpa using hi
    simp only [List.getElem_map,List.getElem_range] at hj ⊢
    have:=cell i hi' j (by rw [hes] at hj;exact hj)
    rw [add1] at this
    exact this)
  have hfl:(((List.range len).map g).map f).flatMap V.cells=cellsM f ((List.range len).map g):=cellsM_map f _
  refine .sl (us:=fun k=>(W.cell? ⟨b,o + k,none⟩).getD undef) (es:=es) (by simp) hc (fun e=>by cases e) ?_ ?_ ?_ ?_
  ·intro x hx
   obtain ⟨y,_,rfl⟩:=List.mem_map.1 hx
   exact hes y
  ·rw [hfl]
   intro u hu
   obtain ⟨y,_,hy⟩:=List.mem_flatMap.1 hu
   exact h1 y u hy
  ·rw [hfl]
   intro k hk
   obtain ⟨u,hu,_⟩:=key k hk
   show W.cell? _=_
   rw [hu];rfl
  ·intro k hk
   have hk' : k < (cellsM f ((List.range len).map g)).length:=by rw [← hfl];exact hk
   obtain ⟨u,hu,hr⟩:=key k hk'
   simp only [hu,Option.getD_some]
   have:((((List.range len).map g).map f).flatMap V.cells)[k]=(cellsM f ((List.range len).map g))[k]:=by simp only [hfl]
   rw [this];exact hr
theorem rep_one {P:Program} {f:FuncId} {vs:List V} {W:World} {args:Array Value} (hc:CallsV P f vs (.b true)) (hg:∃ n,W.cell? ⟨0,0,none⟩=some (.int .i64 n)) (ha:RepA (fun a=>W.cell? a) noBk args vs) :
  Calls P f args W fun e W'=>e=.returned (.bool true)∧Below W.heap.size W W':=by
 refine (hc (fun a=>W.cell? a) W args hg (fun _ _ h=>h) ha).mono ?_
 rintro e W' ⟨c,m',rfl,hb,_,_,_,hr⟩
 exact ⟨by rw [hr.int],hb⟩
end Go.Proofs.YtbimgghogflikaaGreatDoor

namespace Go.Proofs.YtbimgghogflikaaGreatDoor
open Go.ChangeShapes Go.WideShapes Go.ChangeAt Go.RowKit Go.Joins Go.Deep
section
variable {H : Type} {enc : TypeId × Value → H} {P : Program} {W : World} {spare : Nat → Bool} {held : Bool} {fuel : Nat} {t e : TypeId} {cs : List Value} {y : DataW H × List MemPlace}
abbrev MW (W:World):Mem:=fun a=>W.cell? a
theorem repL_one {m:Mem} {bk:Bks} {c:Value} {v:V} (h:Rep m bk c v):RepL m bk [c] [v] :=
 ⟨rfl,fun j g1 g2=>match j,g1 with
  | 0,_=>h
  | j + 1,g=>absurd g (by simp)⟩
theorem repL_nil {m:Mem} {bk:Bks}:RepL m bk [] []:=⟨rfl,fun j g1 g2=>absurd g1 (by simp)⟩
theorem repL_app {m:Mem} {bk:Bks} {c1 c2:List Value} {v1 v2:List V} (h1:RepL m bk c1 v1) (h2:RepL m bk c2 v2):RepL m bk (c1++c2) (v1++v2):=by
 obtain ⟨e1,h1⟩:=h1
 obtain ⟨e2,h2⟩:=h2
 refine ⟨by rw [List.length_append,List.length_append,e1,e2],fun j g1 g2=>?_⟩
 rw [List.length_append] at g1
 by_cases h:j < c1.length
 ·rw [List.getElem_append_left h,List.getElem_append_left (by omega)]
  exact h1 j h _
 ·rw [List.getElem_append_right (by omega),List.getElem_append_right (by omega)]
  have:=h2 (j - c1.length) (by omega) (by omega)
  have e:j - v1.length=j - c1.length:=by omega
  simp only [e]
  exact this
theorem rd_int {k:IntKind} (ht:P.underlying t=some (.int k)) (h:DataW.trod enc P W 0 spare held fuel t cs=some y):∃ n,(Lit.int k n).wf=true∧RepL (MW W) noBk cs [.lit (.int k n)]:=by
 obtain ⟨n,rfl,_,wf⟩:=DataW.trod_int ht h
 exact ⟨n,wf,repL_one (.lit rfl)⟩
theorem rd_string (ht:P.underlying t=some .string) (h:DataW.trod enc P W 0 spare held fuel t cs=some y):∃ s,RepL (MW W) noBk cs [.lit (.string s)]:=by
 obtain ⟨n,rfl,_⟩:=DataW.trod_string ht h
 exact ⟨n,repL_one (.lit rfl)⟩
theorem rd_slice {α:Type} {f:α→V} {es:Nat} {wf:α→Prop} (ht:P.underlying t=some (.slice e)) (hes:∀ a,(f a).cells.length=es) (h1:∀ a,∀ v ∈ (f a).cells,v.one=true) (hp:0 < es) (hce:P.cellsOf e=es)
  (hel:∀ n cs y,DataW.trod enc P W 0 spare held n e cs=some y→∃ x,wf x∧RepL (MW W) noBk cs (f x).cells) (h:DataW.trod enc P W 0 spare held fuel t cs=some y):∃ l:List α,(∀ x ∈ l,wf x)∧RepL (MW W) noBk cs [.sl (l.map f) false]:=by
 rcases open_slice ht h with ⟨rfl,_⟩ | ⟨a,len,cap,m,n,D,Pl,rfl,_,hl,_,hm,_,hall⟩
 ·exact ⟨[],by simp,repL_one (.slnil fun e=>by cases e)⟩
 ·rcases Nat.eq_zero_or_pos len with rfl | hpos
  ·exact ⟨[],by simp,repL_one (.slnil fun e=>by cases e)⟩
  ·have hlm:len≤m:=by rw [hm];split <;> omega
   have hx:∀ i,i < len→∃ (x:{x:α // wf x}) (cs:List Value),W.cells? 0 (a.add (i * es)) es=some cs∧∀ j (hj:j < (f x.1).cells.length) (hj' : j < cs.length),Rep (fun p=>W.cell? p) noBk cs[j] (f x.1).cells[j]:=by
    intro i hi
    obtain ⟨cs',hc,hd⟩:=hall i (by omega)
    rw [hce] at hc
    obtain ⟨x,hw,hr⟩:=hel _ _ _ hd
    exact ⟨⟨x,hw⟩,cs',hc,fun j hj hj'=>hr.2 j hj' hj⟩
   obtain ⟨x0,_⟩:=hx 0 hpos
   haveI:Inhabited {x:α // wf x}:=⟨x0⟩
   obtain ⟨l,_,hr⟩:=rep_slice (f:=fun x:{x:α // wf x}=>f x.1) (fun a=>hes a.1) (fun a=>h1 a.1) hp hl hx
   refine ⟨l.map (·.1),?_,?_⟩
   ·intro x hx
    obtain ⟨y,_,rfl⟩:=List.mem_map.1 hx
    exact y.2
   ·rw [List.map_map];exact repL_one hr
theorem get_some {α:Type} {xs:List α} {n i:Nat} (h:xs.length=n) (hi:i < n):∃ y,xs[i]?=some y:=⟨xs[i],List.getElem?_eq_getElem (by omega)⟩
theorem repAr2 {m:Mem} {a b:Value} {x y:V} (h1:Rep m noBk a x) (h2:Rep m noBk b y):RepA m noBk #[a,b] [x,y] :=
 ⟨rfl,fun j g1 g2=>match j,g1 with
  | 0,_=>h1
  | 1,_=>h2
  | j + 2,g=>absurd g (by simp)⟩
theorem callsO_true {f:FuncId} {args:List V} {m:Option Bool} (h:CallsO P f args V.b m) (hm:m=some true):CallsV P f args (.b true):=h true hm
end
end Go.Proofs.YtbimgghogflikaaGreatDoor

namespace Go.Proofs.YtbimgghogflikaaGreatDoor
open Go.ChangeShapes Go.WideShapes Go.ChangeAt Go.RowKit Go.Joins Go.Deep
structure BrokerStep.Wf (x:BrokerStep):Prop where
 Kind:(Lit.int .u8 x.Kind).wf=true
 Conn:(Lit.int .i64 x.Conn).wf=true
 N:(Lit.int .i64 x.N).wf=true
set_option maxRecDepth 100000 in
theorem rd_T28 {H:Type} {enc:TypeId × Value→H} {W:World} {spare:Nat→Bool} {held:Bool} {fuel:Nat} {cs:List Value} {y:DataW H × List MemPlace} (h:DataW.trod enc Tryz.prog W 0 spare held fuel 28 cs=some y):∃ x:BrokerStep,BrokerStep.Wf x∧RepL (MW W) noBk cs [.y8 x.Kind,.i x.Conn,.i x.N,.s x.Text]:=by
 obtain ⟨xs,n,_,_,hl,hx,hall⟩:=DataW.trod_struct Tryz.underlying28 h
 have hce:Tryz.prog.cellsOf 28=4:=by kernel_rfl
 rw [hce] at hl
 match cs,hl,hall with
 | [c0,c1,c2,c3],_,hall =>
  obtain ⟨y0,hy0⟩:=get_some hx (show 0 < 4 by omega)
  have g0:DataW.trod enc Tryz.prog W 0 spare held n 5 [c0]=some y0:=by
   have hz:Tryz.prog.cellsOf 5=1:=by kernel_rfl
   have g:DataW.trod enc Tryz.prog W 0 spare held n 5 (([c0,c1,c2,c3].drop 0).take (Tryz.prog.cellsOf 5))=some y0:=(hall 0 _ rfl).trans hy0
   rw [hz] at g;exact g
  obtain ⟨x0,w0,r0⟩:=rd_int Tryz.underlying5 g0
  obtain ⟨y1,hy1⟩:=get_some hx (show 1 < 4 by omega)
  have g1:DataW.trod enc Tryz.prog W 0 spare held n 3 [c1]=some y1:=by
   have hz:Tryz.prog.cellsOf 3=1:=by kernel_rfl
   have g:DataW.trod enc Tryz.prog W 0 spare held n 3 (([c0,c1,c2,c3].drop 1).take (Tryz.prog.cellsOf 3))=some y1:=(hall 1 _ rfl).trans hy1
   rw [hz] at g;exact g
  obtain ⟨x1,w1,r1⟩:=rd_int Tryz.underlying3 g1
  obtain ⟨y2,hy2⟩:=get_some hx (show 2 < 4 by omega)
  have g2:DataW.trod enc Tryz.prog W 0 spare held n 3 [c2]=some y2:=by
   have hz:Tryz.prog.cellsOf 3=1:=by kernel_rfl
   have g:DataW.trod enc Tryz.prog W 0 spare held n 3 (([c0,c1,c2,c3].drop 2).take (Tryz.prog.cellsOf 3))=some y2:=(hall 2 _ rfl).trans hy2
   rw [hz] at g;exact g
  obtain ⟨x2,w2,r2⟩:=rd_int Tryz.underlying3 g2
  obtain ⟨y3,hy3⟩:=get_some hx (show 3 < 4 by omega)
  have g3:DataW.trod enc Tryz.prog W 0 spare held n 9 [c3]=some y3:=by
   have hz:Tryz.prog.cellsOf 9=1:=by kernel_rfl
   have g:DataW.trod enc Tryz.prog W 0 spare held n 9 (([c0,c1,c2,c3].drop 3).take (Tryz.prog.cellsOf 9))=some y3:=(hall 3 _ rfl).trans hy3
   rw [hz] at g;exact g
  obtain ⟨x3,r3⟩:=rd_string Tryz.underlying9 g3
  exact ⟨⟨x0,x1,x2,x3⟩,⟨w0,w1,w2⟩,repL_app r0 (repL_app r1 (repL_app r2 (repL_app r3 (repL_nil))))⟩
theorem rd_T34 {H:Type} {enc:TypeId × Value→H} {W:World} {spare:Nat→Bool} {held:Bool} {fuel:Nat} {cs:List Value} {y:DataW H × List MemPlace} (h:DataW.trod enc Tryz.prog W 0 spare held fuel 34 cs=some y):∃ x:List BrokerStep,(∀ z ∈ x,BrokerStep.Wf z)∧RepL (MW W) noBk cs [(fun l:List BrokerStep=>V.sl (l.map BrokerStep.v) false) x] :=
 rd_slice (f:=BrokerStep.v) (es:=4) (wf:=BrokerStep.Wf) Tryz.underlying34 (fun _=>rfl) (by intro a v hv;simp [V.cells] at hv;first | (subst hv;rfl) | (rcases hv with rfl | rfl | rfl | rfl <;> rfl)) (by omega) (by kernel_rfl) (fun n cs y h=>rd_T28 h) h
end Go.Proofs.YtbimgghogflikaaGreatDoor

namespace Go.Proofs.YtbimgghogflikaaGreatDoor
open Go.RowKit
theorem at_nat {α:Type} (l:List α) (k:Nat):at? l (k:Int)=l[k]?:=by
 unfold at?;rw [if_pos (Int.natCast_nonneg k)];rfl
theorem at_lt {α:Type} {l:List α} {k:Nat} (h:k < l.length):at? l (k:Int)=some l[k]:=by rw [at_nat,List.getElem?_eq_getElem h]
theorem w64_id {r:Int} (h:-9223372036854775808≤r∧r≤9223372036854775807):w64 r=r:=wrap_ok h
theorem w64_succ {k:Nat} (h:k≤1000000):w64 ((k:Int) + 1)=((k + 1:Nat):Int):=by rw [w64_id (by omega)];rfl
theorem lt_tt {a b:Nat} (h:a < b):decide ((a:Int) < (b:Int))=true:=by simpa using h
theorem lt_ff {a b:Nat} (h:b≤a):decide ((a:Int) < (b:Int))=false:=by simpa using h
theorem drop_at {α:Type} {l:List α} {k:Nat} (h:k < l.length):l.drop k=l[k] :: l.drop (k + 1):=List.drop_eq_getElem_cons h
theorem fuel_pos:(1000000:Nat) < fuel:=by decide
theorem app_ok {α:Type} {a b:List α} (h:a.length + b.length≤1000000):app? a b=some (a++b):=if_pos h
theorem byte_at {s:ByteArray} {k:Nat} (h:k < s.size):byte? s (k:Int)=some (s[k].toNat:Int):=by
 unfold byte?
 rw [dif_pos ⟨Int.natCast_nonneg k,h⟩];rfl
theorem tl_data (s:ByteArray):s.toList=s.data.toList:=by rw [ByteArray.toList_eq]
def eqT (a b:ByteArray):Bool:=a.toList == b.toList
theorem eqT_refl (a:ByteArray):(a.toList == a.toList)=true:=by simp
theorem eqT_iff {a b:ByteArray}:(a.toList == b.toList)=true ↔ a=b:=by
 rw [beq_iff_eq,tl_data,tl_data]
 exact ⟨fun h=>by cases a;cases b;congr 1;exact Array.ext' h,fun h=>by rw [h]⟩
end Go.Proofs.YtbimgghogflikaaGreatDoor

namespace Go.Proofs.YtbimgghogflikaaGreatDoor
open Go.RowKit
def fold8 (N:Nat) (l:List UInt8):Nat:=l.foldl (fun n b=>n * 256 + b.toNat) N
theorem or8 (a:Nat) (b:UInt8) (h:a < 281474976710656):orI .i64 (shlI .i64 (a:Int) (8:Int)) (w64 (b.toNat:Int))=((a * 256 + b.toNat:Nat):Int):=by
 have hb:b.toNat < 256:=b.toNat_lt
 have hs:shlI .i64 (a:Int) (8:Int)=((a * 256:Nat):Int):=by
  unfold shlI
  rw [show min (8:Int).toNat IntKind.i64.bits=8 by decide,wrap_ok (by omega)];omega
 rw [hs,w64_id (by omega)]
 have e:(BitVec.ofInt 64 ((a * 256:Nat):Int) ||| BitVec.ofInt 64 ((b.toNat:Nat):Int)).toNat=a * 256 + b.toNat:=by
  rw [BitVec.toNat_or,BitVec.ofInt_natCast,BitVec.ofInt_natCast,BitVec.toNat_ofNat,BitVec.toNat_ofNat,Nat.mod_eq_of_lt (by omega),Nat.mod_eq_of_lt (by omega)]
  have:=Nat.shiftLeft_add_eq_or_of_lt (i:=8) (by omega:b.toNat < 2 ^ 8) a
  rw [Nat.shiftLeft_eq] at this
  exact this.symm
 show IntKind.i64.wrap ((BitVec.ofInt 64 ((a * 256:Nat):Int) ||| BitVec.ofInt 64 ((b.toNat:Nat):Int)).toNat:Int)=_
 rw [e]
 exact wrap_ok (by omega)
theorem bytesI_at {s:ByteArray} {k:Nat} (h:k < s.data.toList.length):at? (bytesI s) (k:Int)=some ((s.data.toList[k]).toNat:Int):=by
 unfold bytesI
 rw [at_nat,List.getElem?_map,List.getElem?_eq_getElem h];rfl
theorem num_l (s:ByteArray) (hl:s.data.toList.length≤6):∀ (n k F N:Nat),k + n=s.data.toList.length→n < F→N < 256 ^ k→p_octet_Num_l1 (bytesI s) ((bytesI s).length:Int) F (N:Int) (k:Int)=some (((fold8 N (s.data.toList.drop k):Nat):Int),((bytesI s).length:Int))
 | 0,k,F + 1,N,hk,hF,hN=>by
  have e:(bytesI s).length=s.data.toList.length:=by unfold bytesI;simp
  rw [p_octet_Num_l1,lt_ff (by omega),show k=s.data.toList.length by omega,List.drop_length,e];rfl
 | n + 1,k,F + 1,N,hk,hF,hN=>by
  have e:(bytesI s).length=s.data.toList.length:=by unfold bytesI;simp
  have hlt:k < s.data.toList.length:=by omega
  have hb:(s.data.toList[k]).toNat < 256:=(s.data.toList[k]).toNat_lt
  have h48:N < 281474976710656:=Nat.lt_of_lt_of_le hN (by
   have:(256:Nat) ^ k≤256 ^ 6:=Nat.pow_le_pow_right (by decide) (by omega)
   have h6:(256:Nat) ^ 6=281474976710656:=by decide
   omega)
  rw [p_octet_Num_l1,lt_tt (by omega),cond_true,bytesI_at hlt,Option.bind_some,or8 _ _ h48,w64_succ (by omega),num_l s hl n (k + 1) F _ (by omega) (by omega) (by rw [Nat.pow_succ];omega),drop_at hlt]
  rfl
theorem sub_list {s:ByteArray} {a n:Nat} (h:a + n≤s.data.toList.length):∃ x:ByteArray,sub? s (some (a:Int)) (some ((a + n:Nat):Int))=some x∧x.data.toList=(s.data.toList.drop a).take n:=by
 have hs:s.data.toList.length=s.size:=by simp
 refine ⟨s.extract a (a + n),?_,?_⟩
 ·unfold sub?
  simp only [Option.getD_some]
  rw [if_pos (by omega)];rfl
 ·rw [ByteArray.data_extract,Array.toList_extract,List.extract_eq_take_drop,Nat.add_sub_cancel_left]
theorem fold8_lt:∀ (l:List UInt8) (N k:Nat),N < 256 ^ k→fold8 N l < 256 ^ (k + l.length)
 | [],N,k,h=>by simpa [fold8] using h
 | b :: l,N,k,h=>by
  have hb:b.toNat < 256:=b.toNat_lt
  have:=fold8_lt l (N * 256 + b.toNat) (k + 1) (by rw [Nat.pow_succ];omega)
  rw [List.length_cons,show k + (l.length + 1)=k + 1 + l.length by omega]
  exact this
structure RdOk (r:OctetRead):Prop where
 size:r.S.data.toList.length≤100000
theorem fault_ok {r:OctetRead} (h:r.Bad=0) {a:Nat} (ha:r.At=(a:Int)) (hl:a≤r.S.data.toList.length):p_octet_Read_fault r=some 0:=by
 have hs:r.S.data.toList.length=r.S.size:=by simp
 unfold p_octet_Read_fault
 rw [h,ha,show decide ((a:Int) < 0)=false by simp,show decide ((r.S.size:Int) < (a:Int))=false by simp;omega]
 rfl
def endG (k c n:Int) (t:ByteArray) (r:OctetRead):BrokerStep × Int × Int :=
 if r.Bad≠0 then (⟨0,0,0,⟨#[]⟩⟩,0,r.Bad) else (⟨k,c,n,t⟩,w64 (1 + r.At),0)
theorem endG_p (k c n:Int) (t:ByteArray) (r:OctetRead):(bif (r.Bad != (0:Int)) then some ((BrokerStep.mk (0:Int) (0:Int) (0:Int) (⟨#[]⟩ : ByteArray)),(0:Int),r.Bad) else some ((BrokerStep.mk k c n t),w64 ((1:Int) + r.At),(0:Int)))=some (endG k c n t r):=by
 unfold endG
 by_cases h:r.Bad=0
 ·rw [show (r.Bad != 0)=false by simpa using h,if_neg (by simpa using h)];rfl
 ·rw [show (r.Bad != 0)=true by simpa using h,if_pos h];rfl
end Go.Proofs.YtbimgghogflikaaGreatDoor

namespace Go.Proofs.YtbimgghogflikaaGreatDoor
open Go.RowKit
def suf (b:ByteArray) (k:Nat):ByteArray:=b.extract k b.size
theorem suf_size (b:ByteArray) (k:Nat):(suf b k).size=b.size - k:=by unfold suf;simp
theorem ba_ext {x y:ByteArray} (h:x.data.toList=y.data.toList):x=y:=by
 obtain ⟨x⟩:=x;obtain ⟨y⟩:=y
 congr 1
 exact Array.toList_inj.1 h
theorem suf_list (b:ByteArray) (k:Nat):(suf b k).data.toList=b.data.toList.drop k:=by
 unfold suf
 rw [ByteArray.data_extract,Array.toList_extract,List.extract_eq_take_drop]
 have:b.size=b.data.toList.length:=by simp
 rw [this,List.take_of_length_le (by simp)]
theorem sub_suf {b:ByteArray} {k:Nat} (h:k≤b.size):sub? b (some (k:Int)) none=some (suf b k):=by
 unfold sub? suf
 simp only [Option.getD_some,Option.getD_none]
 rw [if_pos (by omega)];rfl
theorem emptyB {b:ByteArray}:(b.toList == (⟨#[]⟩ : ByteArray).toList)=decide (b.size=0):=by
 rw [Bool.eq_iff_iff,eqT_iff,decide_eq_true_eq]
 constructor
 ·rintro rfl;rfl
 ·intro h
  obtain ⟨d⟩:=b
  congr 1
  exact Array.eq_empty_of_size_eq_zero h
theorem sback_l (z:List BrokerStep) (hn:z.length≤100000):∀ (n k F:Nat) (acc:List BrokerStep),k + n=z.length→n < F→acc.length=k→p_law34_back_l1 z F acc (k:Int)=some (acc++z.drop k,(z.length:Int))
 | 0,k,F + 1,acc,hk,hF,ha=>by
  rw [p_law34_back_l1,lt_ff (by omega),show k=z.length by omega,List.drop_length,List.append_nil];rfl
 | n + 1,k,F + 1,acc,hk,hF,ha=>by
  have hlt:k < z.length:=by omega
  have i1:=sback_l z hn n (k + 1) F (acc++[z[k]]) (by omega) (by omega) (by simp;omega)
  rw [p_law34_back_l1,lt_tt hlt,cond_true,at_lt hlt]
  simp only [Option.bind_some]
  rw [app_ok (by simp;omega),Option.bind_some,w64_succ (by omega),i1,drop_at hlt]
  simp
theorem sback_p {z:List BrokerStep} (hn:z.length≤100000):p_law34_back z=some z:=by
 have h1:p_law34_back_l1 z fuel [] (0:Int)=_:=sback_l z hn z.length 0 fuel [] (by omega) (by have:=fuel_pos;omega) rfl
 unfold p_law34_back
 rw [h1];rfl
theorem ssame_l (z:List BrokerStep) (hn:z.length≤100000):∀ (n k F:Nat),k + n=z.length→n < F→p_ref34_SameSteps_l1 z z F (k:Int)=some (.inr (z.length:Int))
 | 0,k,F + 1,hk,hF=>by
  rw [p_ref34_SameSteps_l1,lt_ff (by omega),show k=z.length by omega];rfl
 | n + 1,k,F + 1,hk,hF=>by
  have hlt:k < z.length:=by omega
  rw [p_ref34_SameSteps_l1,lt_tt hlt,cond_true,at_lt hlt]
  simp only [Option.bind_some,eqT_refl,beq_self_eq_true,Bool.and_self,cond_true]
  rw [w64_succ (by omega)];exact ssame_l z hn n (k + 1) F (by omega) (by omega)
theorem ssame_p {z:List BrokerStep} (hn:z.length≤100000):p_ref34_SameSteps z z=some true:=by
 have e:p_ref34_SameSteps_l1 z z fuel (0:Int)=_:=ssame_l z hn z.length 0 fuel (by omega) (by have:=fuel_pos;omega)
 unfold p_ref34_SameSteps
 rw [bne_self_eq_false,cond_false,e];rfl
end Go.Proofs.YtbimgghogflikaaGreatDoor

namespace Go.Proofs.YtbimgghogflikaaGreatDoor
open Go.RowKit
end Go.Proofs.YtbimgghogflikaaGreatDoor

namespace Go.Proofs.YtbimgghogflikaaGreatDoor
open Go.RowKit
abbrev toZ (l:List UInt8):List Int:=l.map fun b=>(b.toNat:Int)
def beB (n:Nat):Nat→List UInt8
 | 0=>[]
 | w + 1=>beB (n / 256) w++[UInt8.ofNat n]
theorem beB_len (w:Nat):∀ n,(beB n w).length=w:=by
 induction w with
 | zero=>intro n;rfl
 | succ w ih=>intro n;rw [beB,List.length_append,ih];rfl
theorem fold8_snoc (N:Nat) (l:List UInt8) (b:UInt8):fold8 N (l++[b])=fold8 N l * 256 + b.toNat:=by unfold fold8;rw [List.foldl_append];rfl
theorem fold_be:∀ (w n:Nat),n < 256 ^ w→fold8 0 (beB n w)=n
 | 0,n,h=>by simp at h;subst h;rfl
 | w + 1,n,h=>by
  have h1:n / 256 < 256 ^ w:=by rw [Nat.pow_succ] at h;exact Nat.div_lt_of_lt_mul (by rw [Nat.mul_comm];exact h)
  rw [beB,fold8_snoc,fold_be w _ h1,UInt8.toNat_ofNat']
  omega
theorem be_fold:∀ (w:Nat) (l:List UInt8),l.length=w→beB (fold8 0 l) w=l
 | 0,l,h=>by rw [List.length_eq_zero_iff.1 h];rfl
 | w + 1,l,h=>by
  obtain ⟨l',b,rfl⟩ : ∃ l' b,l=l'++[b]:=by
   rcases List.eq_nil_or_concat l with rfl | ⟨l',b,rfl⟩
   ·simp at h
   ·exact ⟨l',b,by simp⟩
  have hb:b.toNat < 256:=b.toNat_lt
  have hl:l'.length=w:=by simp at h;omega
  rw [fold8_snoc,beB,show (fold8 0 l' * 256 + b.toNat) / 256=fold8 0 l' by omega,be_fold w l' hl]
  congr 2
  apply UInt8.toNat_inj.1
  rw [UInt8.toNat_ofNat'];omega
theorem fdivN' (n k:Nat):Int.fdiv (n:Int) (2 ^ k)=((n / 2 ^ k:Nat):Int):=by
 have e:((2:Int) ^ k)=((2 ^ k:Nat):Int):=by simp
 rw [e,Int.fdiv_eq_ediv_of_nonneg _ (Int.natCast_nonneg _)];rfl
theorem shrZ (n k:Nat) (hk:k≤64):shrI .i64 (n:Int) (k:Int)=((n / 2 ^ k:Nat):Int):=by
 have e:(min (k:Int).toNat IntKind.i64.bits)=k:=by
  have:IntKind.i64.bits=64:=rfl
  rw [this];omega
 unfold shrI
 rw [e,fdivN']
theorem u8Z (n:Nat):IntKind.wrap .u8 (n:Int)=((n % 256:Nat):Int):=by
 simp only [IntKind.wrap,IntKind.signed,IntKind.bits]
 first | omega | (simp <;> omega)
theorem ofNat_toZ (n:Nat):((UInt8.ofNat n).toNat:Int)=((n % 256:Nat):Int):=by rw [UInt8.toNat_ofNat']
theorem lay_w {w:Nat} (hw:w=1∨w=2∨w=4∨w=6) (n:Int):p_octet_Lay n (w:Int)=if 0≤n∧n < 256 ^ w then some (toZ (beB n.toNat w),0) else some ([],8):=by
 have h1:p_octet_wide (w:Int)=some true:=by rcases hw with rfl | rfl | rfl | rfl <;> kernel_rfl
 unfold p_octet_Lay
 rw [h1,Option.bind_some,cond_true]
 by_cases h0:n < 0
 ·rw [decide_eq_true h0,if_neg (by omega)];rfl
 obtain ⟨N,rfl⟩:=Int.eq_ofNat_of_zero_le (show 0≤n by omega)
 rw [decide_eq_false h0,cond_false]
 have h8:w64 ((8:Int) * (w:Int))=((8 * w:Nat):Int):=by rcases hw with rfl | rfl | rfl | rfl <;> kernel_rfl
 have hp:pos? ((8 * w:Nat):Int)=some ():=by unfold pos?;rw [if_pos (by omega)]
 have hs:shrI .i64 (N:Int) ((8 * w:Nat):Int)=((N / 2 ^ (8 * w):Nat):Int):=shrZ N (8 * w) (by rcases hw with rfl | rfl | rfl | rfl <;> decide)
 have h2:(2:Nat) ^ (8 * w)=256 ^ w:=by rw [Nat.pow_mul]
 rw [h8,hp,Option.bind_some,hs,h2]
 have h3:((256:Int) ^ w)=((256 ^ w:Nat):Int):=by simp
 by_cases hb:N < 256 ^ w
 ·rw [Nat.div_eq_of_lt hb,if_pos ⟨by omega,by rw [h3];omega⟩,Int.toNat_natCast]
  rw [show (((0:Nat):Int) != 0)=false from rfl,cond_false]
  have hl:∃ L,mk? (w:Int) (0:Int)=some L∧p_octet_Lay_l1 (w:Int) (N:Int) (w:Int) (w:Int) fuel 0 L=some ((w:Int),toZ (beB N w)):=by
   rcases hw with rfl | rfl | rfl | rfl
   ·refine ⟨[0],by kernel_rfl,?_⟩
    have key:p_octet_Lay_l1 ((1:Nat):Int) (N:Int) ((1:Nat):Int) ((1:Nat):Int) fuel 0 [0]=some (((1:Nat):Int),[IntKind.wrap .u8 (shrI .i64 N (0:Nat))]):=by kernel_rfl
    rw [key,shrZ N 0 (by decide),u8Z]
    simp only [toZ,beB,List.nil_append,List.map_cons,List.map_nil,ofNat_toZ,Nat.pow_zero,Nat.div_one]
   ·refine ⟨[0,0],by kernel_rfl,?_⟩
    have key:p_octet_Lay_l1 ((2:Nat):Int) (N:Int) ((2:Nat):Int) ((2:Nat):Int) fuel 0 [0,0]=some (((2:Nat):Int),[IntKind.wrap .u8 (shrI .i64 N (8:Nat)),IntKind.wrap .u8 (shrI .i64 N (0:Nat))]):=by kernel_rfl
    rw [key,shrZ N 8 (by decide),shrZ N 0 (by decide),u8Z,u8Z]
    simp only [toZ,beB,List.nil_append,List.cons_append,List.map_cons,List.map_nil,ofNat_toZ,Nat.pow_zero,Nat.div_one]
   ·refine ⟨[0,0,0,0],by kernel_rfl,?_⟩
    have key:p_octet_Lay_l1 ((4:Nat):Int) (N:Int) ((4:Nat):Int) ((4:Nat):Int) fuel 0 [0,0,0,0]=some (((4:Nat):Int),[IntKind.wrap .u8 (shrI .i64 N (24:Nat)),IntKind.wrap .u8 (shrI .i64 N (16:Nat)),IntKind.wrap .u8 (shrI .i64 N (8:Nat)),IntKind.wrap .u8 (shrI .i64 N (0:Nat))]):=by kernel_rfl
    rw [key,shrZ N 24 (by decide),shrZ N 16 (by decide),shrZ N 8 (by decide),shrZ N 0 (by decide),u8Z,u8Z,u8Z,u8Z]
    simp only [toZ,beB,List.nil_append,List.cons_append,List.map_cons,List.map_nil,ofNat_toZ,Nat.pow_zero,Nat.div_one,Nat.div_div_eq_div_mul,Nat.reduceMul,Nat.reducePow]
   ·refine ⟨[0,0,0,0,0,0],by kernel_rfl,?_⟩
    have key:p_octet_Lay_l1 ((6:Nat):Int) (N:Int) ((6:Nat):Int) ((6:Nat):Int) fuel 0 [0,0,0,0,0,0]=some (((6:Nat):Int),[IntKind.wrap .u8 (shrI .i64 N (40:Nat)),IntKind.wrap .u8 (shrI .i64 N (32:Nat)),IntKind.wrap .u8 (shrI .i64 N (24:Nat)),IntKind.wrap .u8 (shrI .i64 N (16:Nat)),IntKind.wrap .u8 (shrI .i64 N (8:Nat)),IntKind.wrap .u8 (shrI .i64 N (0:Nat))]):=by kernel_rfl
    rw [key,shrZ N 40 (by decide),shrZ N 32 (by decide),shrZ N 24 (by decide),shrZ N 16 (by decide),shrZ N 8 (by decide),shrZ N 0 (by decide),u8Z,u8Z,u8Z,u8Z,u8Z,u8Z]
    simp only [toZ,beB,List.nil_append,List.cons_append,List.map_cons,List.map_nil,ofNat_toZ,Nat.pow_zero,Nat.div_one,Nat.div_div_eq_div_mul,Nat.reduceMul,Nat.reducePow]
  obtain ⟨L,hL,hl⟩:=hl
  rw [hL,Option.bind_some,hl,Option.bind_some]
  have hg:lenG? w (toZ (beB N w))=some ():=by
   unfold lenG?
   rw [if_pos (by rw [List.length_map,beB_len])]
  show (lenG? w (toZ (beB N w))).bind (fun _=>some (toZ (beB N w),(0:Int)))=_
  rw [hg];rfl
 ·have hd:N / 256 ^ w≠0:=by
   have:=Nat.div_pos (Nat.le_of_not_lt hb) (Nat.pow_pos (n:=w) (by decide:0 < 256));omega
  rw [if_neg (by rw [h3];omega),show (((N / 256 ^ w:Nat):Int) != 0)=true from bne_iff_ne.2 (by omega)];rfl
theorem say_w (s:ByteArray):p_octet_Say s 255=if s.size≤255 then some (toZ (UInt8.ofNat s.size :: s.data.toList),0) else some ([],5):=by
 unfold p_octet_Say
 rw [show (if (255:Int) < 255 then (255:Int) else 255)=255 from rfl]
 by_cases h:s.size≤255
 ·have hb:(bytesI s).length=s.size:=by unfold bytesI;simp
  rw [decide_eq_false (by omega),cond_false,u8Z,app_ok (by rw [List.length_singleton];omega),if_pos h]
  show some (_,_)=some (_,_)
  congr 2
 ·rw [decide_eq_true (by omega),if_neg h];rfl
theorem text_toZ (l:List UInt8):text? (toZ l)=some ⟨l.toArray⟩:=by
 unfold text?
 have h:((toZ l).all fun b=>decide (0≤b) && decide (b≤255))=true:=by
  rw [List.all_eq_true]
  intro b hb
  obtain ⟨c,_,rfl⟩:=List.mem_map.1 hb
  have:=c.toNat_lt
  simp;omega
 rw [if_pos h]
 congr 3
 unfold toZ
 rw [List.map_map]
 conv=>rhs;rw [← List.map_id l]
 apply List.map_congr_left
 intro b _
 simp
def okN (n:Int) (w:Nat):Prop:=0≤n∧n < 256 ^ w
instance (n:Int) (w:Nat):Decidable (okN n w):=inferInstanceAs (Decidable (_∧_))
def putZ (s:BrokerStep):Option (List UInt8) :=
 if s.Kind=0 then (if s.Text=⟨#[]⟩∧okN s.Conn 1∧okN s.N 2 then some (0 :: (beB s.Conn.toNat 1++beB s.N.toNat 2)) else none)
 else if s.Kind=1 then (if s.N=0∧okN s.Conn 1∧s.Text.size≤255 then some (1 :: (beB s.Conn.toNat 1++(UInt8.ofNat s.Text.size :: s.Text.data.toList))) else none)
 else if s.Kind=2 then (if s.N=0∧s.Text=⟨#[]⟩∧okN s.Conn 1 then some (2 :: beB s.Conn.toNat 1) else none)
 else if s.Kind=3 then (if s.Conn=0∧s.N=0∧s.Text=⟨#[]⟩ then some [3] else none)
 else if s.Kind=4 then (if s.Text=⟨#[]⟩∧okN s.Conn 1∧okN s.N 4 then some (4 :: (beB s.Conn.toNat 1++beB s.N.toNat 4)) else none)
 else if s.Kind=5 then (if s.Conn=0∧s.Text=⟨#[]⟩∧okN s.N 6 then some (5 :: beB s.N.toNat 6) else none)
 else none
def PutV (m:Option (ByteArray × Int)):Option (List UInt8)→Prop
 | some l=>m=some (⟨l.toArray⟩,0)
 | none=>∃ e,e≠0∧m=some (⟨#[]⟩,e)
theorem emptyT {t:ByteArray}:(t.toList == (⟨#[]⟩ : ByteArray).toList)=decide (t=⟨#[]⟩):=by
 rw [Bool.eq_iff_iff,eqT_iff,decide_eq_true_eq]
theorem lay1 (n:Int):p_octet_Lay n 1=if okN n 1 then some (toZ (beB n.toNat 1),0) else some ([],8):=lay_w (w:=1) (.inl rfl) n
theorem lay2 (n:Int):p_octet_Lay n 2=if okN n 2 then some (toZ (beB n.toNat 2),0) else some ([],8):=lay_w (w:=2) (.inr (.inl rfl)) n
theorem lay4 (n:Int):p_octet_Lay n 4=if okN n 4 then some (toZ (beB n.toNat 4),0) else some ([],8):=lay_w (w:=4) (.inr (.inr (.inl rfl))) n
theorem lay6 (n:Int):p_octet_Lay n 6=if okN n 6 then some (toZ (beB n.toNat 6),0) else some ([],8):=lay_w (w:=6) (.inr (.inr (.inr rfl))) n
theorem app_toZ (a b:List UInt8) (h:a.length + b.length≤1000000):app? (toZ a) (toZ b)=some (toZ (a++b)):=by
 rw [app_ok (by simpa using h)];unfold toZ;rw [List.map_append]
theorem kind_toZ {k:Nat} (h:k < 256):[(k:Int)]=toZ [UInt8.ofNat k]:=by
 show _=[((UInt8.ofNat k).toNat:Int)]
 rw [ofNat_toZ,Nat.mod_eq_of_lt h]
theorem z00:((0:Int) == 0)=true:=rfl
theorem z80:((8:Int) == 0)=false:=rfl
theorem z8n:((8:Int) != 0)=true:=rfl
theorem z0n:((0:Int) != 0)=false:=rfl
theorem z5n:((5:Int) != 0)=true:=rfl
theorem d00:decide ((0:Int) < 0)=false:=rfl
theorem d02:decide ((0:Int) < 2)=true:=rfl
theorem d04:decide ((0:Int) < 4)=true:=rfl
theorem d06:decide ((0:Int) < 6)=true:=rfl
theorem app_no (k:Int):app? [k] []=some [k]:=by rw [app_ok (by simp)];rfl
theorem app_noZ (l:List UInt8) (h:l.length≤1000000):app? (toZ l) []=some (toZ l):=by
 rw [app_ok (by simpa using h),List.append_nil]
theorem beq_dec (a b:Int):(a == b)=decide (a=b):=by rw [Bool.eq_iff_iff,beq_iff_eq,decide_eq_true_eq]
theorem shp0:p_script_shapes ((0:Nat):Int)=some (ScriptShape.mk (⟨#[99,111,110,110,101,99,116]⟩ : ByteArray) true (2:Int) false,true):=rfl
theorem fit0 (s:BrokerStep):p_script_shape_fits (ScriptShape.mk (⟨#[99,111,110,110,101,99,116]⟩ : ByteArray) true (2:Int) false) s=some (decide (s.Text=⟨#[]⟩)):=by
 unfold p_script_shape_fits
 simp only [cond_true,cond_false,d00,d02,d04,d06,emptyT,beq_dec]
theorem shp1:p_script_shapes ((1:Nat):Int)=some (ScriptShape.mk (⟨#[98,121,116,101,115]⟩ : ByteArray) true (0:Int) true,true):=rfl
theorem fit1 (s:BrokerStep):p_script_shape_fits (ScriptShape.mk (⟨#[98,121,116,101,115]⟩ : ByteArray) true (0:Int) true) s=some (decide (s.N=0)):=by
 unfold p_script_shape_fits
 simp only [cond_true,cond_false,d00,d02,d04,d06,emptyT,beq_dec]
 cases decide (s.N=0) <;> rfl
theorem shp2:p_script_shapes ((2:Nat):Int)=some (ScriptShape.mk (⟨#[99,108,111,115,101]⟩ : ByteArray) true (0:Int) false,true):=rfl
theorem fit2 (s:BrokerStep):p_script_shape_fits (ScriptShape.mk (⟨#[99,108,111,115,101]⟩ : ByteArray) true (0:Int) false) s=some (decide (s.N=0) && decide (s.Text=⟨#[]⟩)):=by
 unfold p_script_shape_fits
 simp only [cond_true,cond_false,d00,d02,d04,d06,emptyT,beq_dec]
 cases decide (s.N=0) <;> rfl
theorem shp3:p_script_shapes ((3:Nat):Int)=some (ScriptShape.mk (⟨#[116,105,99,107]⟩ : ByteArray) false (0:Int) false,true):=rfl
theorem fit3 (s:BrokerStep):p_script_shape_fits (ScriptShape.mk (⟨#[116,105,99,107]⟩ : ByteArray) false (0:Int) false) s=some (decide (s.Conn=0) && decide (s.N=0) && decide (s.Text=⟨#[]⟩)):=by
 unfold p_script_shape_fits
 simp only [cond_true,cond_false,d00,d02,d04,d06,emptyT,beq_dec]
 cases decide (s.Conn=0) <;> cases decide (s.N=0) <;> rfl
theorem shp4:p_script_shapes ((4:Nat):Int)=some (ScriptShape.mk (⟨#[99,114,101,100,105,116]⟩ : ByteArray) true (4:Int) false,true):=rfl
theorem fit4 (s:BrokerStep):p_script_shape_fits (ScriptShape.mk (⟨#[99,114,101,100,105,116]⟩ : ByteArray) true (4:Int) false) s=some (decide (s.Text=⟨#[]⟩)):=by
 unfold p_script_shape_fits
 simp only [cond_true,cond_false,d00,d02,d04,d06,emptyT,beq_dec]
theorem shp5:p_script_shapes ((5:Nat):Int)=some (ScriptShape.mk (⟨#[100,114,97,119]⟩ : ByteArray) false (6:Int) false,true):=rfl
theorem fit5 (s:BrokerStep):p_script_shape_fits (ScriptShape.mk (⟨#[100,114,97,119]⟩ : ByteArray) false (6:Int) false) s=some (decide (s.Conn=0) && decide (s.Text=⟨#[]⟩)):=by
 unfold p_script_shape_fits
 simp only [cond_true,cond_false,d00,d02,d04,d06,emptyT,beq_dec]
 cases decide (s.Conn=0) <;> rfl
theorem put0 (c n:Int) (t:ByteArray):PutV (p_script_Put ⟨((0:Nat):Int),c,n,t⟩) (putZ ⟨((0:Nat):Int),c,n,t⟩):=by
 have hz:putZ ⟨((0:Nat):Int),c,n,t⟩=if t=⟨#[]⟩∧okN c 1∧okN n 2 then some (0 :: (beB c.toNat 1++beB n.toNat 2)) else none:=rfl
 rw [hz]
 unfold p_script_Put
 simp only [shp0,fit0,Option.bind_some,cond_true,cond_false]
 by_cases h0:t=⟨#[]⟩
 rotate_left
 ·simp only [h0,decide_false,Bool.false_and,Bool.and_false,cond_false,false_and,and_false,if_false]
  exact ⟨4,by decide,rfl⟩
 simp only [h0,decide_true,Bool.and_self,cond_true,cond_false,true_and,and_true,z00,d00,d02,d04,d06]
 rw [lay1]
 by_cases hc:okN c 1
 rotate_left
 ·simp only [hc,if_false,Option.bind_some,app_no,z80,z8n,cond_false,cond_true,false_and,and_false]
  exact ⟨8,by decide,rfl⟩
 simp only [hc,if_true,Option.bind_some,kind_toZ (show 0 < 256 by decide),true_and]
 rw [app_toZ _ _ (by simp [beB_len])]
 simp only [Option.bind_some,z00,cond_true]
 rw [lay2]
 by_cases hn:okN n 2
 rotate_left
 ·rw [if_neg hn,Option.bind_some,app_noZ _ (by simp [beB_len])]
  simp only [hn,if_false,Option.bind_some,z80,z8n,cond_false,cond_true,and_false]
  exact ⟨8,by decide,rfl⟩
 rw [if_pos hn,Option.bind_some,app_toZ _ _ (by simp [beB_len])]
 simp only [hn,if_true,Option.bind_some,z00,z0n,cond_true,cond_false,text_toZ,and_self]
 rfl
theorem put1 (c n:Int) (t:ByteArray):PutV (p_script_Put ⟨((1:Nat):Int),c,n,t⟩) (putZ ⟨((1:Nat):Int),c,n,t⟩):=by
 have hz:putZ ⟨((1:Nat):Int),c,n,t⟩=if n=0∧okN c 1∧t.size≤255 then some (1 :: (beB c.toNat 1++(UInt8.ofNat t.size :: t.data.toList))) else none:=rfl
 rw [hz]
 unfold p_script_Put
 simp only [shp1,fit1,Option.bind_some,cond_true,cond_false]
 by_cases h0:n=0
 rotate_left
 ·simp only [h0,decide_false,Bool.false_and,Bool.and_false,cond_false,false_and,and_false,if_false]
  exact ⟨4,by decide,rfl⟩
 simp only [h0,decide_true,Bool.and_self,cond_true,cond_false,true_and,and_true,z00,d00,d02,d04,d06]
 rw [lay1]
 by_cases hc:okN c 1
 rotate_left
 ·simp only [hc,if_false,Option.bind_some,app_no,z80,z8n,cond_false,cond_true,false_and,and_false]
  exact ⟨8,by decide,rfl⟩
 simp only [hc,if_true,Option.bind_some,kind_toZ (show 1 < 256 by decide),true_and]
 rw [app_toZ _ _ (by simp [beB_len])]
 simp only [Option.bind_some,z00,cond_true]
 rw [say_w]
 by_cases ht:t.size≤255
 rotate_left
 ·rw [if_neg ht,Option.bind_some,app_noZ _ (by simp [beB_len])]
  simp only [ht,if_false,Option.bind_some,z5n,cond_true,and_false]
  exact ⟨5,by decide,rfl⟩
 have htl:t.data.toList.length=t.size:=by simp
 rw [if_pos ht,Option.bind_some,app_toZ _ _ (by simp only [List.length_append,List.length_cons,List.length_nil,beB_len,htl];omega)]
 simp only [ht,if_true,Option.bind_some,z0n,cond_false,text_toZ,and_self]
 rfl
theorem put2 (c n:Int) (t:ByteArray):PutV (p_script_Put ⟨((2:Nat):Int),c,n,t⟩) (putZ ⟨((2:Nat):Int),c,n,t⟩):=by
 have hz:putZ ⟨((2:Nat):Int),c,n,t⟩=if n=0∧t=⟨#[]⟩∧okN c 1 then some (2 :: beB c.toNat 1) else none:=rfl
 rw [hz]
 unfold p_script_Put
 simp only [shp2,fit2,Option.bind_some,cond_true,cond_false]
 by_cases h0:n=0
 rotate_left
 ·simp only [h0,decide_false,Bool.false_and,Bool.and_false,cond_false,false_and,and_false,if_false]
  exact ⟨4,by decide,rfl⟩
 by_cases h1:t=⟨#[]⟩
 rotate_left
 ·simp only [h1,decide_false,Bool.false_and,Bool.and_false,cond_false,false_and,and_false,if_false]
  exact ⟨4,by decide,rfl⟩
 simp only [h0,h1,decide_true,Bool.and_self,cond_true,cond_false,true_and,and_true,z00,d00,d02,d04,d06]
 rw [lay1]
 by_cases hc:okN c 1
 rotate_left
 ·simp only [hc,if_false,Option.bind_some,app_no,z80,z8n,cond_false,cond_true,false_and,and_false]
  exact ⟨8,by decide,rfl⟩
 simp only [hc,if_true,Option.bind_some,kind_toZ (show 2 < 256 by decide),true_and]
 rw [app_toZ _ _ (by simp [beB_len])]
 simp only [Option.bind_some,z00,cond_true]
 simp only [if_true,Option.bind_some,z0n,cond_false,text_toZ,and_self]
 rfl
theorem put3 (c n:Int) (t:ByteArray):PutV (p_script_Put ⟨((3:Nat):Int),c,n,t⟩) (putZ ⟨((3:Nat):Int),c,n,t⟩):=by
 have hz:putZ ⟨((3:Nat):Int),c,n,t⟩=if c=0∧n=0∧t=⟨#[]⟩ then some ([3]) else none:=rfl
 rw [hz]
 unfold p_script_Put
 simp only [shp3,fit3,Option.bind_some,cond_true,cond_false]
 by_cases h0:c=0
 rotate_left
 ·simp only [h0,decide_false,Bool.false_and,Bool.and_false,cond_false,false_and,and_false,if_false]
  exact ⟨4,by decide,rfl⟩
 by_cases h1:n=0
 rotate_left
 ·simp only [h1,decide_false,Bool.false_and,Bool.and_false,cond_false,false_and,and_false,if_false]
  exact ⟨4,by decide,rfl⟩
 by_cases h2:t=⟨#[]⟩
 rotate_left
 ·simp only [h2,decide_false,Bool.false_and,Bool.and_false,cond_false,false_and,and_false,if_false]
  exact ⟨4,by decide,rfl⟩
 simp only [h0,h1,h2,decide_true,Bool.and_self,cond_true,cond_false,true_and,and_true,z00,d00,d02,d04,d06]
 simp only [if_true,kind_toZ (show 3 < 256 by decide),Option.bind_some,z0n,cond_false,text_toZ,and_self]
 rfl
theorem put4 (c n:Int) (t:ByteArray):PutV (p_script_Put ⟨((4:Nat):Int),c,n,t⟩) (putZ ⟨((4:Nat):Int),c,n,t⟩):=by
 have hz:putZ ⟨((4:Nat):Int),c,n,t⟩=if t=⟨#[]⟩∧okN c 1∧okN n 4 then some (4 :: (beB c.toNat 1++beB n.toNat 4)) else none:=rfl
 rw [hz]
 unfold p_script_Put
 simp only [shp4,fit4,Option.bind_some,cond_true,cond_false]
 by_cases h0:t=⟨#[]⟩
 rotate_left
 ·simp only [h0,decide_false,Bool.false_and,Bool.and_false,cond_false,false_and,and_false,if_false]
  exact ⟨4,by decide,rfl⟩
 simp only [h0,decide_true,Bool.and_self,cond_true,cond_false,true_and,and_true,z00,d00,d02,d04,d06]
 rw [lay1]
 by_cases hc:okN c 1
 rotate_left
 ·simp only [hc,if_false,Option.bind_some,app_no,z80,z8n,cond_false,cond_true,false_and,and_false]
  exact ⟨8,by decide,rfl⟩
 simp only [hc,if_true,Option.bind_some,kind_toZ (show 4 < 256 by decide),true_and]
 rw [app_toZ _ _ (by simp [beB_len])]
 simp only [Option.bind_some,z00,cond_true]
 rw [lay4]
 by_cases hn:okN n 4
 rotate_left
 ·rw [if_neg hn,Option.bind_some,app_noZ _ (by simp [beB_len])]
  simp only [hn,if_false,Option.bind_some,z80,z8n,cond_false,cond_true,and_false]
  exact ⟨8,by decide,rfl⟩
 rw [if_pos hn,Option.bind_some,app_toZ _ _ (by simp [beB_len])]
 simp only [hn,if_true,Option.bind_some,z00,z0n,cond_true,cond_false,text_toZ,and_self]
 rfl
theorem put5 (c n:Int) (t:ByteArray):PutV (p_script_Put ⟨((5:Nat):Int),c,n,t⟩) (putZ ⟨((5:Nat):Int),c,n,t⟩):=by
 have hz:putZ ⟨((5:Nat):Int),c,n,t⟩=if c=0∧t=⟨#[]⟩∧okN n 6 then some (5 :: beB n.toNat 6) else none:=rfl
 rw [hz]
 unfold p_script_Put
 simp only [shp5,fit5,Option.bind_some,cond_true,cond_false]
 by_cases h0:c=0
 rotate_left
 ·simp only [h0,decide_false,Bool.false_and,Bool.and_false,cond_false,false_and,and_false,if_false]
  exact ⟨4,by decide,rfl⟩
 by_cases h1:t=⟨#[]⟩
 rotate_left
 ·simp only [h1,decide_false,Bool.false_and,Bool.and_false,cond_false,false_and,and_false,if_false]
  exact ⟨4,by decide,rfl⟩
 simp only [h0,h1,decide_true,Bool.and_self,cond_true,cond_false,true_and,and_true,z00,d00,d02,d04,d06]
 rw [lay6]
 by_cases hn:okN n 6
 rotate_left
 ·simp only [hn,if_false,Option.bind_some,app_no,z80,z8n,cond_false,cond_true,false_and,and_false]
  exact ⟨8,by decide,rfl⟩
 simp only [hn,if_true,Option.bind_some,kind_toZ (show 5 < 256 by decide),and_self]
 rw [app_toZ _ _ (by simp [beB_len])]
 simp only [Option.bind_some,z00,z0n,cond_true,cond_false,text_toZ]
 rfl
theorem put_z (s:BrokerStep) (hk:0≤s.Kind∧s.Kind≤255):PutV (p_script_Put s) (putZ s):=by
 obtain ⟨k,c,n,t⟩:=s
 obtain ⟨k,rfl⟩:=Int.eq_ofNat_of_zero_le hk.1
 have h:k=0∨k=1∨k=2∨k=3∨k=4∨k=5∨6≤k:=by omega
 rcases h with rfl | rfl | rfl | rfl | rfl | rfl | h
 ·exact put0 c n t
 ·exact put1 c n t
 ·exact put2 c n t
 ·exact put3 c n t
 ·exact put4 c n t
 ·exact put5 c n t
 ·have e0:((k:Int) == 0)=false:=beq_eq_false_iff_ne.2 (by omega)
  have e1:((k:Int) == 1)=false:=beq_eq_false_iff_ne.2 (by omega)
  have e2:((k:Int) == 2)=false:=beq_eq_false_iff_ne.2 (by omega)
  have e3:((k:Int) == 3)=false:=beq_eq_false_iff_ne.2 (by omega)
  have e4:((k:Int) == 4)=false:=beq_eq_false_iff_ne.2 (by omega)
  have e5:((k:Int) == 5)=false:=beq_eq_false_iff_ne.2 (by omega)
  have hz:putZ ⟨(k:Int),c,n,t⟩=none:=by
   unfold putZ
   rw [if_neg (show ¬ (k:Int)=0 by omega),if_neg (show ¬ (k:Int)=1 by omega),if_neg (show ¬ (k:Int)=2 by omega),if_neg (show ¬ (k:Int)=3 by omega),if_neg (show ¬ (k:Int)=4 by omega),if_neg (show ¬ (k:Int)=5 by omega)]
  rw [hz]
  unfold p_script_Put p_script_shapes
  simp only [e0,e1,e2,e3,e4,e5,cond_false,Option.bind_some]
  exact ⟨12,by decide,rfl⟩
end Go.Proofs.YtbimgghogflikaaGreatDoor

namespace Go.Proofs.YtbimgghogflikaaGreatDoor
open Go.RowKit
section
variable {S : ByteArray} {a w : Nat}
theorem left_z (hn:S.data.toList.length≤100000) (h:a≤S.data.toList.length):p_octet_Left ⟨S,(a:Int),0⟩=some (((S.data.toList.length - a:Nat):Int)):=by
 have hs:S.data.toList.length=S.size:=by simp
 unfold p_octet_Left
 rw [fault_ok (r:=⟨S,(a:Int),0⟩) rfl rfl h,Option.bind_some,z0n,cond_false,w64_id (by show _≤(S.size:Int) - (a:Int)∧(S.size:Int) - (a:Int)≤_;omega)]
 show some ((S.size:Int) - (a:Int))=_
 congr 1;omega
theorem num_yes (hw:w=1∨w=2∨w=4∨w=6) (hn:S.data.toList.length≤100000) (h:a + w≤S.data.toList.length):p_octet_Num ⟨S,(a:Int),0⟩ (w:Int)=some (⟨S,((a + w:Nat):Int),0⟩,((fold8 0 ((S.data.toList.drop a).take w):Nat):Int)):=by
 have w1:p_octet_wide (w:Int)=some true:=by rcases hw with rfl | rfl | rfl | rfl <;> kernel_rfl
 unfold p_octet_Num
 rw [fault_ok (r:=⟨S,(a:Int),0⟩) rfl rfl (by show a≤S.data.toList.length;omega),Option.bind_some,z0n,cond_false,w1,Option.bind_some,cond_true,left_z hn (by omega),Option.bind_some]
 obtain ⟨x,hx1,hx2⟩:=sub_list h
 have hxl:x.data.toList.length=w:=by rw [hx2,List.length_take,List.length_drop];omega
 have n1:=num_l x (by omega) w 0 fuel 0 (by omega) (by have:=fuel_pos;omega) (by decide)
 rw [List.drop_zero,hx2] at n1
 have z0:((0:Nat):Int)=0:=rfl
 rw [z0] at n1
 have e:w64 ((a:Int) + (w:Int))=((a + w:Nat):Int):=by rw [w64_id (by omega)];omega
 rw [lt_ff (by omega),cond_false]
 show ((sub? S (some (a:Int)) (some (w64 ((a:Int) + (w:Int))))).bind _)=_
 rw [e,hx1,Option.bind_some,n1,Option.bind_some]
theorem num_not (hw:w=1∨w=2∨w=4∨w=6) (hn:S.data.toList.length≤100000) (ha:a≤S.data.toList.length) (h:S.data.toList.length < a + w):p_octet_Num ⟨S,(a:Int),0⟩ (w:Int)=some (⟨S,(a:Int),3⟩,0):=by
 have w1:p_octet_wide (w:Int)=some true:=by rcases hw with rfl | rfl | rfl | rfl <;> kernel_rfl
 unfold p_octet_Num
 rw [fault_ok (r:=⟨S,(a:Int),0⟩) rfl rfl ha,Option.bind_some,z0n,cond_false,w1,Option.bind_some,cond_true,left_z hn ha,Option.bind_some,lt_tt (by omega),cond_true];rfl
theorem num_bad {r:OctetRead} {n:Int} (h:r.Bad≠0):p_octet_Num r n=some (r,0):=by
 unfold p_octet_Num p_octet_Read_fault
 rw [show (r.Bad == 0)=false from beq_eq_false_iff_ne.2 h,cond_false,Option.bind_some,show (r.Bad != 0)=true from bne_iff_ne.2 h];rfl
theorem text_bad {r:OctetRead} (h:r.Bad≠0):p_octet_Text r 255=some (r,⟨#[]⟩):=by
 unfold p_octet_Text
 rw [num_bad h,Option.bind_some,show (r.Bad != 0)=true from bne_iff_ne.2 h];rfl
theorem text_yes {m:UInt8} {t l:List UInt8} (hn:S.data.toList.length≤100000) (ha:S.data.toList.drop a=m :: (t++l)) (hm:t.length=m.toNat):p_octet_Text ⟨S,(a:Int),0⟩ 255=some (⟨S,((a + 1 + m.toNat:Nat):Int),0⟩,⟨t.toArray⟩):=by
 have hl:S.data.toList.length=a + 1 + m.toNat + l.length:=by
  have h1:=congrArg List.length ha
  rw [List.length_drop,List.length_cons,List.length_append] at h1
  have h2:a≤S.data.toList.length:=by
   rcases Nat.lt_or_ge S.data.toList.length a with g | g
   ·rw [List.drop_of_length_le (by omega)] at ha;cases ha
   ·exact g
  omega
 have hm2:=m.toNat_lt
 have n1:=num_yes (S:=S) (a:=a) (w:=1) (.inl rfl) hn (by omega)
 rw [ha] at n1
 have n1' : p_octet_Num ⟨S,(a:Int),0⟩ 1=some (⟨S,((a + 1:Nat):Int),0⟩,((m.toNat:Nat):Int)):=by
  have e:fold8 0 (List.take 1 (m :: (t++l)))=m.toNat:=by simp [fold8]
  rw [e] at n1;exact n1
 unfold p_octet_Text
 rw [n1',Option.bind_some,z0n,cond_false,decide_eq_false (by omega),cond_false,left_z hn (by omega),Option.bind_some,lt_ff (by omega),cond_false]
 obtain ⟨x,hx1,hx2⟩:=sub_list (s:=S) (a:=a + 1) (n:=m.toNat) (by omega)
 have e:w64 (((a + 1:Nat):Int) + ((m.toNat:Nat):Int))=((a + 1 + m.toNat:Nat):Int):=by rw [w64_id (by omega)];omega
 show ((sub? S (some ((a + 1:Nat):Int)) (some (w64 (((a + 1:Nat):Int) + ((m.toNat:Nat):Int))))).bind _)=_
 rw [e,hx1,Option.bind_some]
 show some (OctetRead.mk S ((a + 1 + m.toNat:Nat):Int) 0,x)=_
 congr 2
 apply ba_ext
 rw [hx2,← List.drop_drop,ha]
 simp [hm]
theorem text_not (hn:S.data.toList.length≤100000) (ha:a≤S.data.toList.length) (h:S.data.toList.drop a=[]∨∃ m T,S.data.toList.drop a=m :: T∧T.length < m.toNat):∃ r,p_octet_Text ⟨S,(a:Int),0⟩ 255=some (r,⟨#[]⟩)∧r.Bad≠0:=by
 rcases h with h | ⟨m,T,h1,h2⟩
 ·have hl:S.data.toList.length=a:=by have:=congrArg List.length h;rw [List.length_drop,List.length_nil] at this;omega
  have n1:=num_not (S:=S) (a:=a) (w:=1) (.inl rfl) hn ha (by omega)
  have n1' : p_octet_Num ⟨S,(a:Int),0⟩ 1=some (⟨S,(a:Int),3⟩,0):=n1
  unfold p_octet_Text
  rw [n1',Option.bind_some,show ((3:Int) != 0)=true from rfl]
  exact ⟨_,rfl,by show (3:Int)≠0;decide⟩
 ·have hl:S.data.toList.length=a + 1 + T.length:=by have:=congrArg List.length h1;rw [List.length_drop,List.length_cons] at this;omega
  have hm2:=m.toNat_lt
  have n1:=num_yes (S:=S) (a:=a) (w:=1) (.inl rfl) hn (by omega)
  rw [h1] at n1
  have n1' : p_octet_Num ⟨S,(a:Int),0⟩ 1=some (⟨S,((a + 1:Nat):Int),0⟩,((m.toNat:Nat):Int)):=by
   have e:fold8 0 (List.take 1 (m :: T))=m.toNat:=by simp [fold8]
   rw [e] at n1;exact n1
  unfold p_octet_Text
  rw [n1',Option.bind_some,z0n,cond_false,decide_eq_false (by omega),cond_false,left_z hn (by omega),Option.bind_some,lt_tt (by omega),cond_true]
  exact ⟨_,rfl,by show (3:Int)≠0;decide⟩
end
def BadG (m:Option (BrokerStep × Int × Int)):Prop:=∃ x,m=some x∧x.2.2≠0
theorem endG_bad {k c n:Int} {t:ByteArray} {r:OctetRead} (h:r.Bad≠0):BadG (some (endG k c n t r)):=⟨_,rfl,by unfold endG;rw [if_pos h];exact h⟩
theorem endG_ok {k c n:Int} {t S:ByteArray} {a:Nat} (h:a≤1000000):some (endG k c n t ⟨S,(a:Int),0⟩)=some (⟨k,c,n,t⟩,((a + 1:Nat):Int),0):=by
 unfold endG
 rw [if_neg (by simp)]
 show some (_,w64 (1 + (a:Int)),_)=_
 rw [w64_id (by omega)]
 congr 3;omega
theorem get_head {b:ByteArray} {k:UInt8} {T:List UInt8} (hb:b.data.toList=k :: T) (hn:T.length≤99999):b.size=T.length + 1∧(b.toList == (⟨#[]⟩ : ByteArray).toList)=false∧byte? b (0:Int)=some (k.toNat:Int)∧sub? b (some (1:Int)) none=some (suf b 1)∧(suf b 1).data.toList=T:=by
 have hs:b.size=T.length + 1:=by
  have:=congrArg List.length hb
  simpa using this
 have hk:b[0]'(by omega)=k:=by
  have:b.data.toList[0]'(by rw [hb];simp)=k:=by simp [hb]
  rw [← this];simp [ByteArray.getElem_eq_getElem_data]
 refine ⟨hs,by rw [emptyB];exact decide_eq_false (by omega),?_,sub_suf (k:=1) (by omega),by rw [suf_list,hb];rfl⟩
 have:=byte_at (s:=b) (k:=0) (by omega)
 rw [hk] at this;exact this
theorem be_cut {T:List UInt8} {w:Nat} (h:w≤T.length):T=beB (fold8 0 (T.take w)) w++T.drop w∧fold8 0 (T.take w) < 256 ^ w:=by
 have hl:(T.take w).length=w:=by rw [List.length_take];omega
 refine ⟨by rw [be_fold w _ hl,List.take_append_drop],?_⟩
 have:=fold8_lt (T.take w) 0 0 (by decide)
 rwa [Nat.zero_add,hl] at this
theorem okN_nat {n w:Nat} (h:n < 256 ^ w):okN (n:Int) w:=⟨by omega,by
 have e:((256:Int) ^ w)=((256 ^ w:Nat):Int):=by simp
 rw [e];omega⟩
theorem okN_get {n:Int} {w:Nat} (h:okN n w):∃ m:Nat,n=(m:Int)∧m < 256 ^ w:=by
 obtain ⟨h0,h1⟩:=h
 obtain ⟨m,rfl⟩:=Int.eq_ofNat_of_zero_le h0
 have e:((256:Int) ^ w)=((256 ^ w:Nat):Int):=by simp
 rw [e] at h1
 exact ⟨m,rfl,by omega⟩
theorem num_be {S:ByteArray} {a w n:Nat} {R:List UInt8} (hw:w=1∨w=2∨w=4∨w=6) (hn:S.data.toList.length≤100000) (h:S.data.toList.drop a=beB n w++R) (hlt:n < 256 ^ w):p_octet_Num ⟨S,(a:Int),0⟩ (w:Int)=some (⟨S,((a + w:Nat):Int),0⟩,(n:Int))∧S.data.toList.drop (a + w)=R∧a + w≤S.data.toList.length:=by
 have hl:=congrArg List.length h
 rw [List.length_drop,List.length_append,beB_len] at hl
 have hw0:0 < w:=by omega
 have ha:a + w≤S.data.toList.length:=by omega
 have:=num_yes hw hn ha
 rw [h,List.take_left' (beB_len w n),fold_be w n hlt] at this
 refine ⟨this,?_,ha⟩
 rw [← List.drop_drop,h,List.drop_left' (beB_len w n)]
theorem got0 {b:ByteArray} {c:Nat} {n:Nat} {R:List UInt8} (hl:b.data.toList.length≤100000) (hb:b.data.toList=0 :: (beB c 1++(beB n 2++R))) (hc:c < 256 ^ 1) (hn:n < 256 ^ 2):p_script_Get b=some (⟨((0:Nat):Int),(c:Int),(n:Int),⟨#[]⟩⟩,((1 + 1 + 2:Nat):Int),0):=by
 have hT:(beB c 1++(beB n 2++R)).length≤99999:=by rw [hb,List.length_cons] at hl;omega
 obtain ⟨g1,g2,g3,g4,g5⟩:=get_head hb hT
 have g3' : byte? b (0:Int)=some ((0:Nat):Int):=g3
 have hS:(suf b 1).data.toList.length≤100000:=by rw [g5];omega
 have o1:p_octet_Open (suf b 1)=some (⟨suf b 1,((0:Nat):Int),0⟩):=rfl
 have d0:(suf b 1).data.toList.drop 0=beB c 1++(beB n 2++R):=by rw [List.drop_zero];exact g5
 obtain ⟨c1,c2,c3⟩:=num_be (w:=1) (.inl rfl) hS d0 hc
 have c1' : p_octet_Num ⟨suf b 1,((0:Nat):Int),0⟩ 1=_:=c1
 obtain ⟨n1,n2,n3⟩:=num_be (w:=2) (.inr (.inl rfl)) hS c2 hn
 have n1' : p_octet_Num ⟨suf b 1,(((0 + 1):Nat):Int),0⟩ 2=_:=n1
 unfold p_script_Get
 simp only [g2,cond_false,g3',Option.bind_some,shp0,cond_true,g4,o1,c1',n1',d00,d02,d04,d06,endG_p]
 refine (endG_ok (by omega)).trans ?_
 first | rfl | (congr 3;omega)
theorem got1 {b:ByteArray} {c:Nat} {t:ByteArray} {R:List UInt8} (hl:b.data.toList.length≤100000) (hb:b.data.toList=1 :: (beB c 1++((UInt8.ofNat t.size :: t.data.toList)++R))) (hc:c < 256 ^ 1) (ht:t.size≤255):p_script_Get b=some (⟨((1:Nat):Int),(c:Int),0,t⟩,((1 + 1 + (1 + t.size):Nat):Int),0):=by
 have hT:(beB c 1++((UInt8.ofNat t.size :: t.data.toList)++R)).length≤99999:=by rw [hb,List.length_cons] at hl;omega
 obtain ⟨g1,g2,g3,g4,g5⟩:=get_head hb hT
 have g3' : byte? b (0:Int)=some ((1:Nat):Int):=g3
 have hS:(suf b 1).data.toList.length≤100000:=by rw [g5];omega
 have o1:p_octet_Open (suf b 1)=some (⟨suf b 1,((0:Nat):Int),0⟩):=rfl
 have d0:(suf b 1).data.toList.drop 0=beB c 1++((UInt8.ofNat t.size :: t.data.toList)++R):=by rw [List.drop_zero];exact g5
 obtain ⟨c1,c2,c3⟩:=num_be (w:=1) (.inl rfl) hS d0 hc
 have c1' : p_octet_Num ⟨suf b 1,((0:Nat):Int),0⟩ 1=_:=c1
 have e8:(UInt8.ofNat t.size).toNat=t.size:=by rw [UInt8.toNat_ofNat'];omega
 have t1:=text_yes (a:=0 + 1) (t:=t.data.toList) (l:=R) hS (by rw [c2];rfl) (by rw [e8];simp)
 rw [e8] at t1
 have t1' : p_octet_Text ⟨suf b 1,((0 + 1:Nat):Int),0⟩ 255=some (⟨suf b 1,((0 + 1 + 1 + t.size:Nat):Int),0⟩,t):=t1
 unfold p_script_Get
 simp only [g2,cond_false,g3',Option.bind_some,shp1,cond_true,g4,o1,c1',t1',d00,d02,d04,d06,endG_p]
 refine (endG_ok (by omega)).trans ?_
 first | rfl | (congr 3;omega)
theorem got2 {b:ByteArray} {c:Nat} {R:List UInt8} (hl:b.data.toList.length≤100000) (hb:b.data.toList=2 :: (beB c 1++R)) (hc:c < 256 ^ 1):p_script_Get b=some (⟨((2:Nat):Int),(c:Int),0,⟨#[]⟩⟩,((1 + 1:Nat):Int),0):=by
 have hT:(beB c 1++R).length≤99999:=by rw [hb,List.length_cons] at hl;omega
 obtain ⟨g1,g2,g3,g4,g5⟩:=get_head hb hT
 have g3' : byte? b (0:Int)=some ((2:Nat):Int):=g3
 have hS:(suf b 1).data.toList.length≤100000:=by rw [g5];omega
 have o1:p_octet_Open (suf b 1)=some (⟨suf b 1,((0:Nat):Int),0⟩):=rfl
 have d0:(suf b 1).data.toList.drop 0=beB c 1++R:=by rw [List.drop_zero];exact g5
 obtain ⟨c1,c2,c3⟩:=num_be (w:=1) (.inl rfl) hS d0 hc
 have c1' : p_octet_Num ⟨suf b 1,((0:Nat):Int),0⟩ 1=_:=c1
 unfold p_script_Get
 simp only [g2,cond_false,g3',Option.bind_some,shp2,cond_true,g4,o1,c1',d00,d02,d04,d06,endG_p]
 refine (endG_ok (by omega)).trans ?_
 first | rfl | (congr 3;omega)
theorem got3 {b:ByteArray} {R:List UInt8} (hl:b.data.toList.length≤100000) (hb:b.data.toList=3 :: (R)):p_script_Get b=some (⟨((3:Nat):Int),0,0,⟨#[]⟩⟩,((1:Nat):Int),0):=by
 have hT:(R).length≤99999:=by rw [hb,List.length_cons] at hl;omega
 obtain ⟨g1,g2,g3,g4,g5⟩:=get_head hb hT
 have g3' : byte? b (0:Int)=some ((3:Nat):Int):=g3
 have hS:(suf b 1).data.toList.length≤100000:=by rw [g5];omega
 have o1:p_octet_Open (suf b 1)=some (⟨suf b 1,((0:Nat):Int),0⟩):=rfl
 have d0:(suf b 1).data.toList.drop 0=R:=by rw [List.drop_zero];exact g5
 unfold p_script_Get
 simp only [g2,cond_false,g3',Option.bind_some,shp3,cond_true,g4,o1,d00,d02,d04,d06,endG_p]
 refine (endG_ok (by omega)).trans ?_
 first | rfl | (congr 3;omega)
theorem got4 {b:ByteArray} {c:Nat} {n:Nat} {R:List UInt8} (hl:b.data.toList.length≤100000) (hb:b.data.toList=4 :: (beB c 1++(beB n 4++R))) (hc:c < 256 ^ 1) (hn:n < 256 ^ 4):p_script_Get b=some (⟨((4:Nat):Int),(c:Int),(n:Int),⟨#[]⟩⟩,((1 + 1 + 4:Nat):Int),0):=by
 have hT:(beB c 1++(beB n 4++R)).length≤99999:=by rw [hb,List.length_cons] at hl;omega
 obtain ⟨g1,g2,g3,g4,g5⟩:=get_head hb hT
 have g3' : byte? b (0:Int)=some ((4:Nat):Int):=g3
 have hS:(suf b 1).data.toList.length≤100000:=by rw [g5];omega
 have o1:p_octet_Open (suf b 1)=some (⟨suf b 1,((0:Nat):Int),0⟩):=rfl
 have d0:(suf b 1).data.toList.drop 0=beB c 1++(beB n 4++R):=by rw [List.drop_zero];exact g5
 obtain ⟨c1,c2,c3⟩:=num_be (w:=1) (.inl rfl) hS d0 hc
 have c1' : p_octet_Num ⟨suf b 1,((0:Nat):Int),0⟩ 1=_:=c1
 obtain ⟨n1,n2,n3⟩:=num_be (w:=4) (.inr (.inr (.inl rfl))) hS c2 hn
 have n1' : p_octet_Num ⟨suf b 1,(((0 + 1):Nat):Int),0⟩ 4=_:=n1
 unfold p_script_Get
 simp only [g2,cond_false,g3',Option.bind_some,shp4,cond_true,g4,o1,c1',n1',d00,d02,d04,d06,endG_p]
 refine (endG_ok (by omega)).trans ?_
 first | rfl | (congr 3;omega)
theorem got5 {b:ByteArray} {n:Nat} {R:List UInt8} (hl:b.data.toList.length≤100000) (hb:b.data.toList=5 :: (beB n 6++R)) (hn:n < 256 ^ 6):p_script_Get b=some (⟨((5:Nat):Int),0,(n:Int),⟨#[]⟩⟩,((1 + 6:Nat):Int),0):=by
 have hT:(beB n 6++R).length≤99999:=by rw [hb,List.length_cons] at hl;omega
 obtain ⟨g1,g2,g3,g4,g5⟩:=get_head hb hT
 have g3' : byte? b (0:Int)=some ((5:Nat):Int):=g3
 have hS:(suf b 1).data.toList.length≤100000:=by rw [g5];omega
 have o1:p_octet_Open (suf b 1)=some (⟨suf b 1,((0:Nat):Int),0⟩):=rfl
 have d0:(suf b 1).data.toList.drop 0=beB n 6++R:=by rw [List.drop_zero];exact g5
 obtain ⟨n1,n2,n3⟩:=num_be (w:=6) (.inr (.inr (.inr rfl))) hS d0 hn
 have n1' : p_octet_Num ⟨suf b 1,((0:Nat):Int),0⟩ 6=_:=n1
 unfold p_script_Get
 simp only [g2,cond_false,g3',Option.bind_some,shp5,cond_true,g4,o1,n1',d00,d02,d04,d06,endG_p]
 refine (endG_ok (by omega)).trans ?_
 first | rfl | (congr 3;omega)
theorem putZ0 (c n:Int) (t:ByteArray):putZ ⟨0,c,n,t⟩=if t=⟨#[]⟩∧okN c 1∧okN n 2 then some (0 :: (beB c.toNat 1++beB n.toNat 2)) else none:=rfl
theorem putZ1 (c n:Int) (t:ByteArray):putZ ⟨1,c,n,t⟩=if n=0∧okN c 1∧t.size≤255 then some (1 :: (beB c.toNat 1++(UInt8.ofNat t.size :: t.data.toList))) else none:=rfl
theorem putZ2 (c n:Int) (t:ByteArray):putZ ⟨2,c,n,t⟩=if n=0∧t=⟨#[]⟩∧okN c 1 then some (2 :: beB c.toNat 1) else none:=rfl
theorem putZ3 (c n:Int) (t:ByteArray):putZ ⟨3,c,n,t⟩=if c=0∧n=0∧t=⟨#[]⟩ then some ([3]) else none:=rfl
theorem putZ4 (c n:Int) (t:ByteArray):putZ ⟨4,c,n,t⟩=if t=⟨#[]⟩∧okN c 1∧okN n 4 then some (4 :: (beB c.toNat 1++beB n.toNat 4)) else none:=rfl
theorem putZ5 (c n:Int) (t:ByteArray):putZ ⟨5,c,n,t⟩=if c=0∧t=⟨#[]⟩∧okN n 6 then some (5 :: beB n.toNat 6) else none:=rfl
theorem back0 {b:ByteArray} {T:List UInt8} (hb:b.data.toList=0 :: T) (hn:T.length≤99999):(∃ s l R,b.data.toList=l++R∧putZ s=some l∧(0≤s.Kind∧s.Kind≤255)∧p_script_Get b=some (s,(l.length:Int),0))∨BadG (p_script_Get b):=by
 have hl:b.data.toList.length≤100000:=by rw [hb,List.length_cons];omega
 obtain ⟨g1,g2,g3,g4,g5⟩:=get_head hb hn
 have g3' : byte? b (0:Int)=some ((0:Nat):Int):=g3
 have hS:(suf b 1).data.toList.length≤100000:=by rw [g5];omega
 have o1:p_octet_Open (suf b 1)=some (⟨suf b 1,((0:Nat):Int),0⟩):=rfl
 by_cases h1:1≤T.length
 rotate_left
 ·have n1:=num_not (S:=suf b 1) (a:=0) (w:=1) (.inl rfl) hS (Nat.zero_le _) (by rw [g5];omega)
  have n1' : p_octet_Num ⟨suf b 1,((0:Nat):Int),0⟩ 1=some (⟨suf b 1,((0:Nat):Int),3⟩,0):=n1
  right
  have n2:p_octet_Num ⟨suf b 1,((0:Nat):Int),3⟩ 2=_:=num_bad (by show (3:Int)≠0;decide)
  unfold p_script_Get;simp only [g2,cond_false,g3',Option.bind_some,shp0,cond_true,g4,o1,n1',n2,d00,d02,d04,d06,endG_p]
  exact endG_bad (by show (3:Int)≠0;decide)
 obtain ⟨q1,q2⟩:=be_cut h1
 have hT2:(T.drop 1).length=T.length - 1:=List.length_drop ..
 by_cases h2:2≤(T.drop 1).length
 rotate_left
 ·have n1:=num_yes (S:=suf b 1) (a:=0) (w:=1) (.inl rfl) hS (by rw [g5];omega)
  have n1' : p_octet_Num ⟨suf b 1,((0:Nat):Int),0⟩ 1=some (⟨suf b 1,((0 + 1:Nat):Int),0⟩,_):=n1
  have n2:p_octet_Num ⟨suf b 1,((0 + 1:Nat):Int),0⟩ 2=_:=num_not (S:=suf b 1) (a:=0 + 1) (w:=2) (.inr (.inl rfl)) hS (by rw [g5];omega) (by rw [g5];omega)
  right
  unfold p_script_Get;simp only [g2,cond_false,g3',Option.bind_some,shp0,cond_true,g4,o1,n1',n2,d00,d02,d04,d06,endG_p]
  exact endG_bad (by show (3:Int)≠0;decide)
 obtain ⟨q3,q4⟩:=be_cut h2
 have e:T=beB (fold8 0 (T.take 1)) 1++(beB (fold8 0 ((T.drop 1).take 2)) 2++(T.drop 1).drop 2):=q1.trans (congrArg _ q3)
 left
 refine ⟨⟨0,((fold8 0 (T.take 1):Nat):Int),((fold8 0 ((T.drop 1).take 2):Nat):Int),⟨#[]⟩⟩,0 :: (beB (fold8 0 (T.take 1)) 1++beB (fold8 0 ((T.drop 1).take 2)) 2),(T.drop 1).drop 2,?_,?_,⟨show (0:Int)≤0 by decide,show (0:Int)≤255 by decide⟩,?_⟩
 ·rw [hb,List.cons_append,List.append_assoc];exact congrArg _ e
 ·rw [putZ0,if_pos ⟨rfl,okN_nat q2,okN_nat q4⟩];simp only [Int.toNat_natCast]
 ·have:=got0 hl (hb.trans (congrArg _ e)) q2 q4
  rw [this,List.length_cons,List.length_append,beB_len,beB_len];rfl
theorem back1 {b:ByteArray} {T:List UInt8} (hb:b.data.toList=1 :: T) (hn:T.length≤99999):(∃ s l R,b.data.toList=l++R∧putZ s=some l∧(0≤s.Kind∧s.Kind≤255)∧p_script_Get b=some (s,(l.length:Int),0))∨BadG (p_script_Get b):=by
 have hl:b.data.toList.length≤100000:=by rw [hb,List.length_cons];omega
 obtain ⟨g1,g2,g3,g4,g5⟩:=get_head hb hn
 have g3' : byte? b (0:Int)=some ((1:Nat):Int):=g3
 have hS:(suf b 1).data.toList.length≤100000:=by rw [g5];omega
 have o1:p_octet_Open (suf b 1)=some (⟨suf b 1,((0:Nat):Int),0⟩):=rfl
 by_cases h1:1≤T.length
 rotate_left
 ·have n1:=num_not (S:=suf b 1) (a:=0) (w:=1) (.inl rfl) hS (Nat.zero_le _) (by rw [g5];omega)
  have n1' : p_octet_Num ⟨suf b 1,((0:Nat):Int),0⟩ 1=some (⟨suf b 1,((0:Nat):Int),3⟩,0):=n1
  right
  have n2:p_octet_Text ⟨suf b 1,((0:Nat):Int),3⟩ 255=_:=text_bad (by show (3:Int)≠0;decide)
  unfold p_script_Get;simp only [g2,cond_false,g3',Option.bind_some,shp1,cond_true,g4,o1,n1',n2,d00,d02,d04,d06,endG_p]
  exact endG_bad (by show (3:Int)≠0;decide)
 obtain ⟨q1,q2⟩:=be_cut h1
 have hT2:(T.drop 1).length=T.length - 1:=List.length_drop ..
 have n1:=num_yes (S:=suf b 1) (a:=0) (w:=1) (.inl rfl) hS (by rw [g5];omega)
 have n1' : p_octet_Num ⟨suf b 1,((0:Nat):Int),0⟩ 1=some (⟨suf b 1,((0 + 1:Nat):Int),0⟩,_):=n1
 have bad:((suf b 1).data.toList.drop (0 + 1)=[]∨∃ m T',(suf b 1).data.toList.drop (0 + 1)=m :: T'∧T'.length < m.toNat)→BadG (p_script_Get b):=fun h=>by
  obtain ⟨r,n2,n3⟩:=text_not (S:=suf b 1) (a:=0 + 1) hS (by rw [g5];omega) h
  unfold p_script_Get;simp only [g2,cond_false,g3',Option.bind_some,shp1,cond_true,g4,o1,n1',n2,d00,d02,d04,d06,endG_p]
  exact endG_bad n3
 rw [g5] at bad
 cases hd:T.drop 1 with
 | nil=>exact .inr (bad (.inl hd))
 | cons m T' =>
  by_cases hm:T'.length < m.toNat
  ·exact .inr (bad (.inr ⟨m,T',hd,hm⟩))
  left
  have hm2:=m.toNat_lt
  have hml:(T'.take m.toNat).length=m.toNat:=by rw [List.length_take];omega
  have hsz:(⟨(T'.take m.toNat).toArray⟩ : ByteArray).size=m.toNat:=by show (T'.take m.toNat).toArray.size=_;simp;omega
  have hm8:UInt8.ofNat (⟨(T'.take m.toNat).toArray⟩ : ByteArray).size=m:=by rw [hsz];simp
  have e:T=beB (fold8 0 (T.take 1)) 1++((UInt8.ofNat (⟨(T'.take m.toNat).toArray⟩ : ByteArray).size :: (⟨(T'.take m.toNat).toArray⟩ : ByteArray).data.toList)++T'.drop m.toNat):=by
   rw [hm8]
   refine q1.trans (congrArg _ ?_)
   rw [hd]
   show m :: T'=m :: (T'.take m.toNat++T'.drop m.toNat)
   rw [List.take_append_drop]
  refine ⟨⟨1,((fold8 0 (T.take 1):Nat):Int),0,⟨(T'.take m.toNat).toArray⟩⟩,1 :: (beB (fold8 0 (T.take 1)) 1++(UInt8.ofNat (⟨(T'.take m.toNat).toArray⟩ : ByteArray).size :: (⟨(T'.take m.toNat).toArray⟩ : ByteArray).data.toList)),T'.drop m.toNat,?_,?_,⟨show (0:Int)≤1 by decide,show (1:Int)≤255 by decide⟩,?_⟩
  ·rw [hb,List.cons_append,List.append_assoc];exact congrArg _ e
  ·rw [putZ1,if_pos ⟨rfl,okN_nat q2,by omega⟩];simp only [Int.toNat_natCast]
  ·have:=got1 hl (hb.trans (congrArg _ e)) q2 (by omega)
   rw [this,List.length_cons,List.length_append,beB_len,List.length_cons]
   congr 3
   show ((1 + 1 + (1 + (⟨(T'.take m.toNat).toArray⟩ : ByteArray).size):Nat):Int)=_
   have h9:(⟨(T'.take m.toNat).toArray⟩ : ByteArray).data.toList.length=m.toNat:=hml
   omega
theorem back2 {b:ByteArray} {T:List UInt8} (hb:b.data.toList=2 :: T) (hn:T.length≤99999):(∃ s l R,b.data.toList=l++R∧putZ s=some l∧(0≤s.Kind∧s.Kind≤255)∧p_script_Get b=some (s,(l.length:Int),0))∨BadG (p_script_Get b):=by
 have hl:b.data.toList.length≤100000:=by rw [hb,List.length_cons];omega
 obtain ⟨g1,g2,g3,g4,g5⟩:=get_head hb hn
 have g3' : byte? b (0:Int)=some ((2:Nat):Int):=g3
 have hS:(suf b 1).data.toList.length≤100000:=by rw [g5];omega
 have o1:p_octet_Open (suf b 1)=some (⟨suf b 1,((0:Nat):Int),0⟩):=rfl
 by_cases h1:1≤T.length
 rotate_left
 ·have n1:=num_not (S:=suf b 1) (a:=0) (w:=1) (.inl rfl) hS (Nat.zero_le _) (by rw [g5];omega)
  have n1' : p_octet_Num ⟨suf b 1,((0:Nat):Int),0⟩ 1=some (⟨suf b 1,((0:Nat):Int),3⟩,0):=n1
  right
  unfold p_script_Get;simp only [g2,cond_false,g3',Option.bind_some,shp2,cond_true,g4,o1,n1',d00,d02,d04,d06,endG_p]
  exact endG_bad (by show (3:Int)≠0;decide)
 obtain ⟨q1,q2⟩:=be_cut h1
 have hT2:(T.drop 1).length=T.length - 1:=List.length_drop ..
 left
 refine ⟨⟨2,((fold8 0 (T.take 1):Nat):Int),0,⟨#[]⟩⟩,2 :: beB (fold8 0 (T.take 1)) 1,T.drop 1,?_,?_,⟨show (0:Int)≤2 by decide,show (2:Int)≤255 by decide⟩,?_⟩
 ·rw [hb,List.cons_append];exact congrArg _ q1
 ·rw [putZ2,if_pos ⟨rfl,rfl,okN_nat q2⟩];simp only [Int.toNat_natCast]
 ·have:=got2 hl (hb.trans (congrArg _ q1)) q2
  rw [this,List.length_cons,beB_len];rfl
theorem back3 {b:ByteArray} {T:List UInt8} (hb:b.data.toList=3 :: T) (hn:T.length≤99999):(∃ s l R,b.data.toList=l++R∧putZ s=some l∧(0≤s.Kind∧s.Kind≤255)∧p_script_Get b=some (s,(l.length:Int),0))∨BadG (p_script_Get b):=by
 have hl:b.data.toList.length≤100000:=by rw [hb,List.length_cons];omega
 obtain ⟨g1,g2,g3,g4,g5⟩:=get_head hb hn
 have g3' : byte? b (0:Int)=some ((3:Nat):Int):=g3
 have hS:(suf b 1).data.toList.length≤100000:=by rw [g5];omega
 have o1:p_octet_Open (suf b 1)=some (⟨suf b 1,((0:Nat):Int),0⟩):=rfl
 exact .inl ⟨⟨3,0,0,⟨#[]⟩⟩,[3],T,by rw [hb];rfl,rfl,⟨show (0:Int)≤3 by decide,show (3:Int)≤255 by decide⟩,got3 hl hb⟩
theorem back4 {b:ByteArray} {T:List UInt8} (hb:b.data.toList=4 :: T) (hn:T.length≤99999):(∃ s l R,b.data.toList=l++R∧putZ s=some l∧(0≤s.Kind∧s.Kind≤255)∧p_script_Get b=some (s,(l.length:Int),0))∨BadG (p_script_Get b):=by
 have hl:b.data.toList.length≤100000:=by rw [hb,List.length_cons];omega
 obtain ⟨g1,g2,g3,g4,g5⟩:=get_head hb hn
 have g3' : byte? b (0:Int)=some ((4:Nat):Int):=g3
 have hS:(suf b 1).data.toList.length≤100000:=by rw [g5];omega
 have o1:p_octet_Open (suf b 1)=some (⟨suf b 1,((0:Nat):Int),0⟩):=rfl
 by_cases h1:1≤T.length
 rotate_left
 ·have n1:=num_not (S:=suf b 1) (a:=0) (w:=1) (.inl rfl) hS (Nat.zero_le _) (by rw [g5];omega)
  have n1' : p_octet_Num ⟨suf b 1,((0:Nat):Int),0⟩ 1=some (⟨suf b 1,((0:Nat):Int),3⟩,0):=n1
  right
  have n2:p_octet_Num ⟨suf b 1,((0:Nat):Int),3⟩ 4=_:=num_bad (by show (3:Int)≠0;decide)
  unfold p_script_Get;simp only [g2,cond_false,g3',Option.bind_some,shp4,cond_true,g4,o1,n1',n2,d00,d02,d04,d06,endG_p]
  exact endG_bad (by show (3:Int)≠0;decide)
 obtain ⟨q1,q2⟩:=be_cut h1
 have hT2:(T.drop 1).length=T.length - 1:=List.length_drop ..
 by_cases h2:4≤(T.drop 1).length
 rotate_left
 ·have n1:=num_yes (S:=suf b 1) (a:=0) (w:=1) (.inl rfl) hS (by rw [g5];omega)
  have n1' : p_octet_Num ⟨suf b 1,((0:Nat):Int),0⟩ 1=some (⟨suf b 1,((0 + 1:Nat):Int),0⟩,_):=n1
  have n2:p_octet_Num ⟨suf b 1,((0 + 1:Nat):Int),0⟩ 4=_:=num_not (S:=suf b 1) (a:=0 + 1) (w:=4) (.inr (.inr (.inl rfl))) hS (by rw [g5];omega) (by rw [g5];omega)
  right
  unfold p_script_Get;simp only [g2,cond_false,g3',Option.bind_some,shp4,cond_true,g4,o1,n1',n2,d00,d02,d04,d06,endG_p]
  exact endG_bad (by show (3:Int)≠0;decide)
 obtain ⟨q3,q4⟩:=be_cut h2
 have e:T=beB (fold8 0 (T.take 1)) 1++(beB (fold8 0 ((T.drop 1).take 4)) 4++(T.drop 1).drop 4):=q1.trans (congrArg _ q3)
 left
 refine ⟨⟨4,((fold8 0 (T.take 1):Nat):Int),((fold8 0 ((T.drop 1).take 4):Nat):Int),⟨#[]⟩⟩,4 :: (beB (fold8 0 (T.take 1)) 1++beB (fold8 0 ((T.drop 1).take 4)) 4),(T.drop 1).drop 4,?_,?_,⟨show (0:Int)≤4 by decide,show (4:Int)≤255 by decide⟩,?_⟩
 ·rw [hb,List.cons_append,List.append_assoc];exact congrArg _ e
 ·rw [putZ4,if_pos ⟨rfl,okN_nat q2,okN_nat q4⟩];simp only [Int.toNat_natCast]
 ·have:=got4 hl (hb.trans (congrArg _ e)) q2 q4
  rw [this,List.length_cons,List.length_append,beB_len,beB_len];rfl
theorem back5 {b:ByteArray} {T:List UInt8} (hb:b.data.toList=5 :: T) (hn:T.length≤99999):(∃ s l R,b.data.toList=l++R∧putZ s=some l∧(0≤s.Kind∧s.Kind≤255)∧p_script_Get b=some (s,(l.length:Int),0))∨BadG (p_script_Get b):=by
 have hl:b.data.toList.length≤100000:=by rw [hb,List.length_cons];omega
 obtain ⟨g1,g2,g3,g4,g5⟩:=get_head hb hn
 have g3' : byte? b (0:Int)=some ((5:Nat):Int):=g3
 have hS:(suf b 1).data.toList.length≤100000:=by rw [g5];omega
 have o1:p_octet_Open (suf b 1)=some (⟨suf b 1,((0:Nat):Int),0⟩):=rfl
 by_cases h1:6≤T.length
 rotate_left
 ·have n1:p_octet_Num ⟨suf b 1,((0:Nat):Int),0⟩ 6=_:=num_not (S:=suf b 1) (a:=0) (w:=6) (.inr (.inr (.inr rfl))) hS (Nat.zero_le _) (by rw [g5];omega)
  right
  unfold p_script_Get;simp only [g2,cond_false,g3',Option.bind_some,shp5,cond_true,g4,o1,n1,d00,d02,d04,d06,endG_p]
  exact endG_bad (by show (3:Int)≠0;decide)
 obtain ⟨q1,q2⟩:=be_cut h1
 left
 refine ⟨⟨5,0,((fold8 0 (T.take 6):Nat):Int),⟨#[]⟩⟩,5 :: beB (fold8 0 (T.take 6)) 6,T.drop 6,?_,?_,⟨show (0:Int)≤5 by decide,show (5:Int)≤255 by decide⟩,?_⟩
 ·rw [hb,List.cons_append];exact congrArg _ q1
 ·rw [putZ5,if_pos ⟨rfl,rfl,okN_nat q2⟩];simp only [Int.toNat_natCast]
 ·have:=got5 hl (hb.trans (congrArg _ q1)) q2
  rw [this,List.length_cons,beB_len];rfl
end Go.Proofs.YtbimgghogflikaaGreatDoor

namespace Go.Proofs.YtbimgghogflikaaGreatDoor
open Go.RowKit
def p_law34_ScriptBack_l1 (z13:List BrokerStep):Nat→(List BrokerStep)→Int→Option (Bool ⊕ ((List BrokerStep) × Int))
 | 0,_,_=>none
 | n + 1,y15,y16 =>
  bif (decide (y16 < (z13.length:Int))) then
   (at? z13 y16).bind fun x18 =>
   bif (decide ((300:Int) < (x18.Text.size:Int))) then
    (p_law34_awake).bind fun v20 =>
    some (.inl v20)
   else
   (at? z13 y16).bind fun x21 =>
   (p_script_Put x21).bind fun v22 =>
   bif (v22.2 == (0:Int)) then
    (at? z13 y16).bind fun x24 =>
    (app? y15 [x24]).bind fun l25 =>
    p_law34_ScriptBack_l1 z13 n l25 (w64 (y16 + (1:Int)))
   else
   p_law34_ScriptBack_l1 z13 n y15 (w64 (y16 + (1:Int)))
  else
  some (.inr (y15,y16))
def p_law34_ScriptBack_l2 (z45:List BrokerStep):Nat→Int→Int→Option ((Int × Int))
 | 0,_,_=>none
 | n + 1,y52,y53 =>
  bif (decide (y53 < (6:Int))) then
   (p_script_Count z45 y53).bind fun v55 =>
   p_law34_ScriptBack_l2 z45 n (w64 (y52 + v55)) (IntKind.wrap .u8 (y53 + (1:Int)))
  else
  some (y52,y53)
def p_law34_ScriptBack (a0:List BrokerStep) (a1:ByteArray):Option (Bool) :=
 ((
  bif (decide ((10:Int) < (a0.length:Int))) then
   (p_law34_awake).bind fun v2 =>
   some (.inl v2)
  else
  bif (decide ((300:Int) < (a1.size:Int))) then
   (p_law34_awake).bind fun v4 =>
   some (.inl v4)
  else
  some (.inr ())):Option (Bool ⊕ Unit)).bind fun o5=>match o5 with
 | .inl q6 =>
  some q6
 | .inr q7 =>
  (p_law34_ScriptBack_l1 a0 fuel [] (0:Int)).bind fun o26=>match o26 with
  | .inl q27 =>
   some q27
  | .inr q28 =>
   (p_script_Join q28.1).bind fun v29 =>
   (p_script_All v29.1).bind fun v30 =>
   (p_script_All a1).bind fun v31 =>
   (p_script_Join v31.1).bind fun v32 =>
   (p_law34_ScriptBack_l2 q28.1 fuel (0:Int) (0:Int)).bind fun q57 =>
   bif (v29.2 == (0:Int)) then
    bif (v30.2 == (0:Int)) then
     (p_law34_back v30.1).bind fun v60 =>
     (p_law34_back q28.1).bind fun v61 =>
     (p_ref34_SameSteps v60 v61).bind fun v62 =>
     bif v62 then
      bif (v31.2 != (0:Int)) then
       bif (q57.1 == (q28.1.length:Int)) then
        (p_law34_awake).bind fun v66 =>
        some v66
       else
       some false
      else
      bif (v32.2 == (0:Int)) then
       bif (v32.1.toList == a1.toList) then
        bif (q57.1 == (q28.1.length:Int)) then
         (p_law34_awake).bind fun v70 =>
         some v70
        else
        some false
       else
       some false
      else
      some false
     else
     some false
    else
    some false
   else
   some false
end Go.Proofs.YtbimgghogflikaaGreatDoor

