/- A part of the proof: 7 texts joined. -/
import Derived.Test.YtpkodpcfafipdaaGreatDoorProg
import Derived.WalkKit
import Derived.Lib.Hide
import Derived.WalkSpells
import Derived.WalkLawsBesides
import Derived.BigQuiet
import Derived.Deep.QuietTactic
import Derived.Deep.DeepFit
import Derived.Laws.OwnMore
import Derived.Deep.AppendLies
import Derived.Maps.AppendAt
import Derived.Deep.RegionHeld3
import Derived.Laws.IdiomStrings
import Derived.Laws.BitsAllLaws
import Derived.Laws.Closers25b
import Derived.Shelf.Strings.Builder1
import Derived.Shelf.Strings.Builder2
import Derived.Shelf.Strings.OnBuilder
import Derived.Shelf.Small.Utf8
import Derived.Shelf.Small.Strs
import Derived.Shelf.Strconv.Itoa0
import Derived.Shelf.Strconv.Itoa1
import Derived.Shelf.LaysM
import Derived.Shelf.Strconv.Itoa2
import Derived.Shelf.Strconv.Itoa3
import Derived.Shelf.Strings.Search1
import Derived.Shelf.Strings.Search2
import Derived.Shelf.Strings.Search3
import Derived.Shelf.Strings.Cut
import Derived.Shelf.Strings.Shaped
import Derived.Shelf.Strings.Runes
import Derived.Shelf.Strings.IndexAny
import Derived.Shelf.Strings.AsciiSet
import Derived.Shelf.Strings.IndexAnyAll
import Derived.Laws.RangeAny
import Derived.Deep.LoopGhost
import Derived.Lib.OthersKept
set_option linter.all false
namespace Go.Proofs.YtpkodpcfafipdaaGreatDoor
open Go.RowKit
theorem ret_b {a b:Bool} (h:a=b):Ending.returned (.bool a)=.returned (.bool b):=by rw [h]
theorem ret_i {k:IntKind} {a b:Int} (h:a=b):Ending.returned (.int k a)=.returned (.int k b):=by rw [h]
theorem ret_v {a b:Value} (h:a=b):Ending.returned a=.returned b:=by rw [h]
theorem bcell {B:Nat} {W w1:World} (hb:Below B W w1):(∀ b o,b < B→w1.cell? ⟨b,o,none⟩=W.cell? ⟨b,o,none⟩)∧(∀ b o,b < B→w1.frozen? ⟨b,o,none⟩=W.frozen? ⟨b,o,none⟩) :=
 ⟨fun b o h=>hb.cell (p:=⟨b,o,none⟩) h,fun b o h=>hb.frozen (p:=⟨b,o,none⟩) h⟩
theorem below_drewN {B:Nat} {a w:World} (h:Below B a w) (n:Nat):Below B a (w.drewN n):=⟨h.os,h.tape,h.output,h.size,h.block⟩
theorem below_alloc {w w1:World} (h:Below w.heap.size w w1) (o:Obj):Below w.heap.size w (w1.alloc o):=h.alloc h.size o
theorem below_then {w w1 w2:World} (h:Below w.heap.size w w1) (h2:Below w1.heap.size w1 w2):Below w.heap.size w w2:=h.trans (h2.mono h.size)
def Ret (w:World) (v:Value) (e:Ending) (w' : World):Prop:=e=.returned v∧Below w.heap.size w w'
theorem Ret.mk {w w' : World} {v:Value} {e:Ending} (h:e=.returned v) (hb:Below w.heap.size w w'):Ret w v e w':=⟨h,hb⟩
theorem bel_ {B:Nat} {w w2:World} (h:Below B w w2:=by (with_reducible repeat (first | assumption | exact Below.refl _ _ | (refine below_alloc ?_ _) | (refine Below.setCell ?_ (by first | exact Nat.le_refl _ | (simp;done) | (simp at *;omega)) _) | (refine below_drewN ?_ _) | (refine Below.drew ?_)))):Below B w w2:=h
end Go.Proofs.YtpkodpcfafipdaaGreatDoor

namespace Go.Proofs.YtpkodpcfafipdaaGreatDoor
open Go.RowKit
def Sl (w:World) (B size:Nat) (A:Option Addr) (n:Nat) (xs:List Value):Prop :=
 xs.length=n * size∧(0 < n→∃ b o,A=some ⟨b,o,none⟩∧b < B∧∀ j u,xs[j]?=some u→w.cell? ⟨b,o + j,none⟩=some u)
theorem Sl.nil {w:World} {B size:Nat} {A:Option Addr}:Sl w B size A 0 []:=⟨by simp,fun h=>absurd h (by omega)⟩
theorem Sl.keep {w w' : World} {B size n:Nat} {A:Option Addr} {xs:List Value} (h:Sl w B size A n xs) (hk:∀ p:Addr,p.block < B→w'.cell? p=w.cell? p):Sl w' B size A n xs :=
 ⟨h.1,fun hn=>by
  obtain ⟨b,o,e,hb,hc⟩:=h.2 hn
  exact ⟨b,o,e,hb,fun j u hu=>(hk _ hb).trans (hc j u hu)⟩⟩
theorem Sl.more {w:World} {B B' size n:Nat} {A:Option Addr} {xs:List Value} (h:Sl w B size A n xs) (hB:B≤B'):Sl w B' size A n xs :=
 ⟨h.1,fun hn=>by
  obtain ⟨b,o,e,hb,hc⟩:=h.2 hn
  exact ⟨b,o,e,by omega,hc⟩⟩
theorem Sl.below {w w' : World} {B B' size n:Nat} {A:Option Addr} {xs:List Value} (h:Sl w B size A n xs) (hb:Below B' w w') (hB:B≤B'):Sl w' B size A n xs:=h.keep fun _ hp=>hb.cell (by omega)
theorem Sl.alloc {w:World} {B size n:Nat} {A:Option Addr} {xs:List Value} (h:Sl w B size A n xs) (hB:B≤w.heap.size) (o:Obj):Sl (w.alloc o) B size A n xs:=h.keep fun p hp=>World.cell?_alloc_lt w o p (by omega)
theorem Sl.setCell {w:World} {B size n:Nat} {A:Option Addr} {xs:List Value} (h:Sl w B size A n xs) {p:Addr} (hB:B≤p.block) (u:Value):Sl (w.setCell p u) B size A n xs :=
 h.keep fun q hq=>World.cell?_setCell_other w p q u (fun e=>by subst e;omega)
def Bk (w:World) (g:Nat) (t:TypeId) (cs:Array Value):Prop:=w.heap[g]?=some (.cells cs t (0,0))
section
variable {w w' : World} {g : Nat} {t : TypeId} {cs : Array Value}
theorem Bk.lt (h:Bk w g t cs):g < w.heap.size:=by
 rcases Nat.lt_or_ge g w.heap.size with hlt | hge
 ·exact hlt
 ·unfold Bk at h;rw [Array.getElem?_eq_none hge] at h;cases h
theorem Bk.cell (h:Bk w g t cs) (i:Nat):w.cell? ⟨g,i,none⟩=cs[i]?:=cell_of_row w g i cs t (0,0) h
theorem Bk.frozen (h:Bk w g t cs) (i:Nat):w.frozen? ⟨g,i,none⟩=false:=by
 unfold Bk at h
 simp [World.frozen?,h]
theorem Bk.new (w:World) (t:TypeId) (cs:Array Value):Bk (w.alloc (.cells cs t)) w.heap.size t cs:=heap_alloc_new w _
theorem Bk.drewN (h:Bk w g t cs) (n:Nat):Bk (w.drewN n) g t cs:=h
theorem Bk.drew (h:Bk w g t cs):Bk w.drew g t cs:=h
theorem Bk.alloc (h:Bk w g t cs) (o:Obj):Bk (w.alloc o) g t cs:=(Below.heap_alloc w o g h.lt).trans h
theorem Bk.set (h:Bk w g t cs) (i:Nat) (u:Value):Bk (w.setCell ⟨g,i,none⟩ u) g t (cs.setIfInBounds i u):=by
 unfold Bk at h ⊢
 simp [World.setCell,Array.getElem?_modify,h]
theorem Bk.below {B:Nat} (h:Bk w g t cs) (hb:Below B w w') (hg:g < B):Bk w' g t cs:=(hb.block g hg).trans h
theorem Bk.then (h:Bk w g t cs) (hb:Below w.heap.size w w'):Bk w' g t cs:=(hb.block g h.lt).trans h
theorem Bk.grown {row:Option Nat} (h:Bk w g t cs) (hb:w.grownBy w' row) (hg:row≠some g):Bk w' g t cs:=(hb.block g h.lt (fun e=>hg e.symm)).trans h
end
theorem own_ge {w:World} {base:Nat} {e:TypeId} {size n:Nat} {v:Value} {xs:List Value} (h:w.ownsRow base e size v n xs):∀ k,v.ownBlock=some k→base≤k:=by
 rcases h.2 with ⟨rfl,_⟩ | ⟨g',cap,cur,rfl,hg,_⟩
 ·simp [Value.ownBlock]
 ·intro k hk
  have:g'=k:=by simpa [Value.ownBlock] using hk
  omega
theorem own_below {w w' : World} {base:Nat} {e:TypeId} {size n:Nat} {v:Value} {xs:List Value} (h:w.ownsRow base e size v n xs) (hb:Below w.heap.size w w'):w'.ownsRow base e size v n xs:=by
 obtain ⟨h1,h2⟩:=h
 refine ⟨h1,?_⟩
 rcases h2 with h2 | ⟨g,cap,cur,hv,hg,hh,r⟩
 ·exact Or.inl h2
 ·refine Or.inr ⟨g,cap,cur,hv,hg,?_,r⟩
  rw [hb.block g ((Array.getElem?_eq_some_iff.1 hh).1)];exact hh
theorem own_alloc {w:World} {base:Nat} {e:TypeId} {size n:Nat} {v:Value} {xs:List Value} (h:w.ownsRow base e size v n xs) (o:Obj):(w.alloc o).ownsRow base e size v n xs :=
 own_below h ((Below.refl _ _).alloc (Nat.le_refl _) _)
theorem append_new {P:Program} {ops:Array Oper} {rest:List Oper} {o:Oper} {a:Act} {Q:Exit→Act→World→Prop} {w:World} (hgd:o.guard=none) (s x:Operand) (t:TypeId)
  (ho:o.op=.call { callee:=.builtin .append,args:=#[s,x],argTypes:=#[t,t] })
  (base:Nat) (e:TypeId) (i:TypeInfo) (z:Value) (size bytes:Nat) (ht:P.underlying t=some (.slice e)) (hi:P.info? e=some i) (hz:i.zero=some z)
  (hsize:i.size=size) (hby:i.bytes=bytes) (hzs:z.cells.size=size) (hsz:0 < size)
  (v:Value) (n:Nat) (xs:List Value) (hs:a.eval s=v) (hown:w.ownsRow base e size v n xs) (cs:Array Value)
  (hx:a.eval x=.slice (some ⟨w.heap.size,0,none⟩) 1 1) (hl:cs.size=size) (h1:∀ u ∈ cs.toList,u.oneCell'=true)
  (h63:n + 1≤1000000) (hby2:bytes≤1000) (hbase:base≤w.heap.size)
  (h:∀ A' c' w',w'.ownsRow base e size (.slice A' (n + 1) c') (n + 1) (xs++cs.toList)→w.grownBy w' v.ownBlock→Below base w w'→wpList P ops Q rest (a.put o.dst (.slice A' (n + 1) c')) w') :
  wpList P ops Q (o :: rest) a (w.alloc (.cells cs e)):=by
 refine wpList_append_own (w.alloc (.cells cs e)) hgd s x t ho base e i z size bytes ht hi hz hsize hby hzs hsz v n xs hs (own_alloc hown _) ⟨w.heap.size,0,none⟩ 1 1 cs.toList hx (by simpa using hl) ?_ h1 (by unfold maxLen;omega) ?_ (by simp;omega) ?_
 ·intro j u hu
  have:=(Bk.new w e cs).cell j
  rw [Addr.add_lit,Nat.zero_add,this]
  simpa using hu
 ·have:(n + 1) * bytes≤1000000 * 1000:=Nat.mul_le_mul h63 hby2
  omega
 ·intro v' w' h2 h3 _
  have hw:w.grownBy w' v.ownBlock:=by
   refine ⟨h3.os,h3.tape,h3.output,Nat.le_trans (by simp) h3.size,fun k hk hne=>(h3.block k (by simp;omega) hne).trans (Below.heap_alloc _ _ _ hk)⟩
  obtain ⟨A',c',rfl⟩ : ∃ A' c',v'=.slice A' (n + 1) c':=by
   rcases h2.2 with ⟨_,h0⟩ | ⟨g,cap,cur,rfl,_⟩
   ·omega
   ·exact ⟨_,_,rfl⟩
  exact h A' c' w' h2 hw ((Below.refl _ _).grown hw (by omega) (own_ge hown))
def Bys (w:World) (g:Nat) (s:List UInt8):Prop:=g < w.heap.size∧∀ j (hj:j < s.length),w.cell? ⟨g,j,none⟩=some (.int .u8 s[j].toNat)∧w.frozen? ⟨g,j,none⟩=false
theorem Bys.then {w w' : World} {g:Nat} {s:List UInt8} (h:Bys w g s) (hb:Below w.heap.size w w'):Bys w' g s :=
 ⟨Nat.lt_of_lt_of_le h.1 hb.size,fun j hj=>⟨(hb.cell (p:=⟨g,j,none⟩) h.1).trans (h.2 j hj).1,(hb.frozen (p:=⟨g,j,none⟩) h.1).trans (h.2 j hj).2⟩⟩
theorem conv_bytes {P:Program} {ops:Array Oper} {rest:List Oper} {o:Oper} {a:Act} {Q:Exit→Act→World→Prop} {w:World} (hgd:o.guard=none) (x:Operand) (src dst e:TypeId)
  (ho:o.op=.convert src dst x) (hs:P.underlying src=some .string) (hd:P.underlying dst=some (.slice e)) (he:P.underlying e=some (.int .u8)) (s:ByteArray) (hx:a.eval x=.string s)
  (h:∀ cap w',Bys w' w.heap.size s.data.toList→Below w.heap.size w w'→s.size≤cap→wpList P ops Q rest (a.put o.dst (.slice (some ⟨w.heap.size,0,none⟩) s.size cap)) w') :
  wpList P ops Q (o :: rest) a w:=by
 refine wpList_plain hgd fun K hK=>?_
 have hrun:=run_bytes_of_string (P:=P) w src dst e s hs hd he
 unfold Oper.wp execOp
 simp only [ho,hx,Sem.run_bind,hrun,Result.andThen_ok,Sem.run_pure,Oper.upon_value]
 refine hK _ _ (h _ _ ⟨by simp,fun j hj=>?_⟩ ?_ ?_)
 ·have hj' : j < s.data.size:=by simpa using hj
  have hr:(bytesRow s (grownCap w s.size 0 e))[j]?=some (.int .u8 (s.data.toList[j].toNat:Int)):=by
   unfold bytesRow
   rw [Array.getElem?_append_left (by simpa using hj')]
   rw [Array.getElem?_map,Array.getElem?_eq_getElem hj']
   simp
  refine ⟨?_,?_⟩
  ·have:=World.cell?_alloc_mark w.drew (bytesRow s (grownCap w s.size 0 e)) e ((bytesRow s (grownCap w s.size 0 e)).size,(bytesRow s (grownCap w s.size 0 e)).size + 1) j
   exact this.trans hr
  ·have:=World.frozen?_alloc_mark w.drew (bytesRow s (grownCap w s.size 0 e)) e (bytesRow s (grownCap w s.size 0 e)).size ((bytesRow s (grownCap w s.size 0 e)).size + 1) j
   refine this.trans ?_
   have hlt:j < (bytesRow s (grownCap w s.size 0 e)).size:=by
    rcases Nat.lt_or_ge j (bytesRow s (grownCap w s.size 0 e)).size with h1 | h1
    ·exact h1
    ·rw [Array.getElem?_eq_none h1] at hr;cases hr
   have h0:decide ((bytesRow s (grownCap w s.size 0 e)).size≤j)=false:=by simp;exact hlt
   rw [h0];rfl
 ·exact (((Below.refl _ w).drew).alloc (Nat.le_refl _) _)
 ·exact grownCap_ge w s.size 0 e
end Go.Proofs.YtpkodpcfafipdaaGreatDoor

namespace Go.Proofs.YtpkodpcfafipdaaGreatDoor
open Go.RowKit
theorem ext_at (s:ByteArray) (a b j:Nat) (h:j < (s.extract a b).data.toList.length):∃ h',(s.extract a b).data.toList[j]=s[a+j]'h':=by
 have h1:j < min (b - a) (s.size - a):=by simpa using h
 refine ⟨by omega,?_⟩
 simp [ByteArray.getElem_eq_getElem_data]
theorem ne_of_pos {s:ByteArray} (h:0 < s.size):¬ s=ByteArray.empty:=by
 rintro rfl;simp at h
theorem pos_of_ne {s:ByteArray} (h:¬ s=ByteArray.empty):0 < s.size:=by
 rcases Nat.eq_zero_or_pos s.size with h0 | h0
 ·exact absurd (ByteArray.ext (Array.eq_empty_of_size_eq_zero h0)) h
 ·exact h0
theorem isEmpty_of_pos {s:ByteArray} (h:0 < s.size):s.toList.isEmpty=false:=by
 have:=mt (Go.toList_nil_iff_emptyBytes s).1 (ne_of_pos h)
 cases hs:s.toList with
 | nil=>exact absurd hs this
 | cons _ _=>rfl
theorem or64 (a b:Nat) (ha:a < 100000000) (hb:b < 64):bits .or .i64 ((a:Int) * 64) (b:Int)=(a:Int) * 64 + b:=by
 have h1:(a:Int) * 64=((a * 64:Nat):Int):=by omega
 have h2:(BitVec.ofInt 64 ((a * 64:Nat):Int)).toNat=a * 64:=by rw [BitVec.ofInt_natCast,BitVec.toNat_ofNat];exact Nat.mod_eq_of_lt (by omega)
 have h3:(BitVec.ofInt 64 (b:Int)).toNat=b:=by rw [BitVec.ofInt_natCast,BitVec.toNat_ofNat];exact Nat.mod_eq_of_lt (by omega)
 have h4:a * 64 ||| b=a * 64 + b:=by
  have:=Nat.shiftLeft_add_eq_or_of_lt (i:=6) (b:=b) (by omega) a
  rw [Nat.shiftLeft_eq] at this
  simpa using this.symm
 rw [h1]
 show IntKind.i64.wrap ((BitVec.ofInt 64 ((a * 64:Nat):Int) ||| BitVec.ofInt 64 (b:Int)).toNat:Int)=_
 rw [BitVec.toNat_or,h2,h3,h4,IntKind.wrap_i64]
 omega
theorem fin256 {p:Nat→Prop} (h:∀ b:Fin 256,p b) (c:UInt8):p c.toNat:=h ⟨c.toNat,c.toNat_lt⟩
theorem tab0 (c:UInt8):(bits BinOp.andNot IntKind.u8 (c.toNat:Int) 127 != 0)=decide (128≤c.toNat) :=
 fin256 (p:=fun b=>(bits BinOp.andNot IntKind.u8 (b:Int) 127 != 0)=decide (128≤b)) (by decide +kernel) c
theorem tab1 (c:UInt8):(bits BinOp.andNot IntKind.u8 (c.toNat:Int) 31 != 192)=!decide (192≤c.toNat∧c.toNat < 224) :=
 fin256 (p:=fun b=>(bits BinOp.andNot IntKind.u8 (b:Int) 31 != 192)=!decide (192≤b∧b < 224)) (by decide +kernel) c
theorem tab2 (c:UInt8):(bits BinOp.andNot IntKind.u8 (c.toNat:Int) 15 != 224)=!decide (224≤c.toNat∧c.toNat < 240) :=
 fin256 (p:=fun b=>(bits BinOp.andNot IntKind.u8 (b:Int) 15 != 224)=!decide (224≤b∧b < 240)) (by decide +kernel) c
theorem tab3 (c:UInt8):(bits BinOp.andNot IntKind.u8 (c.toNat:Int) 7 != 240)=!decide (240≤c.toNat∧c.toNat < 248) :=
 fin256 (p:=fun b=>(bits BinOp.andNot IntKind.u8 (b:Int) 7 != 240)=!decide (240≤b∧b < 248)) (by decide +kernel) c
theorem tabc (c:UInt8):(bits BinOp.andNot IntKind.u8 (c.toNat:Int) 63 == 128)=decide (128≤c.toNat∧c.toNat < 192) :=
 fin256 (p:=fun b=>(bits BinOp.andNot IntKind.u8 (b:Int) 63 == 128)=decide (128≤b∧b < 192)) (by decide +kernel) c
theorem low127 (c:UInt8) (h:c.toNat < 128):bits BinOp.and IntKind.u8 (c.toNat:Int) 127=(c.toNat:Int) :=
 fin256 (p:=fun b=>b < 128→bits BinOp.and IntKind.u8 (b:Int) 127=(b:Int)) (by decide +kernel) c h
theorem low31 (c:UInt8):bits BinOp.and IntKind.u8 (c.toNat:Int) 31=((c.toNat % 32:Nat):Int) :=
 fin256 (p:=fun b=>bits BinOp.and IntKind.u8 (b:Int) 31=((b % 32:Nat):Int)) (by decide +kernel) c
theorem low15 (c:UInt8):bits BinOp.and IntKind.u8 (c.toNat:Int) 15=((c.toNat % 16:Nat):Int) :=
 fin256 (p:=fun b=>bits BinOp.and IntKind.u8 (b:Int) 15=((b % 16:Nat):Int)) (by decide +kernel) c
theorem low7 (c:UInt8):bits BinOp.and IntKind.u8 (c.toNat:Int) 7=((c.toNat % 8:Nat):Int) :=
 fin256 (p:=fun b=>bits BinOp.and IntKind.u8 (b:Int) 7=((b % 8:Nat):Int)) (by decide +kernel) c
theorem low63 (c:UInt8):bits BinOp.and IntKind.u8 (c.toNat:Int) 63=((c.toNat % 64:Nat):Int) :=
 fin256 (p:=fun b=>bits BinOp.and IntKind.u8 (b:Int) 63=((b % 64:Nat):Int)) (by decide +kernel) c
end Go.Proofs.YtpkodpcfafipdaaGreatDoor

namespace Go.Proofs.YtpkodpcfafipdaaGreatDoor
open Go.RowKit
theorem Bys.set {w:World} {g k:Nat} {l:List UInt8} (h:Bys w g l) (hk:k < l.length) (c:UInt8) (n:Int) (hn:n=(c.toNat:Int)):Bys (w.setCell ⟨g,k,none⟩ (.int .u8 n)) g (l.set k c):=by
 subst hn
 refine ⟨by simpa [World.setCell] using h.1,fun j hj=>?_⟩
 have hj' : j < l.length:=by simpa using hj
 have h0:=h.2 j hj'
 refine ⟨?_,by rw [World.frozen?_setCell];exact h0.2⟩
 by_cases e:j=k
 ·subst e
  rw [World.cell?_setCell_same' _ _ _ (by rw [h0.1];rfl)]
  simp
 ·rw [World.cell?_setCell_other _ _ _ _ (by intro h;injection h;omega),h0.1]
  rw [List.getElem_set_ne (by omega)]
theorem conv_str {P:Program} {ops:Array Oper} {rest:List Oper} {o:Oper} {a:Act} {Q:Exit→Act→World→Prop} {w:World} (hgd:o.guard=none) (x:Operand) (src dst e:TypeId)
  (ho:o.op=.convert src dst x) (hs:P.underlying src=some (.slice e)) (he:P.underlying e=some (.int .u8)) (hd:P.underlying dst=some .string) (l:List UInt8) (g n cap:Nat) (hx:a.eval x=.slice (some ⟨g,0,none⟩) n cap) (hn:n=l.length) (hb:Bys w g l)
  (h:wpList P ops Q rest (a.put o.dst (.string ⟨l.toArray⟩)) w) :
  wpList P ops Q (o :: rest) a w:=by
 subst hn
 refine wpList_plain hgd fun K hK=>?_
 have hrun:=run_convert_bytes_back (P:=P) w src dst e ⟨g,0,none⟩ cap l hs he hd (fun j hj=>by rw [Addr.add_lit,Nat.zero_add];exact (hb.2 j hj).1)
 unfold Oper.wp execOp
 simp only [ho,hx,Sem.run_bind,hrun,Result.andThen_ok,Sem.run_pure,Oper.upon_value]
 exact hK _ _ h
def lowC (c:UInt8):UInt8:=if 65≤c.toNat∧c.toNat≤90 then c + 32 else c
def lowB (s:ByteArray):ByteArray:=⟨(s.data.toList.map lowC).toArray⟩
theorem lowB_list (s:ByteArray):(lowB s).data.toList=s.data.toList.map lowC:=by simp [lowB]
theorem low_or (c:UInt8) (h1:65≤c.toNat) (h2:c.toNat≤90):bits BinOp.or IntKind.u8 (c.toNat:Int) 32=((lowC c).toNat:Int):=by
 have h:=fin256 (p:=fun b=>65≤b∧b≤90→bits BinOp.or IntKind.u8 (b:Int) 32=(b:Int) + 32) (by decide +kernel) c ⟨h1,h2⟩
 rw [h,lowC,if_pos ⟨h1,h2⟩]
 have:=UInt8.toNat_add c 32
 rw [this]
 simp;omega
theorem low_step (l:List UInt8) (k:Nat) (hk:k < l.length):((l.take k).map lowC++l.drop k).set k (lowC l[k])=(l.take (k + 1)).map lowC++l.drop (k + 1):=by
 rw [List.set_append_right _ _ (by simp;omega)]
 have h0:k - (List.map lowC (List.take k l)).length=0:=by simp;omega
 rw [h0,List.drop_eq_getElem_cons hk,List.set_cons_zero,List.take_succ_eq_append_getElem hk,List.map_append]
 simp only [List.map_cons,List.map_nil,List.append_assoc,List.cons_append,List.nil_append]
theorem low_at (l:List UInt8) (k:Nat) (hk:k < l.length) (h:k < ((l.take k).map lowC++l.drop k).length):((l.take k).map lowC++l.drop k)[k]=l[k]:=by
 rw [List.getElem_append_right (by simp;omega)]
 simp
 congr 1
 omega
theorem low_same (l:List UInt8) (k:Nat) (hk:k < l.length) (h:lowC l[k]=l[k]):(l.take k).map lowC++l.drop k=(l.take (k + 1)).map lowC++l.drop (k + 1):=by
 rw [List.drop_eq_getElem_cons hk,List.take_succ_eq_append_getElem hk,List.map_append]
 simp only [List.map_cons,List.map_nil,List.append_assoc,List.cons_append,List.nil_append,h]
set_option maxRecDepth 100000 in
set_option maxHeartbeats 400000 in
theorem low_c (s:ByteArray) (w:World) (hs:s.size≤1000000) :
  Calls Tryz.prog 112 #[.string s] w (Ret w (.string (lowB s))):=by
 have hl:s.data.toList.length=s.size:=Array.length_toList
 have HL:=Lib.hid hl
 clear hl
 go_enter Tryz.func112,Tryz.ntmps112
 go_wp2_with (refine conv_bytes (o:=⟨some 7,.convert 9 63 _,_,_,_,_⟩) rfl _ _ _ 5 rfl Tryz.underlying9 Tryz.underlying63 Tryz.underlying5 s rfl ?_;intro cap w2 hby hB hcap)
 go_loopw [4,5,10] (fun _ _ i wr=>∃ k:Nat,k≤s.size∧i=.int .i64 k∧Bys wr w.heap.size ((s.data.toList.take k).map lowC++s.data.toList.drop k)∧Below w.heap.size w wr) (fun _ _ i _=>s.size - (intOf i).toNat)
 case atStart=>exact ⟨0,Nat.zero_le _,rfl,by rw [List.take_zero,List.map_nil,List.nil_append,List.drop_zero];exact hby,hB⟩
 case round =>
  obtain ⟨k,hk,rfl,hb,hBw⟩:=hrel
  by_cases hlt:k < s.size
  ·have hkl:k < s.data.toList.length:=by rw [HL.out];exact hlt
   have hlen:k < ((s.data.toList.take k).map lowC++s.data.toList.drop k).length:=by simp;omega
   have h0:=hb.2 k hlen
   rw [low_at _ k hkl hlen] at h0
   obtain ⟨c,hc⟩ : ∃ c,s.data.toList[k]=c:=⟨_,rfl⟩
   have hst:=low_step _ k hkl
   have hsm:=low_same _ k hkl
   have hset:=fun n hn=>hb.set hlen (lowC c) n hn
   rw [hc] at h0 hst hsm
   obtain ⟨c0,f0⟩:=h0
   have HST:=Lib.hid hst
   have HSM:=Lib.hid hsm
   have HSET:=Lib.hid hset
   have HB:=Lib.hid hb
   have hgt:=hb.1
   clear hst hsm hset hb hby hc
   by_cases hup:65≤c.toNat∧c.toNat≤90
   ·have hor:=low_or c hup.1 hup.2
    obtain ⟨h1,h2⟩:=hup
    go_wp2
    exact ⟨⟨k + 1,by omega,by go_num,by rw [← HST.out];exact HSET.out _ rfl,hBw.setCell (p:=⟨w.heap.size,k,none⟩) (Nat.le_refl _) _⟩,by simp [intOf];omega⟩
   ·have hid:lowC c=c:=by unfold lowC;rw [if_neg hup]
    have HB2:=HB.out
    rw [HSM.out hid] at HB2
    have HB3:=Lib.hid HB2
    clear HB2 hid
    by_cases h1:65≤c.toNat
    ·have h2:90 < c.toNat:=by omega
     go_wp2
     exact ⟨⟨k + 1,by omega,by go_num,HB3.out,hBw⟩,by simp [intOf];omega⟩
    ·have h2:c.toNat < 65:=by omega
     go_wp2
     exact ⟨⟨k + 1,by omega,by go_num,HB3.out,hBw⟩,by simp [intOf];omega⟩
  ·have hkn:k=s.size:=by omega
   have hb2:Bys wr w.heap.size (s.data.toList.map lowC):=by
    have h2:=hb
    rw [List.take_of_length_le (by rw [HL.out];omega),List.drop_of_length_le (by rw [HL.out];omega)] at h2
    simpa using h2
   have hl2:s.size=(s.data.toList.map lowC).length:=by rw [List.length_map,HL.out]
   have HL2:=Lib.hid hl2
   clear hkn hl2 hb
   go_wp2_with (refine conv_str (o:=⟨some 28,.convert 63 9 _,_,_,_,_⟩) rfl _ _ _ 5 rfl Tryz.underlying63 Tryz.underlying5 Tryz.underlying9 _ _ _ _ rfl HL2.out hb2 ?_)
   go_ret
   exact ⟨rfl,hBw⟩
end Go.Proofs.YtpkodpcfafipdaaGreatDoor

namespace Go.Proofs
open Go.Shelf
def Tryz.lays169_ren : Go.Shelf.Ren := ⟨fun | 169 => 36 | n => n, fun | 70 => 75 | 9 => 9 | 0 => 0 | 72 => 77 | 37 => 63 | 127 => 94 | 3 => 3 | 5 => 5 | n => n, fun | n => n⟩
theorem Tryz.lays169 : Go.Proofs.Lays.n169 Tryz.prog Tryz.lays169_ren := {
  mixed := by kernel_rfl
  f169 := Tryz.func36.trans (congrArg some (by kernel_rfl))
  t0 := Tryz.underlying0
  a0 := Tryz.isAgg0
  z0 := Tryz.sizeOf0
  v0 := Tryz.zeroValue0
  t3 := Tryz.underlying3
  a3 := Tryz.isAgg3
  z3 := Tryz.sizeOf3
  v3 := Tryz.zeroValue3
  t9 := Tryz.underlying9
  a9 := Tryz.isAgg9
  z9 := Tryz.sizeOf9
  v9 := Tryz.zeroValue9
  t37 := Tryz.underlying63
  a37 := Tryz.isAgg63
  z37 := Tryz.sizeOf63
  v37 := Tryz.zeroValue63
  t70 := Tryz.underlying75
  a70 := Tryz.isAgg75
  z70 := Tryz.sizeOf75
  v70 := Tryz.zeroValue75
  t72 := Tryz.underlying77
  a72 := Tryz.isAgg77
  z72 := Tryz.sizeOf77
  v72 := Tryz.zeroValue77
  t127 := Tryz.underlying94
  a127 := Tryz.isAgg94
  z127 := Tryz.sizeOf94
  v127 := Tryz.zeroValue94 }
theorem Tryz.Builder_Extra_169 : Builder.Extra Tryz.prog Tryz.lays169_ren := {
  sizeBuilder := by kernel_rfl
  liesBuilder := by kernel_rfl
  t5 := Tryz.underlying5
  a5 := Tryz.isAgg5
  z5 := Tryz.sizeOf5
  v5 := Tryz.zeroValue5
  infoByte := by kernel_rfl
  cellsByte := by kernel_rfl
  sizeByte := by kernel_rfl
  neB5 := by decide }
open Go.RowKit in
theorem Tryz.Builder_String_any (B b : Nat) (l : List UInt8) (w : World) (h : Lib.IsBuilder 77 5 B b (Lib.byteCells l) w) (hBw : B ≤ w.heap.size) :
    Calls Tryz.prog 36 #[.pointer (some ⟨b, 0, none⟩)] w fun e w' => e = .returned (.string ⟨l.toArray⟩) ∧ Below B w w' := Any.Builder_String_any Tryz.lays169 Tryz.Builder_Extra_169 B b l w h hBw
def Tryz.lays156_ren : Go.Shelf.Ren := ⟨fun | 156 => 32 | 165 => 44 | 166 => 35 | 169 => 36 | 240 => 47 | 241 => 55 | 276 => 57 | 277 => 66 | n => n, fun | 31 => 74 | 9 => 9 | 3 => 3 | 4 => 4 | 0 => 0 | 20 => 20 | 72 => 77 | 76 => 80 | 70 => 75 | 37 => 63 | 75 => 79 | 127 => 94 | 164 => 104 | 5 => 5 | 80 => 82 | n => n, fun | n => n⟩
theorem Tryz.lays156 : Go.Proofs.Lays.n156 Tryz.prog Tryz.lays156_ren := {
  mixed := by kernel_rfl
  f156 := Tryz.func32.trans (congrArg some (by kernel_rfl))
  f165 := Tryz.func44.trans (congrArg some (by kernel_rfl))
  f166 := Tryz.func35.trans (congrArg some (by kernel_rfl))
  f169 := Tryz.func36.trans (congrArg some (by kernel_rfl))
  f240 := Tryz.func47.trans (congrArg some (by kernel_rfl))
  f241 := Tryz.func55.trans (congrArg some (by kernel_rfl))
  f276 := Tryz.func57.trans (congrArg some (by kernel_rfl))
  f277 := Tryz.func66.trans (congrArg some (by kernel_rfl))
  t0 := Tryz.underlying0
  a0 := Tryz.isAgg0
  z0 := Tryz.sizeOf0
  v0 := Tryz.zeroValue0
  t3 := Tryz.underlying3
  a3 := Tryz.isAgg3
  z3 := Tryz.sizeOf3
  v3 := Tryz.zeroValue3
  t4 := Tryz.underlying4
  a4 := Tryz.isAgg4
  z4 := Tryz.sizeOf4
  v4 := Tryz.zeroValue4
  t9 := Tryz.underlying9
  a9 := Tryz.isAgg9
  z9 := Tryz.sizeOf9
  v9 := Tryz.zeroValue9
  t20 := Tryz.underlying20
  a20 := Tryz.isAgg20
  z20 := Tryz.sizeOf20
  v20 := Tryz.zeroValue20
  t31 := Tryz.underlying74
  a31 := Tryz.isAgg74
  z31 := Tryz.sizeOf74
  v31 := Tryz.zeroValue74
  t37 := Tryz.underlying63
  a37 := Tryz.isAgg63
  z37 := Tryz.sizeOf63
  v37 := Tryz.zeroValue63
  t70 := Tryz.underlying75
  a70 := Tryz.isAgg75
  z70 := Tryz.sizeOf75
  v70 := Tryz.zeroValue75
  t72 := Tryz.underlying77
  a72 := Tryz.isAgg77
  z72 := Tryz.sizeOf77
  v72 := Tryz.zeroValue77
  t75 := Tryz.underlying79
  a75 := Tryz.isAgg79
  z75 := Tryz.sizeOf79
  v75 := Tryz.zeroValue79
  t76 := Tryz.underlying80
  a76 := Tryz.isAgg80
  z76 := Tryz.sizeOf80
  v76 := Tryz.zeroValue80
  t127 := Tryz.underlying94
  a127 := Tryz.isAgg94
  z127 := Tryz.sizeOf94
  v127 := Tryz.zeroValue94
  t164 := Tryz.underlying104
  a164 := Tryz.isAgg104
  z164 := Tryz.sizeOf104
  v164 := Tryz.zeroValue104 }
theorem Tryz.Builder_Extra_156 : Builder.Extra Tryz.prog Tryz.lays156_ren := {
  sizeBuilder := by kernel_rfl
  liesBuilder := by kernel_rfl
  t5 := Tryz.underlying5
  a5 := Tryz.isAgg5
  z5 := Tryz.sizeOf5
  v5 := Tryz.zeroValue5
  infoByte := by kernel_rfl
  cellsByte := by kernel_rfl
  sizeByte := by kernel_rfl
  neB5 := by decide }
open Go.RowKit in
theorem Tryz.strings_Join_none (a : Option Addr) (c : Nat) (sep : ByteArray) (w : World) :
    Calls Tryz.prog 32 #[.slice a 0 c, .string sep] w fun e w' => e = .returned (.string ⟨#[]⟩) ∧ w' = w := Any.strings_Join_none Tryz.lays156 Tryz.Builder_Extra_156 a c sep w
open Go.RowKit in
theorem Tryz.strings_Join (bk o c : Nat) (xs : List ByteArray) (sep : ByteArray) (w : World) (hcells : ∀ (j : Nat) x, xs[j]? = some x → w.cell? ⟨bk, o + j, none⟩ = some (.string x)) (hbk : bk < w.heap.size) (hN : xs.length ≤ 140737488355328) (hcap : xs.length ≤ c) (hlen : (Lib.join (xs.map (·.data.toList)) sep.data.toList).length ≤ 140737488355328) :
    Calls Tryz.prog 32 #[.slice (some ⟨bk, o, none⟩) xs.length c, .string sep] w fun e w' => e = .returned (.string ⟨(Lib.join (xs.map (·.data.toList)) sep.data.toList).toArray⟩) ∧ Below w.heap.size w w' := Any.strings_Join Tryz.lays156 Tryz.Builder_Extra_156 bk o c xs sep w hcells hbk hN hcap hlen
def Tryz.lays119_ren : Go.Shelf.Ren := ⟨fun | 119 => 145 | n => n, fun | 21 => 21 | 4 => 4 | n => n, fun | n => n⟩
theorem Tryz.lays119 : Go.Proofs.Lays.n119 Tryz.prog Tryz.lays119_ren := {
  mixed := by kernel_rfl
  f119 := Tryz.func145.trans (congrArg some (by kernel_rfl))
  t4 := Tryz.underlying4
  a4 := Tryz.isAgg4
  z4 := Tryz.sizeOf4
  v4 := Tryz.zeroValue4
  t21 := Tryz.underlying21
  a21 := Tryz.isAgg21
  z21 := Tryz.sizeOf21
  v21 := Tryz.zeroValue21 }
theorem Tryz.utf8_ValidRune (r : Int) (w : World) :
    Calls Tryz.prog 145 #[.int .i32 r] w fun e w' => e = .returned (.bool (Lib.validRune r)) ∧ w' = w := Any.utf8_ValidRune Tryz.lays119 r w
def Tryz.lays137_ren : Go.Shelf.Ren := ⟨fun | 137 => 144 | 217 => 132 | 266 => 138 | n => n, fun | 9 => 9 | 5 => 5 | 3 => 3 | n => n, fun | n => n⟩
theorem Tryz.lays137 : Go.Proofs.Lays.n137 Tryz.prog Tryz.lays137_ren := {
  mixed := by kernel_rfl
  f137 := Tryz.func144.trans (congrArg some (by kernel_rfl))
  f217 := Tryz.func132.trans (congrArg some (by kernel_rfl))
  f266 := Tryz.func138.trans (congrArg some (by kernel_rfl))
  t3 := Tryz.underlying3
  a3 := Tryz.isAgg3
  z3 := Tryz.sizeOf3
  v3 := Tryz.zeroValue3
  t5 := Tryz.underlying5
  a5 := Tryz.isAgg5
  z5 := Tryz.sizeOf5
  v5 := Tryz.zeroValue5
  t9 := Tryz.underlying9
  a9 := Tryz.isAgg9
  z9 := Tryz.sizeOf9
  v9 := Tryz.zeroValue9 }
open Go.RowKit in
theorem Tryz.strings_IndexByte (s : ByteArray) (c : Int) (w : World) :
    Calls Tryz.prog 144 #[.string s, .int .u8 c] w fun e w' => e = .returned (.int .i64 (Lib.indexByte s.data.toList c.toNat.toUInt8)) ∧ w' = w := Any.strings_IndexByte Tryz.lays137 s c w
def Tryz.laysM171_ren : Go.Shelf.Ren := ⟨fun | 171 => 33 | 243 => 45 | 246 => 56 | 283 => 67 | 284 => 68 | 285 => 69 | 286 => 70 | 129 => 88 | 317 => 87 | 318 => 89 | 319 => 90 | 320 => 91 | 337 => 99 | 338 => 100 | n => n, fun | 3 => 3 | 9 => 9 | 2 => 2 | 4 => 4 | 171 => 116 | 0 => 0 | 53 => 117 | 37 => 63 | 5 => 5 | 173 => 120 | 212 => 135 | 51 => 136 | 20 => 20 | 213 => 137 | 46 => 102 | 232 => 157 | 233 => 158 | n => n, fun | 17 => 1 | 18 => 2 | 19 => 3 | n => n⟩
theorem Tryz.laysM171 : Go.Proofs.LaysM.n171 Tryz.prog Tryz.laysM171_ren := {
  mixed := by kernel_rfl
  f129 := Tryz.func88.trans (congrArg some (by kernel_rfl))
  f171 := Tryz.func33.trans (congrArg some (by kernel_rfl))
  f243 := Tryz.func45.trans (congrArg some (by kernel_rfl))
  f246 := Tryz.func56.trans (congrArg some (by kernel_rfl))
  f283 := Tryz.func67.trans (congrArg some (by kernel_rfl))
  f284 := Tryz.func68.trans (congrArg some (by kernel_rfl))
  f285 := Tryz.func69.trans (congrArg some (by kernel_rfl))
  f286 := Tryz.func70.trans (congrArg some (by kernel_rfl))
  f317 := Tryz.func87.trans (congrArg some (by kernel_rfl))
  f318 := Tryz.func89.trans (congrArg some (by kernel_rfl))
  f319 := Tryz.func90.trans (congrArg some (by kernel_rfl))
  f320 := Tryz.func91.trans (congrArg some (by kernel_rfl))
  f337 := Tryz.func99.trans (congrArg some (by kernel_rfl))
  f338 := Tryz.func100.trans (congrArg some (by kernel_rfl))
  t0 := Tryz.underlying0
  a0 := Tryz.isAgg0
  z0 := Tryz.sizeOf0
  v0 := Tryz.zeroValue0
  t2 := Tryz.underlying2
  a2 := Tryz.isAgg2
  z2 := Tryz.sizeOf2
  v2 := Tryz.zeroValue2
  t3 := Tryz.underlying3
  a3 := Tryz.isAgg3
  z3 := Tryz.sizeOf3
  v3 := Tryz.zeroValue3
  t4 := Tryz.underlying4
  a4 := Tryz.isAgg4
  z4 := Tryz.sizeOf4
  v4 := Tryz.zeroValue4
  t5 := Tryz.underlying5
  a5 := Tryz.isAgg5
  z5 := Tryz.sizeOf5
  v5 := Tryz.zeroValue5
  t9 := Tryz.underlying9
  a9 := Tryz.isAgg9
  z9 := Tryz.sizeOf9
  v9 := Tryz.zeroValue9
  t20 := Tryz.underlying20
  a20 := Tryz.isAgg20
  z20 := Tryz.sizeOf20
  v20 := Tryz.zeroValue20
  t37 := Tryz.underlying63
  a37 := Tryz.isAgg63
  z37 := Tryz.sizeOf63
  v37 := Tryz.zeroValue63
  t46 := Tryz.underlying102
  a46 := Tryz.isAgg102
  z46 := Tryz.sizeOf102
  v46 := Tryz.zeroValue102
  t51 := Tryz.underlying136
  a51 := Tryz.isAgg136
  z51 := Tryz.sizeOf136
  v51 := Tryz.zeroValue136
  t53 := Tryz.underlying117
  a53 := Tryz.isAgg117
  z53 := Tryz.sizeOf117
  v53 := Tryz.zeroValue117
  t171 := Tryz.underlying116
  a171 := Tryz.isAgg116
  z171 := Tryz.sizeOf116
  v171 := Tryz.zeroValue116
  t173 := Tryz.underlying120
  a173 := Tryz.isAgg120
  z173 := Tryz.sizeOf120
  v173 := Tryz.zeroValue120
  t212 := Tryz.underlying135
  a212 := Tryz.isAgg135
  z212 := Tryz.sizeOf135
  v212 := Tryz.zeroValue135
  t213 := Tryz.underlying137
  a213 := Tryz.isAgg137
  z213 := Tryz.sizeOf137
  t232 := Tryz.underlying157
  a232 := Tryz.isAgg157
  z232 := Tryz.sizeOf157
  v232 := Tryz.zeroValue157
  t233 := Tryz.underlying158
  a233 := Tryz.isAgg158
  z233 := Tryz.sizeOf158
  v233 := Tryz.zeroValue158
  g17 := by kernel_rfl
  g18 := by kernel_rfl
  g19 := by kernel_rfl
  i0 := by kernel_rfl
  i2 := by kernel_rfl
  i3 := by kernel_rfl
  i4 := by kernel_rfl
  i5 := by kernel_rfl
  i9 := by kernel_rfl
  i20 := by kernel_rfl
  i37 := by kernel_rfl
  i46 := by kernel_rfl
  i51 := by kernel_rfl
  i53 := by kernel_rfl
  i171 := by kernel_rfl
  i173 := by kernel_rfl
  i212 := by kernel_rfl
  i232 := by kernel_rfl
  i233 := by kernel_rfl
  m17 := by kernel_rfl
  m18 := by kernel_rfl
  m19 := by kernel_rfl }
open Go.RowKit Go.Sort Go.Lib in
theorem Tryz.strconv_Itoa (n : Int) (h0 : -9223372036854775808 ≤ n) (h1 : n ≤ 9223372036854775807) (w : World) (htab : Lib.TabIs Tryz.prog w "internal/strconv.uint64pow10" .u64 Lib.pow10Tab) :
    Calls Tryz.prog 33 #[.int .i64 n] w fun e w' => e = .returned (.string ⟨(Lib.itoa n).toArray⟩) ∧ ∃ k os, w' = grow (w.drewN k) os := Any.strconv_Itoa Tryz.laysM171 n h0 h1 w htab
def Tryz.lays144_ren : Go.Shelf.Ren := ⟨fun | 144 => 129 | 143 => 137 | 219 => 126 | 217 => 132 | 225 => 133 | 224 => 134 | 267 => 135 | 266 => 138 | 314 => 139 | n => n, fun | 9 => 9 | 4 => 4 | 3 => 3 | 5 => 5 | 46 => 102 | 146 => 176 | 51 => 136 | n => n, fun | 1 => 0 | n => n⟩
theorem Tryz.lays144 : Go.Proofs.Lays.n144 Tryz.prog Tryz.lays144_ren := {
  mixed := by kernel_rfl
  f143 := Tryz.func137.trans (congrArg some (by kernel_rfl))
  f144 := Tryz.func129.trans (congrArg some (by kernel_rfl))
  f217 := Tryz.func132.trans (congrArg some (by kernel_rfl))
  f219 := Tryz.func126.trans (congrArg some (by kernel_rfl))
  f224 := Tryz.func134.trans (congrArg some (by kernel_rfl))
  f225 := Tryz.func133.trans (congrArg some (by kernel_rfl))
  f266 := Tryz.func138.trans (congrArg some (by kernel_rfl))
  f267 := Tryz.func135.trans (congrArg some (by kernel_rfl))
  f314 := Tryz.func139.trans (congrArg some (by kernel_rfl))
  t3 := Tryz.underlying3
  a3 := Tryz.isAgg3
  z3 := Tryz.sizeOf3
  v3 := Tryz.zeroValue3
  t4 := Tryz.underlying4
  a4 := Tryz.isAgg4
  z4 := Tryz.sizeOf4
  v4 := Tryz.zeroValue4
  t5 := Tryz.underlying5
  a5 := Tryz.isAgg5
  z5 := Tryz.sizeOf5
  v5 := Tryz.zeroValue5
  t9 := Tryz.underlying9
  a9 := Tryz.isAgg9
  z9 := Tryz.sizeOf9
  v9 := Tryz.zeroValue9
  t46 := Tryz.underlying102
  a46 := Tryz.isAgg102
  z46 := Tryz.sizeOf102
  v46 := Tryz.zeroValue102
  t51 := Tryz.underlying136
  a51 := Tryz.isAgg136
  z51 := Tryz.sizeOf136
  v51 := Tryz.zeroValue136
  t146 := Tryz.underlying176
  a146 := Tryz.isAgg176
  z146 := Tryz.sizeOf176
  v146 := Tryz.zeroValue176
  g1 := by kernel_rfl }
open Go.RowKit Go.Lib in
theorem Tryz.strings_Contains (s sub : ByteArray) (m : Int) (w : World) (hs : s.size < 4294967281) (hm : w.cell? ⟨0, 0, none⟩ = some (.int .i64 m)) :
    Calls Tryz.prog 129 #[.string s, .string sub] w fun e w' => e = .returned (.bool (Lib.contains s.data.toList sub.data.toList)) ∧ w' = w := Any.strings_Contains Tryz.lays144 s sub m w hs hm
def Tryz.lays145_ren : Go.Shelf.Ren := ⟨fun | 145 => 111 | 220 => 118 | 219 => 126 | 217 => 132 | 225 => 133 | 224 => 134 | 267 => 135 | 266 => 138 | 314 => 139 | n => n, fun | 9 => 9 | 4 => 4 | 59 => 163 | 3 => 3 | 5 => 5 | 46 => 102 | 146 => 176 | 51 => 136 | n => n, fun | 1 => 0 | n => n⟩
theorem Tryz.lays145 : Go.Proofs.Lays.n145 Tryz.prog Tryz.lays145_ren := {
  mixed := by kernel_rfl
  f145 := Tryz.func111.trans (congrArg some (by kernel_rfl))
  f217 := Tryz.func132.trans (congrArg some (by kernel_rfl))
  f219 := Tryz.func126.trans (congrArg some (by kernel_rfl))
  f220 := Tryz.func118.trans (congrArg some (by kernel_rfl))
  f224 := Tryz.func134.trans (congrArg some (by kernel_rfl))
  f225 := Tryz.func133.trans (congrArg some (by kernel_rfl))
  f266 := Tryz.func138.trans (congrArg some (by kernel_rfl))
  f267 := Tryz.func135.trans (congrArg some (by kernel_rfl))
  f314 := Tryz.func139.trans (congrArg some (by kernel_rfl))
  t3 := Tryz.underlying3
  a3 := Tryz.isAgg3
  z3 := Tryz.sizeOf3
  v3 := Tryz.zeroValue3
  t4 := Tryz.underlying4
  a4 := Tryz.isAgg4
  z4 := Tryz.sizeOf4
  v4 := Tryz.zeroValue4
  t5 := Tryz.underlying5
  a5 := Tryz.isAgg5
  z5 := Tryz.sizeOf5
  v5 := Tryz.zeroValue5
  t9 := Tryz.underlying9
  a9 := Tryz.isAgg9
  z9 := Tryz.sizeOf9
  v9 := Tryz.zeroValue9
  t46 := Tryz.underlying102
  a46 := Tryz.isAgg102
  z46 := Tryz.sizeOf102
  v46 := Tryz.zeroValue102
  t51 := Tryz.underlying136
  a51 := Tryz.isAgg136
  z51 := Tryz.sizeOf136
  v51 := Tryz.zeroValue136
  t59 := Tryz.underlying163
  a59 := Tryz.isAgg163
  z59 := Tryz.sizeOf163
  v59 := Tryz.zeroValue163
  t146 := Tryz.underlying176
  a146 := Tryz.isAgg176
  z146 := Tryz.sizeOf176
  v146 := Tryz.zeroValue176
  g1 := by kernel_rfl }
open Go.RowKit Go.Lib in
theorem Tryz.strings_Cut (s sep : ByteArray) (m : Int) (w : World) (hs : s.size < 4294967281) (hm : w.cell? ⟨0, 0, none⟩ = some (.int .i64 m)) :
    Calls Tryz.prog 111 #[.string s, .string sep] w fun e w' => e = .returned (.tuple #[.string ⟨(Lib.cut s.data.toList sep.data.toList).1.toArray⟩, .string ⟨(Lib.cut s.data.toList sep.data.toList).2.1.toArray⟩, .bool (Lib.cut s.data.toList sep.data.toList).2.2]) ∧ ∃ n, w' = w.drewN n := Any.strings_Cut Tryz.lays145 s sep m w hs hm
def Tryz.lays152_ren : Go.Shelf.Ren := ⟨fun | 152 => 140 | 137 => 144 | 119 => 145 | 224 => 134 | 225 => 133 | 217 => 132 | 266 => 138 | n => n, fun | 9 => 9 | 21 => 21 | 3 => 3 | 4 => 4 | 5 => 5 | 0 => 0 | 46 => 102 | n => n, fun | n => n⟩
theorem Tryz.lays152 : Go.Proofs.Lays.n152 Tryz.prog Tryz.lays152_ren := {
  mixed := by kernel_rfl
  f119 := Tryz.func145.trans (congrArg some (by kernel_rfl))
  f137 := Tryz.func144.trans (congrArg some (by kernel_rfl))
  f152 := Tryz.func140.trans (congrArg some (by kernel_rfl))
  f217 := Tryz.func132.trans (congrArg some (by kernel_rfl))
  f224 := Tryz.func134.trans (congrArg some (by kernel_rfl))
  f225 := Tryz.func133.trans (congrArg some (by kernel_rfl))
  f266 := Tryz.func138.trans (congrArg some (by kernel_rfl))
  t0 := Tryz.underlying0
  a0 := Tryz.isAgg0
  z0 := Tryz.sizeOf0
  v0 := Tryz.zeroValue0
  t3 := Tryz.underlying3
  a3 := Tryz.isAgg3
  z3 := Tryz.sizeOf3
  v3 := Tryz.zeroValue3
  t4 := Tryz.underlying4
  a4 := Tryz.isAgg4
  z4 := Tryz.sizeOf4
  v4 := Tryz.zeroValue4
  t5 := Tryz.underlying5
  a5 := Tryz.isAgg5
  z5 := Tryz.sizeOf5
  v5 := Tryz.zeroValue5
  t9 := Tryz.underlying9
  a9 := Tryz.isAgg9
  z9 := Tryz.sizeOf9
  v9 := Tryz.zeroValue9
  t21 := Tryz.underlying21
  a21 := Tryz.isAgg21
  z21 := Tryz.sizeOf21
  v21 := Tryz.zeroValue21
  t46 := Tryz.underlying102
  a46 := Tryz.isAgg102
  z46 := Tryz.sizeOf102
  v46 := Tryz.zeroValue102 }
open Go.RowKit Go.Lib in
theorem Tryz.strings_IndexRune_ascii (s : ByteArray) (r : Int) (w : World) (h0 : 0 ≤ r) (h1 : r < 128) :
    Calls Tryz.prog 140 #[.string s, .int .i32 r] w fun e w' => e = .returned (.int .i64 (Lib.indexByte s.data.toList r.toNat.toUInt8)) ∧ w' = w := Any.strings_IndexRune_ascii Tryz.lays152 s r w h0 h1
def Tryz.lays226_ren : Go.Shelf.Ren := ⟨fun | 226 => 141 | n => n, fun | 3 => 3 | 4 => 4 | n => n, fun | n => n⟩
theorem Tryz.lays226 : Go.Proofs.Lays.n226 Tryz.prog Tryz.lays226_ren := {
  mixed := by kernel_rfl
  f226 := Tryz.func141.trans (congrArg some (by kernel_rfl))
  t3 := Tryz.underlying3
  a3 := Tryz.isAgg3
  z3 := Tryz.sizeOf3
  v3 := Tryz.zeroValue3
  t4 := Tryz.underlying4
  a4 := Tryz.isAgg4
  z4 := Tryz.sizeOf4
  v4 := Tryz.zeroValue4 }
open Go.RowKit Go.Lib in
theorem Tryz.strings_shouldUseASCIISet (n : Int) (w : World) :
    Calls Tryz.prog 141 #[.int .i64 n] w fun e w' => e = .returned (.bool (decide (8 < n))) ∧ w' = w := Any.strings_shouldUseASCIISet Tryz.lays226 n w
def Tryz.lays153_ren : Go.Shelf.Ren := ⟨fun | 153 => 136 | 152 => 140 | 226 => 141 | 227 => 142 | 228 => 143 | 137 => 144 | 119 => 145 | 224 => 134 | 225 => 133 | 217 => 132 | 266 => 138 | n => n, fun | 9 => 9 | 3 => 3 | 4 => 4 | 5 => 5 | 21 => 21 | 117 => 181 | 116 => 180 | 0 => 0 | 46 => 102 | 124 => 184 | n => n, fun | n => n⟩
theorem Tryz.lays153 : Go.Proofs.Lays.n153 Tryz.prog Tryz.lays153_ren := {
  mixed := by kernel_rfl
  f119 := Tryz.func145.trans (congrArg some (by kernel_rfl))
  f137 := Tryz.func144.trans (congrArg some (by kernel_rfl))
  f152 := Tryz.func140.trans (congrArg some (by kernel_rfl))
  f153 := Tryz.func136.trans (congrArg some (by kernel_rfl))
  f217 := Tryz.func132.trans (congrArg some (by kernel_rfl))
  f224 := Tryz.func134.trans (congrArg some (by kernel_rfl))
  f225 := Tryz.func133.trans (congrArg some (by kernel_rfl))
  f226 := Tryz.func141.trans (congrArg some (by kernel_rfl))
  f227 := Tryz.func142.trans (congrArg some (by kernel_rfl))
  f228 := Tryz.func143.trans (congrArg some (by kernel_rfl))
  f266 := Tryz.func138.trans (congrArg some (by kernel_rfl))
  t0 := Tryz.underlying0
  a0 := Tryz.isAgg0
  z0 := Tryz.sizeOf0
  v0 := Tryz.zeroValue0
  t3 := Tryz.underlying3
  a3 := Tryz.isAgg3
  z3 := Tryz.sizeOf3
  v3 := Tryz.zeroValue3
  t4 := Tryz.underlying4
  a4 := Tryz.isAgg4
  z4 := Tryz.sizeOf4
  v4 := Tryz.zeroValue4
  t5 := Tryz.underlying5
  a5 := Tryz.isAgg5
  z5 := Tryz.sizeOf5
  v5 := Tryz.zeroValue5
  t9 := Tryz.underlying9
  a9 := Tryz.isAgg9
  z9 := Tryz.sizeOf9
  v9 := Tryz.zeroValue9
  t21 := Tryz.underlying21
  a21 := Tryz.isAgg21
  z21 := Tryz.sizeOf21
  v21 := Tryz.zeroValue21
  t46 := Tryz.underlying102
  a46 := Tryz.isAgg102
  z46 := Tryz.sizeOf102
  v46 := Tryz.zeroValue102
  t116 := Tryz.underlying180
  a116 := Tryz.isAgg180
  z116 := Tryz.sizeOf180
  t117 := Tryz.underlying181
  a117 := Tryz.isAgg181
  z117 := Tryz.sizeOf181
  v117 := Tryz.zeroValue181
  t124 := Tryz.underlying184
  a124 := Tryz.isAgg184
  z124 := Tryz.sizeOf184
  v124 := Tryz.zeroValue184 }
open Go.RowKit Go.Lib in
theorem Tryz.strings_IndexAny_long (hv116 : ∀ w, (zeroValue 180).run Tryz.prog w = .ok (.agg (Array.replicate 256 (.bool false))) w) (s chars : ByteArray) (w : World) (h2 : 2 ≤ chars.size) (h8 : 8 < s.size) (hs : s.size < 4294967281) (hcs : chars.size < 4294967281) (hascii : ∀ (j : Nat) b, chars.data.toList[j]? = some b → b.toNat < 128) :
    Calls Tryz.prog 136 #[.string s, .string chars] w fun e w' => e = .returned (.int .i64 (Lib.indexAny s.data.toList chars.data.toList)) ∧ w' = ((w.alloc (.cells (Lib.setCells chars.data.toList) 180)).alloc (.cells (Lib.setCells chars.data.toList) 180)) := Any.strings_IndexAny_long Tryz.lays153 hv116 (by kernel_rfl) s chars w h2 h8 hs hcs hascii
end Go.Proofs

namespace Go.Proofs.YtpkodpcfafipdaaGreatDoor
open Go.RowKit
theorem quiet_more {P:Program} {f:FuncId} {args:Array Value} {w:World} {a n:Nat} {v:Value}
  (h:Calls P f args (w.drewN (a + n)) fun e w'=>e=.returned v∧w'=w.drewN (a + n)) :
  Calls P f args (w.drewN (a + n)) fun e w''=>e=.returned v∧∃ m,w''=w.drewN (a + m) :=
 h.mono fun _ _ ⟨he,hm⟩=>⟨he,n,hm⟩
theorem getB_at (s:ByteArray) (j:Nat) (hj:j < s.size):(s.get! j)=s[j]:=by
 simp [ByteArray.get!,getElem!_pos,hj]
 rfl
theorem decode_hi (s:ByteArray) (i:Nat) (h:i < s.size) (hb:128≤(s[i]'h).toNat) :
  128≤(Utf8.decode s i).1∧1≤(Utf8.decode s i).2∧i + (Utf8.decode s i).2≤s.size∧(Utf8.valid (Utf8.decode s i).1=true∨(Utf8.decode s i).1=65533)∧∀ j (hj:j < s.size),i≤j→j < i + (Utf8.decode s i).2→128≤(s[j]'hj).toNat:=by
 have e0:(s.get! (i + 0)).toNat=(s[i]).toNat:=by rw [Nat.add_zero,getB_at s i h]
 have hlt:∀ k,(s.get! k).toNat < 256:=fun k=>(s.get! k).toNat_lt
 have l1:=hlt (i + 1)
 have l2:=hlt (i + 2)
 have l3:=hlt (i + 3)
 have l0:=(s[i]).toNat_lt
 obtain ⟨b1,hb1⟩ : ∃ b,(s.get! (i + 1)).toNat=b:=⟨_,rfl⟩
 obtain ⟨b2,hb2⟩ : ∃ b,(s.get! (i + 2)).toNat=b:=⟨_,rfl⟩
 obtain ⟨b3,hb3⟩ : ∃ b,(s.get! (i + 3)).toNat=b:=⟨_,rfl⟩
 have g1:∀ h1:i + 1 < s.size,(s[i + 1]).toNat=b1:=fun h1=>by rw [← hb1,getB_at s _ h1]
 have g2:∀ h1:i + 2 < s.size,(s[i + 2]).toNat=b2:=fun h1=>by rw [← hb2,getB_at s _ h1]
 have g3:∀ h1:i + 3 < s.size,(s[i + 3]).toNat=b3:=fun h1=>by rw [← hb3,getB_at s _ h1]
 rw [hb1] at l1;rw [hb2] at l2;rw [hb3] at l3
 have key:∀ j (hj:j < s.size),i≤j→j < i + 1→128≤(s[j]'hj).toNat:=by
  intro j hj h1 h2
  obtain rfl:j=i:=by omega
  exact hb
 simp only [Utf8.decode,e0,hb1,hb2,hb3]
 rw [if_neg (by omega)]
 split
 ·rename_i hc
  simp only [Bool.and_eq_true,decide_eq_true_eq,beq_iff_eq] at hc
  obtain ⟨c0,c1,c2⟩:=hc
  split
  ·refine ⟨by assumption,by simp,by simp;omega,.inl ?_,?_⟩
   ·simp only [Utf8.valid];simp;omega
   ·intro j hj h1 h2
    rcases (show j=i∨j=i + 1 by simp at h2;omega) with rfl | rfl
    ·exact hb
    ·rw [g1 hj];omega
  ·exact ⟨by decide,by simp,by simp;omega,.inr rfl,key⟩
 ·split
  ·rename_i hc
   simp only [Bool.and_eq_true,decide_eq_true_eq,beq_iff_eq] at hc
   obtain ⟨⟨c0,c1,c2⟩,c3,c4⟩:=hc
   split
   ·rename_i hv
    simp only [Bool.and_eq_true,decide_eq_true_eq] at hv
    refine ⟨by dsimp only;omega,by simp,by simp;omega,.inl hv.2,?_⟩
    intro j hj h1 h2
    rcases (show j=i∨j=i + 1∨j=i + 2 by simp at h2;omega) with rfl | rfl | rfl
    ·exact hb
    ·rw [g1 hj];omega
    ·rw [g2 hj];omega
   ·exact ⟨by decide,by simp,by simp;omega,.inr rfl,key⟩
  ·split
   ·rename_i hc
    simp only [Bool.and_eq_true,decide_eq_true_eq,beq_iff_eq] at hc
    obtain ⟨⟨⟨c0,c1,c2⟩,c3,c4⟩,c5,c6⟩:=hc
    split
    ·rename_i hv
     simp only [Bool.and_eq_true,decide_eq_true_eq] at hv
     refine ⟨by dsimp only;omega,by simp,by simp;omega,.inl hv.2,?_⟩
     intro j hj h1 h2
     rcases (show j=i∨j=i + 1∨j=i + 2∨j=i + 3 by simp at h2;omega) with rfl | rfl | rfl | rfl
     ·exact hb
     ·rw [g1 hj];omega
     ·rw [g2 hj];omega
     ·rw [g3 hj];omega
    ·exact ⟨by decide,by simp,by simp;omega,.inr rfl,key⟩
   ·exact ⟨by decide,by simp,by simp;omega,.inr rfl,key⟩
set_option maxRecDepth 100000 in
set_option maxHeartbeats 400000 in
theorem indexRune_err (w:World):Calls Tryz.prog 140 #[.string ⟨#[32,64,47]⟩,.int .i32 65533] w (Ret w (.int .i64 (-1))):=by
 have n0:=fun ty=>run_next_ascii (P:=Tryz.prog) w ⟨#[32,64,47]⟩ 0 ty (by decide) (by decide)
 have n1:=fun ty=>run_next_ascii (P:=Tryz.prog) w ⟨#[32,64,47]⟩ 1 ty (by decide) (by decide)
 have n2:=fun ty=>run_next_ascii (P:=Tryz.prog) w ⟨#[32,64,47]⟩ 2 ty (by decide) (by decide)
 have n3:=run_next_end (P:=Tryz.prog) w ⟨#[32,64,47]⟩ 3
 go_enter Tryz.func140,Tryz.ntmps140
 go_wp2_with fail
 refine wp_loop_rounds 4 ?_
 rw [rounds_succ]
 go_wp2
 rw [rounds_succ]
 go_wp2
 rw [rounds_succ]
 go_wp2
 rw [rounds_succ]
 go_wp2
 go_ret
 exact ⟨rfl,(Below.refl _ _).alloc (Nat.le_refl _) _⟩
theorem indexByte_hi:∀ (l:List UInt8) (c:UInt8),(∀ b ∈ l,b.toNat < 128)→128≤c.toNat→Lib.indexByte l c=-1
 | [],_,_,_=>rfl
 | b :: l,c,h,hc=>by
  have hb:=h b (by simp)
  have ih:=indexByte_hi l c (fun x hx=>h x (by simp [hx])) hc
  unfold Lib.indexByte
  have:(b == c)=false:=by
   rw [beq_eq_false_iff_ne]
   rintro rfl
   omega
  rw [this,ih];rfl
set_option maxRecDepth 10000000 in
set_option maxHeartbeats 1000000 in
theorem indexRune_hi (r:Nat) (w:World) (hv:Utf8.valid r=true) (h:128≤r) (hr:r≠65533):Calls Tryz.prog 140 #[.string ⟨#[32,64,47]⟩,.int .i32 r] w (Ret w (.int .i64 (-1))):=by
 obtain ⟨e1,e2,e3⟩:=encode_facts r hv (by omega)
 have hval:Lib.validRune (r:Int)=true:=by
  unfold Utf8.valid at hv
  unfold Lib.validRune
  simp only [Bool.or_eq_true,Bool.and_eq_true,decide_eq_true_eq] at hv ⊢
  omega
 have hr' : ((r:Int) == 65533)=false:=by simp;omega
 have h' : decide ((r:Int) < 128)=false:=by simp;omega
 obtain ⟨E,hE⟩ : ∃ E,Utf8.encode (r:Int)=E:=⟨_,rfl⟩
 rw [hE] at e1 e2 e3
 clear hv hr h
 rcases (show E.size=2∨E.size=3∨E.size=4 by omega) with hs | hs | hs
 ·have hlt:1 < E.size:=by omega
  obtain ⟨c,hc⟩ : ∃ c,E[1]=c:=⟨_,rfl⟩
  have hc2:128≤c.toNat:=by
   have:=e3 (by omega)
   simp only [hs] at this
   rw [← hc];exact this
  have hne:(((((⟨#[32,64,47]⟩ : ByteArray)[1]'(by decide)).toNat:Nat):Int) != (c.toNat:Int))=true:=by
   have:((⟨#[32,64,47]⟩ : ByteArray)[1]'(by decide)).toNat=64:=rfl
   rw [this];simp;omega
  have hix:=indexByte_hi [47] c (by decide) hc2
  clear e1 e2 e3
  go_enter Tryz.func140,Tryz.ntmps140
  go_wp2_with (go_at_call 145;(with_reducible refine (Tryz.utf8_ValidRune _ _).mono ?_);rintro e w' ⟨rfl,hw⟩;subst hw)
  go_step3
  go_wp2_with fail
  refine wp_loop_rounds 1 ?_
  rw [rounds_succ]
  go_wp2
  go_step3
  go_wp2
  go_quiet (fail)
  go_wp2
  go_quiet ((go_at_call 144;exact quiet_more (Tryz.strings_IndexByte _ _ _)))
  go_wp2
  simp only [Exit.noGoto_ret,Exit.inBlock,Exit.then]
  go_ret
  exact ⟨rfl,bel_⟩
 ·have hlt:2 < E.size:=by omega
  obtain ⟨c,hc⟩ : ∃ c,E[2]=c:=⟨_,rfl⟩
  have hc2:128≤c.toNat:=by
   have:=e3 (by omega)
   simp only [hs] at this
   rw [← hc];exact this
  have hne:(((((⟨#[32,64,47]⟩ : ByteArray)[2]'(by decide)).toNat:Nat):Int) != (c.toNat:Int))=true:=by
   have:((⟨#[32,64,47]⟩ : ByteArray)[2]'(by decide)).toNat=47:=rfl
   rw [this];simp;omega
  have hix:=indexByte_hi [] c (by decide) hc2
  clear e1 e2 e3
  go_enter Tryz.func140,Tryz.ntmps140
  go_wp2_with (go_at_call 145;(with_reducible refine (Tryz.utf8_ValidRune _ _).mono ?_);rintro e w' ⟨rfl,hw⟩;subst hw)
  go_step3
  go_wp2_with fail
  refine wp_loop_rounds 1 ?_
  rw [rounds_succ]
  go_wp2
  go_step3
  go_wp2
  go_quiet (fail)
  go_wp2
  go_quiet ((go_at_call 144;exact quiet_more (Tryz.strings_IndexByte _ _ _)))
  go_wp2
  simp only [Exit.noGoto_ret,Exit.inBlock,Exit.then]
  go_ret
  exact ⟨rfl,bel_⟩
 ·clear e1 e2 e3
  go_enter Tryz.func140,Tryz.ntmps140
  go_wp2_with (go_at_call 145;(with_reducible refine (Tryz.utf8_ValidRune _ _).mono ?_);rintro e w' ⟨rfl,hw⟩;subst hw)
  go_step3
  go_wp2_with fail
  refine wp_loop_rounds 1 ?_
  rw [rounds_succ]
  go_wp2
  go_goals
  simp only [Exit.noGoto_ret,Exit.inBlock,Exit.then]
  go_ret
  exact ⟨rfl,bel_⟩
end Go.Proofs.YtpkodpcfafipdaaGreatDoor

namespace Go.Proofs.YtpkodpcfafipdaaGreatDoor
open Go.RowKit
theorem lt_some2 {W:World} {k:Nat} {o:Obj} (h:W.heap[k]?=some o):k < W.heap.size:=(Array.getElem?_eq_some_iff.1 h).1
def sepC (b:UInt8):Bool:=b == 32 || b == 64 || b == 47
def NoSep (l:List UInt8) (i:Nat):Prop:=∀ j (hj:j < l.length),j < i→sepC l[j]=false
theorem NoSep.zero (l:List UInt8):NoSep l 0:=fun _ _ h=>absurd h (by omega)
theorem NoSep.succ {l:List UInt8} {i:Nat} (h:NoSep l i) {x:UInt8} {hi:i < l.length} (hx:l[i]=x) (hs:sepC x=false):NoSep l (i + 1):=by
 intro j hj hlt
 rcases Nat.lt_or_ge j i with h1 | h1
 ·exact h j hj h1
 ·obtain rfl:j=i:=by omega
  rw [hx];exact hs
theorem NoSep.more {l:List UInt8} {i k:Nat} (h:NoSep l i) (hk:∀ j (hj:j < l.length),i≤j→j < i + k→128≤(l[j]).toNat) (hh:∀ b:UInt8,128≤b.toNat→sepC b=false):NoSep l (i + k):=by
 intro j hj hlt
 rcases Nat.lt_or_ge j i with h1 | h1
 ·exact h j hj h1
 ·exact hh _ (hk j hj h1 hlt)
theorem NoSep.all {l:List UInt8} {i:Nat} (h:NoSep l i) (hi:l.length≤i):l.any sepC=false:=by
 rw [List.any_eq_false]
 intro x hx
 obtain ⟨j,hj,rfl⟩:=List.getElem_of_mem hx
 simp [h j hj (by omega)]
theorem any_of_at {l:List UInt8} {i:Nat} (hi:i < l.length) (h:sepC l[i]=true):l.any sepC=true :=
 List.any_eq_true.2 ⟨l[i],List.getElem_mem hi,h⟩
theorem sep_hi {b:UInt8} (h:128≤b.toNat):sepC b=false:=by
 unfold sepC
 have h1:¬ b=32:=by rintro rfl;simp at h
 have h2:¬ b=64:=by rintro rfl;simp at h
 have h3:¬ b=47:=by rintro rfl;simp at h
 simp [h1,h2,h3]
theorem sep_index (b:UInt8):decide (0≤Lib.indexByte (⟨#[32,64,47]⟩ : ByteArray).data.toList b)=sepC b:=by
 have:=fin256 (p:=fun n=>decide (0≤Lib.indexByte (⟨#[32,64,47]⟩ : ByteArray).data.toList (UInt8.ofNat n))=sepC (UInt8.ofNat n)) (by decide +kernel) b
 simpa using this
def IdxPost (w:World) (b:Bool) (e:Ending) (w' : World):Prop:=∃ v:Int,e=.returned (.int .i64 v)∧decide (0≤v)=b∧Below w.heap.size w w'
theorem bl_len (s:ByteArray):s.data.toList.length=s.size:=Array.length_toList
theorem bl_get (s:ByteArray) (i:Nat) (h:i < s.size):s.data.toList[i]'(by rw [bl_len];exact h)=s[i]:=by
 simp [ByteArray.getElem_eq_getElem_data]
theorem below_iterAt {w wr:World} (h:Below w.heap.size w wr) {k:Nat} (hk:w.heap.size≤k) (s:ByteArray) (p:Nat):Below w.heap.size w (wr.iterAt k s p) :=
 h.trans ⟨rfl,rfl,rfl,by simp [World.iterAt],fun j hj=>by simp [World.iterAt,Array.getElem?_setIfInBounds];omega⟩
set_option maxRecDepth 100000 in
set_option maxHeartbeats 1000000 in
theorem indexAny_short (s:ByteArray) (w:World) (hs:s.size≤8):Calls Tryz.prog 136 #[.string s,.string ⟨#[32,64,47]⟩] w (IdxPost w (s.data.toList.any sepC)):=by
 have h8z:decide ((8:Int) < (s.size:Int))=false:=decide_eq_false (by omega)
 go_enter Tryz.func136,Tryz.ntmps136
 go_wp2_with (go_at_call 141;(with_reducible refine (Tryz.strings_shouldUseASCIISet _ _).mono ?_);rintro e w' ⟨rfl,hw⟩;rw [hw,h8z])
 go_loopg [9,10] s.size (fun g _ _ wx=>∃ i:Nat,i + g=s.size∧wx.heap[w.heap.size]?=some (.stringIter s i)∧Below w.heap.size w wx∧NoSep s.data.toList i)
 case atStart=>exact ⟨0,by omega,World.iter_heap _ _ _,(Below.refl _ _).alloc (Nat.le_refl _) _,NoSep.zero _⟩
 case round =>
  obtain ⟨i,hig,hit,hB,hno⟩:=hrel
  have HN:=Lib.hid hno
  clear hno
  cases gk with
  | zero =>
   obtain rfl:i=s.size:=by omega
   have hnx:=fun ty=>Lib.run_next_end_at (P:=Tryz.prog) wr w.heap.size s s.size ty hit (by omega)
   have HI:=Lib.hid hit
   clear hit
   go_wp2
   go_ret
   exact ⟨-1,rfl,by rw [HN.out.all (by rw [bl_len];exact Nat.le_refl _)];rfl,hB⟩
  | succ g =>
   have hi:i < s.size:=by omega
   obtain ⟨x,hx⟩ : ∃ x:UInt8,s[i]'hi=x:=⟨_,rfl⟩
   have hxl:s.data.toList[i]'(by rw [bl_len];exact hi)=x:=by rw [bl_get s i hi];exact hx
   have HX:=Lib.hid hxl
   clear hxl
   by_cases hlo:x.toNat < 128
   ·have hnx:=fun ty=>Lib.run_next_ascii_at (P:=Tryz.prog) wr w.heap.size s i ty hit hi (by rw [hx];exact hlo)
    rw [hx] at hnx
    have hcon:=sep_index x
    have hit2:=Lib.iterAt_heap wr w.heap.size s i (i + 1) hit
    have HI:=Lib.hid hit
    have HI2:=Lib.hid hit2
    clear hit hx hit2
    have hback:((x.toNat:Int)).toNat.toUInt8=x:=by simp
    cases hin:sepC x with
    | false =>
     rw [hin] at hcon
     have hlt:¬ ((0:Int)≤Lib.indexByte (⟨#[32,64,47]⟩ : ByteArray).data.toList x):=of_decide_eq_false hcon
     have HIN:=Lib.hid hin
     clear hcon hin
     go_wp2_with (go_at_call 140;(with_reducible refine (Tryz.strings_IndexRune_ascii _ _ _ (by omega) (by omega)).mono ?_);rintro e w' ⟨rfl,hw⟩;rw [hw,hback])
     go_roundg g
     case measure=>omega
     case rel=>exact ⟨i + 1,by omega,HI2.out,below_iterAt hB (Nat.le_refl _) _ _,HN.out.succ HX.out HIN.out⟩
    | true =>
     rw [hin] at hcon
     have hge:(0:Int)≤Lib.indexByte (⟨#[32,64,47]⟩ : ByteArray).data.toList x:=of_decide_eq_true hcon
     have HIN:=Lib.hid hin
     clear hcon hin
     go_wp2_with (go_at_call 140;(with_reducible refine (Tryz.strings_IndexRune_ascii _ _ _ (by omega) (by omega)).mono ?_);rintro e w' ⟨rfl,hw⟩;rw [hw,hback])
     go_ret
     exact ⟨_,rfl,by rw [any_of_at (l:=s.data.toList) (i:=i) (by rw [bl_len];exact hi) (by rw [HX.out];exact HIN.out)];simp [hge],below_iterAt hB (Nat.le_refl _) _ _⟩
   ·obtain ⟨d1,d2,d3,d4,d5⟩:=decode_hi s i hi (by rw [hx];omega)
    have hnx:=fun ty=>Lib.run_next_any_at (P:=Tryz.prog) wr w.heap.size s i ty hit hi
    obtain ⟨c,wd,hcw⟩ : ∃ c wd,Utf8.decode s i=(c,wd):=⟨_,_,rfl⟩
    rw [hcw] at d1 d2 d3 d4 d5 hnx
    dsimp only at d1 d2 d3 d4 d5 hnx
    have hit2:=Lib.iterAt_heap wr w.heap.size s i (i + wd) hit
    have HI:=Lib.hid hit
    have HI2:=Lib.hid hit2
    have hn2:=HN.out.more (k:=wd) (fun j hj h1 h2=>by rw [bl_get s j (by rw [bl_len] at hj;exact hj)];exact d5 j (by rw [bl_len] at hj;exact hj) h1 h2) (fun _ h=>sep_hi h)
    have HN2:=Lib.hid hn2
    have HCW:=Lib.hid hcw
    have HD:=Lib.hid d4
    have hcon:∀ W,Calls Tryz.prog 140 #[.string ⟨#[32,64,47]⟩,.int .i32 c] W (Ret W (.int .i64 (-1))):=by
     intro W
     by_cases hc:c=65533
     ·subst hc;exact indexRune_err W
     ·exact indexRune_hi c W (by rcases d4 with h | h;exact h;exact absurd h hc) d1 hc
    have HCON:=Lib.hid hcon
    clear hit hx hit2 hn2 d5 d4 hcw hcon
    go_wp2_with (go_at_call 140;(with_reducible refine (HCON.out _).mono ?_);rintro e w1 ⟨rfl,hb1⟩)
    go_roundg (s.size - (i + wd))
    case measure=>omega
    case rel=>exact ⟨i + wd,by omega,(hb1.block _ (lt_some2 HI2.out)).trans HI2.out,below_then (below_iterAt hB (Nat.le_refl _) _ _) hb1,HN2.out⟩
theorem zero202 (w:World):(zeroValue 180).run Tryz.prog w=.ok (.agg (Array.replicate 256 (.bool false))) w:=by kernel_rfl
theorem indexAny_any:∀ l:List UInt8,decide (0≤Lib.indexAny l [32,64,47])=l.any sepC
 | []=>rfl
 | b :: l=>by
  have ih:=indexAny_any l
  have hge:=Lib.indexAny_ge [32,64,47] l
  have hc:[32,64,47].contains b=sepC b:=by simp [List.contains,List.elem,sepC];grind
  unfold Lib.indexAny
  rw [hc,List.any_cons]
  cases sepC b with
  | true=>simp
  | false =>
   rw [← ih]
   simp only [Bool.false_or,Bool.false_eq_true,if_false]
   by_cases h:Lib.indexAny l [32,64,47]=-1
   ·rw [h];rfl
   ·rw [if_neg (by simpa using h)]
    have:(0≤Lib.indexAny l [32,64,47])=(0≤Lib.indexAny l [32,64,47] + 1):=by simp;omega
    simp only [this]
set_option maxHeartbeats 400000 in
theorem containsAny_c (s:ByteArray) (w:World) (hs:s.size≤1000000):Calls Tryz.prog 127 #[.string s,.string ⟨#[32,64,47]⟩] w (Ret w (.bool (s.data.toList.any sepC))):=by
 have hix:Calls Tryz.prog 136 #[.string s,.string ⟨#[32,64,47]⟩] w (IdxPost w (s.data.toList.any sepC)):=by
  by_cases h:s.size≤8
  ·exact indexAny_short s w h
  ·refine (Tryz.strings_IndexAny_long zero202 s ⟨#[32,64,47]⟩ w (by decide) (by omega) (by omega) (by decide) ?_).mono ?_
   ·intro j b hj
    match j,hj with
    | 0,hj=>simp at hj;subst hj;decide
    | 1,hj=>simp at hj;subst hj;decide
    | 2,hj=>simp at hj;subst hj;decide
    | j + 3,hj=>simp at hj
   ·rintro e w' ⟨rfl,rfl⟩
    exact ⟨_,rfl,indexAny_any _,bel_⟩
 have H:=Lib.hid hix
 clear hix
 go_enter Tryz.func127,Tryz.ntmps127
 go_wp2_with (go_at_call 136;(with_reducible refine (H.out).mono ?_);rintro e w1 ⟨v,rfl,hv,hb1⟩)
 go_ret
 refine ⟨?_,hb1⟩
 simp [hv]
end Go.Proofs.YtpkodpcfafipdaaGreatDoor

