/- A part of the proof: 11 texts joined. -/
import Derived.Test.YtpkodpcfafipdaaGreatDoorSuA3
import Derived.Test.YtpkodpcfafipdaaGreatDoorSuA4
import Derived.Test.YtpkodpcfafipdaaGreatDoorSuA1
import Derived.RangeFuncNested
import Derived.RangeFuncBound
import Derived.RangeFuncCalls
import Derived.RangeFuncLeaves
import Derived.Shelf.Abstract
import Derived.Shelf.RegionOpen
import Derived.OwnWalkIn
import Derived.TacticsInMore
import Derived.LoopNIn
import Derived.LoopIn
set_option linter.all false
namespace Go.Proofs.YtpkodpcfafipdaaGreatDoor
open Go.RowKit
theorem or64c (a:Int) (a' : Nat) (ha:a=a') (b:UInt8) (h:a' < 100000000):bits .or .i64 (a * 64) (b.toNat % 64:Int)=((a' * 64 + b.toNat % 64:Nat):Int):=by
 subst ha
 have:=or64 a' (b.toNat % 64) h (Nat.mod_lt _ (by omega))
 rw [show ((b.toNat:Int) % 64)=((b.toNat % 64:Nat):Int) by omega,this]
 omega
theorem tailL_eq (n c0 f:Nat) (r:List UInt8) (C:Nat) (h:n≤r.length) (ha:(r.take n).all contL=true) (hC:(r.take n).foldl (fun c b=>c * 64 + b.toNat % 64) c0=C) :
  tailL n c0 f r=if (C:Int) < f∨charL C=false then (-1,1) else ((C:Int),n + 1):=by
 unfold tailL
 rw [if_neg (by omega),if_neg (by rw [ha];simp)]
 simp only [hC]
 have e:(C < f)=((C:Int) < (f:Int)):=by simp
 simp only [e]
theorem u8_lt (b:UInt8):b.toNat < 256:=b.toNat_lt
theorem next_c (s:ByteArray) (w:World) (hs:s.size≤1000000) :
  Calls Tryz.prog 102 #[.string s] w (Ret w (.tuple #[.int .i64 (nextL s.data.toList).1,.int .i64 ((nextL s.data.toList).2:Nat)])):=by
 obtain ⟨⟨l⟩⟩:=s
 cases l with
 | nil=>exact next_empty _ w rfl
 | cons b0 r =>
  have h0:0 < (⟨⟨b0 :: r⟩⟩ : ByteArray).size:=by simp [ByteArray.size]
  have hsz:(⟨⟨b0 :: r⟩⟩ : ByteArray).size=r.length + 1:=by simp [ByteArray.size]
  have B0:=u8_lt b0
  show Calls Tryz.prog 102 _ w (Ret w (.tuple #[.int .i64 (nextL (b0 :: r)).1,.int .i64 ((nextL (b0 :: r)).2:Nat)]))
  have t0:=tab0 b0
  have t1:=tab1 b0
  have t2:=tab2 b0
  have t3:=tab3 b0
  by_cases q0:b0.toNat < 128
  ·have e:nextL (b0 :: r)=((b0.toNat:Int),1):=by simp [nextL,q0]
   rw [e]
   exact next0 _ w hs h0 b0 rfl (t0.trans (by simp;omega)) (low127 b0 q0) q0
  by_cases q1:192≤b0.toNat∧b0.toNat < 224
  ·have e:nextL (b0 :: r)=tailL 1 (b0.toNat % 32) 128 r:=by simp only [nextL,if_neg q0,if_pos q1]
   rw [e]
   have t0':=t0.trans (decide_eq_true (by omega))
   have t1' : _=false:=t1.trans (by simp only [decide_eq_true q1];rfl)
   cases r with
   | nil=>exact next1_short _ w hs h0 (by simp [ByteArray.size]) b0 rfl t0' t1'
   | cons b1 r =>
    have hn:1 < (⟨⟨b0 :: b1 :: r⟩⟩ : ByteArray).size:=by simp [ByteArray.size]
    cases c1:contL b1 with
    | false =>
     have e:tailL 1 (b0.toNat % 32) 128 (b1 :: r)=(-1,1):=by simp [tailL,c1]
     rw [e]
     exact next1_bad1 _ w hs hn b0 rfl t0' t1' (low31 b0) b1 rfl c1
    | true =>
     have o1:=or64c (b0.toNat % 32:Int) (b0.toNat % 32) (by omega) b1 (by omega)
     obtain ⟨C1,hC1⟩ : ∃ C1,C1=b0.toNat % 32 * 64 + b1.toNat % 64:=⟨_,rfl⟩
     rw [← hC1] at o1
     have e:tailL 1 (b0.toNat % 32) 128 (b1 :: r)=if (C1:Int) < 128∨charL C1=false then (-1,1) else ((C1:Int),2):=tailL_eq 1 _ 128 _ C1 (by simp) (by simp [c1]) (by simp [hC1])
     rw [e]
     by_cases hf:C1 < 128
     ·rw [if_pos (.inl (by omega))]
      exact next1_lo _ w hs hn b0 rfl t0' t1' (low31 b0) b1 rfl c1 (low63 b1) C1 (by omega) o1 hf
     ·cases hch:charL C1 with
      | false=>rw [if_pos (.inr rfl)];exact next1_no _ w hs hn b0 rfl t0' t1' (low31 b0) b1 rfl c1 (low63 b1) C1 (by omega) o1 (by omega) hch
      | true=>rw [if_neg (by simp;omega)];exact next1_ok _ w hs hn b0 rfl t0' t1' (low31 b0) b1 rfl c1 (low63 b1) C1 (by omega) o1 (by omega) hch
  by_cases q2:224≤b0.toNat∧b0.toNat < 240
  ·have e:nextL (b0 :: r)=tailL 2 (b0.toNat % 16) 2048 r:=by simp only [nextL,if_neg q0,if_neg q1,if_pos q2]
   rw [e]
   have t0':=t0.trans (decide_eq_true (by omega))
   have t1' : _=true:=t1.trans (by simp only [decide_eq_false q1];rfl)
   have t2' : _=false:=t2.trans (by simp only [decide_eq_true q2];rfl)
   match r with
   | []=>exact next2_short _ w hs h0 (by simp [ByteArray.size]) b0 rfl t0' t1' t2'
   | [x]=>exact next2_short _ w hs (by simp [ByteArray.size]) (by simp [ByteArray.size]) b0 rfl t0' t1' t2'
   | b1 :: b2 :: r =>
    have hn:2 < (⟨⟨b0 :: b1 :: b2 :: r⟩⟩ : ByteArray).size:=by simp [ByteArray.size]
    cases c1:contL b1 with
    | false =>
     have e:tailL 2 (b0.toNat % 16) 2048 (b1 :: b2 :: r)=(-1,1):=by simp [tailL,c1]
     rw [e]
     exact next2_bad1 _ w hs hn b0 rfl t0' t1' t2' (low15 b0) b1 rfl c1
    | true =>
     have o1:=or64c (b0.toNat % 16:Int) (b0.toNat % 16) (by omega) b1 (by omega)
     obtain ⟨C1,hC1⟩ : ∃ C1,C1=b0.toNat % 16 * 64 + b1.toNat % 64:=⟨_,rfl⟩
     rw [← hC1] at o1
     cases c2:contL b2 with
     | false =>
      have e:tailL 2 (b0.toNat % 16) 2048 (b1 :: b2 :: r)=(-1,1):=by simp [tailL,c2]
      rw [e]
      exact next2_bad2 _ w hs hn b0 rfl t0' t1' t2' (low15 b0) b1 rfl b2 rfl c1 (low63 b1) c2 C1 (by omega) o1
     | true =>
      have o2:=or64c (C1:Int) C1 rfl b2 (by omega)
      obtain ⟨C2,hC2⟩ : ∃ C2,C2=C1 * 64 + b2.toNat % 64:=⟨_,rfl⟩
      rw [← hC2] at o2
      have e:tailL 2 (b0.toNat % 16) 2048 (b1 :: b2 :: r)=if (C2:Int) < 2048∨charL C2=false then (-1,1) else ((C2:Int),3):=tailL_eq 2 _ 2048 _ C2 (by simp) (by simp [c1,c2]) (by simp [hC1,hC2])
      rw [e]
      by_cases hf:C2 < 2048
      ·rw [if_pos (.inl (by omega))]
       exact next2_lo _ w hs hn b0 rfl t0' t1' t2' (low15 b0) b1 rfl b2 rfl c1 (low63 b1) c2 (low63 b2) C1 (by omega) o1 C2 (by omega) o2 hf
      ·cases hch:charL C2 with
       | false=>rw [if_pos (.inr rfl)];exact next2_no _ w hs hn b0 rfl t0' t1' t2' (low15 b0) b1 rfl b2 rfl c1 (low63 b1) c2 (low63 b2) C1 (by omega) o1 C2 (by omega) o2 (by omega) hch
       | true=>rw [if_neg (by simp;omega)];exact next2_ok _ w hs hn b0 rfl t0' t1' t2' (low15 b0) b1 rfl b2 rfl c1 (low63 b1) c2 (low63 b2) C1 (by omega) o1 C2 (by omega) o2 (by omega) hch
  by_cases q3:240≤b0.toNat∧b0.toNat < 248
  ·have e:nextL (b0 :: r)=tailL 3 (b0.toNat % 8) 65536 r:=by simp only [nextL,if_neg q0,if_neg q1,if_neg q2,if_pos q3]
   rw [e]
   have t0':=t0.trans (decide_eq_true (by omega))
   have t1' : _=true:=t1.trans (by simp only [decide_eq_false q1];rfl)
   have t2' : _=true:=t2.trans (by simp only [decide_eq_false q2];rfl)
   have t3' : _=false:=t3.trans (by simp only [decide_eq_true q3];rfl)
   match r with
   | []=>exact next3_short _ w hs h0 (by simp [ByteArray.size]) b0 rfl t0' t1' t2' t3'
   | [x]=>exact next3_short _ w hs (by simp [ByteArray.size]) (by simp [ByteArray.size]) b0 rfl t0' t1' t2' t3'
   | [x,y]=>exact next3_short _ w hs (by simp [ByteArray.size]) (by simp [ByteArray.size]) b0 rfl t0' t1' t2' t3'
   | b1 :: b2 :: b3 :: r =>
    have hn:3 < (⟨⟨b0 :: b1 :: b2 :: b3 :: r⟩⟩ : ByteArray).size:=by simp [ByteArray.size]
    cases c1:contL b1 with
    | false =>
     have e:tailL 3 (b0.toNat % 8) 65536 (b1 :: b2 :: b3 :: r)=(-1,1):=by simp [tailL,c1]
     rw [e]
     exact next3_bad1 _ w hs hn b0 rfl t0' t1' t2' t3' (low7 b0) b1 rfl c1
    | true =>
     have o1:=or64c (b0.toNat % 8:Int) (b0.toNat % 8) (by omega) b1 (by omega)
     obtain ⟨C1,hC1⟩ : ∃ C1,C1=b0.toNat % 8 * 64 + b1.toNat % 64:=⟨_,rfl⟩
     rw [← hC1] at o1
     cases c2:contL b2 with
     | false =>
      have e:tailL 3 (b0.toNat % 8) 65536 (b1 :: b2 :: b3 :: r)=(-1,1):=by simp [tailL,c2]
      rw [e]
      exact next3_bad2 _ w hs hn b0 rfl t0' t1' t2' t3' (low7 b0) b1 rfl b2 rfl c1 (low63 b1) c2 C1 (by omega) o1
     | true =>
      have o2:=or64c (C1:Int) C1 rfl b2 (by omega)
      obtain ⟨C2,hC2⟩ : ∃ C2,C2=C1 * 64 + b2.toNat % 64:=⟨_,rfl⟩
      rw [← hC2] at o2
      cases c3:contL b3 with
      | false =>
       have e:tailL 3 (b0.toNat % 8) 65536 (b1 :: b2 :: b3 :: r)=(-1,1):=by simp [tailL,c3]
       rw [e]
       exact next3_bad3 _ w hs hn b0 rfl t0' t1' t2' t3' (low7 b0) b1 rfl b2 rfl b3 rfl c1 (low63 b1) c2 (low63 b2) c3 C1 (by omega) o1 C2 (by omega) o2
      | true =>
       have o3:=or64c (C2:Int) C2 rfl b3 (by omega)
       obtain ⟨C3,hC3⟩ : ∃ C3,C3=C2 * 64 + b3.toNat % 64:=⟨_,rfl⟩
       rw [← hC3] at o3
       have e:tailL 3 (b0.toNat % 8) 65536 (b1 :: b2 :: b3 :: r)=if (C3:Int) < 65536∨charL C3=false then (-1,1) else ((C3:Int),4):=tailL_eq 3 _ 65536 _ C3 (by simp) (by simp [c1,c2,c3]) (by simp [hC1,hC2,hC3])
       rw [e]
       by_cases hf:C3 < 65536
       ·rw [if_pos (.inl (by omega))]
        exact next3_lo _ w hs hn b0 rfl t0' t1' t2' t3' (low7 b0) b1 rfl b2 rfl b3 rfl c1 (low63 b1) c2 (low63 b2) c3 (low63 b3) C1 (by omega) o1 C2 (by omega) o2 C3 (by omega) o3 hf
       ·cases hch:charL C3 with
        | false=>rw [if_pos (.inr rfl)];exact next3_no _ w hs hn b0 rfl t0' t1' t2' t3' (low7 b0) b1 rfl b2 rfl b3 rfl c1 (low63 b1) c2 (low63 b2) c3 (low63 b3) C1 (by omega) o1 C2 (by omega) o2 C3 (by omega) o3 (by omega) hch
        | true=>rw [if_neg (by simp;omega)];exact next3_ok _ w hs hn b0 rfl t0' t1' t2' t3' (low7 b0) b1 rfl b2 rfl b3 rfl c1 (low63 b1) c2 (low63 b2) c3 (low63 b3) C1 (by omega) o1 C2 (by omega) o2 C3 (by omega) o3 (by omega) hch
  have e:nextL (b0 :: r)=(-1,1):=by simp only [nextL,if_neg q0,if_neg q1,if_neg q2,if_neg q3]
  rw [e]
  exact next_none _ w hs h0 b0 rfl (t0.trans (decide_eq_true (by omega))) (t1.trans (by simp only [decide_eq_false q1];rfl)) (t2.trans (by simp only [decide_eq_false q2];rfl)) (t3.trans (by simp only [decide_eq_false q3];rfl))
end Go.Proofs.YtpkodpcfafipdaaGreatDoor

namespace Go.Proofs.YtpkodpcfafipdaaGreatDoor
open Go.RowKit Go.Shelf
structure SelfS (bs:Nat) (W W' : World):Prop where
 self:∀ (arr:Array Value) (s:ByteArray) (t:TypeId) (f:Nat × Nat),W.heap[bs]?=some (.cells arr t f)→arr[0]?=some (.string s)→∃ (arr' : Array Value) (s' : ByteArray),W'.heap[bs]?=some (.cells arr' t f)∧arr'.size=arr.size∧arr'[0]?=some (.string s')
 not:∀ o,W.heap[bs]?=some o→o.isCells=false→W'.heap[bs]?=some o
theorem SelfS.of_eq {bs:Nat} {W W' : World} (h:∀ o,W.heap[bs]?=some o→W'.heap[bs]?=some o):SelfS bs W W':=⟨fun arr s _ _ h1 h2=>⟨arr,s,h _ h1,rfl,h2⟩,fun o ho _=>h o ho⟩
structure KeepC (N B bs:Nat) (W W' : World):Prop where
 os:W'.os=W.os
 tape:W'.tape=W.tape
 output:W'.output=W.output
 size:W.heap.size≤W'.heap.size
 old:∀ k,k < B→W'.heap[k]?=W.heap[k]?
 cells:∀ k c t f,k≠bs→W.heap[k]?=some (.cells c t f)→W'.heap[k]?=some (.cells c t f)
 self:SelfS bs W W'
 oth:∀ k o,k < N→W.heap[k]?=some o→o.isCells=false→W'.heap[k]?=some o
theorem KeepC.refl (N B bs:Nat) (W:World):KeepC N B bs W W:=⟨rfl,rfl,rfl,Nat.le_refl _,fun _ _=>rfl,fun _ _ _ _ _ h=>h,.of_eq fun _ h=>h,fun _ _ _ h _=>h⟩
theorem KeepC.trans {N B bs:Nat} {A W C:World} (h:KeepC N B bs A W) (k:KeepC N B bs W C):KeepC N B bs A C :=
 ⟨k.os.trans h.os,k.tape.trans h.tape,k.output.trans h.output,Nat.le_trans h.size k.size,fun i hi=>(k.old i hi).trans (h.old i hi),fun i c t f hi hc=>k.cells i c t f hi (h.cells i c t f hi hc),⟨fun arr s t f h1 h2=>by obtain ⟨a1,s1,g1,g2,g3⟩:=h.self.self arr s t f h1 h2;obtain ⟨a2,s2,k1,k2,k3⟩:=k.self.self a1 s1 t f g1 g3;exact ⟨a2,s2,k1,k2.trans g2,k3⟩,fun o h1 h2=>k.self.not o (h.self.not o h1 h2) h2⟩,fun i o hi h1 h2=>k.oth i o hi (h.oth i o hi h1 h2) h2⟩
theorem lt_of_some {W:World} {k:Nat} {o:Obj} (h:W.heap[k]?=some o):k < W.heap.size:=(Array.getElem?_eq_some_iff.1 h).1
theorem KeepC.of_below {N B bs:Nat} {W W' : World} (h:Below W.heap.size W W') (hB:B≤W.heap.size):KeepC N B bs W W' :=
 ⟨h.os,h.tape,h.output,h.size,fun k hk=>h.block k (by omega),fun k c t f _ hc=>(h.block k (lt_of_some hc)).trans hc,.of_eq fun o ho=>(h.block bs (lt_of_some ho)).trans ho,fun k o _ ho _=>(h.block k (lt_of_some ho)).trans ho⟩
theorem KeepC.put {N B bs:Nat} {W:World} {l:Nat} {o:Obj} (o' : Obj) (hl:W.heap[l]?=some o) (ho:o.isCells=false) (hB:B≤l) (hN:N≤l) (hb:bs≠l):KeepC N B bs W (W.putObj l o'):=by
 refine ⟨rfl,rfl,rfl,by simp,fun k hk=>World.putObj_heap_other (by omega),fun k c t f _ hc=>?_,.of_eq fun o h=>(World.putObj_heap_other hb).trans h,fun k o hk h1 _=>(World.putObj_heap_other (by omega)).trans h1⟩
 rw [World.putObj_heap_other]
 ·exact hc
 ·rintro rfl
  rw [hl] at hc;injection hc with hc;subst hc;simp [Obj.isCells] at ho
theorem KeepC.bk {N B bs:Nat} {W W' : World} {g:Nat} {t:TypeId} {cs:Array Value} (h:KeepC N B bs W W') (hg:g≠bs) (hb:Bk W g t cs):Bk W' g t cs:=h.cells _ _ _ _ hg hb
theorem KeepC.below {N B bs:Nat} {W W' W0:World} {A:Nat} (h:KeepC N B bs W W') (hA:A≤B) (hb:Below A W0 W):Below A W0 W' :=
 hb.trans ⟨h.os,h.tape,h.output,h.size,fun k hk=>h.old k (by omega)⟩
theorem KeepC.own {N B bs:Nat} {W W' : World} {base:Nat} {e:TypeId} {size:Nat} {v:Value} {n:Nat} {xs:List Value} (h:KeepC N B bs W W') (hb:v.ownBlock≠some bs) (ho:W.ownsRow base e size v n xs):W'.ownsRow base e size v n xs:=by
 obtain ⟨h1,h2⟩:=ho
 refine ⟨h1,?_⟩
 rcases h2 with h2 | ⟨g,cap,cur,hv,hg,hh,r⟩
 ·exact Or.inl h2
 ·refine Or.inr ⟨g,cap,cur,hv,hg,h.cells _ _ _ _ ?_ hh,r⟩
  rintro rfl
  subst hv
  simp [Value.ownBlock] at hb
theorem KeepC.of_grown {N B bs:Nat} {W W' : World} (h:W.grownBy W' (some bs)) (hs:SelfS bs W W') (hB:B≤W.heap.size) (hbs:B≤bs):KeepC N B bs W W':=by
 refine ⟨h.os,h.tape,h.output,h.size,fun k hk=>h.block k (by omega) (fun e=>by injection e;omega),fun k c t f hk hc=>(h.block k (lt_of_some hc) (fun e=>hk (by injection e))).trans hc,hs,fun k o hk h1 h2=>?_⟩
 by_cases e:k=bs
 ·subst e;exact hs.not o h1 h2
 ·exact (h.block k (lt_of_some h1) (fun e2=>e (by injection e2))).trans h1
theorem grown_of_below {W W' : World} {row:Option Nat} (h:Below W.heap.size W W'):W.grownBy W' row:=⟨h.os,h.tape,h.output,h.size,fun k hk _=>h.block k hk⟩
theorem grown_set (W:World) (bs j:Nat) (v:Value):W.grownBy (W.setCell ⟨bs,j,none⟩ v) (some bs) :=
 ⟨rfl,rfl,rfl,by simp [World.setCell],fun k _ hk=>Below.heap_setCell _ _ _ _ (fun e=>hk (by rw [e]))⟩
theorem self_of_below {bs:Nat} {W W' : World} (h:Below W.heap.size W W'):SelfS bs W W':=.of_eq fun o ho=>(h.block bs (lt_of_some ho)).trans ho
theorem self_set {bs:Nat} {W:World} {t:TypeId} {s s' : ByteArray} (h:Bk W bs t #[.string s]) (h' : Bk (W.setCell ⟨bs,0,none⟩ (.string s')) bs t #[.string s']):SelfS bs W (W.setCell ⟨bs,0,none⟩ (.string s')):=by
 have e:W.heap[bs]?=_:=h
 refine ⟨fun arr s0 t0 f h0 _=>?_,fun o h0 h1=>?_⟩
 ·rw [e] at h0
  injection h0 with h0
  injection h0 with e0 e1 e2
  subst e0 e1 e2
  exact ⟨_,s',h',rfl,rfl⟩
 ·rw [e] at h0
  injection h0 with h0
  subst h0
  simp [Obj.isCells] at h1
def StabI {β:Type} (bs:Nat) (J:β→World→Prop):Prop:=∀ s W W',J s W→W.grownBy W' (some bs)→SelfS bs W W'→J s W'
def StabC {β:Type} (N B bs:Nat) (I:β→World→Prop):Prop:=∀ s W W',I s W→KeepC N B bs W W'→I s W'
structure KeepK (B bs:Nat) (mm:Addr→Option Value) (pv:Nat→Prop) (W W' : World):Prop where
 below:Below B W W'
 text:∀ (arr:Array Value) (s:ByteArray) (t:TypeId) (f:Nat × Nat),W.heap[bs]?=some (.cells arr t f)→arr[0]?=some (.string s)→∃ arr' : Array Value,W'.heap[bs]?=some (.cells arr' t f)∧arr'.size=arr.size∧arr'[0]?=some (.string s)
 fast:∀ a u,mm a=some u→W.cell? a=some u→W'.cell? a=some u
 priv:∀ k c t f,pv k→W.heap[k]?=some (.cells c t f)→W'.heap[k]?=some (.cells c t f)
theorem KeepK.refl (B bs:Nat) (mm:Addr→Option Value) (pv:Nat→Prop) (W:World):KeepK B bs mm pv W W:=⟨Below.refl _ _,fun arr _ _ _ h1 h2=>⟨arr,h1,rfl,h2⟩,fun _ _ _ h=>h,fun _ _ _ _ _ h=>h⟩
theorem cell_keep {W W' : World} {a:Addr} {u:Value} (h:W'.heap[a.block]?=W.heap[a.block]?) (hc:W.cell? a=some u):W'.cell? a=some u:=by
 unfold World.cell? at hc ⊢
 rw [h];exact hc
theorem KeepK.trans {B bs:Nat} {mm:Addr→Option Value} {pv:Nat→Prop} {A W C:World} (h:KeepK B bs mm pv A W) (k:KeepK B bs mm pv W C):KeepK B bs mm pv A C :=
 ⟨h.1.trans k.1,fun arr s t f h1 h2=>by obtain ⟨a1,g1,g2,g3⟩:=h.2 arr s t f h1 h2;obtain ⟨a2,k1,k2,k3⟩:=k.2 a1 s t f g1 g3;exact ⟨a2,k1,k2.trans g2,k3⟩,fun a u hm hc=>k.3 a u hm (h.3 a u hm hc),fun i c t f hi hc=>k.4 i c t f hi (h.4 i c t f hi hc)⟩
theorem KeepK.put {B bs:Nat} {mm:Addr→Option Value} {pv:Nat→Prop} {W:World} {l:Nat} {o:Obj} (o' : Obj) (hl:W.heap[l]?=some o) (ho:o.isCells=false) (hB:B≤l):KeepK B bs mm pv W (W.putObj l o'):=by
 have hne:∀ k c t f,W.heap[k]?=some (.cells c t f)→k≠l:=by
  rintro k c t f hc rfl
  rw [hl] at hc
  injection hc with hc
  subst hc
  simp [Obj.isCells] at ho
 refine ⟨⟨rfl,rfl,rfl,by simp,fun k hk=>World.putObj_heap_other (by omega)⟩,fun arr s t f h1 h2=>⟨arr,(World.putObj_heap_other (hne _ _ _ _ h1)).trans h1,rfl,h2⟩,fun a u _ hc=>cell_keep (World.putObj_heap_other ?_) hc,fun k c t f _ hc=>(World.putObj_heap_other (hne _ _ _ _ hc)).trans hc⟩
 intro e
 unfold World.cell? at hc
 rw [e,hl] at hc
 cases o <;> simp_all [Obj.isCells]
def Since (W0 W1:World) (k:Nat):Prop:=W0.heap.size≤k∧∃ c t f,W1.heap[k]?=some (.cells c t f)
def IterC {α:Type} (P:Program) (gf:Nat) (lb:Array Value) (bs:Nat) (mm:Addr→Option Value) (B:Nat) (encs:α→Array Value) (xs:List α) (St:World→Prop):Prop :=
 ∀ (n l:Nat) (J Jx:List α→World→Prop) (W:World),B≤W.heap.size→StabI bs J→StabI bs Jx→St W →
  (∀ pre x post W0 W1,xs=pre++x :: post→J pre W0→W0.grownBy W1 (some bs)→SelfS bs W0 W1→YieldAt Fence.wide (n - 1) P l (encs x) W1 fun e W' =>
   (e=.returned (.bool true)∧J (pre++[x]) W'∧KeepK B bs mm (Since W0 W1) W1 W')∨(e=.returned (.bool false)∧Jx (pre++[x]) W')) →
  J [] W →
  CallsIn Fence.wide n P gf (#[.func (.yield l) #[] #[]]++lb) W fun e W'=>(∃ v,e=.returned v)∧(J xs W'∨∃ pre post,xs=pre++post∧Jx pre W')
def roundQ {α:Type} (B bs:Nat) (mm:Addr→Option Value) (pv:Nat→Prop) (I:List α→World→Prop) (Ix:Code→List α→World→Prop) (xs:List α) (W:World):Exit→Act→World→Prop
 | .normal,_,W'=>KeepsOthers W W'∧KeepK B bs mm pv W W'∧I xs W'
 | .ret,_,W'=>KeepsOthers W W'∧Ix .ret xs W'
 | .exit id,_,W'=>KeepsOthers W W'∧Ix (.exit id) xs W'
 | _,_,_=>False
variable {P : Program}
theorem rangeIter {α:Type} {n:Nat} {g:Operand} {ps:Array Tmp} {assign body:Code} {Q:Exit→Act→World→Prop} {a:Act} {w:World}
  {gf:Nat} {lb:Array Value} (hg:a.eval g=.func (.func gf) #[] lb) (eg:∀ args w,(callFunc gf args).run P w=.ok (.enter gf args) w)
  {bs B:Nat} {mm:Addr→Option Value} {encs:α→Array Value} {xs:List α} {St:World→Prop} (hit:IterC P gf lb bs mm B encs xs St) (hps:∀ x,(encs x).size=ps.size)
  (hBw:B≤w.heap.size) (hbB:B≤bs) (hbs:bs < w.heap.size) (hSt:∀ W',Below w.heap.size w W'→St W')
  (I:List α→World→Prop) (Ix:Code→List α→World→Prop) (hI:StabC w.heap.size B bs I) (hIx:∀ c,StabC w.heap.size B bs (Ix c)) (h0:I [] w)
  (hround:∀ (l:Nat) (pre:List α) (x:α) (post:List α) (W0 W:World),xs=pre++x :: post→I pre W0→W0.grownBy W (some bs)→SelfS bs W0 W→B≤W0.heap.size→w.heap.size≤W0.heap.size →
   assign.wpIn (Fence.wide.inRound l) (n - 1 - 1) P (Exit.then (fun a1 W1=>KeepsOthers W W1∧KeepK B bs mm (Since W0 W) W W1∧∀ W2,KeepC w.heap.size B bs W1 W2→W2.heap.size=W1.heap.size →
    body.wpIn (Fence.wide.inRound l) (n - 1 - 1) P (roundQ B bs mm (Since W0 W) I Ix (pre++[x]) W2) a1 W2) (fun _ _ _=>False))
    { tmps:=(ps.zip (encs x)).foldl (fun t (p,v)=>t.setIfInBounds p v) a.tmps,defers:=[] } W)
  (hdone:∀ (D:Nat) (W:World),I xs W→W.heap[D]?=some (.deferred (some []))→w.heap.size≤D→Q .normal { a with defers:={ target:=.collected D,args:=#[] } :: a.defers } W)
  (hstop:∀ (D:Nat) (c:Code) (pre post:List α) (W:World),xs=pre++post→Ix c pre W→W.heap[D]?=some (.deferred (some []))→w.heap.size≤D→c.wpIn Fence.wide n P Q { a with defers:={ target:=.collected D,args:=#[] } :: a.defers } W) :
  (Code.rangeFunc g ps assign body).wpIn Fence.wide n P Q a w:=by
 refine wpIn_rangeFunc ?_
 intro fn hfn
 obtain ⟨rec,hrec⟩ : ∃ rec:LoopState→Option Code→Loop,rec=fun st pe=>{ state:=st,pending:=pe,fn,tmps:=a.tmps,params:=ps,assign,body,defers:=w.heap.size }:=⟨_,rfl⟩
 obtain ⟨W1,hW1⟩ : ∃ W1,(w.alloc (.deferred (some []))).alloc (.loop (rec .ready none))=W1:=⟨_,rfl⟩
 have hb1:Below w.heap.size w W1:=by rw [← hW1];exact (((Below.refl _ w).alloc (Nat.le_refl _) _).alloc (by simp) _)
 have hL1:W1.heap[w.heap.size + 1]?=some (.loop (rec .ready none)):=by
  rw [← hW1];have:=World.alloc_heap_new (w.alloc (.deferred (some []))) (.loop (rec .ready none));rwa [World.size_alloc] at this
 have hK1:W1.heap[w.heap.size]?=some (.deferred (some [])):=by
  rw [← hW1];exact (Below.heap_alloc _ _ _ (by simp)).trans (World.alloc_heap_new w _)
 have hk1:KeepC w.heap.size B bs w W1:=.of_below hb1 hBw
 refine ⟨w.heap.size + 1,[{ target:=.collected w.heap.size,args:=#[] }],W1,{ target:=.fn (.func gf) lb,args:=#[.func (.yield (w.heap.size + 1)) #[] #[]] },W1,gf,
  #[.func (.yield (w.heap.size + 1)) #[] #[]]++lb,W1,?_,?_,?_,?_,?_,?_⟩
 ·rw [← hW1,hrec];exact run_enterLoop_outer _ _ _ _ _
 ·simp only [resolve,hg]
  simp [go_sem]
 ·intro f' _;trivial
 ·simp [invoke,go_sem,eg]
 ·intro h;simp [Fence.wide] at h
 ·have hkeep:∀ {A C:World} {o:Obj} {k:Nat},KeepsOthers A C→A.heap[k]?=some o→o.isCells=false→C.heap[k]?=some o:=fun h hk ho=>h.same _ _ hk ho
  refine (hit (n - 1) (w.heap.size + 1)
   (fun pre W=>I pre W∧w.heap.size≤W.heap.size∧W.heap[w.heap.size + 1]?=some (.loop (rec .ready none))∧W.heap[w.heap.size]?=some (.deferred (some [])))
   (fun pre W=>∃ c,Ix c pre W∧W.heap[w.heap.size + 1]?=some (.loop (rec .done (some c)))∧W.heap[w.heap.size]?=some (.deferred (some [])))
   W1 (Nat.le_trans hBw hb1.size) ?_ ?_ (hSt _ hb1) ?_ ⟨hI _ _ _ h0 hk1,hb1.size,hL1,hK1⟩).mono ?_
  ·rintro s A C ⟨hi,hs,hl,hk⟩ hg' hse
   exact ⟨hI _ _ _ hi (.of_grown hg' hse (by omega) hbB),Nat.le_trans hs hg'.size,(hg'.block _ (lt_of_some hl) (by intro e;injection e;omega)).trans hl,(hg'.block _ (lt_of_some hk) (by intro e;injection e;omega)).trans hk⟩
  ·rintro s A C ⟨c,hi,hl,hk⟩ hg' hse
   have:=lt_of_some hl
   exact ⟨c,hIx c _ _ _ hi (.of_grown hg' hse (by omega) hbB),(hg'.block _ (lt_of_some hl) (by intro e;injection e;omega)).trans hl,(hg'.block _ (lt_of_some hk) (by intro e;injection e;omega)).trans hk⟩
  ·-- one round
   rintro pre x post W0 W hx ⟨hi,hs,hl0,hk0⟩ hgr hse
   have hl:=(hgr.block _ (lt_of_some hl0) (by intro e;injection e;omega)).trans hl0
   have hk:=(hgr.block _ (lt_of_some hk0) (by intro e;injection e;omega)).trans hk0
   have hy:=run_yield (P:=P) (args:=encs x) hl (by rw [hrec];exact hps x)
   rw [hrec] at hy
   refine ⟨fn,_,assign,body,hy,roundIn_of_wpIn hfn (wpIn_mono (hround _ pre x post W0 W hx hi hgr hse (by omega) hs) ?_)⟩
   rintro e a3 W3 hp
   cases e with
   | normal =>
    obtain ⟨hko,hkk,hbody⟩:=hp
    have hl3:=hkeep hko hl rfl
    have hk3:=hkeep hko hk rfl
    have hlt3:=lt_of_some hl3
    refine ⟨_,run_beginRound hl3 (by rw [hrec]),?_⟩
    have hC:KeepC w.heap.size B bs W3 (W3.putObj (w.heap.size + 1) (.loop { rec .ready none with state:=.busy })):=.put _ hl3 rfl (by omega) (by omega) (by omega)
    refine wpIn_mono (hbody _ hC (by simp)) ?_
    have hl4:(W3.putObj (w.heap.size + 1) (.loop { rec .ready none with state:=.busy })).heap[w.heap.size + 1]?=some (.loop { rec .ready none with state:=.busy }):=World.putObj_heap_same hlt3
    have hk4:(W3.putObj (w.heap.size + 1) (.loop { rec .ready none with state:=.busy })).heap[w.heap.size]?=some (.deferred (some [])):=(World.putObj_heap_other (by omega)).trans hk3
    have fin:∀ (jump:Option Code) (W5:World),KeepsOthers (W3.putObj (w.heap.size + 1) (.loop { rec .ready none with state:=.busy })) W5 →
      (Instr.endRound (w.heap.size + 1) jump).run P W5=.ok (.bool jump.isNone) (W5.putObj (w.heap.size + 1) (.loop (rec (if jump.isNone then .ready else .done) jump))) ∧
      W5.heap[w.heap.size + 1]?=some (.loop { rec .ready none with state:=.busy }) ∧
      (W5.putObj (w.heap.size + 1) (.loop (rec (if jump.isNone then .ready else .done) jump))).heap[w.heap.size + 1]?=some (.loop (rec (if jump.isNone then .ready else .done) jump)) ∧
      (W5.putObj (w.heap.size + 1) (.loop (rec (if jump.isNone then .ready else .done) jump))).heap[w.heap.size]?=some (.deferred (some [])):=fun jump W5 hko5=>by
     have hl5:=hkeep hko5 hl4 rfl
     have hk5:=hkeep hko5 hk4 rfl
     have hr:=run_endRound (P:=P) jump hl5
     rw [hrec] at hr ⊢
     exact ⟨hr,by rw [hrec] at hl5;exact hl5,World.putObj_heap_same (lt_of_some hl5),(World.putObj_heap_other (by omega)).trans hk5⟩
    rintro e5 a5 W5 hp5
    cases e5 with
    | normal =>
     obtain ⟨hko5,hkk5,hi5⟩:=hp5
     obtain ⟨hr,hl5,hl6,hk6⟩:=fin none W5 hko5
     have hlt5:=lt_of_some hl5
     have hA:KeepK B bs mm (Since W0 W) W3 (W3.putObj (w.heap.size + 1) (.loop { rec .ready none with state:=.busy })):=.put _ hl3 rfl (by omega)
     have hA5:KeepK B bs mm (Since W0 W) W5 (W5.putObj (w.heap.size + 1) (.loop (rec .ready none))):=.put _ hl5 rfl (by omega)
     exact ⟨_,_,hr,.inl ⟨rfl,⟨hI _ _ _ hi5 (.put _ hl5 rfl (by omega) (by omega) (by omega)),by simp;omega,hl6,hk6⟩,((hkk.trans hA).trans hkk5).trans hA5⟩⟩
    | ret =>
     obtain ⟨hko5,hi5⟩:=hp5
     obtain ⟨hr,hl5,hl6,hk6⟩:=fin (some .ret) W5 hko5
     exact ⟨_,_,hr,.inr ⟨rfl,.ret,hIx _ _ _ _ hi5 (.put _ hl5 rfl (by omega) (by omega) (by omega)),hl6,hk6⟩⟩
    | exit id =>
     obtain ⟨hko5,hi5⟩:=hp5
     obtain ⟨hr,hl5,hl6,hk6⟩:=fin (some (.exit id)) W5 hko5
     exact ⟨_,_,hr,.inr ⟨rfl,.exit id,hIx _ _ _ _ hi5 (.put _ hl5 rfl (by omega) (by omega) (by omega)),hl6,hk6⟩⟩
    | goto t=>exact hp5.elim
    | panic ch=>exact hp5.elim
    | outgrown=>exact hp5.elim
   | ret=>exact hp.elim
   | exit id=>exact hp.elim
   | goto t=>exact hp.elim
   | panic ch=>exact hp.elim
   | outgrown=>exact hp.elim
  ·-- behind the iterator
   rintro e W2 ⟨⟨v,rfl⟩,(⟨hi,hs,hl,hk⟩ | ⟨pre,post,hx,c,hi,hl,hk⟩)⟩
   ·exact ⟨none,_,by have:=run_endLoop (P:=P) hl (by rw [hrec];simp);rw [hrec] at this;exact this,hdone _ _ (hI _ _ _ hi (.put _ hl rfl (by omega) (by omega) (by omega))) ((World.putObj_heap_other (by omega)).trans hk) (Nat.le_refl _)⟩
   ·exact ⟨some c,_,by have:=run_endLoop (P:=P) hl (by rw [hrec];simp);rw [hrec] at this;exact this,hstop _ c pre post _ hx (hIx c _ _ _ hi (.put _ hl rfl (by omega) (by omega) (by omega))) ((World.putObj_heap_other (by omega)).trans hk) (Nat.le_refl _)⟩
theorem wide_depth {n:Nat}:Fence.wide.depth.isSome=true→1≤n:=fun h=>by simp [Fence.wide] at h
theorem below_put {w W:World} {D:Nat} (h:Below w.heap.size w W) (hD:w.heap.size≤D) (o:Obj):Below w.heap.size w (W.putObj D o) :=
 h.trans ⟨rfl,rfl,rfl,by simp,fun k hk=>World.putObj_heap_other (by omega)⟩
theorem bk_put {W:World} {g D:Nat} {t:TypeId} {cs:Array Value} (h:Bk W g t cs) (hD:g≠D) (o:Obj):Bk (W.putObj D o) g t cs:=(World.putObj_heap_other hD).trans h
end Go.Proofs.YtpkodpcfafipdaaGreatDoor

namespace Go.Proofs.YtpkodpcfafipdaaGreatDoor
open Go.RowKit Go.Shelf
attribute [local go_sem] Oper.semAt_some
theorem ext_drop (s:ByteArray) (k:Nat):(s.extract k s.size).data.toList=s.data.toList.drop k:=by
 rw [ByteArray.data_extract,Array.toList_extract]
 simp only [List.extract]
 rw [List.take_of_length_le]
 rw [List.length_drop,Array.length_toList]
 exact Nat.le_refl _
theorem ext_take (s:ByteArray) (k:Nat):(s.extract 0 k).data.toList=s.data.toList.take k:=by
 simp
def allL:Nat→List UInt8→List (Int × Nat)
 | 0,_=>[]
 | n + 1,l=>match l with
  | []=>[]
  | b :: r=>nextL (b :: r) :: allL n ((b :: r).drop (nextL (b :: r)).2)
theorem tailL_pos (n c f:Nat) (r:List UInt8):1≤(tailL n c f r).2∧(tailL n c f r).2≤r.length + 1:=by
 unfold tailL
 split
 ·simp
 ·split
  ·simp
  ·dsimp only
   split <;> simp <;> omega
theorem nextL_pos (b:UInt8) (r:List UInt8):1≤(nextL (b :: r)).2∧(nextL (b :: r)).2≤r.length + 1:=by
 have h:=fun n c f=>tailL_pos n c f r
 simp only [nextL]
 repeat' split
 all_goals first | exact h _ _ _ | (refine ⟨?_,?_⟩ <;> simp)
def strAt (bs:Nat) (w:World):Nat:=match w.cell? ⟨bs,0,none⟩ with
 | some (.string s)=>s.size
 | _=>0
theorem strAt_of {w:World} {bs:Nat} {t:TypeId} {s:ByteArray} (h:Bk w bs t #[.string s]):strAt bs w=s.size:=by
 have:=h.cell 0
 simp at this
 simp [strAt,this]
theorem arr_one {arr' : Array Value} {v:Value} (h1:arr'.size=1) (h2:arr'[0]?=some v):arr'=#[v]:=by
 apply Array.ext
 ·simpa using h1
 ·intro i h3 h4
  have:i=0:=by simp at h4;exact h4
  subst this
  rw [Array.getElem?_eq_getElem h3] at h2
  simpa using h2
def encC (x:Int × Nat):Array Value:=#[.int .i64 x.1,.int .i64 (x.2:Nat)]
set_option maxHeartbeats 1000000 in
theorem all1_c (bs B:Nat) (hB:B≤bs) (s:ByteArray) (hs:s.size≤1000000) :
  IterC Tryz.prog 101 #[.pointer (some ⟨bs,0,none⟩)] bs (fun _=>none) B encC (allL s.size s.data.toList) (fun W=>Bk W bs 9 #[.string s]):=by
 intro n l J Jx W hBW hJ hJx hst hY h0
 refine callsIn_of_wp Tryz.func101 rfl trivial ?_
 simp only [Tryz.ntmps101,List.size_toArray,List.length_cons,List.length_nil,Nat.reduceAdd,Nat.reduceSub,Array.replicate_succ,Array.replicate_zero,List.push_toArray,List.append_toArray,List.nil_append,List.cons_append]
 gi_wp2
 gi_loopw [3,4] (fun _ _ wr=>∃ (pre:List (Int × Nat)) (cur:ByteArray) (m:Nat),cur.size≤m∧allL s.size s.data.toList=pre++allL m cur.data.toList∧cur.size≤1000000∧Bk wr bs 9 #[.string cur]∧J pre wr∧B≤wr.heap.size)
  (fun _ _ wr=>strAt bs wr)
 case atStart=>exact ⟨[],s,s.size,Nat.le_refl _,rfl,hs,hst,h0,hBW⟩
 case round =>
  obtain ⟨pre,cur,m,hm,hx,hc,hb,hj,hBr⟩:=hrel
  have c0:=hb.cell 0
  have f0:=hb.frozen 0
  simp only [List.getElem?_toArray,List.getElem?_cons_zero] at c0
  have hlt:=hb.lt
  by_cases he:cur=ByteArray.empty
  ·subst he
   gi_wp2
   go_end0
   refine ⟨⟨_,rfl⟩,.inl ?_⟩
   have:allL m (ByteArray.empty).data.toList=[]:=by cases m <;> rfl
   rw [this,List.append_nil] at hx
   rw [hx];exact hj
  ·have hpos:=pos_of_ne he
   have hem:=isEmpty_of_pos hpos
   obtain ⟨b0,r,hbr⟩ : ∃ b0 r,cur.data.toList=b0 :: r:=by
    cases h:cur.data.toList with
    | nil =>
     have h1:=congrArg List.length h
     rw [Array.length_toList] at h1
     have h2:cur.size=0:=h1
     omega
    | cons b0 r=>exact ⟨b0,r,rfl⟩
   have hlen:cur.size=r.length + 1:=by
    have h1:=congrArg List.length hbr
    rw [Array.length_toList] at h1
    exact h1
   have hnp:=nextL_pos b0 r
   obtain ⟨m',rfl⟩ : ∃ m',m=m' + 1:=⟨m - 1,by omega⟩
   have hstep:allL (m' + 1) cur.data.toList=nextL cur.data.toList :: allL m' (cur.data.toList.drop (nextL cur.data.toList).2):=by rw [hbr];rfl
   rw [← hbr] at hnp
   obtain ⟨c,k,hck⟩ : ∃ c k,nextL cur.data.toList=(c,k):=⟨_,_,rfl⟩
   rw [hck] at hstep hnp
   dsimp only at hstep hnp
   have HS:=Lib.hid hstep
   have HX:=Lib.hid hx
   have HC:=Lib.hid hck
   have HL:=Lib.hid hlen
   clear hstep hx hck hbr hlen
   have hkc:k≤cur.size:=by have:=HL.out;omega
   gi_wp2_with (refine ⟨trivial,wide_depth,?_⟩;gi_at_call 102;refine (callsIn_wide.2 (next_c cur _ hc)).mono ?_;rw [HC.out];rintro e w1 ⟨rfl,hb1⟩)
   have hj1:=hJ _ _ _ hj (grown_of_below hb1) (self_of_below hb1)
   have hbk1:=hb.then hb1
   obtain ⟨fn,tmps,assign,body,hy,hR⟩:=hY pre (c,k) (allL m' (cur.data.toList.drop k)) w1 w1 (by rw [HX.out,HS.out]) hj1 (grown_of_below (Below.refl _ _)) (.of_eq fun _ h=>h)
   have hy' : (Instr.yield l #[.int .i64 c,.int .i64 (k:Nat)]).run Tryz.prog w1=.ok (.round l fn tmps assign body) w1:=hy
   clear hy
   rw [hy']
   gi_wp2
   refine ⟨wide_depth,hR.mono ?_⟩
   rintro e W' (⟨rfl,hj2,hk2⟩ | ⟨rfl,hjx⟩)
   ·have hb2:Bk W' bs 9 #[.string cur]:=by
     obtain ⟨arr',g1,g2,g3⟩:=hk2.text _ _ _ _ hbk1 rfl
     rw [arr_one g2 g3] at g1;exact g1
    have d0:=hb2.cell 0
    have g0:=hb2.frozen 0
    simp only [List.getElem?_toArray,List.getElem?_cons_zero] at d0
    gi_wp2
    have hb3:Bk (W'.setCell ⟨bs,0,none⟩ (.string (cur.extract k cur.size))) bs 9 #[.string (cur.extract k cur.size)]:=by
     have:=hb2.set 0 (.string (cur.extract k cur.size))
     simpa using this
    have hsz:(cur.extract k cur.size).size=cur.size - k:=by simp
    refine ⟨⟨pre++[(c,k)],cur.extract k cur.size,m',by omega,?_,by omega,hb3,hJ _ _ _ hj2 (grown_set _ _ _ _) (self_set hb2 hb3),?_⟩,?_⟩
    ·rw [HX.out,HS.out,ext_drop];simp
    ·have e1:=hk2.1.size
     have e2:=hb1.size
     simp [World.setCell];omega
    ·rw [strAt_of hb3,strAt_of hb,hsz];omega
   ·gi_wp2
    refine bodyPost_ret (results_none rfl _ _ _) rfl ?_
    exact ⟨⟨_,rfl⟩,.inr ⟨pre++[(c,k)],allL m' (cur.data.toList.drop k),by rw [HX.out,HS.out];simp,hjx⟩⟩
end Go.Proofs.YtpkodpcfafipdaaGreatDoor

namespace Go.Proofs.YtpkodpcfafipdaaGreatDoor
open Go.RowKit Go.Shelf
attribute [local go_sem] Oper.semAt_some
set_option maxHeartbeats 400000 in
theorem all_c (s:ByteArray) (w:World) :
  Calls Tryz.prog 95 #[.string s] w fun e w'=>e=.returned (.func (.func 101) #[] #[.pointer (some ⟨w.heap.size,0,none⟩)])∧w.alloc (.cells #[.string s] 9)=w':=by
 go_enter Tryz.func95,Tryz.ntmps95
 go_wp2
 go_ret
 exact ⟨rfl,rfl⟩
def fineC (x:Int × Nat):Bool:=decide (32≤x.1) && !(x.1 == 127)
def FineIs (pre:List (Int × Nat)) (b:Bool):Prop:=pre.all fineC=b
def plainL (l:List UInt8):Bool:=(allL l.length l).all fineC
set_option maxHeartbeats 1000000 in
theorem plain_c (s:ByteArray) (w:World) (hs:s.size≤1000000) :
  Calls Tryz.prog 75 #[.string s] w (Ret w (.bool (plainL s.data.toList))):=by
 refine (callsIn_wide (n:=3)).1 ?_
 refine callsIn_of_wp_marks Tryz.func75 rfl trivial ?_ rfl
 simp only [Tryz.ntmps75,List.size_toArray,List.length_cons,List.length_nil,Nat.reduceAdd,Nat.reduceSub,Array.replicate_succ,Array.replicate_zero,List.push_toArray,List.append_toArray,List.nil_append,List.cons_append]
 gi_wp2_with (refine ⟨trivial,?_⟩;gi_at_call 95;refine (callsIn_wide.2 (all_c s _)).mono ?_;rintro e w' ⟨rfl,rfl⟩)
 have hst:Bk ((w.alloc (.cells #[.bool false] 4)).alloc (.cells #[.string s] 9)) (w.heap.size + 1) 9 #[.string s]:=by
  have:=Bk.new (w.alloc (.cells #[.bool false] 4)) 9 #[.string s]
  rwa [World.size_alloc] at this
 have hr0:Bk ((w.alloc (.cells #[.bool false] 4)).alloc (.cells #[.string s] 9)) w.heap.size 4 #[.bool false]:=(Bk.new _ _ _).alloc _
 have hB0:Below w.heap.size w ((w.alloc (.cells #[.bool false] 4)).alloc (.cells #[.string s] 9)):=bel_
 refine rangeIter (gf:=101) (lb:=#[.pointer (some ⟨w.heap.size + 1,0,none⟩)]) rfl (enters_of Tryz.func101 (by kernel_rfl) rfl)
  (bs:=w.heap.size + 1) (B:=w.heap.size) (all1_c (w.heap.size + 1) w.heap.size (by omega) s hs) (by intro x;rfl) (by simp;omega) (by omega) (by simp)
  (fun W' hb=>hst.then hb)
  (fun pre W=>Below w.heap.size w W∧Bk W w.heap.size 4 #[.bool false]∧FineIs pre true)
  (fun c pre W=>c=.ret∧Below w.heap.size w W∧Bk W w.heap.size 4 #[.bool false]∧FineIs pre false)
  ?stI ?stIx ⟨hB0,hr0,rfl⟩ ?round ?done ?stop
 case stI =>
  rintro pre W W' ⟨h1,h2,h3⟩ hk
  exact ⟨hk.below (Nat.le_refl _) h1,hk.bk (by omega) h2,h3⟩
 case stIx =>
  rintro c pre W W' ⟨h0,h1,h2,h3⟩ hk
  exact ⟨h0,hk.below (Nat.le_refl _) h1,hk.bk (by omega) h2,h3⟩
 case round=>
  rintro l pre ⟨c,k⟩ post W0 W hx ⟨h1,h2,h3⟩ hgr hse hBz hsz0
  have hkc:=KeepC.of_grown (N:=w.heap.size) hgr hse hBz (by omega)
  have h1:=hkc.below (Nat.le_refl _) h1
  have h2:=hkc.bk (by omega) h2
  have hB:=Nat.le_trans hBz hgr.size
  have hsz:=Nat.le_trans hsz0 hgr.size
  clear hkc hgr hse hBz hsz0
  simp only [encC]
  gi_wp2
  refine ⟨KeepsOthers.refl _,KeepK.refl _ _ _ _ _,fun W2 hk hsz2=>?_⟩
  have g1:=hk.below (Nat.le_refl _) h1
  have g2:=hk.bk (by omega) h2
  have d0:=g2.cell 0
  have e0:=g2.frozen 0
  simp only [List.getElem?_toArray,List.getElem?_cons_zero] at d0
  have hall:(pre++[(c,k)]).all fineC=fineC (c,k):=by unfold FineIs at h3;simp [List.all_append,h3]
  have HA:=Lib.hid hall
  clear hall hx
  by_cases hlo:c < 32
  ·gi_wp2
   refine ⟨KeepsOthers.setCell _ _ _,rfl,g1.setCell (p:=⟨w.heap.size,0,none⟩) (Nat.le_refl _) _,by simpa using g2.set 0 (.bool false),?_⟩
   unfold FineIs;rw [HA.out];simp [fineC];omega
  ·have hlo' : decide (c < 32)=false:=by simp;omega
   by_cases h7:c=127
   ·have h7' : (c == 127)=true:=by simp [h7]
    have H7:=Lib.hid h7
    clear h7
    gi_wp2
    refine ⟨KeepsOthers.setCell _ _ _,rfl,g1.setCell (p:=⟨w.heap.size,0,none⟩) (Nat.le_refl _) _,by simpa using g2.set 0 (.bool false),?_⟩
    unfold FineIs;rw [HA.out];simp [fineC,H7.out]
   ·have h7' : (c == 127)=false:=by simp [h7]
    gi_wp2
    refine ⟨KeepsOthers.refl _,KeepK.refl _ _ _ _ _,g1,g2,?_⟩
    unfold FineIs;rw [HA.out];simp [fineC,h7];omega
 case done =>
  rintro D W ⟨h1,h2,h3⟩ hK hD
  have d0:=h2.cell 0
  have e0:=h2.frozen 0
  simp only [List.getElem?_toArray,List.getElem?_cons_zero] at d0
  gi_wp2
  have hD' : w.heap.size≤D:=by simp at hD;omega
  have hne:w.heap.size≠D:=by simp at hD;omega
  have hb2:=bk_put (h2.set 0 (.bool true)) hne (.deferred none)
  have c2:=hb2.cell 0
  simp only [List.setIfInBounds_toArray,List.set_cons_zero,List.getElem?_toArray,List.getElem?_cons_zero] at c2
  have hpl:plainL s.data.toList=true:=by unfold FineIs at h3;unfold plainL;rw [Array.length_toList];exact h3
  refine ⟨by simp,.inl ⟨_,_,rfl,run_takeDeferred ((KeepsOthers.setCell _ _ _).same D _ hK rfl),?_⟩⟩
  exact ⟨.bool true,by simp [results,Tryz.results75,go_sem,c2],by rw [hpl],below_put (h1.setCell (p:=⟨w.heap.size,0,none⟩) (Nat.le_refl _) _) hD' _⟩
 case stop =>
  rintro D c pre post W hx ⟨rfl,h1,h2,h3⟩ hK hD
  gi_wp2
  have hD' : w.heap.size≤D:=by simp at hD;omega
  have hne:w.heap.size≠D:=by simp at hD;omega
  have hb2:=bk_put h2 hne (.deferred none)
  have c2:=hb2.cell 0
  simp only [List.getElem?_toArray,List.getElem?_cons_zero] at c2
  have hpl:plainL s.data.toList=false:=by
   unfold FineIs at h3;unfold plainL;rw [Array.length_toList]
   have:s.data.size=s.size:=rfl
   rw [this,hx,List.all_append,h3];rfl
  refine ⟨by simp,.inl ⟨_,_,rfl,run_takeDeferred hK,?_⟩⟩
  exact ⟨.bool false,by simp [results,Tryz.results75,go_sem,c2],by rw [hpl],below_put h1 hD' _⟩
end Go.Proofs.YtpkodpcfafipdaaGreatDoor

namespace Go.Proofs.YtpkodpcfafipdaaGreatDoor
open Go.RowKit
def ML (w:World):Prop:=0 < w.heap.size∧∃ m,w.cell? ⟨0,0,none⟩=some (.int .i64 m)
theorem ML.then {w w' : World} (h:ML w) (hb:Below w.heap.size w w'):ML w':=by
 obtain ⟨h0,m,hm⟩:=h
 exact ⟨Nat.lt_of_lt_of_le h0 hb.size,m,(hb.cell (p:=⟨0,0,none⟩) h0).trans hm⟩
theorem ML.alloc {w:World} (h:ML w) (o:Obj):ML (w.alloc o):=h.then ((Below.refl _ _).alloc (Nat.le_refl _) _)
theorem ML.drewN {w:World} (h:ML w) (n:Nat):ML (w.drewN n):=h
theorem contains_c (s sub:ByteArray) (w:World) (hm:ML w) (hs:s.size≤1000000) :
  Calls Tryz.prog 129 #[.string s,.string sub] w fun e w'=>e=.returned (.bool (Lib.contains s.data.toList sub.data.toList))∧w=w':=by
 obtain ⟨_,m,h⟩:=hm
 exact (Tryz.strings_Contains s sub m w (by omega) h).mono fun e w' ⟨h1,h2⟩=>⟨h1,h2.symm⟩
def letterL (c:UInt8):Bool:=(97≤c.toNat && c.toNat≤122) || (48≤c.toNat && c.toNat≤57)
set_option maxHeartbeats 400000 in
theorem letter_c (c:UInt8) (w:World) :
  Calls Tryz.prog 128 #[.int .u8 c.toNat] w fun e w'=>e=.returned (.bool (letterL c))∧w=w':=by
 go_enter Tryz.func128,Tryz.ntmps128
 go_wp2
 all_goals (go_ret;refine ⟨ret_b ?_,rfl⟩)
 all_goals go_tidy
 all_goals grind [letterL]
set_option maxHeartbeats 400000 in
theorem refLetter_c (c:UInt8) (w:World) :
  Calls Tryz.prog 131 #[.int .u8 c.toNat] w fun e w'=>e=.returned (.bool (letterL c))∧w=w':=by
 go_enter Tryz.func131,Tryz.ntmps131
 go_wp2
 all_goals (go_ret;refine ⟨ret_b ?_,rfl⟩)
 all_goals go_tidy
 all_goals grind [letterL]
def hostOkC (c:UInt8):Bool:=letterL c || c.toNat == 46 || c.toNat == 45
def hostP (l:List UInt8):Bool:=!l.isEmpty && letterL (l.getD 0 0) && letterL (l.getD (l.length - 1) 0) && !Lib.contains l [46,46] && l.all hostOkC
theorem bl_getD (s:ByteArray) (i:Nat) (h:i < s.size):s.data.toList.getD i 0=s[i]:=by
 rw [← bl_get s i h]
 simp [List.getD,List.getElem?_eq_getElem (show i < s.data.toList.length by rw [bl_len];exact h)]
theorem isEmpty_bl (s:ByteArray):s.data.toList.isEmpty=s.toList.isEmpty:=by rw [ByteArray.toList_eq]
def AllTo (l:List UInt8) (k:Nat):Prop:=∀ j (hj:j < l.length),j < k→hostOkC l[j]=true
theorem AllTo.succ {l:List UInt8} {k:Nat} (h:AllTo l k) {c:UInt8} {hk:k < l.length} (hc:l[k]=c) (hok:hostOkC c=true):AllTo l (k + 1):=by
 intro j hj hlt
 rcases Nat.lt_or_ge j k with h1 | h1
 ·exact h j hj h1
 ·obtain rfl:j=k:=by omega
  rw [hc];exact hok
set_option maxRecDepth 100000 in
set_option maxHeartbeats 1000000 in
theorem host_c (s:ByteArray) (w:World) (hm:ML w) (hs:s.size≤1000000) :
  Calls Tryz.prog 121 #[.string s] w (Ret w (.bool (hostP s.data.toList))):=by
 by_cases he:s=ByteArray.empty
 ·subst he
  go_enter Tryz.func121,Tryz.ntmps121
  go_wp2
  go_ret
  exact ⟨rfl,bel_⟩
 have hpos:=pos_of_ne he
 have hem:=isEmpty_of_pos hpos
 obtain ⟨c0,hc0⟩ : ∃ c,s[0]=c:=⟨_,rfl⟩
 obtain ⟨c1,hc1⟩ : ∃ c,s[s.size - 1]=c:=⟨_,rfl⟩
 have hcon:=contains_c s ⟨#[46,46]⟩ w hm hs
 obtain ⟨b2,hb2⟩ : ∃ b,Lib.contains s.data.toList [46,46]=b:=⟨_,rfl⟩
 have hb2' : Lib.contains s.data.toList (⟨#[46,46]⟩ : ByteArray).data.toList=b2:=hb2
 rw [hb2'] at hcon
 have hspec:hostP s.data.toList=(letterL c0 && letterL c1 && !b2 && s.data.toList.all hostOkC):=by
  unfold hostP
  have e0:s.data.toList.getD 0 0=c0:=by rw [bl_getD s 0 hpos];exact hc0
  have e1:s.data.toList.getD (s.data.toList.length - 1) 0=c1:=by rw [bl_len,bl_getD s _ (by omega)];exact hc1
  rw [e0,e1,hb2,isEmpty_bl,hem];simp
 have HS:=Lib.hid hspec
 have HCON:=Lib.hid hcon
 have hidx:(s.size:Int) - 1=((s.size - 1:Nat):Int):=by omega
 clear hspec hcon hb2 hb2'
 have hlc:∀ k (hk:k < s.size),s.data.toList[k]'(by rw [bl_len];exact hk)=s[k]:=fun k hk=>bl_get s k hk
 have HLC:=Lib.hid hlc
 have HIX:=Lib.hid hidx
 clear hlc hidx
 cases g0:letterL c0 with
 | false =>
  rw [g0] at HS
  go_enter Tryz.func121,Tryz.ntmps121
  go_wp2_with (first | (go_at_call 128;(with_reducible refine (letter_c _ _).mono ?_);rintro e w' ⟨rfl,rfl⟩) | (go_at_call 129;exact HCON.out))
  go_ret
  exact ⟨by rw [HS.out];rfl,bel_⟩
 | true =>
  cases g1:letterL c1 with
  | false =>
   rw [g0,g1] at HS
   go_enter Tryz.func121,Tryz.ntmps121
   go_wp2_with (first | (go_at_call 128;(with_reducible refine (letter_c _ _).mono ?_);rintro e w' ⟨rfl,rfl⟩) | (go_at_call 129;exact HCON.out))
   go_ret
   exact ⟨by rw [HS.out];rfl,bel_⟩
  | true =>
   cases b2 with
   | true =>
    rw [g0,g1] at HS
    go_enter Tryz.func121,Tryz.ntmps121
    go_wp2_with (first | (go_at_call 128;(with_reducible refine (letter_c _ _).mono ?_);rintro e w' ⟨rfl,rfl⟩) | (go_at_call 129;(with_reducible refine (HCON.out).mono ?_);rintro e w' ⟨rfl,rfl⟩))
    go_ret
    exact ⟨by rw [HS.out];rfl,bel_⟩
   | false =>
    rw [g0,g1] at HS
    go_enter Tryz.func121,Tryz.ntmps121
    go_wp2_with (first | (go_at_call 128;(with_reducible refine (letter_c _ _).mono ?_);rintro e w' ⟨rfl,rfl⟩) | (go_at_call 129;(with_reducible refine (HCON.out).mono ?_);rintro e w' ⟨rfl,rfl⟩) | (refine conv_bytes (o:=⟨some 27,.convert 9 63 _,_,_,_,_⟩) rfl _ _ _ 5 rfl Tryz.underlying9 Tryz.underlying63 Tryz.underlying5 s rfl ?_;intro cap w2 hby hB hcap))
    go_loopw [4,29] (fun _ i wr=>∃ k:Nat,k≤s.size∧i=.int .i64 k∧Bys wr w.heap.size s.data.toList∧Below w.heap.size w wr∧AllTo s.data.toList k) (fun _ i _=>s.size - (intOf i).toNat)
    case atStart=>exact ⟨0,Nat.zero_le _,rfl,hby,hB,fun _ _ h=>absurd h (by omega)⟩
    case round =>
     obtain ⟨k,hk,rfl,hb,hBw,hall⟩:=hrel
     have HA:=Lib.hid hall
     clear hall
     by_cases hlt:k < s.size
     ·have hkl:k < s.data.toList.length:=by rw [bl_len];exact hlt
      obtain ⟨c0',f0⟩:=hb.2 k hkl
      obtain ⟨c,hc⟩ : ∃ c,s.data.toList[k]=c:=⟨_,rfl⟩
      rw [hc] at c0'
      have HC:=Lib.hid hc
      have HB:=Lib.hid hb
      clear hc hb hby
      cases gl:letterL c with
      | true =>
       have hok:hostOkC c=true:=by simp [hostOkC,gl]
       have HOK:=Lib.hid hok
       clear hok
       go_wp2_with (go_at_call 128;(with_reducible refine (letter_c _ _).mono ?_);rintro e w' ⟨rfl,rfl⟩)
       exact ⟨⟨k + 1,by omega,by go_num,HB.out,hBw,HA.out.succ HC.out HOK.out⟩,by simp [intOf];omega⟩
      | false =>
       by_cases h46:c.toNat=46
       ·have h46' : ((c.toNat:Int) != 46)=false:=by simp [h46]
        have hok:hostOkC c=true:=by simp [hostOkC,h46]
        have HOK:=Lib.hid hok
        clear hok h46
        go_wp2_with (go_at_call 128;(with_reducible refine (letter_c _ _).mono ?_);rintro e w' ⟨rfl,rfl⟩)
        exact ⟨⟨k + 1,by omega,by go_num,HB.out,hBw,HA.out.succ HC.out HOK.out⟩,by simp [intOf];omega⟩
       ·have h46' : ((c.toNat:Int) != 46)=true:=by simp;omega
        by_cases h45:c.toNat=45
        ·have h45' : ((c.toNat:Int) != 45)=false:=by simp [h45]
         have hok:hostOkC c=true:=by simp [hostOkC,h45]
         have HOK:=Lib.hid hok
         clear hok h45
         go_wp2_with (go_at_call 128;(with_reducible refine (letter_c _ _).mono ?_);rintro e w' ⟨rfl,rfl⟩)
         exact ⟨⟨k + 1,by omega,by go_num,HB.out,hBw,HA.out.succ HC.out HOK.out⟩,by simp [intOf];omega⟩
        ·have h45' : ((c.toNat:Int) != 45)=true:=by simp;omega
         have hok:hostOkC c=false:=by simp [hostOkC,gl,h46,h45]
         have hnall:s.data.toList.all hostOkC=false:=by
          rw [List.all_eq_false]
          exact ⟨_,List.getElem_mem hkl,by rw [HC.out,hok];simp⟩
         have HN:=Lib.hid hnall
         clear hnall hok
         go_wp2_with (go_at_call 128;(with_reducible refine (letter_c _ _).mono ?_);rintro e w' ⟨rfl,rfl⟩)
         go_ret
         exact ⟨by rw [HS.out,HN.out];rfl,hBw⟩
     ·have hall2:s.data.toList.all hostOkC=true:=by
       rw [List.all_eq_true]
       intro x hx
       obtain ⟨j,hj,rfl⟩:=List.getElem_of_mem hx
       exact HA.out j hj (by rw [bl_len] at hj;omega)
      have HN:=Lib.hid hall2
      clear hall2
      go_wp2
      go_ret
      exact ⟨by rw [HS.out,HN.out];rfl,hBw⟩
end Go.Proofs.YtpkodpcfafipdaaGreatDoor

namespace Go.Proofs.YtpkodpcfafipdaaGreatDoor
open Go.RowKit
def hostAt (l:List UInt8) (i:Nat):Bool :=
 (letterL (l.getD i 0) || (decide (0 < i) && !decide (i + 1=l.length) && ((l.getD i 0).toNat == 45 || (l.getD i 0).toNat == 46))) && !(decide (0 < i) && (l.getD i 0).toNat == 46 && (l.getD (i - 1) 0).toNat == 46)
theorem ibeq (a m:Nat) (n:Int) (h:n=(m:Int)):((a:Int) == n)=(a == m):=by subst h;rw [Bool.eq_iff_iff];simp;omega
theorem ibne (a m:Nat) (n:Int) (h:n=(m:Int)):((a:Int) != n)=!(a == m):=by unfold bne;rw [ibeq a m n h]
def HostTo (l:List UInt8) (k:Nat):Prop:=∀ j,j < k→hostAt l j=true
def hostR (l:List UInt8):Bool:=(List.range l.length).all (hostAt l)
theorem HostTo.succ {l:List UInt8} {k:Nat} (h:HostTo l k) (hok:hostAt l k=true):HostTo l (k + 1):=by
 intro j hlt
 rcases Nat.lt_or_ge j k with h1 | h1
 ·exact h j h1
 ·obtain rfl:j=k:=by omega
  exact hok
theorem hostR_true {l:List UInt8} (h:HostTo l l.length):hostR l=true:=by
 unfold hostR;rw [List.all_eq_true];intro x hx;exact h x (by simpa using hx)
theorem hostR_false {l:List UInt8} {k:Nat} (hk:k < l.length) (h:hostAt l k=false):hostR l=false:=by
 unfold hostR;rw [List.all_eq_false];exact ⟨k,by simpa using hk,by simp [h]⟩
set_option maxRecDepth 100000 in
set_option maxHeartbeats 1000000 in
theorem refHost_c (s : ByteArray) (w : World) (hs : s.size ≤ 1000000) :
    Calls Tryz.prog 125 #[.string s] w fun e w' => e = .returned (.bool (hostR s.data.toList)) ∧ w = w' := by
  go_enter Tryz.func125, Tryz.ntmps125
  go_wp2
  go_loop [3, 4] (fun i _ => ∃ k : Nat, k ≤ s.size ∧ i = .int .i64 k ∧ HostTo s.data.toList k) (fun i _ => s.size - (intOf i).toNat)
  case atStart => exact ⟨0, Nat.zero_le _, rfl, fun _ h => absurd h (by omega)⟩
  case round =>
    obtain ⟨k, hk, rfl, hh⟩ := hrel
    have HH := Lib.hid hh
    clear hh
    by_cases hlt : k < s.size
    · have hkl : k < s.data.toList.length := by rw [bl_len]; exact hlt
      obtain ⟨c, hc⟩ : ∃ c, s[k] = c := ⟨_, rfl⟩
      have hlen : s.data.toList.length = s.size := bl_len s
      have hg : s.data.toList.getD k 0 = c := by rw [bl_getD s k hlt]; exact hc
      by_cases hk0 : k = 0
      · have hk0' : ((k : Int) == 0) = true := by simp [hk0]
        have hk1 : ¬ 0 < k := by omega
        have hok : hostAt s.data.toList k = letterL c := by unfold hostAt; rw [hg, hlen]; simp [hk0]
        have HOK := Lib.hid hok
        have HL := Lib.hid hkl
        clear hok hg hk0 hlen
        cases gl : letterL c with
        | true =>
          go_wp2_with (go_at_call 131; (with_reducible refine (refLetter_c _ _).mono ?_); rintro e w' ⟨rfl, rfl⟩)
          exact ⟨⟨k + 1, by omega, by go_num, HH.out.succ (by rw [HOK.out]; assumption)⟩, by simp [intOf]; omega⟩
        | false =>
          go_wp2_with (go_at_call 131; (with_reducible refine (refLetter_c _ _).mono ?_); rintro e w' ⟨rfl, rfl⟩)
          go_ret
          exact ⟨by rw [hostR_false HL.out (by rw [HOK.out]; assumption)]; rfl, rfl⟩
      · have hk0' : ((k : Int) == 0) = false := by simp [hk0]
        have hk1 : 0 < k := by omega
        obtain ⟨p, hp⟩ : ∃ p, s[k - 1] = p := ⟨_, rfl⟩
        have hgp : s.data.toList.getD (k - 1) 0 = p := by rw [bl_getD s (k - 1) (by omega)]; exact hp
        obtain ⟨e, hed⟩ : ∃ e, decide (k + 1 = s.size) = e := ⟨_, rfl⟩
        have hed' : (((k : Int) + 1) == (s.size : Int)) = e := by rw [← hed, Bool.eq_iff_iff]; simp; omega
        obtain ⟨b46, h46⟩ : ∃ b, (c.toNat == 46) = b := ⟨_, rfl⟩
        obtain ⟨b45, h45⟩ : ∃ b, (c.toNat == 45) = b := ⟨_, rfl⟩
        obtain ⟨p46, hp46⟩ : ∃ b, (p.toNat == 46) = b := ⟨_, rfl⟩
        have h46e : ((c.toNat : Int) == 46) = b46 := by rw [← h46]; exact ibeq _ _ _ rfl
        have h46n : ((c.toNat : Int) != 46) = !b46 := by rw [← h46]; exact ibne _ _ _ rfl
        have h45n : ((c.toNat : Int) != 45) = !b45 := by rw [← h45]; exact ibne _ _ _ rfl
        have hp46e : ((p.toNat : Int) == 46) = p46 := by rw [← hp46]; exact ibeq _ _ _ rfl
        have hok : hostAt s.data.toList k = ((letterL c || (!e && (b45 || b46))) && !(b46 && p46)) := by unfold hostAt; rw [hg, hgp, hlen, h46, h45, hp46, hed]; simp [Nat.pos_of_ne_zero hk0]
        have HOK := Lib.hid hok
        have HL := Lib.hid hkl
        clear hok hg hgp h46 h45 hp46 hed
        go_wp2_with (go_at_call 131; (with_reducible refine (refLetter_c _ _).mono ?_); rintro e w' ⟨rfl, rfl⟩)
        all_goals go_tidy
        all_goals first
          | (refine ⟨⟨k + 1, by omega, by go_num, HH.out.succ ?_⟩, by simp [intOf]; omega⟩; rw [HOK.out]; simp [*]; done)
          | (have hf : hostAt s.data.toList k = false := by rw [HOK.out]; simp [*]
             go_ret; exact ⟨by rw [hostR_false HL.out hf]; rfl, rfl⟩)
    · have hkn : HostTo s.data.toList s.data.toList.length := by rw [bl_len, show s.size = k by omega]; exact HH.out
      have HN := Lib.hid hkn
      clear hkn
      go_wp2
      go_ret
      exact ⟨by rw [hostR_true HN.out]; rfl, rfl⟩
end Go.Proofs.YtpkodpcfafipdaaGreatDoor

namespace Go.Proofs.YtpkodpcfafipdaaGreatDoor
open Go.RowKit
def ba (l:List UInt8):ByteArray:=⟨l.toArray⟩
theorem ba_list (l:List UInt8):(ba l).data.toList=l:=by simp [ba]
theorem ba_size (l:List UInt8):(ba l).size=l.length:=by show l.toArray.size=_;simp
theorem ba_of (s:ByteArray):ba s.data.toList=s:=by simp [ba]
def by8 (n:Int):UInt8:=UInt8.ofNat n.toNat
theorem by8_eq {n:Int} (h0:0≤n) (h1:n < 256):((by8 n).toNat:Int)=n:=by
 unfold by8;simp;omega
def putL (c:Int):List UInt8 :=
 if charL c=false then [] else if c < 128 then [by8 c]
 else if c < 2048 then [by8 (192 + c / 64),by8 (128 + c % 64)]
 else if c < 65536 then [by8 (224 + c / 4096),by8 (128 + c / 64 % 64),by8 (128 + c % 64)]
 else [by8 (240 + c / 262144),by8 (128 + c / 4096 % 64),by8 (128 + c / 64 % 64),by8 (128 + c % 64)]
theorem bys_new (w:World) (t:TypeId) (vs:List Value) (l:List UInt8) (h:vs=l.map (fun b=>.int .u8 (b.toNat:Int))):Bys (w.alloc (.cells vs.toArray t)) w.heap.size l:=by
 have hb:=Bk.new w t vs.toArray
 refine ⟨by simp,fun j hj=>⟨?_,hb.frozen j⟩⟩
 rw [hb.cell j,h]
 simp [hj]
set_option maxHeartbeats 400000 in
theorem refChar_c (n:Int) (w:World) :
  Calls Tryz.prog 130 #[.int .i64 n] w fun e w'=>e=.returned (.bool (charL n))∧w=w':=by
 go_enter Tryz.func130,Tryz.ntmps130
 go_wp2
 all_goals (go_ret;refine ⟨ret_b ?_,rfl⟩)
 all_goals go_tidy
 all_goals grind [charL]
theorem charL_bd {c:Int} (h:charL c=true):0≤c∧c≤1114111:=by simp [charL] at h;omega
set_option maxRecDepth 10000000 in
set_option maxHeartbeats 1000000 in
theorem refPut_c (c:Int) (w:World) :
  Calls Tryz.prog 123 #[.int .i64 c] w (Ret w (.tuple #[.string (ba (putL c)),.int .i64 (if charL c=true then 0 else 8)])):=by
 cases hc:charL c with
 | false =>
  have hp:putL c=[]:=by simp [putL,hc]
  have HP:=Lib.hid hp
  clear hp
  go_enter Tryz.func123,Tryz.ntmps123
  go_wp2_with (go_at_call 130;(with_reducible refine (refChar_c _ _).mono ?_);rintro e w' ⟨rfl,rfl⟩)
  go_ret2
  exact ⟨by rw [HP.out];rfl,bel_⟩
 | true =>
  obtain ⟨h0,h1⟩:=charL_bd hc
  by_cases c1:c < 128
  ·have hp:putL c=[by8 c]:=by simp [putL,hc,c1]
   have HP:=Lib.hid hp
   have e1:=by8_eq h0 (show c < 256 by omega)
   have E1:=Lib.hid e1
   clear hp e1
   go_enter Tryz.func123,Tryz.ntmps123
   go_wp2_with (first | (go_at_call 130;(with_reducible refine (refChar_c _ _).mono ?_);rintro e w' ⟨rfl,rfl⟩) | (refine conv_str (o:=⟨some 14,.convert 63 9 _,_,_,_,_⟩) rfl _ _ _ 5 rfl Tryz.underlying63 Tryz.underlying5 Tryz.underlying9 [by8 c] _ _ _ rfl rfl (bys_new _ _ _ _ (by simp only [List.map_cons,List.map_nil,E1.out])) ?_))
   go_ret2
   exact ⟨by rw [HP.out];rfl,bel_⟩
  ·by_cases c2:c < 2048
   ·have hp:putL c=[by8 (192 + c / 64),by8 (128 + c % 64)]:=by simp [putL,hc,c1,c2]
    have HP:=Lib.hid hp
    have e1:=by8_eq (n:=192 + c / 64) (by omega) (by omega)
    have E1:=Lib.hid e1
    have e2:=by8_eq (n:=128 + c % 64) (by omega) (by omega)
    have E2:=Lib.hid e2
    clear hp e1 e2
    go_enter Tryz.func123,Tryz.ntmps123
    go_wp2_with (first | (go_at_call 130;(with_reducible refine (refChar_c _ _).mono ?_);rintro e w' ⟨rfl,rfl⟩) | (refine conv_str (o:=⟨some 27,.convert 63 9 _,_,_,_,_⟩) rfl _ _ _ 5 rfl Tryz.underlying63 Tryz.underlying5 Tryz.underlying9 [by8 (192 + c / 64),by8 (128 + c % 64)] _ _ _ rfl rfl (bys_new _ _ _ _ (by simp only [List.map_cons,List.map_nil,E1.out,E2.out])) ?_))
    go_ret2
    exact ⟨by rw [HP.out];rfl,bel_⟩
   ·by_cases c3:c < 65536
    ·have hp:putL c=[by8 (224 + c / 4096),by8 (128 + c / 64 % 64),by8 (128 + c % 64)]:=by simp [putL,hc,c1,c2,c3]
     have HP:=Lib.hid hp
     have e1:=by8_eq (n:=224 + c / 4096) (by omega) (by omega)
     have E1:=Lib.hid e1
     have e2:=by8_eq (n:=128 + c / 64 % 64) (by omega) (by omega)
     have E2:=Lib.hid e2
     have e3:=by8_eq (n:=128 + c % 64) (by omega) (by omega)
     have E3:=Lib.hid e3
     clear hp e1 e2 e3
     go_enter Tryz.func123,Tryz.ntmps123
     go_wp2_with (first | (go_at_call 130;(with_reducible refine (refChar_c _ _).mono ?_);rintro e w' ⟨rfl,rfl⟩) | (refine conv_str (o:=⟨some 45,.convert 63 9 _,_,_,_,_⟩) rfl _ _ _ 5 rfl Tryz.underlying63 Tryz.underlying5 Tryz.underlying9 [by8 (224 + c / 4096),by8 (128 + c / 64 % 64),by8 (128 + c % 64)] _ _ _ rfl rfl (bys_new _ _ _ _ (by simp only [List.map_cons,List.map_nil,E1.out,E2.out,E3.out])) ?_))
     go_ret2
     exact ⟨by rw [HP.out];rfl,bel_⟩
    ·have hp:putL c=[by8 (240 + c / 262144),by8 (128 + c / 4096 % 64),by8 (128 + c / 64 % 64),by8 (128 + c % 64)]:=by simp [putL,hc,c1,c2,c3]
     have HP:=Lib.hid hp
     have e1:=by8_eq (n:=240 + c / 262144) (by omega) (by omega)
     have E1:=Lib.hid e1
     have e2:=by8_eq (n:=128 + c / 4096 % 64) (by omega) (by omega)
     have E2:=Lib.hid e2
     have e3:=by8_eq (n:=128 + c / 64 % 64) (by omega) (by omega)
     have E3:=Lib.hid e3
     have e4:=by8_eq (n:=128 + c % 64) (by omega) (by omega)
     have E4:=Lib.hid e4
     clear hp e1 e2 e3 e4
     go_enter Tryz.func123,Tryz.ntmps123
     go_wp2_with (first | (go_at_call 130;(with_reducible refine (refChar_c _ _).mono ?_);rintro e w' ⟨rfl,rfl⟩) | (refine conv_str (o:=⟨some 65,.convert 63 9 _,_,_,_,_⟩) rfl _ _ _ 5 rfl Tryz.underlying63 Tryz.underlying5 Tryz.underlying9 [by8 (240 + c / 262144),by8 (128 + c / 4096 % 64),by8 (128 + c / 64 % 64),by8 (128 + c % 64)] _ _ _ rfl rfl (bys_new _ _ _ _ (by simp only [List.map_cons,List.map_nil,E1.out,E2.out,E3.out,E4.out])) ?_))
     go_ret2
     exact ⟨by rw [HP.out];rfl,bel_⟩
end Go.Proofs.YtpkodpcfafipdaaGreatDoor

namespace Go.Proofs.YtpkodpcfafipdaaGreatDoor
open Go.RowKit
def bv (l:List UInt8) (i:Nat):Int:=((l.getD i 0).toNat:Int)
def valL (l:List UInt8) (k:Nat):Int :=
 match k with
 | 1=>bv l 0
 | 2=>64 * (bv l 0 - 192) + bv l 1 - 128
 | 3=>4096 * (bv l 0 - 224) + 64 * (bv l 1 - 128) + bv l 2 - 128
 | _=>262144 * (bv l 0 - 240) + 4096 * (bv l 1 - 128) + 64 * (bv l 2 - 128) + bv l 3 - 128
def condN (l:List UInt8) (k:Nat):Bool:=charL (valL l k) && putL (valL l k) == l.take k
theorem by8_iff {n:Int} (h0:0≤n) (h1:n < 256) (b:UInt8):by8 n=b ↔ n=(b.toNat:Int):=by
 constructor
 ·rintro rfl;exact (by8_eq h0 h1).symm
 ·intro h;apply UInt8.toNat_inj.1;have:=by8_eq h0 h1;omega
theorem contL_iff (b:UInt8):contL b=true ↔ 128≤b.toNat∧b.toNat < 192:=by simp [contL]
theorem charL_iff (c:Int):charL c=true ↔ 0≤c∧c≤1114111∧(c < 55296∨57343 < c):=by simp [charL]
theorem putL_len (c:Int) (h:charL c=true):(putL c).length=if c < 128 then 1 else if c < 2048 then 2 else if c < 65536 then 3 else 4:=by
 unfold putL;rw [if_neg (by simp [h])];repeat' split
 all_goals first | rfl | omega
theorem tailL_ok (n c0 f:Nat) (r:List UInt8) (C:Nat) (h:n≤r.length) (ha:(r.take n).all contL=true) (hC:(r.take n).foldl (fun c b=>c * 64 + b.toNat % 64) c0=C) (hf:f≤C) (hch:charL C=true):tailL n c0 f r=((C:Int),n + 1):=by
 rw [tailL_eq n c0 f r C h ha hC,if_neg];simp [hch];omega
theorem cond_next (l:List UInt8) (k:Nat) (h1:1≤k) (h4:k≤4) (hk:k≤l.length) (h:condN l k=true):nextL l=(valL l k,k):=by
 simp only [condN,Bool.and_eq_true,beq_iff_eq] at h
 obtain ⟨hc,hp⟩:=h
 have hlen:=congrArg List.length hp
 rw [putL_len _ hc,List.length_take,Nat.min_eq_left hk] at hlen
 obtain ⟨hb0,hb1⟩:=charL_bd hc
 have hch:=(charL_iff _).1 hc
 rcases (show k=1∨k=2∨k=3∨k=4 by omega) with rfl | rfl | rfl | rfl
 ·cases l with
  | nil=>exact absurd hk (by decide)
  | cons b0 r =>
   have hv:valL (b0 :: r) 1=(b0.toNat:Int):=rfl
   rw [hv] at hlen ⊢
   have:b0.toNat < 128:=by
    split at hlen
    ·omega
    ·split at hlen
     ·omega
     ·split at hlen <;> omega
   simp only [nextL,if_pos this]
 ·match l,hk with
  | b0 :: b1 :: r,_ =>
   have hv:valL (b0 :: b1 :: r) 2=64 * ((b0.toNat:Int) - 192) + (b1.toNat:Int) - 128:=rfl
   obtain ⟨c,hcc⟩ : ∃ c,valL (b0 :: b1 :: r) 2=c:=⟨_,rfl⟩
   rw [hcc] at hc hp hlen hb0 hb1 hch hv ⊢
   have hr:128≤c∧c < 2048:=by split at hlen <;> (try omega);split at hlen <;> (try omega);split at hlen <;> omega
   have hpe:putL c=[by8 (192 + c / 64),by8 (128 + c % 64)]:=by simp only [putL];rw [if_neg (by simp [hc]),if_neg (by omega),if_pos (by omega)]
   rw [hpe] at hp
   simp only [List.take_succ_cons,List.take_zero,List.cons.injEq,and_true] at hp
   have e0:=(by8_iff (by omega) (by omega) _).1 hp.1
   have e1:=(by8_iff (by omega) (by omega) _).1 hp.2
   have q0:¬ b0.toNat < 128:=by omega
   have q1:192≤b0.toNat∧b0.toNat < 224:=by omega
   simp only [nextL,if_neg q0,if_pos q1]
   have hC:c=((b0.toNat % 32 * 64 + b1.toNat % 64:Nat):Int):=by omega
   rw [tailL_ok 1 _ 128 _ (b0.toNat % 32 * 64 + b1.toNat % 64) (by simp) (by simp [contL];omega) (by simp) (by omega) (by rw [← hC];exact hc),hC]
 ·match l,hk with
  | b0 :: b1 :: b2 :: r,_ =>
   have hv:valL (b0 :: b1 :: b2 :: r) 3=4096 * ((b0.toNat:Int) - 224) + 64 * ((b1.toNat:Int) - 128) + (b2.toNat:Int) - 128:=rfl
   obtain ⟨c,hcc⟩ : ∃ c,valL (b0 :: b1 :: b2 :: r) 3=c:=⟨_,rfl⟩
   rw [hcc] at hc hp hlen hb0 hb1 hch hv ⊢
   have hr:2048≤c∧c < 65536:=by split at hlen <;> (try omega);split at hlen <;> (try omega);split at hlen <;> omega
   have hpe:putL c=[by8 (224 + c / 4096),by8 (128 + c / 64 % 64),by8 (128 + c % 64)]:=by simp only [putL];rw [if_neg (by simp [hc]),if_neg (by omega),if_neg (by omega),if_pos (by omega)]
   rw [hpe] at hp
   simp only [List.take_succ_cons,List.take_zero,List.cons.injEq,and_true] at hp
   have e0:=(by8_iff (by omega) (by omega) _).1 hp.1
   have e1:=(by8_iff (by omega) (by omega) _).1 hp.2.1
   have e2:=(by8_iff (by omega) (by omega) _).1 hp.2.2
   have q0:¬ b0.toNat < 128:=by omega
   have q1:¬ (192≤b0.toNat∧b0.toNat < 224):=by omega
   have q2:224≤b0.toNat∧b0.toNat < 240:=by omega
   simp only [nextL,if_neg q0,if_neg q1,if_pos q2]
   have hC:c=(((b0.toNat % 16 * 64 + b1.toNat % 64) * 64 + b2.toNat % 64:Nat):Int):=by omega
   rw [tailL_ok 2 _ 2048 _ ((b0.toNat % 16 * 64 + b1.toNat % 64) * 64 + b2.toNat % 64) (by simp) (by simp [contL];omega) (by simp) (by omega) (by rw [← hC];exact hc),hC]
 ·match l,hk with
  | b0 :: b1 :: b2 :: b3 :: r,_ =>
   have hv:valL (b0 :: b1 :: b2 :: b3 :: r) 4=262144 * ((b0.toNat:Int) - 240) + 4096 * ((b1.toNat:Int) - 128) + 64 * ((b2.toNat:Int) - 128) + (b3.toNat:Int) - 128:=rfl
   obtain ⟨c,hcc⟩ : ∃ c,valL (b0 :: b1 :: b2 :: b3 :: r) 4=c:=⟨_,rfl⟩
   rw [hcc] at hc hp hlen hb0 hb1 hch hv ⊢
   have hr:65536≤c:=by split at hlen <;> (try omega);split at hlen <;> (try omega);split at hlen <;> omega
   have hpe:putL c=[by8 (240 + c / 262144),by8 (128 + c / 4096 % 64),by8 (128 + c / 64 % 64),by8 (128 + c % 64)]:=by simp only [putL];rw [if_neg (by simp [hc]),if_neg (by omega),if_neg (by omega),if_neg (by omega)]
   rw [hpe] at hp
   simp only [List.take_succ_cons,List.take_zero,List.cons.injEq,and_true] at hp
   have e0:=(by8_iff (by omega) (by omega) _).1 hp.1
   have e1:=(by8_iff (by omega) (by omega) _).1 hp.2.1
   have e2:=(by8_iff (by omega) (by omega) _).1 hp.2.2.1
   have e3:=(by8_iff (by omega) (by omega) _).1 hp.2.2.2
   have q0:¬ b0.toNat < 128:=by omega
   have q1:¬ (192≤b0.toNat∧b0.toNat < 224):=by omega
   have q2:¬ (224≤b0.toNat∧b0.toNat < 240):=by omega
   have q3:240≤b0.toNat∧b0.toNat < 248:=by omega
   simp only [nextL,if_neg q0,if_neg q1,if_neg q2,if_pos q3]
   have hC:c=((((b0.toNat % 8 * 64 + b1.toNat % 64) * 64 + b2.toNat % 64) * 64 + b3.toNat % 64:Nat):Int):=by omega
   rw [tailL_ok 3 _ 65536 _ (((b0.toNat % 8 * 64 + b1.toNat % 64) * 64 + b2.toNat % 64) * 64 + b3.toNat % 64) (by simp) (by simp [contL];omega) (by simp) (by omega) (by rw [← hC];exact hc),hC]
theorem next_cond (l:List UInt8) (h0:128≤(l.getD 0 0).toNat) (hne:l≠[]) :
  nextL l=(-1,1)∨∃ k,1≤k∧k≤4∧k≤l.length∧condN l k=true:=by
 cases l with
 | nil=>exact absurd rfl hne
 | cons b0 r =>
  have hb:128≤b0.toNat:=h0
  have q0:¬ b0.toNat < 128:=by omega
  have B0:=u8_lt b0
  by_cases q1:192≤b0.toNat∧b0.toNat < 224
  ·have e:nextL (b0 :: r)=tailL 1 (b0.toNat % 32) 128 r:=by simp only [nextL,if_neg q0,if_pos q1]
   rw [e]
   match r with
   | []=>exact .inl rfl
   | b1 :: r =>
    by_cases c1:contL b1=true
    ·rw [tailL_eq 1 _ 128 _ (b0.toNat % 32 * 64 + b1.toNat % 64) (by simp) (by simp [c1]) (by simp)]
     split
     ·exact .inl rfl
     ·rename_i hno
      refine .inr ⟨2,by omega,by omega,by simp,?_⟩
      have hc1:=(contL_iff _).1 c1
      obtain ⟨C,hC⟩ : ∃ C:Int,C=((b0.toNat % 32 * 64 + b1.toNat % 64:Nat):Int):=⟨_,rfl⟩
      rw [← hC] at hno
      have hv:valL (b0 :: b1 :: r) 2=C:=by show 64 * ((b0.toNat:Int) - 192) + (b1.toNat:Int) - 128=C;omega
      have hch:charL C=true:=by cases h:charL C with | true=>rfl | false=>exact absurd (.inr h) hno
      have hC128:128≤C:=by rcases Int.lt_or_le C 128 with h | h;exact absurd (.inl h) hno;exact h
      have hpe:putL C=[by8 (192 + C / 64),by8 (128 + C % 64)]:=by simp only [putL];rw [if_neg (by simp [hch]),if_neg (by omega),if_pos (by omega)]
      simp only [condN,hv,hch,hpe,Bool.true_and,beq_iff_eq,List.take_succ_cons,List.take_zero,List.cons.injEq,and_true]
      exact ⟨(by8_iff (by omega) (by omega) _).2 (by omega),(by8_iff (by omega) (by omega) _).2 (by omega)⟩
    ·left
     unfold tailL;rw [if_neg (by simp),if_pos (by simp [c1])]
  by_cases q2:224≤b0.toNat∧b0.toNat < 240
  ·have e:nextL (b0 :: r)=tailL 2 (b0.toNat % 16) 2048 r:=by simp only [nextL,if_neg q0,if_neg q1,if_pos q2]
   rw [e]
   match r with
   | []=>exact .inl rfl
   | [x]=>exact .inl rfl
   | b1 :: b2 :: r =>
    by_cases c1:contL b1=true∧contL b2=true
    ·rw [tailL_eq 2 _ 2048 _ ((b0.toNat % 16 * 64 + b1.toNat % 64) * 64 + b2.toNat % 64) (by simp) (by simp [c1]) (by simp)]
     split
     ·exact .inl rfl
     ·rename_i hno
      refine .inr ⟨3,by omega,by omega,by simp,?_⟩
      have hc1:=(contL_iff _).1 c1.1
      have hc2:=(contL_iff _).1 c1.2
      obtain ⟨C,hC⟩ : ∃ C:Int,C=(((b0.toNat % 16 * 64 + b1.toNat % 64) * 64 + b2.toNat % 64:Nat):Int):=⟨_,rfl⟩
      rw [← hC] at hno
      have hv:valL (b0 :: b1 :: b2 :: r) 3=C:=by show 4096 * ((b0.toNat:Int) - 224) + 64 * ((b1.toNat:Int) - 128) + (b2.toNat:Int) - 128=C;omega
      have hch:charL C=true:=by cases h:charL C with | true=>rfl | false=>exact absurd (.inr h) hno
      have hC128:2048≤C:=by rcases Int.lt_or_le C 2048 with h | h;exact absurd (.inl h) hno;exact h
      have hpe:putL C=[by8 (224 + C / 4096),by8 (128 + C / 64 % 64),by8 (128 + C % 64)]:=by simp only [putL];rw [if_neg (by simp [hch]),if_neg (by omega),if_neg (by omega),if_pos (by omega)]
      simp only [condN,hv,hch,hpe,Bool.true_and,beq_iff_eq,List.take_succ_cons,List.take_zero,List.cons.injEq,and_true]
      exact ⟨(by8_iff (by omega) (by omega) _).2 (by omega),(by8_iff (by omega) (by omega) _).2 (by omega),(by8_iff (by omega) (by omega) _).2 (by omega)⟩
    ·left
     unfold tailL;rw [if_neg (by simp),if_pos (by
      have:(b1 :: b2 :: r).take 2=[b1,b2]:=rfl
      rw [this];simp only [List.all_cons,List.all_nil,Bool.and_true]
      cases h1:contL b1 <;> cases h2:contL b2 <;> simp_all)]
  by_cases q3:240≤b0.toNat∧b0.toNat < 248
  ·have e:nextL (b0 :: r)=tailL 3 (b0.toNat % 8) 65536 r:=by simp only [nextL,if_neg q0,if_neg q1,if_neg q2,if_pos q3]
   rw [e]
   match r with
   | []=>exact .inl rfl
   | [x]=>exact .inl rfl
   | [x,y]=>exact .inl rfl
   | b1 :: b2 :: b3 :: r =>
    by_cases c1:contL b1=true∧contL b2=true∧contL b3=true
    ·rw [tailL_eq 3 _ 65536 _ (((b0.toNat % 8 * 64 + b1.toNat % 64) * 64 + b2.toNat % 64) * 64 + b3.toNat % 64) (by simp) (by simp [c1]) (by simp)]
     split
     ·exact .inl rfl
     ·rename_i hno
      refine .inr ⟨4,by omega,by omega,by simp,?_⟩
      have hc1:=(contL_iff _).1 c1.1
      have hc2:=(contL_iff _).1 c1.2.1
      have hc3:=(contL_iff _).1 c1.2.2
      obtain ⟨C,hC⟩ : ∃ C:Int,C=((((b0.toNat % 8 * 64 + b1.toNat % 64) * 64 + b2.toNat % 64) * 64 + b3.toNat % 64:Nat):Int):=⟨_,rfl⟩
      rw [← hC] at hno
      have hv:valL (b0 :: b1 :: b2 :: b3 :: r) 4=C:=by show 262144 * ((b0.toNat:Int) - 240) + 4096 * ((b1.toNat:Int) - 128) + 64 * ((b2.toNat:Int) - 128) + (b3.toNat:Int) - 128=C;omega
      have hch:charL C=true:=by cases h:charL C with | true=>rfl | false=>exact absurd (.inr h) hno
      have hC128:65536≤C:=by rcases Int.lt_or_le C 65536 with h | h;exact absurd (.inl h) hno;exact h
      have hbd:=charL_bd hch
      have hpe:putL C=[by8 (240 + C / 262144),by8 (128 + C / 4096 % 64),by8 (128 + C / 64 % 64),by8 (128 + C % 64)]:=by simp only [putL];rw [if_neg (by simp [hch]),if_neg (by omega),if_neg (by omega),if_neg (by omega)]
      simp only [condN,hv,hch,hpe,Bool.true_and,beq_iff_eq,List.take_succ_cons,List.take_zero,List.cons.injEq,and_true]
      exact ⟨(by8_iff (by omega) (by omega) _).2 (by omega),(by8_iff (by omega) (by omega) _).2 (by omega),(by8_iff (by omega) (by omega) _).2 (by omega),(by8_iff (by omega) (by omega) _).2 (by omega)⟩
    ·left
     unfold tailL;rw [if_neg (by simp),if_pos (by
      have:(b1 :: b2 :: b3 :: r).take 3=[b1,b2,b3]:=rfl
      rw [this];simp only [List.all_cons,List.all_nil,Bool.and_true]
      cases h1:contL b1 <;> cases h2:contL b2 <;> cases h3:contL b3 <;> simp_all)]
  left
  simp only [nextL,if_neg q0,if_neg q1,if_neg q2,if_neg q3]
end Go.Proofs.YtpkodpcfafipdaaGreatDoor

namespace Go.Proofs.YtpkodpcfafipdaaGreatDoor
open Go.RowKit
theorem bv_at (s:ByteArray) (i:Nat) (h:i < s.size) (b:UInt8) (hb:s[i]=b):bv s.data.toList i=(b.toNat:Int):=by
 unfold bv;rw [bl_getD s i h,hb]
set_option maxRecDepth 100000 in
set_option maxHeartbeats 400000 in
theorem refValue_c (s:ByteArray) (n:Nat) (w:World) (h1:1≤n) (h4:n≤4) (hn:n≤s.size) :
  Calls Tryz.prog 122 #[.string s,.int .i64 n] w fun e w'=>e=.returned (.int .i64 (valL s.data.toList n))∧∃ k,w'=w.drewN k:=by
 have h0:0 < s.size:=by omega
 obtain ⟨b0,hb0⟩ : ∃ b,s[0]=b:=⟨_,rfl⟩
 have B0:=u8_lt b0
 have e0:=bv_at s 0 h0 b0 hb0
 rcases (show n=1∨n=2∨n=3∨n=4 by omega) with rfl | rfl | rfl | rfl
 ·have hv:valL s.data.toList 1=(b0.toNat:Int):=e0
  have HV:=Lib.hid hv
  clear hv e0
  go_enter Tryz.func122,Tryz.ntmps122
  go_wp2
  go_ret
  exact ⟨by rw [HV.out];rfl,0,rfl⟩
 ·have h1' : 1 < s.size:=by omega
  obtain ⟨b1,hb1⟩ : ∃ b,s[1]=b:=⟨_,rfl⟩
  have B1:=u8_lt b1
  have e1:=bv_at s 1 h1' b1 hb1
  have hv:valL s.data.toList 2=64 * ((b0.toNat:Int) - 192) + (b1.toNat:Int) - 128:=by simp only [valL,e0,e1]
  have HV:=Lib.hid hv
  clear hv e0 e1
  go_enter Tryz.func122,Tryz.ntmps122
  go_wp2
  go_quiet (fail)
  go_wp2
  go_ret
  exact ⟨by rw [HV.out];rfl,_,rfl⟩
 ·have h1' : 1 < s.size:=by omega
  have h2' : 2 < s.size:=by omega
  obtain ⟨b1,hb1⟩ : ∃ b,s[1]=b:=⟨_,rfl⟩
  obtain ⟨b2,hb2⟩ : ∃ b,s[2]=b:=⟨_,rfl⟩
  have B1:=u8_lt b1
  have B2:=u8_lt b2
  have e1:=bv_at s 1 h1' b1 hb1
  have e2:=bv_at s 2 h2' b2 hb2
  have hv:valL s.data.toList 3=4096 * ((b0.toNat:Int) - 224) + 64 * ((b1.toNat:Int) - 128) + (b2.toNat:Int) - 128:=by simp only [valL,e0,e1,e2]
  have HV:=Lib.hid hv
  clear hv e0 e1 e2
  go_enter Tryz.func122,Tryz.ntmps122
  go_wp2
  go_quiet (fail)
  go_wp2
  go_ret
  exact ⟨by rw [HV.out];rfl,_,rfl⟩
 ·have h1' : 1 < s.size:=by omega
  have h2' : 2 < s.size:=by omega
  have h3' : 3 < s.size:=by omega
  obtain ⟨b1,hb1⟩ : ∃ b,s[1]=b:=⟨_,rfl⟩
  obtain ⟨b2,hb2⟩ : ∃ b,s[2]=b:=⟨_,rfl⟩
  obtain ⟨b3,hb3⟩ : ∃ b,s[3]=b:=⟨_,rfl⟩
  have B1:=u8_lt b1
  have B2:=u8_lt b2
  have B3:=u8_lt b3
  have e1:=bv_at s 1 h1' b1 hb1
  have e2:=bv_at s 2 h2' b2 hb2
  have e3:=bv_at s 3 h3' b3 hb3
  have hv:valL s.data.toList 4=262144 * ((b0.toNat:Int) - 240) + 4096 * ((b1.toNat:Int) - 128) + 64 * ((b2.toNat:Int) - 128) + (b3.toNat:Int) - 128:=by simp only [valL,e0,e1,e2,e3]
  have HV:=Lib.hid hv
  clear hv e0 e1 e2 e3
  go_enter Tryz.func122,Tryz.ntmps122
  go_wp2
  go_quiet (fail)
  go_wp2
  go_ret
  exact ⟨by rw [HV.out];rfl,_,rfl⟩
end Go.Proofs.YtpkodpcfafipdaaGreatDoor

namespace Go.Proofs.YtpkodpcfafipdaaGreatDoor
open Go.RowKit
def NoC (l:List UInt8) (k:Nat):Prop:=∀ m,1≤m→m < k→condN l m=false
theorem NoC.succ {l:List UInt8} {k:Nat} (h:NoC l k) (hk:condN l k=false):NoC l (k + 1):=by
 intro m h1 h2
 rcases Nat.lt_or_ge m k with h3 | h3
 ·exact h m h1 h3
 ·obtain rfl:m=k:=by omega
  exact hk
theorem NoC.none {l:List UInt8} {k:Nat} (h:NoC l k) (h0:128≤(l.getD 0 0).toNat) (hne:l≠[]) (hk:4 < k∨l.length < k):nextL l=(-1,1):=by
 rcases next_cond l h0 hne with h1 | ⟨m,h1,h2,h3,h4⟩
 ·exact h1
 ·rw [h m h1 (by omega)] at h4;cases h4
theorem nextLow (s:ByteArray) (h:0 < s.size) (b:UInt8) (hb:s[0]=b) (hlt:b.toNat < 128):nextL s.data.toList=((b.toNat:Int),1):=by
 have h1:=bl_getD s 0 h
 rw [hb] at h1
 cases hl:s.data.toList with
 | nil=>have:=bl_len s;rw [hl] at this;simp at this;omega
 | cons x r =>
  rw [hl] at h1
  have:x=b:=h1
  subst this
  simp only [nextL,if_pos hlt]
set_option maxRecDepth 100000 in
set_option maxHeartbeats 1000000 in
theorem refNext_c (s:ByteArray) (w:World) (hs:s.size≤1000000) :
  Calls Tryz.prog 114 #[.string s] w (Ret w (.tuple #[.int .i64 (nextL s.data.toList).1,.int .i64 ((nextL s.data.toList).2:Nat)])):=by
 by_cases he:s=ByteArray.empty
 ·subst he
  go_enter Tryz.func114,Tryz.ntmps114
  go_wp2
  go_loopw [4,5,6,7] (fun n _ _ _ wr=>n=.int .i64 1∧Below w.heap.size w wr) (fun _ _ _ _ _=>0)
  case atStart=>exact ⟨rfl,Below.refl _ _⟩
  case round =>
   obtain ⟨rfl,hB⟩:=hrel
   go_wp2
   go_ret2
   exact ⟨rfl,hB⟩
 have hpos:=pos_of_ne he
 obtain ⟨b0,hb0⟩ : ∃ b,s[0]=b:=⟨_,rfl⟩
 by_cases hlo:b0.toNat < 128
 ·have hn:=nextLow s hpos b0 hb0 hlo
  have HN:=Lib.hid hn
  have B0:=u8_lt b0
  clear hn
  go_enter Tryz.func114,Tryz.ntmps114
  go_wp2
  go_ret2
  exact ⟨by rw [HN.out];rfl,bel_⟩
 ·have hg:128≤(s.data.toList.getD 0 0).toNat:=by rw [bl_getD s 0 hpos,hb0];omega
  have hne:s.data.toList≠[]:=by intro h;have:=bl_len s;rw [h] at this;simp at this;omega
  have HG:=Lib.hid hg
  have HNE:=Lib.hid hne
  clear hg hne
  go_enter Tryz.func114,Tryz.ntmps114
  go_wp2
  go_loopw [4,5,6,7] (fun n _ _ _ wr=>∃ k:Nat,1≤k∧k≤5∧k≤s.size + 1∧n=.int .i64 k∧NoC s.data.toList k∧Below w.heap.size w wr) (fun n _ _ _ _=>6 - (intOf n).toNat)
  case atStart=>exact ⟨1,by omega,by omega,by omega,rfl,fun m h1 h2=>absurd h1 (by omega),Below.refl _ _⟩
  case round =>
   obtain ⟨k,h1,h5,hk,rfl,hno,hB⟩:=hrel
   have HNO:=Lib.hid hno
   clear hno
   by_cases hlt:k≤4∧k≤s.size
   ·obtain ⟨h4,hks⟩:=hlt
    obtain ⟨C,hC⟩ : ∃ C,valL s.data.toList k=C:=⟨_,rfl⟩
    have hcond:condN s.data.toList k=(charL C && (putL C == s.data.toList.take k)):=by unfold condN;rw [hC]
    obtain ⟨q,hq⟩ : ∃ q,(putL C == s.data.toList.take k)=q:=⟨_,rfl⟩
    have hq' : ((ba (putL C)).toList == (s.extract 0 k).toList)=q:=by rw [ByteArray.toList_eq,ByteArray.toList_eq,ba_list,ext_take];exact hq
    rw [hq] at hcond
    have HC:=Lib.hid hC
    have HCOND:=Lib.hid hcond
    clear hC hcond hq
    cases hch:charL C with
    | false =>
     rw [hch] at HCOND
     go_wp2_with (first | (go_at_call 122;(with_reducible refine (refValue_c s k _ h1 h4 hks).mono ?_);rw [HC.out];rintro e w1 ⟨rfl,j1,rfl⟩) | (go_at_call 123;(with_reducible refine (refPut_c C _).mono ?_);rw [hch];rintro e w2 ⟨rfl,hb2⟩))
     exact ⟨⟨k + 1,by omega,by omega,by omega,by go_num,HNO.out.succ HCOND.out,below_then (below_drewN hB _) hb2⟩,by simp [intOf];omega⟩
    | true =>
     rw [hch] at HCOND
     cases q with
     | false =>
      go_wp2_with (first | (go_at_call 122;(with_reducible refine (refValue_c s k _ h1 h4 hks).mono ?_);rw [HC.out];rintro e w1 ⟨rfl,j1,rfl⟩) | (go_at_call 123;(with_reducible refine (refPut_c C _).mono ?_);rw [hch];rintro e w2 ⟨rfl,hb2⟩))
      exact ⟨⟨k + 1,by omega,by omega,by omega,by go_num,HNO.out.succ HCOND.out,below_then (below_drewN hB _) hb2⟩,by simp [intOf];omega⟩
     | true =>
      go_wp2_with (first | (go_at_call 122;(with_reducible refine (refValue_c s k _ h1 h4 hks).mono ?_);rw [HC.out];rintro e w1 ⟨rfl,j1,rfl⟩) | (go_at_call 123;(with_reducible refine (refPut_c C _).mono ?_);rw [hch];rintro e w2 ⟨rfl,hb2⟩))
      go_ret2
      refine ⟨?_,below_then (below_drewN hB _) hb2⟩
      rw [cond_next s.data.toList k h1 h4 (by rw [bl_len];exact hks) HCOND.out,HC.out]
      rfl
   ·have hn:=HNO.out.none HG.out HNE.out (by rw [bl_len];omega)
    have HN:=Lib.hid hn
    clear hn
    have hk4:¬ k≤4∨¬ k≤s.size:=by omega
    by_cases h4:k≤4
    ·have hks:¬ k≤s.size:=by omega
     clear hlt hk4
     go_wp2
     go_ret2
     refine ⟨?_,hB⟩
     have hm:min (1:Int) (s.size:Int)=1:=by omega
     rw [HN.out]
     simp [hm]
    ·clear hlt hk4
     go_wp2
     go_ret2
     refine ⟨?_,hB⟩
     have hm:min (1:Int) (s.size:Int)=1:=by omega
     rw [HN.out]
     simp [hm]
end Go.Proofs.YtpkodpcfafipdaaGreatDoor

namespace Go.Proofs.YtpkodpcfafipdaaGreatDoor
open Go.RowKit
theorem Tryz.infoInt:(Tryz.prog.info? 3).map (fun i=>(i.zero,i.size,i.bytes))=some (some (.int .i64 0),1,8):=by kernel_rfl
def okC (x:Int × Nat):Bool:=decide (0≤x.1)
def okL (l:List UInt8):Bool:=(allL l.length l).all okC
def OkFrom (l:List UInt8) (a:Nat):Prop:=∃ m,(l.drop a).length≤m∧okL l=(allL m (l.drop a)).all okC
theorem OkFrom.start (l:List UInt8):OkFrom l 0:=⟨l.length,by simp,by simp [okL]⟩
theorem allL_step (l:List UInt8) (m:Nat) (h:l≠[]) (hm:l.length≤m):∃ m',m=m' + 1∧allL m l=nextL l :: allL m' (l.drop (nextL l).2)∧(l.drop (nextL l).2).length≤m'∧1≤(nextL l).2∧(nextL l).2≤l.length:=by
 cases l with
 | nil=>exact absurd rfl h
 | cons b r =>
  have hp:=nextL_pos b r
  obtain ⟨m',rfl⟩ : ∃ m',m=m' + 1:=⟨m - 1,by simp at hm;omega⟩
  refine ⟨m',rfl,rfl,?_,hp.1,by simpa using hp.2⟩
  rw [List.length_drop]
  simp at hm ⊢
  omega
theorem OkFrom.next {l:List UInt8} {a:Nat} (h:OkFrom l a) (ha:a < l.length) (hok:okC (nextL (l.drop a))=true):OkFrom l (a + (nextL (l.drop a)).2):=by
 obtain ⟨m,h1,h2⟩:=h
 obtain ⟨m',rfl,e,h3,_,_⟩:=allL_step (l.drop a) m (by intro e;have:=congrArg List.length e;simp at this;omega) h1
 refine ⟨m',by rw [← List.drop_drop];exact h3,?_⟩
 rw [h2,e,List.all_cons,hok,Bool.true_and,← List.drop_drop]
theorem OkFrom.bad {l:List UInt8} {a:Nat} (h:OkFrom l a) (ha:a < l.length) (hok:okC (nextL (l.drop a))=false):okL l=false:=by
 obtain ⟨m,h1,h2⟩:=h
 obtain ⟨m',rfl,e,h3,_,_⟩:=allL_step (l.drop a) m (by intro e;have:=congrArg List.length e;simp at this;omega) h1
 rw [h2,e,List.all_cons,hok,Bool.false_and]
theorem OkFrom.done {l:List UInt8} {a:Nat} (h:OkFrom l a) (ha:l.length≤a):okL l=true:=by
 obtain ⟨m,h1,h2⟩:=h
 rw [h2,List.drop_of_length_le ha]
 cases m <;> rfl
def AllPost (w:World) (b:Bool) (e:Ending) (w' : World):Prop:=∃ v,e=.returned (.tuple #[v,.int .i64 (if b=true then 0 else 11)])∧Below w.heap.size w w'
set_option maxRecDepth 100000 in
set_option maxHeartbeats 1000000 in
theorem refAll_c (s:ByteArray) (w:World) (hs:s.size≤100000) :
  Calls Tryz.prog 105 #[.string s] w (AllPost w (okL s.data.toList)):=by
 obtain ⟨i0,hi,hz0,hz1,hz2⟩:=info_parts Tryz.infoInt
 go_enter Tryz.func105,Tryz.ntmps105
 go_wp2
 go_loopw [4,5,6,7] (fun v a _ _ wr=>∃ k j:Nat,k≤s.size∧j≤k∧a=.int .i64 k∧(∃ A' c' xs,v=.slice A' j c'∧wr.ownsRow w.heap.size 3 1 v j xs)∧OkFrom s.data.toList k∧Below w.heap.size w wr) (fun _ a _ _ _=>s.size - (intOf a).toNat)
 case atStart=>exact ⟨0,0,Nat.zero_le _,Nat.zero_le _,rfl,⟨none,0,[],rfl,World.ownsRow_nil _ _ _ _⟩,OkFrom.start _,Below.refl _ _⟩
 case round =>
  obtain ⟨k,j,hk,hj,rfl,⟨A',c',xs,rfl,hown⟩,hok,hB⟩:=hrel
  have HOK:=Lib.hid hok
  clear hok
  by_cases hlt:k < s.size
  ·obtain ⟨c,n,hcn⟩ : ∃ c n,nextL (s.data.toList.drop k)=(c,n):=⟨_,_,rfl⟩
   have hne:s.data.toList.drop k≠[]:=by intro e;have:=congrArg List.length e;rw [List.length_drop,bl_len] at this;simp at this;omega
   obtain ⟨_,_,_,_,hn1,hn2⟩:=allL_step _ _ hne (Nat.le_refl _)
   rw [hcn,List.length_drop,bl_len] at hn2
   rw [hcn] at hn1
   dsimp only at hn1 hn2
   have hnc:∀ W,Calls Tryz.prog 114 #[.string (s.extract k s.size)] W (Ret W (.tuple #[.int .i64 c,.int .i64 n])):=by
    intro W
    have:=refNext_c (s.extract k s.size) W (by simp;omega)
    rw [ext_drop,hcn] at this
    exact this
   have HN:=Lib.hid hnc
   have HCN:=Lib.hid hcn
   have HO:=Lib.hid hown
   clear hnc hcn hne
   cases hc:decide (c < 0) with
   | true =>
    have hc' : c < 0:=of_decide_eq_true hc
    go_wp2_with (go_at_call 114;(with_reducible refine (HN.out _).mono ?_);rintro e w1 ⟨rfl,hb1⟩)
    go_ret2
    exact ⟨_,by rw [HOK.out.bad (by rw [bl_len];exact hlt) (by rw [HCN.out];simp [okC];omega)];rfl,below_then hB hb1⟩
   | false =>
    have hc' : ¬ c < 0:=of_decide_eq_false hc
    have hsz:=HO.out
    have hmax:max (n:Int) 1=(n:Int):=by omega
    go_wp2_with (first | (go_at_call 114;(with_reducible refine (HN.out _).mono ?_);rintro e w1 ⟨rfl,hb1⟩) | (at_builtin;refine append_new (w:=w1) rfl _ _ 150 rfl w.heap.size 3 i0 _ 1 8 Tryz.underlying150 hi hz0 hz1 hz2 rfl (by decide) _ j xs rfl (own_below HO.out hb1) _ rfl rfl (by intro u hu;simp at hu;subst hu;rfl) (by omega) (by decide) (Nat.le_trans hB.size hb1.size) ?_;intro A2 c2' w2 hown2 hg2 hB2))
    have hnx:=HOK.out.next (by rw [bl_len];exact hlt) (by rw [HCN.out];simp [okC];omega)
    rw [HCN.out] at hnx
    exact ⟨⟨k + n,j + 1,by omega,by omega,by simp,⟨A2,c2',_,rfl,hown2⟩,hnx,(hB.trans (hb1.mono hB.size)).trans hB2⟩,by simp [intOf];omega⟩
  ·have hd:=HOK.out.done (by rw [bl_len];omega)
   have HD:=Lib.hid hd
   clear hd
   go_wp2
   go_ret2
   exact ⟨_,by rw [HD.out];rfl,hB⟩
set_option maxHeartbeats 400000 in
theorem refUCheck_c (s:ByteArray) (w:World) (hs:s.size≤100000) :
  Calls Tryz.prog 97 #[.string s] w (Ret w (.int .i64 (if okL s.data.toList=true then 0 else 11))):=by
 obtain ⟨r,hr⟩ : ∃ r:Int,(if okL s.data.toList=true then (0:Int) else 11)=r:=⟨_,rfl⟩
 have H:∀ W,Calls Tryz.prog 105 #[.string s] W fun e w'=>∃ v,e=.returned (.tuple #[v,.int .i64 r])∧Below W.heap.size W w':=fun W=>(refAll_c s W hs).mono fun e w' ⟨v,h1,h2⟩=>⟨v,by rw [← hr];exact h1,h2⟩
 rw [hr]
 have HH:=Lib.hid H
 clear hr H
 go_enter Tryz.func97,Tryz.ntmps97
 go_wp2_with (go_at_call 105;(with_reducible refine (HH.out _).mono ?_);rintro e w1 ⟨v,rfl,hb1⟩)
 go_ret
 exact ⟨rfl,hb1⟩
def ctlC (b:UInt8):Bool:=decide (b.toNat < 32) || b.toNat == 127
def plainR (l:List UInt8):Bool:=!l.any ctlC && okL l
def NoCtl (l:List UInt8) (i:Nat):Prop:=∀ j (hj:j < l.length),j < i→ctlC l[j]=false
theorem NoCtl.succ {l:List UInt8} {i:Nat} (h:NoCtl l i) {x:UInt8} {hi:i < l.length} (hx:l[i]=x) (hs:ctlC x=false):NoCtl l (i + 1):=by
 intro j hj hlt
 rcases Nat.lt_or_ge j i with h1 | h1
 ·exact h j hj h1
 ·obtain rfl:j=i:=by omega
  rw [hx];exact hs
theorem NoCtl.all {l:List UInt8} {i:Nat} (h:NoCtl l i) (hi:l.length≤i):l.any ctlC=false:=by
 rw [List.any_eq_false]
 intro x hx
 obtain ⟨j,hj,rfl⟩:=List.getElem_of_mem hx
 simp [h j hj (by omega)]
set_option maxHeartbeats 1000000 in
theorem refPlain_c (s : ByteArray) (w : World) (hs : s.size ≤ 100000) :
    Calls Tryz.prog 83 #[.string s] w (Ret w (.bool (plainR s.data.toList))) := by
  go_enter Tryz.func83, Tryz.ntmps83
  go_wp2
  go_loop [3] (fun i => ∃ k : Nat, k ≤ s.size ∧ i = .int .i64 k ∧ NoCtl s.data.toList k) (fun i => s.size - (intOf i).toNat)
  case atStart => exact ⟨0, Nat.zero_le _, rfl, fun _ _ h => absurd h (by omega)⟩
  case round =>
    obtain ⟨k, hk, rfl, hh⟩ := hrel
    have HH := Lib.hid hh
    clear hh
    by_cases hlt : k < s.size
    · have hkl : k < s.data.toList.length := by rw [bl_len]; exact hlt
      obtain ⟨c, hc⟩ : ∃ c, s[k]'hlt = c := ⟨_, rfl⟩
      have hg : s.data.toList[k] = c := by rw [bl_get s k hlt]; exact hc
      obtain ⟨b127, h127⟩ : ∃ b, (c.toNat == 127) = b := ⟨_, rfl⟩
      have h127e : ((c.toNat : Int) == 127) = b127 := by rw [← h127]; exact ibeq _ _ _ rfl
      have hct : ctlC c = (decide (c.toNat < 32) || b127) := by unfold ctlC; rw [h127]
      have HG := Lib.hid hg
      have HCT := Lib.hid hct
      clear hg hct h127
      go_wp2
      all_goals go_tidy
      all_goals first
        | (refine ⟨⟨k + 1, by omega, by go_num, HH.out.succ HG.out ?_⟩, by simp [intOf]; omega⟩; rw [HCT.out]; grind)
        | (have hf : s.data.toList.any ctlC = true := List.any_eq_true.2 ⟨_, List.getElem_mem hkl, by rw [HG.out, HCT.out]; grind⟩
           go_ret; exact ⟨by unfold plainR; rw [hf]; rfl, Below.refl _ _⟩)
    · have hn := HH.out.all (by rw [bl_len]; omega)
      have HN := Lib.hid hn
      clear hn
      cases ho : okL s.data.toList with
      | true =>
        have HO := Lib.hid ho
        clear ho
        go_wp2_with (go_at_call 97; (with_reducible refine (refUCheck_c s _ hs).mono ?_); rw [HO.out]; rintro e w1 ⟨rfl, hb1⟩)
        go_ret
        exact ⟨by unfold plainR; rw [HN.out, HO.out]; rfl, hb1⟩
      | false =>
        have HO := Lib.hid ho
        clear ho
        go_wp2_with (go_at_call 97; (with_reducible refine (refUCheck_c s _ hs).mono ?_); rw [HO.out]; rintro e w1 ⟨rfl, hb1⟩)
        go_ret
        exact ⟨by unfold plainR; rw [HN.out, HO.out]; rfl, hb1⟩
end Go.Proofs.YtpkodpcfafipdaaGreatDoor

