/- A part of the proof: 11 texts joined. -/
import Derived.Test.YtmmmcpeickfolaaGreatZaA14
import Derived.Test.YtmmmcpeickfolaaGreatZaA10
import Derived.Test.YtmmmcpeickfolaaGreatZaA4
import Derived.KernelRfl
import Derived.Test.YtmmmcpeickfolaaGreatZaA11
import Derived.Test.YtmmmcpeickfolaaGreatZaA12
import Derived.Test.YtmmmcpeickfolaaGreatZaA13
set_option linter.all false
namespace Go.Proofs.YtmmmcpeickfolaaGreat
open Go.RowKit
theorem Rep.renTo {m:Mem} {bk:Bks} {c:Value} {v:V} (sg:List Nat) {bk2:Bks} (hb:∀ k x,bk k=some x→bk2 (sgm sg k)=some x) (h:Rep m bk c v):Rep m bk2 c (v.ren sg):=by
 induction h with
 | lit h=>exact .lit h
 | @agg _ cs vs hl h1 _ ih =>
  refine .agg (by rw [renL_len];exact hl) (fun v hv=>?_) fun j a b=>?_
  ·obtain ⟨j,hj,rfl⟩:=List.getElem_of_mem hv
   rw [renL_len] at hj
   rw [renL_get sg vs j hj,ren_one]
   exact h1 _ (List.getElem_mem hj)
  ·have hj:j < vs.length:=by rw [renL_len] at b;exact b
   rw [renL_get sg vs j hj]
   exact ih j a hj hb
 | @tup _ cs vs hl _ ih =>
  refine .tup (by rw [renL_len];exact hl) fun j a b=>?_
  have hj:j < vs.length:=by rw [renL_len] at b;exact b
  rw [renL_get sg vs j hj]
  exact ih j a hj hb
 | sl hn hc hf hes h1 hm h _=>exact .sl hn hc hf hes h1 hm h
 | slnil hf=>exact .slnil hf
 | osl h1 hc hf hs=>exact .osl (hb _ _ h1) hc hf hs
 | ptr h1=>exact .ptr (hb _ _ h1)
 | eptr h1 hm h _=>exact .eptr h1 hm h
 | @clo _ fn cs vs hv hl _ ih =>
  refine .clo hv (by rw [renL_len];exact hl) fun j a b=>?_
  have hj:j < vs.length:=by rw [renL_len] at b;exact b
  rw [renL_get sg vs j hj]
  exact ih j a hj hb
 | @bnd _ fn cs vs hl _ ih =>
  refine .bnd (by rw [renL_len];exact hl) fun j a b=>?_
  have hj:j < vs.length:=by rw [renL_len] at b;exact b
  rw [renL_get sg vs j hj]
  exact ih j a hj hb
 | any=>exact .any
theorem callsS_new {P:Program} {f:FuncId} {args:List V} {v:V} {s0 s1:Slot} (h:CallsS P f args [.fresh,.fresh] v [s0,s1]) (ha:V.idlt.belowL 0 args=true) {i j:Nat} (hij:i≠j) {st:List Slot} (hi:st[i]?=some .fresh) (hj:st[j]?=some .fresh)
  (h0:∀ cs f,s0=.live cs f∨s1=.live cs f→V.litD.litL cs=true):CallsS P f args st (v.ren [i,j]) ((st.set i s0).set j s1):=by
 intro B m0 m bk w cargs hg hsim hargs
 have sim1:Sim w.heap.size m m noBk w [.fresh,.fresh]:=by
  refine ⟨Nat.le_refl _,hsim.mem,fun _ _ h=>h,fun _ _ h=>.inl h,fun k c g hk=>?_,fun a b ci fi cj fj x y h1 h2 _ _ _=>?_,fun _ _=>rfl⟩
  ·rcases k with _ | _ | k <;> simp at hk
  ·rcases a with _ | _ | a <;> simp at h1
 have args1:RepA m noBk cargs args:=⟨hargs.1,fun k a b=>(hargs.2 k a b).zero (belowL_get ha k b)⟩
 refine (h w.heap.size m m noBk w cargs hg sim1 args1).mono ?_
 rintro e w' ⟨c,rfl,m',bk',g1,g2,g3,g4,g5⟩
 let bk2:Bks:=fun k=>if k=i then bk' 0 else if k=j then bk' 1 else bk k
 have bi:bk2 i=bk' 0:=if_pos rfl
 have bj:bk2 j=bk' 1:=by show (if j=i then _ else if j=j then _ else _)=_;rw [if_neg (fun e=>hij e.symm),if_pos rfl]
 have bo:∀ k,k≠i→k≠j→bk2 k=bk k:=fun k h1 h2=>by show (if k=i then _ else if k=j then _ else _)=_;rw [if_neg h1,if_neg h2]
 have hil:=(List.getElem?_eq_some_iff.1 hi).1
 have hjl:=(List.getElem?_eq_some_iff.1 hj).1
 have bki:bk i=none:=hsim.nb i (.inr hi)
 have bkj:bk j=none:=hsim.nb j (.inr hj)
 have get:∀ k,((st.set i s0).set j s1)[k]?=if k=j then some s1 else if k=i then some s0 else st[k]?:=fun k=>by
  by_cases e1:k=j
  ·subst e1;rw [List.getElem?_set,if_pos rfl,List.length_set,if_pos hjl,if_pos rfl]
  ·rw [List.getElem?_set,if_neg (fun e=>e1 e.symm),if_neg e1]
   by_cases e2:k=i
   ·subst e2;rw [List.getElem?_set,if_pos rfl,if_pos hil,if_pos rfl]
   ·rw [List.getElem?_set,if_neg (fun e=>e2 e.symm),if_neg e2]
 have up:∀ k x,bk' k=some x→bk2 (sgm [i,j] k)=some x:=fun k x hx=>by
  have hk2:∀ q:Nat,[Slot.fresh,Slot.fresh].length≤q→bk' q=none:=fun q hq=>g1.nb q (.inl (List.getElem?_eq_none (by simpa using hq)))
  rcases k with _ | _ | k
  ·show bk2 i=some x;rw [bi];exact hx
  ·show bk2 j=some x;rw [bj];exact hx
  ·rw [hk2 (k + 2) (by simp)] at hx;cases hx
 have out:∀ a:Addr,a.block < w.heap.size→m' a=m a:=fun a ha=>by
  cases hm:m a with
  | some u=>exact g3 _ _ hm
  | none =>
   cases hm' : m' a with
   | none=>rfl
   | some u =>
    rcases g1.old a u hm' with q | q
    ·rw [hm] at q;cases q
    ·omega
 have one:∀ (k id:Nat) (cs:List V) (frz:Nat),[s0,s1][k]?=some (.live cs frz)→bk2 id=bk' k→(∃ q,s0=.live cs q∨s1=.live cs q)→∃ b sz arr t lo hi,LiveAt B m' bk2 w' id cs frz b sz arr t lo hi∧w.heap.size≤b:=fun k id cs frz hk hid hc=>by
  obtain ⟨b,sz,arr,t,lo,hi',hl⟩:=g1.blk k cs frz hk
  obtain ⟨q,hq⟩:=hc
  refine ⟨b,sz,arr,t,lo,hi',⟨by rw [hid];exact hl.at_,Nat.le_trans hsim.base hl.own,hl.heap,hl.size,hl.free,hl.fit,hl.one,fun n hn=>?_,hl.mu,hl.fz⟩,hl.own⟩
  obtain ⟨u,q1,q2⟩:=hl.rep n hn
  exact ⟨u,q1,q2.litD (litL_get (h0 cs q hq) n hn) m' bk2⟩
 have all:∀ (k:Nat) (cs:List V) (frz:Nat),((st.set i s0).set j s1)[k]?=some (.live cs frz)→∃ b sz arr t lo hi,LiveAt B m' bk2 w' k cs frz b sz arr t lo hi∧((k=i∨k=j)→w.heap.size≤b)∧(k≠i→k≠j→b < w.heap.size):=fun k cs frz hk=>by
  rw [get] at hk
  by_cases e1:k=j
  ·subst e1
   rw [if_pos rfl] at hk
   obtain ⟨b,sz,arr,t,lo,hi',h1,h2⟩:=one 1 k cs frz (by simpa using hk) bj ⟨frz,.inr (by simpa using hk)⟩
   exact ⟨b,sz,arr,t,lo,hi',h1,fun _=>h2,fun _ h=>absurd rfl h⟩
  ·rw [if_neg e1] at hk
   by_cases e2:k=i
   ·subst e2
    rw [if_pos rfl] at hk
    obtain ⟨b,sz,arr,t,lo,hi',h1,h2⟩:=one 0 k cs frz (by simpa using hk) bi ⟨frz,.inl (by simpa using hk)⟩
    exact ⟨b,sz,arr,t,lo,hi',h1,fun _=>h2,fun h _=>absurd rfl h⟩
   ·rw [if_neg e2] at hk
    obtain ⟨b,sz,arr,t,lo,hi',hl⟩:=hsim.blk k cs frz hk
    have hb:b < w.heap.size:=by
     rcases Nat.lt_or_ge b w.heap.size with h | h
     ·exact h
     ·have:=hl.heap;rw [Array.getElem?_eq_none h] at this;cases this
    refine ⟨b,sz,arr,t,lo,hi',⟨by rw [bo k e2 e1];exact hl.at_,hl.own,by rw [g5.block b hb];exact hl.heap,hl.size,hl.free,hl.fit,hl.one,fun n hn=>?_,fun n hn=>by rw [out _ hb];exact hl.mu n hn,fun n hn=>by rw [out _ hb];exact hl.fz n hn⟩,fun h=>?_,fun _ _=>hb⟩
    ·obtain ⟨u,q1,q2⟩:=hl.rep n hn
     refine ⟨u,q1,q2.mono g3 fun q x hq=>?_⟩
     rw [bo q (fun e=>by rw [e,bki] at hq;cases hq) (fun e=>by rw [e,bkj] at hq;cases hq)];exact hq
    ·rcases h with h | h
     ·exact absurd h e2
     ·exact absurd h e1
 refine ⟨c,rfl,m',bk2,⟨Nat.le_trans hsim.base g5.size,g1.mem,fun a u h=>g3 _ _ (hsim.ext a u h),fun a u h=>?_,fun k cs frz hk=>?_,fun a b ci fi cj fj x y h1 h2 hx hy he=>?_,fun k hk=>?_⟩,g2.renTo [i,j] up,g3,fun k x hk=>?_,?_⟩
 ·rcases g1.old a u h with q | q
  ·exact hsim.old a u q
  ·exact .inr (Nat.le_trans hsim.base q)
 ·obtain ⟨b,sz,arr,t,lo,hi',h1,_⟩:=all k cs frz hk
  exact ⟨b,sz,arr,t,lo,hi',h1⟩
 ·obtain ⟨b1,z1,r1,t1,l1,u1,p1,p2,p3⟩:=all a ci fi h1
  obtain ⟨b2,z2,r2,t2,l2,u2,q1,q2,q3⟩:=all b cj fj h2
  have ex:x=(b1,z1):=by have:=p1.at_;rw [hx] at this;exact Option.some.inj this
  have ey:y=(b2,z2):=by have:=q1.at_;rw [hy] at this;exact Option.some.inj this
  subst ex ey
  have hb:b1=b2:=he
  rw [get] at h1 h2
  by_cases ai:a=i <;> by_cases aj:a=j <;> by_cases ci' : b=i <;> by_cases cj' : b=j
  all_goals first
   | (rw [ai,ci'];done)
   | (rw [aj,cj'];done)
   | (exact absurd (ai.symm.trans aj) hij)
   | (exact absurd (ci'.symm.trans cj') hij)
   | skip
  ·rw [if_neg aj,if_pos ai] at h1
   rw [if_pos cj'] at h2
   have:=g1.inj 0 1 ci fi cj fj (b1,z1) (b2,z2) (by simpa using h1) (by simpa using h2) (by rw [← bi,← ai];exact hx) (by rw [← bj,← cj'];exact hy) hb
   omega
  ·have:=p2 (.inl ai);have:=q3 ci' cj';omega
  ·rw [if_pos aj] at h1
   rw [if_neg cj',if_pos ci'] at h2
   have:=g1.inj 1 0 ci fi cj fj (b1,z1) (b2,z2) (by simpa using h1) (by simpa using h2) (by rw [← bj,← aj];exact hx) (by rw [← bi,← ci'];exact hy) hb
   omega
  ·have:=p2 (.inr aj);have:=q3 ci' cj';omega
  ·have:=q2 (.inl ci');have:=p3 ai aj;omega
  ·have:=q2 (.inr cj');have:=p3 ai aj;omega
  ·rw [if_neg aj,if_neg ai] at h1
   rw [if_neg cj',if_neg ci'] at h2
   exact hsim.inj a b ci fi cj fj (b1,z1) (b2,z2) h1 h2 (by rw [← bo a ai aj];exact hx) (by rw [← bo b ci' cj'];exact hy) hb
 ·rw [get] at hk
  by_cases e1:k=j
  ·subst e1
   rw [if_pos rfl] at hk
   rw [bj]
   rcases hk with hk | hk
   ·cases hk
   ·exact g1.nb 1 (.inr (by simpa using hk))
  ·rw [if_neg e1] at hk
   by_cases e2:k=i
   ·subst e2
    rw [if_pos rfl] at hk
    rw [bi]
    rcases hk with hk | hk
    ·cases hk
    ·exact g1.nb 0 (.inr (by simpa using hk))
   ·rw [if_neg e2] at hk
    rw [bo k e2 e1]
    exact hsim.nb k hk
 ·rw [bo k (fun e=>by rw [e,bki] at hk;cases hk) (fun e=>by rw [e,bkj] at hk;cases hk)];exact hk
 ·exact ⟨g5.toBelow.mono hsim.base,g5.shp,g5.oth⟩
theorem wcl_fz {st:List Slot} {sg:List Nat} {n:Nat} {l l' : List V} {rd:List Nat} (h:FzL st l l' rd):WCL st sg n l l':=by
 induction h with
 | nil=>exact .nil
 | cons h _ ih=>exact .cons (.fz h) ih
structure FzW (st:List Slot) (u v:V):Prop where
 out:∃ l l' rd,u=.agg l∧v=.agg l'∧FzL st l l' rd∧l'.all V.one=true
def Slot.ok5:Slot→Bool
 | .live cs 0=>V.idlt.belowL 5 cs
 | .live _ (_ + 1)=>false
 | .dead=>true
 | .fresh=>false
theorem finW_c {rs:List ARes} {fr:List V} {st st0:List Slot} {α:Type} {enc:α→V} {x y:α} {e:AExit} {R O:List V} {fR fO:Nat} {xs:Slot} (is:List Nat) (he:e=.normal∨e=.ret) (H:some x=some y) (h5:st0.length=5) (hR:V.idlt.belowL 5 R=true) (hO:V.idlt.belowL 5 O=true) (hX:xs.ok5=true)
  (h:frzI is st fun st=>(st[0]?=some (.live R fR)∧st[1]?=some (.live O fO)∧st[4]?=some xs)∧resK fr st rs fun vs=>mkRK vs fun v=>FzW st v (enc x)):FinQ (FinR st0 rs (enc y) [.live R fR,.live O fO,.dead,.dead,xs]) e fr st:=by
 cases H
 obtain ⟨st1,hf,⟨g0,g1,g4⟩,h⟩:=frzI_ok h
 obtain ⟨vs,h1,h2⟩:=resK_ok h
 rw [mkRK_eq] at h2
 obtain ⟨l,l',rd,e1,e2,e3,e4⟩:=h2.out
 have one:∀ v ∈ l',v.one=true:=by simpa using e4
 refine ⟨he,[],st1,vs,hf,h1,.v (by rw [e1,e2];exact .agg (wcl_fz e3) one),fun i _ _=>rfl,⟨h5.symm,fun i cs f hi=>?_,fun i hi=>?_,fun i j _ _ _ _ _ _ h=>h⟩⟩
 ·rw [h5]
  rcases i with _ | _ | _ | _ | _ | i
  ·simp only [List.getElem?_cons_zero,Option.some.injEq,Slot.live.injEq] at hi
   obtain ⟨rfl,rfl⟩:=hi
   exact ⟨_,g0,wcl_nil hR,.inr (renL_nil _).symm⟩
  ·simp only [List.getElem?_cons_succ,List.getElem?_cons_zero,Option.some.injEq,Slot.live.injEq] at hi
   obtain ⟨rfl,rfl⟩:=hi
   exact ⟨_,g1,wcl_nil hO,.inr (renL_nil _).symm⟩
  ·simp at hi
  ·simp at hi
  ·simp only [List.getElem?_cons_succ,List.getElem?_cons_zero,Option.some.injEq] at hi
   subst hi
   rcases f with _ | f
   ·exact ⟨_,g4,wcl_nil hX,.inr (renL_nil _).symm⟩
   ·cases hX
  ·simp at hi
 ·rcases i with _ | _ | _ | _ | _ | i <;> simp at hi
  subst hi;cases hX
theorem askW_c {β:Type} {r:β} {P:Program} {st st0 st' : List Slot} {α:Type} {enc:α→V} {m:Option α} {X:α→Option β} {f:Nat} {vs vs' : List V} {k:V→List Nat→List Nat→List Slot→Prop} (hc:∀ s,m=some s→CallsS P f vs' st0 (enc s) st') (H:m.bind X=some r) (hv:vs=vs') (hs:st=st0) (hl:st'.length=st0.length)
  (h:∀ s,X s=some r→k (enc s) [] ((allEff st').map Prod.fst) st'):Ask P f vs st k:=by
 subst hv hs
 obtain ⟨s,hs,H⟩:=bind_c H
 exact Ask_S (hc s hs) hl (h s H)
theorem cloE_c {P:Program} {st:List Slot} {k:FuncId} {es:Nat} {E:TypeId} (hR:CloRoads P k es E) {α:Type} {f:α→V} {l:List α} {K:V→List Nat→List Nat→List Slot→Prop} {fu:Bool} (hl:l=[]) (h:K (.sl (List.map f []) true) [] [] st):Ask P k [.sl (l.map f) fu] st K:=by
 subst hl
 exact Ask_V0 (clo_nil hR fu) rfl rfl h
theorem cloN_c {P:Program} {st:List Slot} {k:FuncId} {es:Nat} {E:TypeId} (hR:CloRoads P k es E) {α:Type} {f:α→V} {l:List α} {K:V→List Nat→List Nat→List Slot→Prop} (id:Nat) {fu:Bool} (hes:∀ a,(f a).cells.length=es) (hone:∀ a,(f a).cells.all V.one=true) (hf:st[id]?=some .fresh) (hl:l≠[]) (hn:l.length≤1000000)
  (h:ssetK st id (.live (cellsM f l) 0) fun st'=>K (.osl id 0 l.length es false) [] [id] st'):Ask P k [.sl (l.map f) fu] st K:=by
 rw [ssetK_eq] at h
 exact Ask_L (rd:=[]) (ef:=[(id,.live (cellsM f l) 0)]) (fun st2 hl2 h2=>clo_ne hR hes (fun a u hu=>List.all_eq_true.1 (hone a) u hu) l fu hl hn ((h2 id (.inr (by simp))).trans hf)) h
end Go.Proofs.YtmmmcpeickfolaaGreat

namespace Go.Proofs.YtmmmcpeickfolaaGreat
open Go.RowKit
abbrev V.u8 (k:UInt8):V:=.lit (.int .u8 k.toNat)
def StzD.l (s:StzD):List Value:=[.int .u8 s.kind.toNat,.string s.user,.string s.res,.string s.name,.int .i64 s.show_,.int .i64 s.prio,.int .i64 s.code,.int .i64 s.n]
end Go.Proofs.YtmmmcpeickfolaaGreat

namespace Go.Proofs.YtmmmcpeickfolaaGreat
open Go.RowKit
end Go.Proofs.YtmmmcpeickfolaaGreat

namespace Go.Proofs.YtmmmcpeickfolaaGreat
open Go.RowKit
attribute [local irreducible] AW Fin FinR loopQ CallsV CallsS Callable
end Go.Proofs.YtmmmcpeickfolaaGreat

namespace Go.Proofs.YtmmmcpeickfolaaGreat
open Go.RowKit
attribute [local irreducible] AW Fin FinR loopQ CallsV CallsS Callable
end Go.Proofs.YtmmmcpeickfolaaGreat

namespace Go.Proofs.YtmmmcpeickfolaaGreat
open Go.RowKit
attribute [local irreducible] CallsS CallsV Callable
end Go.Proofs.YtmmmcpeickfolaaGreat

namespace Go.Proofs.YtmmmcpeickfolaaGreat
open Go.RowKit
attribute [local irreducible] CallsS CallsV Callable
end Go.Proofs.YtmmmcpeickfolaaGreat

namespace Go.Proofs.YtmmmcpeickfolaaGreat
open Go.RowKit
def stzFits (x:StanzaStanza):Prop:=(0≤x.Kind∧x.Kind≤255)∧x.User.size≤100000∧x.Res.size≤100000∧x.Name.size≤100000
instance (x:StanzaStanza):Decidable (stzFits x):=inferInstanceAs (Decidable (_∧_))
end Go.Proofs.YtmmmcpeickfolaaGreat

namespace Go.Proofs.YtmmmcpeickfolaaGreat
open Go.RowKit
def p_roster_State_find_1 (a0:ItemItem) (a1:ByteArray):Option (Int) :=
 (p_strings_Compare a0.Contact a1).bind fun v1 =>
 some v1
def p_slices_BinarySearchFunc_item_Item_l1 (a2:ItemItem→ByteArray→Option Int) (z8:List ItemItem) (z9:ByteArray):Nat→Int→Int→Option ((Int × Int))
 | 0,_,_=>none
 | n + 1,y11,y12 =>
  bif (decide (y11 < y12)) then
   (at? z8 (w64 (shrI .u64 (IntKind.wrap .u64 (w64 (y11 + y12))) (1:Int)))).bind fun x14 =>
   (a2 x14 z9).bind fun v15 =>
   bif (decide (v15 < (0:Int))) then
    p_slices_BinarySearchFunc_item_Item_l1 a2 z8 z9 n (w64 (w64 (shrI .u64 (IntKind.wrap .u64 (w64 (y11 + y12))) (1:Int)) + (1:Int))) y12
   else
   p_slices_BinarySearchFunc_item_Item_l1 a2 z8 z9 n y11 (w64 (shrI .u64 (IntKind.wrap .u64 (w64 (y11 + y12))) (1:Int)))
  else
  some (y11,y12)
def p_slices_BinarySearchFunc_item_Item (a0:List ItemItem) (a1:ByteArray) (a2:ItemItem→ByteArray→Option Int):Option (Int × Bool) :=
 (p_slices_BinarySearchFunc_item_Item_l1 a2 a0 a1 fuel (0:Int) (a0.length:Int)).bind fun q18 =>
 bif (decide (q18.1 < (a0.length:Int))) then
  (at? a0 q18.1).bind fun x20 =>
  (a2 x20 a1).bind fun v21 =>
  some (q18.1,(v21 == (0:Int)))
 else
 some (q18.1,false)
def p_roster_State_find (a0:RosterState) (a1:ByteArray):Option (Int × Bool) :=
 (p_slices_BinarySearchFunc_item_Item a0.Items a1 (fun x0 x1=>p_roster_State_find_1 x0 x1)).bind fun v1 =>
 some (v1.1,v1.2)
def p_roster_State_change_1 (a0:RosterGone) (c0:ItemItem):Option (Bool) :=
 some (a0.Contact.toList == c0.Contact.toList)
def p_roster_State_change (a0:RosterState) (a1:ItemItem):Option (RosterState) :=
 (p_roster_State_find a0 a1.Contact).bind fun v1 =>
 bif v1.2 then
  (at? a0.Items v1.1).bind fun x3 =>
  (p_item_Listed x3).bind fun v5 =>
  (p_item_Listed a1).bind fun v6 =>
  (p_item_Idle (ItemItem.mk a1.Contact a1.Name a1.Sub (w64 (a0.Ver + (1:Int))) a1.Own)).bind fun v7 =>
  bif v7 then
   (del? a0.Items v1.1 (w64 (v1.1 + (1:Int)))).bind fun v9 =>
   bif v5 then
    (delF? (fun x0=>p_roster_State_change_1 x0 (ItemItem.mk a1.Contact a1.Name a1.Sub (w64 (a0.Ver + (1:Int))) a1.Own)) a0.Gone).bind fun v11 =>
    bif v6 then
     bif (decide ((8:Int) < (v11.length:Int))) then
      (at? v11 (0:Int)).bind fun x14 =>
      (del? v11 (0:Int) (1:Int)).bind fun v16 =>
      some (RosterState.mk (w64 (a0.Ver + (1:Int))) x14.Ver v9 v16)
     else
     some (RosterState.mk (w64 (a0.Ver + (1:Int))) a0.Floor v9 v11)
    else
    (app? v11 [(RosterGone.mk a1.Contact (w64 (a0.Ver + (1:Int))))]).bind fun l17 =>
    bif (decide ((8:Int) < (l17.length:Int))) then
     (at? l17 (0:Int)).bind fun x19 =>
     (del? l17 (0:Int) (1:Int)).bind fun v21 =>
     some (RosterState.mk (w64 (a0.Ver + (1:Int))) x19.Ver v9 v21)
    else
    some (RosterState.mk (w64 (a0.Ver + (1:Int))) a0.Floor v9 l17)
   else
   bif v6 then
    (delF? (fun x0=>p_roster_State_change_1 x0 (ItemItem.mk a1.Contact a1.Name a1.Sub (w64 (a0.Ver + (1:Int))) a1.Own)) a0.Gone).bind fun v23 =>
    bif (decide ((8:Int) < (v23.length:Int))) then
     (at? v23 (0:Int)).bind fun x25 =>
     (del? v23 (0:Int) (1:Int)).bind fun v27 =>
     some (RosterState.mk (w64 (a0.Ver + (1:Int))) x25.Ver v9 v27)
    else
    some (RosterState.mk (w64 (a0.Ver + (1:Int))) a0.Floor v9 v23)
   else
   bif (decide ((8:Int) < (a0.Gone.length:Int))) then
    (at? a0.Gone (0:Int)).bind fun x29 =>
    (del? a0.Gone (0:Int) (1:Int)).bind fun v31 =>
    some (RosterState.mk (w64 (a0.Ver + (1:Int))) x29.Ver v9 v31)
   else
   some (RosterState.mk (w64 (a0.Ver + (1:Int))) a0.Floor v9 a0.Gone)
  else
  (at? a0.Items v1.1).bind fun x32 =>
  bif v5 then
   (delF? (fun x0=>p_roster_State_change_1 x0 (ItemItem.mk a1.Contact a1.Name a1.Sub (w64 (a0.Ver + (1:Int))) a1.Own)) a0.Gone).bind fun v35 =>
   bif v6 then
    bif (decide ((8:Int) < (v35.length:Int))) then
     (at? v35 (0:Int)).bind fun x38 =>
     (del? v35 (0:Int) (1:Int)).bind fun v40 =>
     some (RosterState.mk (w64 (a0.Ver + (1:Int))) x38.Ver (List.set a0.Items (Int.toNat v1.1) (ItemItem.mk a1.Contact a1.Name a1.Sub (w64 (a0.Ver + (1:Int))) a1.Own)) v40)
    else
    some (RosterState.mk (w64 (a0.Ver + (1:Int))) a0.Floor (List.set a0.Items (Int.toNat v1.1) (ItemItem.mk a1.Contact a1.Name a1.Sub (w64 (a0.Ver + (1:Int))) a1.Own)) v35)
   else
   (app? v35 [(RosterGone.mk a1.Contact (w64 (a0.Ver + (1:Int))))]).bind fun l41 =>
   bif (decide ((8:Int) < (l41.length:Int))) then
    (at? l41 (0:Int)).bind fun x43 =>
    (del? l41 (0:Int) (1:Int)).bind fun v45 =>
    some (RosterState.mk (w64 (a0.Ver + (1:Int))) x43.Ver (List.set a0.Items (Int.toNat v1.1) (ItemItem.mk a1.Contact a1.Name a1.Sub (w64 (a0.Ver + (1:Int))) a1.Own)) v45)
   else
   some (RosterState.mk (w64 (a0.Ver + (1:Int))) a0.Floor (List.set a0.Items (Int.toNat v1.1) (ItemItem.mk a1.Contact a1.Name a1.Sub (w64 (a0.Ver + (1:Int))) a1.Own)) l41)
  else
  bif v6 then
   (delF? (fun x0=>p_roster_State_change_1 x0 (ItemItem.mk a1.Contact a1.Name a1.Sub (w64 (a0.Ver + (1:Int))) a1.Own)) a0.Gone).bind fun v47 =>
   bif (decide ((8:Int) < (v47.length:Int))) then
    (at? v47 (0:Int)).bind fun x49 =>
    (del? v47 (0:Int) (1:Int)).bind fun v51 =>
    some (RosterState.mk (w64 (a0.Ver + (1:Int))) x49.Ver (List.set a0.Items (Int.toNat v1.1) (ItemItem.mk a1.Contact a1.Name a1.Sub (w64 (a0.Ver + (1:Int))) a1.Own)) v51)
   else
   some (RosterState.mk (w64 (a0.Ver + (1:Int))) a0.Floor (List.set a0.Items (Int.toNat v1.1) (ItemItem.mk a1.Contact a1.Name a1.Sub (w64 (a0.Ver + (1:Int))) a1.Own)) v47)
  else
  bif (decide ((8:Int) < (a0.Gone.length:Int))) then
   (at? a0.Gone (0:Int)).bind fun x53 =>
   (del? a0.Gone (0:Int) (1:Int)).bind fun v55 =>
   some (RosterState.mk (w64 (a0.Ver + (1:Int))) x53.Ver (List.set a0.Items (Int.toNat v1.1) (ItemItem.mk a1.Contact a1.Name a1.Sub (w64 (a0.Ver + (1:Int))) a1.Own)) v55)
  else
  some (RosterState.mk (w64 (a0.Ver + (1:Int))) a0.Floor (List.set a0.Items (Int.toNat v1.1) (ItemItem.mk a1.Contact a1.Name a1.Sub (w64 (a0.Ver + (1:Int))) a1.Own)) a0.Gone)
 else
 (p_item_Listed a1).bind fun v56 =>
 (p_item_Idle (ItemItem.mk a1.Contact a1.Name a1.Sub (w64 (a0.Ver + (1:Int))) a1.Own)).bind fun v57 =>
 bif v57 then
  bif v56 then
   (delF? (fun x0=>p_roster_State_change_1 x0 (ItemItem.mk a1.Contact a1.Name a1.Sub (w64 (a0.Ver + (1:Int))) a1.Own)) a0.Gone).bind fun v60 =>
   bif (decide ((8:Int) < (v60.length:Int))) then
    (at? v60 (0:Int)).bind fun x62 =>
    (del? v60 (0:Int) (1:Int)).bind fun v64 =>
    some (RosterState.mk (w64 (a0.Ver + (1:Int))) x62.Ver a0.Items v64)
   else
   some (RosterState.mk (w64 (a0.Ver + (1:Int))) a0.Floor a0.Items v60)
  else
  bif (decide ((8:Int) < (a0.Gone.length:Int))) then
   (at? a0.Gone (0:Int)).bind fun x66 =>
   (del? a0.Gone (0:Int) (1:Int)).bind fun v68 =>
   some (RosterState.mk (w64 (a0.Ver + (1:Int))) x66.Ver a0.Items v68)
  else
  some (RosterState.mk (w64 (a0.Ver + (1:Int))) a0.Floor a0.Items a0.Gone)
 else
 (insAt? a0.Items v1.1 (ItemItem.mk a1.Contact a1.Name a1.Sub (w64 (a0.Ver + (1:Int))) a1.Own)).bind fun v69 =>
 bif v56 then
  (delF? (fun x0=>p_roster_State_change_1 x0 (ItemItem.mk a1.Contact a1.Name a1.Sub (w64 (a0.Ver + (1:Int))) a1.Own)) a0.Gone).bind fun v71 =>
  bif (decide ((8:Int) < (v71.length:Int))) then
   (at? v71 (0:Int)).bind fun x73 =>
   (del? v71 (0:Int) (1:Int)).bind fun v75 =>
   some (RosterState.mk (w64 (a0.Ver + (1:Int))) x73.Ver v69 v75)
  else
  some (RosterState.mk (w64 (a0.Ver + (1:Int))) a0.Floor v69 v71)
 else
 bif (decide ((8:Int) < (a0.Gone.length:Int))) then
  (at? a0.Gone (0:Int)).bind fun x77 =>
  (del? a0.Gone (0:Int) (1:Int)).bind fun v79 =>
  some (RosterState.mk (w64 (a0.Ver + (1:Int))) x77.Ver v69 v79)
 else
 some (RosterState.mk (w64 (a0.Ver + (1:Int))) a0.Floor v69 a0.Gone)
end Go.Proofs.YtmmmcpeickfolaaGreat

namespace Go.Proofs.YtmmmcpeickfolaaGreat
open Go.RowKit
def p_roster_State_own (a0:RosterState):Option (RosterState) :=
 (clone? a0.Items).bind fun l1 =>
 (clone? a0.Gone).bind fun l2 =>
 some (RosterState.mk a0.Ver a0.Floor l1 l2)
end Go.Proofs.YtmmmcpeickfolaaGreat

namespace Go.Proofs.YtmmmcpeickfolaaGreat
open Go.RowKit
end Go.Proofs.YtmmmcpeickfolaaGreat

