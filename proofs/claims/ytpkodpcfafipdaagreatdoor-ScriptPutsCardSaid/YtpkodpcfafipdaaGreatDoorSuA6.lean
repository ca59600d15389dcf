/- A part of the proof: 11 texts joined. -/
import Derived.Test.YtpkodpcfafipdaaGreatDoorSuA5
import Derived.BigRegion
set_option linter.all false
namespace Go.Proofs.YtpkodpcfafipdaaGreatDoor
open Go.RowKit
theorem tailL_cases (n c f:Nat) (r:List UInt8):tailL n c f r=(-1,1)∨((r.take n).all contL=true∧∃ C:Nat,tailL n c f r=((C:Int),n + 1)∧f≤C):=by
 by_cases h:r.length < n
 ·left;unfold tailL;rw [if_pos h]
 ·by_cases ha:(r.take n).all contL=true
  ·rw [tailL_eq n c f r _ (by omega) ha rfl]
   split
   ·exact .inl rfl
   ·rename_i hno
    exact .inr ⟨ha,_,rfl,by
     rcases Nat.lt_or_ge ((r.take n).foldl (fun c b=>c * 64 + b.toNat % 64) c) f with h1 | h1
     ·exact absurd (.inl (by omega)) hno
     ·exact h1⟩
  ·left;unfold tailL;rw [if_neg h,if_pos (by simpa using ha)]
theorem ctl_hi {b:UInt8} (h:128≤b.toNat):ctlC b=false:=by unfold ctlC;simp;omega
theorem any_conts {l:List UInt8} (h:l.all contL=true):l.any ctlC=false:=by
 rw [List.any_eq_false]
 intro x hx
 have:=(contL_iff x).1 (List.all_eq_true.1 h x hx)
 simp [ctl_hi this.1]
theorem next_facts (b:UInt8) (r:List UInt8):(b.toNat < 128∧nextL (b :: r)=((b.toNat:Int),1))∨(nextL (b :: r)=(-1,1))∨(128≤b.toNat∧((b :: r).take (nextL (b :: r)).2).any ctlC=false∧128≤(nextL (b :: r)).1):=by
 by_cases q0:b.toNat < 128
 ·exact .inl ⟨q0,by simp only [nextL,if_pos q0]⟩
 right
 have key:∀ n c f,128≤f→nextL (b :: r)=tailL n c f r→nextL (b :: r)=(-1,1)∨(128≤b.toNat∧((b :: r).take (nextL (b :: r)).2).any ctlC=false∧128≤(nextL (b :: r)).1):=by
  intro n c f hf e
  rcases tailL_cases n c f r with h | ⟨ha,C,h,hC⟩
  ·exact .inl (e.trans h)
  ·right
   rw [e,h]
   refine ⟨by omega,?_,by simp;omega⟩
   show (List.take (n + 1) (b :: r)).any ctlC=false
   rw [List.take_succ_cons,List.any_cons,ctl_hi (by omega),any_conts ha];rfl
 by_cases q1:192≤b.toNat∧b.toNat < 224
 ·exact key 1 (b.toNat % 32) 128 (by omega) (by simp only [nextL,if_neg q0,if_pos q1])
 by_cases q2:224≤b.toNat∧b.toNat < 240
 ·exact key 2 (b.toNat % 16) 2048 (by omega) (by simp only [nextL,if_neg q0,if_neg q1,if_pos q2])
 by_cases q3:240≤b.toNat∧b.toNat < 248
 ·exact key 3 (b.toNat % 8) 65536 (by omega) (by simp only [nextL,if_neg q0,if_neg q1,if_neg q2,if_pos q3])
 ·left;simp only [nextL,if_neg q0,if_neg q1,if_neg q2,if_neg q3]
theorem all_fine:∀ (m:Nat) (l:List UInt8),l.length≤m→(allL m l).all fineC=(!l.any ctlC && (allL m l).all okC)
 | 0,l,h=>by
  have:l=[]:=List.eq_nil_of_length_eq_zero (by omega)
  subst this;rfl
 | m + 1,[],_=>rfl
 | m + 1,b :: r,h=>by
  have hp:=nextL_pos b r
  have ih:=all_fine m ((b :: r).drop (nextL (b :: r)).2) (by rw [List.length_drop];simp at h ⊢;omega)
  have hsplit:(b :: r).any ctlC=(((b :: r).take (nextL (b :: r)).2).any ctlC || ((b :: r).drop (nextL (b :: r)).2).any ctlC):=by
   rw [← List.any_append,List.take_append_drop]
  have e:allL (m + 1) (b :: r)=nextL (b :: r) :: allL m ((b :: r).drop (nextL (b :: r)).2):=rfl
  rw [e,List.all_cons,List.all_cons,ih,hsplit]
  rcases next_facts b r with ⟨h1,h2⟩ | h2 | ⟨h1,h2,h3⟩
  ·rw [h2]
   have t:(List.take 1 (b :: r)).any ctlC=ctlC b:=by simp
   rw [t]
   have f1:fineC ((b.toNat:Int),1)=!ctlC b:=by
    unfold fineC ctlC
    have:((b.toNat:Int) == 127)=(b.toNat == 127):=ibeq _ _ _ rfl
    simp only [this]
    by_cases h:b.toNat < 32
    ·have:¬ (32:Int)≤(b.toNat:Int):=by omega
     simp [h,this]
    ·have:(32:Int)≤(b.toNat:Int):=by omega
     simp [h,this]
   have f2:okC ((b.toNat:Int),1)=true:=by simp [okC]
   rw [f1,f2]
   cases ctlC b <;> simp
  ·rw [h2]
   have f1:fineC (-1,1)=false:=by decide
   have f2:okC (-1,1)=false:=by decide
   rw [f1,f2];simp
  ·rw [h2]
   have f1:fineC (nextL (b :: r))=true:=by unfold fineC;simp;omega
   have f2:okC (nextL (b :: r))=true:=by unfold okC;simp;omega
   rw [f1,f2];simp
theorem plain_same (l:List UInt8):plainR l=plainL l:=by
 unfold plainR plainL okL
 rw [all_fine l.length l (Nat.le_refl _)]
end Go.Proofs.YtpkodpcfafipdaaGreatDoor

namespace Go.Proofs.YtpkodpcfafipdaaGreatDoor
open Go.RowKit
theorem Tryz.infoU8:(Tryz.prog.info? 5).map (fun i=>(i.zero,i.size,i.bytes))=some (some (.int .u8 0),1,1):=by kernel_rfl
def findL (l:List UInt8) (c:UInt8):Nat:=l.findIdx (· == c)
def NoB (l:List UInt8) (c:UInt8) (k:Nat):Prop:=∀ j (hj:j < l.length),j < k→(l[j] == c)=false
theorem NoB.succ {l:List UInt8} {c:UInt8} {k:Nat} (h:NoB l c k) {hk:k < l.length} (hs:(l[k] == c)=false):NoB l c (k + 1):=by
 intro j hj hlt
 rcases Nat.lt_or_ge j k with h1 | h1
 ·exact h j hj h1
 ·obtain rfl:j=k:=by omega
  exact hs
theorem NoB.hit {l:List UInt8} {c:UInt8} {k:Nat} (h:NoB l c k) (hk:k < l.length) (hs:(l[k] == c)=true):findL l c=k:=by
 unfold findL
 rw [List.findIdx_eq hk]
 exact ⟨hs,fun j hj=>by have:=h j (by omega) hj;simpa using this⟩
theorem NoB.miss {l:List UInt8} {c:UInt8} {k:Nat} (h:NoB l c k) (hk:l.length≤k):findL l c=l.length:=by
 unfold findL
 rw [List.findIdx_eq_length]
 intro x hx
 obtain ⟨j,hj,rfl⟩:=List.getElem_of_mem hx
 exact h j hj (by omega)
theorem u8beq (a b:UInt8):((a.toNat:Int) == (b.toNat:Int))=(a == b):=by
 rw [Bool.eq_iff_iff];simp only [beq_iff_eq]
 constructor
 ·intro h;exact UInt8.toNat_inj.1 (by omega)
 ·rintro rfl;rfl
set_option maxHeartbeats 400000 in
theorem find_c (s:ByteArray) (c:UInt8) (w:World) (hs:s.size≤1000000) :
  Calls Tryz.prog 115 #[.string s,.int .u8 c.toNat] w fun e w'=>e=.returned (.int .i64 (findL s.data.toList c))∧w=w':=by
 go_enter Tryz.func115,Tryz.ntmps115
 go_wp2
 go_loop [5] (fun i=>∃ k:Nat,k≤s.size∧i=.int .i64 k∧NoB s.data.toList c k) (fun i=>s.size - (intOf i).toNat)
 case atStart=>exact ⟨0,Nat.zero_le _,rfl,fun _ _ h=>absurd h (by omega)⟩
 case round =>
  obtain ⟨k,hk,rfl,hh⟩:=hrel
  have HH:=Lib.hid hh
  clear hh
  by_cases hlt:k < s.size
  ·have hkl:k < s.data.toList.length:=by rw [bl_len];exact hlt
   obtain ⟨x,hx⟩ : ∃ x,s[k]'hlt=x:=⟨_,rfl⟩
   have hg:s.data.toList[k]=x:=by rw [bl_get s k hlt];exact hx
   have hxc:=u8beq x c
   obtain ⟨q,hq⟩ : ∃ q,(x == c)=q:=⟨_,rfl⟩
   rw [hq] at hxc
   have HQ:Hid ((s.data.toList[k] == c)=q):=by rw [hg];exact hq
   clear hg hq
   cases q with
   | true =>
    go_wp2
    go_ret
    exact ⟨by rw [HH.out.hit hkl HQ.out];rfl,rfl⟩
   | false =>
    go_wp2
    exact ⟨⟨k + 1,by omega,by go_num,HH.out.succ HQ.out⟩,by simp [intOf];omega⟩
  ·have hm:=HH.out.miss (by rw [bl_len];omega)
   rw [bl_len] at hm
   have HM:=Lib.hid hm
   clear hm
   go_wp2
   go_ret
   exact ⟨by rw [HM.out];rfl,rfl⟩
theorem conv_own {P:Program} {ops:Array Oper} {rest:List Oper} {o:Oper} {a:Act} {Q:Exit→Act→World→Prop} {w:World} (hgd:o.guard=none) (x:Operand) (src dst e:TypeId)
  (ho:o.op=.convert src dst x) (hs:P.underlying src=some (.slice e)) (he:P.underlying e=some (.int .u8)) (hd:P.underlying dst=some .string) (l:List UInt8) (base n cap:Nat) (A:Option Addr) (hx:a.eval x=.slice A n cap) (hn:n=l.length)
  (hb:w.ownsRow base e 1 (.slice A n cap) n (l.map fun b=>.int .u8 (b.toNat:Int)))
  (h:wpList P ops Q rest (a.put o.dst (.string ⟨l.toArray⟩)) w) :
  wpList P ops Q (o :: rest) a w:=by
 subst hn
 refine wpList_plain hgd fun K hK=>?_
 unfold Oper.wp execOp
 simp only [ho,hx,Sem.run_bind]
 have hrun:(convert src dst (.slice A l.length cap)).run P w=.ok (.string ⟨l.toArray⟩) w:=by
  rcases hb.2 with ⟨hv,h0⟩ | ⟨g,c,cur,hv,hg,hh,h1,h2,h3,h4⟩
  ·injection hv with hA _ _
   subst hA
   have hl0:l=[]:=List.eq_nil_of_length_eq_zero h0
   subst hl0
   show (convert src dst (.slice none 0 cap)).run P w=_
   rw [run_convert_bytes_string w src dst e none 0 cap hs he hd]
   rfl
  ·injection hv with hA _ _
   subst hA
   refine run_convert_bytes_back (P:=P) w src dst e ⟨g,0,none⟩ cap l hs he hd (fun j hj=>?_)
   rw [Addr.add_lit,Nat.zero_add]
   have hbk:Bk w g e cur:=hh
   rw [hbk.cell j]
   have h5:(l.map fun b=>Value.int .u8 (b.toNat:Int))[j]?=some (.int .u8 (l[j].toNat:Int)):=by simp [hj]
   rw [← h4,List.getElem?_take] at h5
   split at h5
   ·simpa using h5
   ·cases h5
 simp only [hrun,Result.andThen_ok,Sem.run_pure,Oper.upon_value]
 exact hK _ _ h
def upC (b:UInt8):Bool:=decide (65≤b.toNat) && decide (b.toNat≤90)
theorem lowC_up {c:UInt8} (h:upC c=true):((lowC c).toNat:Int)=(c.toNat:Int) + 32:=by
 unfold upC at h
 simp only [Bool.and_eq_true,decide_eq_true_eq] at h
 unfold lowC
 rw [if_pos h,UInt8.toNat_add]
 simp;omega
theorem lowC_not {c:UInt8} (h:upC c=false):lowC c=c:=by
 unfold upC at h
 unfold lowC
 rw [if_neg]
 intro hh
 simp [hh] at h
set_option maxRecDepth 100000 in
set_option maxHeartbeats 1000000 in
theorem refLow_c (s:ByteArray) (w:World) (hs:s.size≤100000) :
  Calls Tryz.prog 116 #[.string s] w (Ret w (.string (lowB s))):=by
 obtain ⟨i0,hi,hz0,hz1,hz2⟩:=info_parts Tryz.infoU8
 go_enter Tryz.func116,Tryz.ntmps116
 go_wp2
 go_loopw [3,4,5] (fun v i _ wr=>∃ k:Nat,k≤s.size∧i=.int .i64 k∧(∃ A' c',v=.slice A' k c'∧wr.ownsRow w.heap.size 5 1 v k (((s.data.toList.take k).map lowC).map fun b=>.int .u8 (b.toNat:Int)))∧Below w.heap.size w wr) (fun _ i _ _=>s.size - (intOf i).toNat)
 case atStart=>exact ⟨0,Nat.zero_le _,rfl,⟨none,0,rfl,World.ownsRow_nil _ _ _ _⟩,Below.refl _ _⟩
 case round =>
  obtain ⟨k,hk,rfl,⟨A',c',rfl,hown⟩,hB⟩:=hrel
  have HO:=Lib.hid hown
  clear hown
  by_cases hlt:k < s.size
  ·have hkl:k < s.data.toList.length:=by rw [bl_len];exact hlt
   obtain ⟨x,hx⟩ : ∃ x,s[k]'hlt=x:=⟨_,rfl⟩
   have hg:s.data.toList[k]=x:=by rw [bl_get s k hlt];exact hx
   have hstep:((s.data.toList.take (k + 1)).map lowC).map (fun b=>Value.int .u8 (b.toNat:Int))=((s.data.toList.take k).map lowC).map (fun b=>Value.int .u8 (b.toNat:Int))++[.int .u8 ((lowC x).toNat:Int)]:=by
    rw [List.take_succ_eq_append_getElem hkl,hg,List.map_append,List.map_append];rfl
   have HST:=Lib.hid hstep
   have X0:=u8_lt x
   clear hstep hg
   cases hu:upC x with
   | true =>
    have hl:=lowC_up hu
    unfold upC at hu
    simp only [Bool.and_eq_true,decide_eq_true_eq] at hu
    obtain ⟨u1,u2⟩:=hu
    have HL:=Lib.hid hl
    clear hl
    go_wp2_with (at_builtin;refine append_new (w:=wr) rfl _ _ 63 rfl w.heap.size 5 i0 _ 1 1 Tryz.underlying63 hi hz0 hz1 hz2 rfl (by decide) (.slice A' k c') k _ rfl HO.out #[.int .u8 ((x.toNat:Int) - 65 + 97)] rfl rfl (by intro u hu';simp only [List.mem_singleton] at hu';subst hu';rfl) (by omega) (by decide) hB.size ?_;intro A2 c2' w2 hown2 hg2 hB2)
    refine ⟨⟨k + 1,by omega,by go_num,⟨A2,c2',rfl,?_⟩,hB.trans hB2⟩,by simp [intOf];omega⟩
    rw [HST.out,HL.out]
    have e:(x.toNat:Int) - 65 + 97=(x.toNat:Int) + 32:=by omega
    rw [← e];exact hown2
   | false =>
    have hl:=lowC_not hu
    have HL:=Lib.hid hl
    have hu' : ¬ (65≤x.toNat∧x.toNat≤90):=by intro h;unfold upC at hu;simp [h] at hu
    clear hl hu
    by_cases u1:65≤x.toNat
    ·have u2:¬ x.toNat≤90:=by omega
     clear hu'
     go_wp2_with (at_builtin;refine append_new (w:=wr) rfl _ _ 63 rfl w.heap.size 5 i0 _ 1 1 Tryz.underlying63 hi hz0 hz1 hz2 rfl (by decide) (.slice A' k c') k _ rfl HO.out _ rfl rfl (by intro u hu;simp at hu;subst hu;rfl) (by omega) (by decide) hB.size ?_;intro A2 c2' w2 hown2 hg2 hB2)
     exact ⟨⟨k + 1,by omega,by go_num,⟨A2,c2',rfl,by rw [HST.out,HL.out];exact hown2⟩,hB.trans hB2⟩,by simp [intOf];omega⟩
    ·clear hu'
     go_wp2_with (at_builtin;refine append_new (w:=wr) rfl _ _ 63 rfl w.heap.size 5 i0 _ 1 1 Tryz.underlying63 hi hz0 hz1 hz2 rfl (by decide) (.slice A' k c') k _ rfl HO.out _ rfl rfl (by intro u hu;simp at hu;subst hu;rfl) (by omega) (by decide) hB.size ?_;intro A2 c2' w2 hown2 hg2 hB2)
     exact ⟨⟨k + 1,by omega,by go_num,⟨A2,c2',rfl,by rw [HST.out,HL.out];exact hown2⟩,hB.trans hB2⟩,by simp [intOf];omega⟩
  ·have hlen:k=(s.data.toList.map lowC).length:=by rw [List.length_map,bl_len];omega
   have h2:=HO.out
   rw [List.take_of_length_le (by rw [bl_len];omega)] at h2
   have H2:=Lib.hid h2
   have HLN:=Lib.hid hlen
   clear hlen h2
   go_wp2_with (refine conv_own (o:=⟨some 29,.convert 63 9 _,_,_,_,_⟩) rfl _ _ _ 5 rfl Tryz.underlying63 Tryz.underlying5 Tryz.underlying9 (s.data.toList.map lowC) w.heap.size _ _ _ rfl HLN.out H2.out ?_)
   go_ret
   exact ⟨rfl,hB⟩
end Go.Proofs.YtpkodpcfafipdaaGreatDoor

namespace Go.Proofs.YtpkodpcfafipdaaGreatDoor
open Go.RowKit
def nameL (l:List UInt8):Bool:=plainL l && !l.any sepC && !l.any upC
theorem lowC_ne {c:UInt8} (h:upC c=true):lowC c≠c:=by
 intro e
 have:=lowC_up h
 rw [e] at this
 omega
theorem map_low (l:List UInt8):(l.map lowC=l) ↔ l.any upC=false:=by
 induction l with
 | nil=>simp
 | cons a r ih =>
  rw [List.map_cons,List.cons.injEq,ih,List.any_cons,Bool.or_eq_false_iff]
  constructor
  ·rintro ⟨h1,h2⟩
   refine ⟨?_,h2⟩
   cases hu:upC a with
   | false=>rfl
   | true=>exact absurd h1 (lowC_ne hu)
  ·rintro ⟨h1,h2⟩
   exact ⟨lowC_not h1,h2⟩
theorem bl_inj {a b:ByteArray} (h:a.data.toList=b.data.toList):a=b:=by
 rw [← ba_of a,← ba_of b,h]
theorem str_iff (a b:ByteArray):(a.toList=b.toList) ↔ a=b:=by
 rw [ByteArray.toList_eq,ByteArray.toList_eq]
 exact ⟨bl_inj,fun h=>by rw [h]⟩
theorem low_same_iff (s:ByteArray):(lowB s=s) ↔ s.data.toList.any upC=false:=by
 rw [← map_low]
 constructor
 ·intro h
  have:=congrArg (fun x:ByteArray=>x.data.toList) h
  simpa only [lowB_list] using this
 ·intro h
  exact bl_inj (by rw [lowB_list];exact h)
set_option maxHeartbeats 1000000 in
theorem name_c (s:ByteArray) (w:World) (hs:s.size≤100000) :
  Calls Tryz.prog 120 #[.string s] w (Ret w (.bool (nameL s.data.toList))):=by
 have K1:=fun w'=>plain_c s w' (by omega)
 have K2:=fun w'=>containsAny_c s w' (by omega)
 have K3:=fun w'=>low_c s w' (by omega)
 have hl:=low_same_iff s
 obtain ⟨b1,h1⟩ : ∃ b,plainL s.data.toList=b:=⟨_,rfl⟩
 obtain ⟨b2,h2⟩ : ∃ b,s.data.toList.any sepC=b:=⟨_,rfl⟩
 obtain ⟨b3,h3⟩ : ∃ b,s.data.toList.any upC=b:=⟨_,rfl⟩
 have hspec:nameL s.data.toList=(b1 && !b2 && !b3):=by unfold nameL;rw [h1,h2,h3]
 have HS:=Lib.hid hspec
 rw [hspec,]
 rw [h3] at hl
 simp only [h1,h2] at K1 K2
 obtain ⟨t,ht⟩ : ∃ t,lowB s=t:=⟨_,rfl⟩
 rw [ht] at hl
 simp only [ht] at K3
 have HK1:=Lib.hid K1
 have HK2:=Lib.hid K2
 have HK3:=Lib.hid K3
 clear K1 K2 K3 hspec h1 h2 h3 ht
 go_enter Tryz.func120,Tryz.ntmps120
 cases b1 <;> cases b2 <;>
 go_wp2_with (first | (go_at_call 75;(with_reducible refine (HK1.out _).mono ?_);rintro e w1 ⟨rfl,hcb1⟩;obtain ⟨hcc1,hcf1⟩:=bcell hcb1;have hcz1:=hcb1.size;have hcB1:Below w.heap.size w w1:=below_then bel_ hcb1) | (go_at_call 127;(with_reducible refine (HK2.out _).mono ?_);rintro e w2 ⟨rfl,hcb2⟩;obtain ⟨hcc2,hcf2⟩:=bcell hcb2;have hcz2:=hcb2.size;have hcB2:Below w.heap.size w w2:=below_then bel_ hcb2) | (go_at_call 112;(with_reducible refine (HK3.out _).mono ?_);rintro e w3 ⟨rfl,hcb3⟩;obtain ⟨hcc3,hcf3⟩:=bcell hcb3;have hcz3:=hcb3.size;have hcB3:Below w.heap.size w w3:=below_then bel_ hcb3))
 all_goals (go_ret;refine ⟨?_,bel_⟩)
 all_goals first
  | rfl
  | (have e:=str_iff t s;cases b3 <;> simp_all)
def upSep (c:UInt8):Bool:=sepC c || upC c
def NoUp (l:List UInt8) (k:Nat):Prop:=∀ j (hj:j < l.length),j < k→upSep l[j]=false
theorem NoUp.succ {l:List UInt8} {i:Nat} (h:NoUp l i) {x:UInt8} {hi:i < l.length} (hx:l[i]=x) (hs:upSep x=false):NoUp l (i + 1):=by
 intro j hj hlt
 rcases Nat.lt_or_ge j i with h1 | h1
 ·exact h j hj h1
 ·obtain rfl:j=i:=by omega
  rw [hx];exact hs
theorem NoUp.all {l:List UInt8} {i:Nat} (h:NoUp l i) (hi:l.length≤i):l.any upSep=false:=by
 rw [List.any_eq_false]
 intro x hx
 obtain ⟨j,hj,rfl⟩:=List.getElem_of_mem hx
 simp [h j hj (by omega)]
theorem any_upSep (l:List UInt8):l.any upSep=(l.any sepC || l.any upC):=by
 induction l with
 | nil=>rfl
 | cons a r ih=>simp only [List.any_cons,ih,upSep];cases sepC a <;> cases upC a <;> simp
theorem nameL_ref (l:List UInt8):nameL l=(!l.any upSep && plainR l):=by
 unfold nameL
 rw [any_upSep,plain_same]
 cases plainL l <;> cases l.any sepC <;> cases l.any upC <;> rfl
set_option maxHeartbeats 1000000 in
theorem refName_c (s : ByteArray) (w : World) (hs : s.size ≤ 100000) :
    Calls Tryz.prog 124 #[.string s] w (Ret w (.bool (nameL s.data.toList))) := by
  go_enter Tryz.func124, Tryz.ntmps124
  go_wp2
  go_loop [3] (fun i => ∃ k : Nat, k ≤ s.size ∧ i = .int .i64 k ∧ NoUp s.data.toList k) (fun i => s.size - (intOf i).toNat)
  case atStart => exact ⟨0, Nat.zero_le _, rfl, fun _ _ h => absurd h (by omega)⟩
  case round =>
    obtain ⟨k, hk, rfl, hh⟩ := hrel
    have HH := Lib.hid hh
    clear hh
    by_cases hlt : k < s.size
    · have hkl : k < s.data.toList.length := by rw [bl_len]; exact hlt
      obtain ⟨c, hc⟩ : ∃ c, s[k]'hlt = c := ⟨_, rfl⟩
      have hg : s.data.toList[k] = c := by rw [bl_get s k hlt]; exact hc
      have e32 := u8beq c 32
      have e64 := u8beq c 64
      have e47 := u8beq c 47
      obtain ⟨b32, h32⟩ : ∃ b, (c == 32) = b := ⟨_, rfl⟩
      obtain ⟨b64, h64⟩ : ∃ b, (c == 64) = b := ⟨_, rfl⟩
      obtain ⟨b47, h47⟩ : ∃ b, (c == 47) = b := ⟨_, rfl⟩
      have hct : upSep c = (b32 || b64 || b47 || (decide (65 ≤ c.toNat) && decide (c.toNat ≤ 90))) := by unfold upSep sepC upC; rw [h32, h64, h47]
      rw [h32] at e32
      rw [h64] at e64
      rw [h47] at e47
      have f32 : ((c.toNat : Int) == 32) = b32 := e32
      have f64 : ((c.toNat : Int) == 64) = b64 := e64
      have f47 : ((c.toNat : Int) == 47) = b47 := e47
      have HG := Lib.hid hg
      have HCT := Lib.hid hct
      clear hg hct h32 h64 h47 e32 e64 e47
      go_wp2
      all_goals go_tidy
      all_goals first
        | (refine ⟨⟨k + 1, by omega, by go_num, HH.out.succ HG.out ?_⟩, by simp [intOf]; omega⟩; rw [HCT.out]; grind)
        | (have hf : s.data.toList.any upSep = true := List.any_eq_true.2 ⟨_, List.getElem_mem hkl, by rw [HG.out, HCT.out]; grind⟩
           go_ret; exact ⟨by rw [nameL_ref, hf]; rfl, Below.refl _ _⟩)
    · have hn := HH.out.all (by rw [bl_len]; omega)
      have hspec : nameL s.data.toList = plainR s.data.toList := by rw [nameL_ref, hn]; rfl
      have HSP := Lib.hid hspec
      have HK := fun w' => refPlain_c s w' hs
      clear hspec hn
      go_wp2_with (go_at_call 83; (with_reducible refine (HK _).mono ?_); rintro e w1 ⟨rfl, hcb1⟩; obtain ⟨hcc1, hcf1⟩ := bcell hcb1; have hcz1 := hcb1.size; have hcB1 : Below w.heap.size w w1 := below_then bel_ hcb1)
      go_ret
      exact ⟨by rw [HSP.out]; rfl, bel_⟩
def resL (l:List UInt8):Int:=if 12 < l.length then 5 else if plainL l=true then 0 else 11
set_option maxHeartbeats 400000 in
theorem res_c (s:ByteArray) (w:World) (hs:s.size≤100000) :
  Calls Tryz.prog 77 #[.string s] w (Ret w (.int .i64 (resL s.data.toList))):=by
 have HK:=fun w'=>plain_c s w' (by omega)
 unfold resL
 rw [bl_len]
 generalize plainL s.data.toList=b at *
 go_enter Tryz.func77,Tryz.ntmps77
 by_cases h:12 < s.size <;> cases b <;>
 go_wp2_with (go_at_call 75;(with_reducible refine (HK _).mono ?_);rintro e w1 ⟨rfl,hcb1⟩;obtain ⟨hcc1,hcf1⟩:=bcell hcb1;have hcz1:=hcb1.size;have hcB1:Below w.heap.size w w1:=below_then bel_ hcb1)
 all_goals (go_ret;refine ⟨?_,bel_⟩;simp [h])
set_option maxHeartbeats 400000 in
theorem refRes_c (s:ByteArray) (w:World) (hs:s.size≤100000) :
  Calls Tryz.prog 86 #[.string s] w (Ret w (.int .i64 (resL s.data.toList))):=by
 have HK:=fun w'=>refPlain_c s w' hs
 unfold resL
 simp only [plain_same] at HK
 rw [bl_len]
 generalize plainL s.data.toList=b at *
 go_enter Tryz.func86,Tryz.ntmps86
 by_cases h:12 < s.size <;> cases b <;>
 go_wp2_with (go_at_call 83;(with_reducible refine (HK _).mono ?_);rintro e w1 ⟨rfl,hcb1⟩;obtain ⟨hcc1,hcf1⟩:=bcell hcb1;have hcz1:=hcb1.size;have hcB1:Below w.heap.size w w1:=below_then bel_ hcb1)
 all_goals (go_ret;refine ⟨?_,bel_⟩;simp [h])
end Go.Proofs.YtpkodpcfafipdaaGreatDoor

namespace Go.Proofs.YtpkodpcfafipdaaGreatDoor
open Go.RowKit
theorem occ_two:∀ (l:List UInt8) (j:Nat),Lib.occAt l [46,46] j=(decide (j + 1 < l.length) && l.getD j 0 == 46 && l.getD (j + 1) 0 == 46)
 | [],j=>by simp [Lib.occAt]
 | [a],j=>by cases j <;> simp [Lib.occAt,List.isPrefixOf]
 | a :: b :: r,0=>by
  have e:∀ x:UInt8,((46:UInt8) == x)=(x == 46):=fun x=>by rw [Bool.eq_iff_iff,beq_iff_eq,beq_iff_eq];exact eq_comm
  show ((46:UInt8) == a && ((46:UInt8) == b && ([]:List UInt8).isPrefixOf r))=(decide (0 + 1 < r.length + 1 + 1) && (a == 46) && (b == 46))
  rw [e,e]
  have h1:decide (0 + 1 < r.length + 1 + 1)=true:=by simp
  have h2:([]:List UInt8).isPrefixOf r=true:=by cases r <;> rfl
  rw [h1,h2]
  cases (a == 46) <;> cases (b == 46) <;> rfl
 | a :: b :: r,j + 1=>by
  have:=occ_two (b :: r) j
  simp only [Lib.occAt,List.drop_succ_cons,List.getD_cons_succ,List.length_cons] at this ⊢
  rw [this]
  simp
theorem contains_two (l:List UInt8):Lib.contains l [46,46]=false ↔ ∀ j,j + 1 < l.length→¬ (l.getD j 0=46∧l.getD (j + 1) 0=46):=by
 unfold Lib.contains
 rcases Lib.index_spec l [46,46] with ⟨h1,h2⟩ | ⟨i,h1,h2,h3,h4⟩
 ·rw [h1]
  refine ⟨fun _ j hj hh=>?_,fun _=>rfl⟩
  have:=h2 j (by omega)
  rw [occ_two] at this
  rw [hh.1,hh.2] at this
  simp [hj] at this
 ·rw [h1]
  rw [occ_two] at h3
  simp only [Bool.and_eq_true,decide_eq_true_eq,beq_iff_eq] at h3
  constructor
  ·intro h;simp at h
  ·intro h;exact absurd ⟨h3.1.2,h3.2⟩ (h i h3.1.1)
theorem u8n (c:UInt8) (n:Nat) (hn:n < 256):(c.toNat == n)=(c == UInt8.ofNat n):=by
 rw [Bool.eq_iff_iff];simp only [beq_iff_eq]
 constructor
 ·intro h;apply UInt8.toNat_inj.1;rw [h];simp;omega
 ·rintro rfl;simp;omega
theorem host_same (l:List UInt8) (h:l≠[]):hostR l=hostP l:=by
 have hp:0 < l.length:=by cases l with | nil=>exact absurd rfl h | cons a r=>exact Nat.succ_pos _
 rw [Bool.eq_iff_iff]
 unfold hostR hostP
 have he:l.isEmpty=false:=by simpa using h
 simp only [he,List.all_eq_true,List.mem_range,Bool.and_eq_true,Bool.not_eq_true',Bool.not_false,true_and]
 rw [contains_two]
 have h46:∀ c:UInt8,(c.toNat == 46)=true ↔ c=46:=fun c=>by rw [u8n c 46 (by omega)];simp
 constructor
 ·intro hh
  refine ⟨⟨⟨?_,?_⟩,?_⟩,?_⟩
  ·have:=hh 0 hp
   unfold hostAt at this
   simpa using this
  ·have:=hh (l.length - 1) (by omega)
   unfold hostAt at this
   have e:l.length - 1 + 1=l.length:=by omega
   simp only [e,Bool.and_eq_true,Bool.or_eq_true,decide_true,Bool.not_true,Bool.and_false,Bool.false_and,Bool.or_false] at this
   simpa using this.1
  ·rintro j hj ⟨h1,h2⟩
   have:=hh (j + 1) hj
   unfold hostAt at this
   rw [Nat.add_sub_cancel,(h46 _).2 h1,(h46 _).2 h2] at this
   simp at this
  ·intro x hx
   obtain ⟨j,hj,rfl⟩:=List.getElem_of_mem hx
   have:=hh j hj
   unfold hostAt at this
   have e:l.getD j 0=l[j]:=by simp [List.getD_eq_getElem?_getD,hj]
   rw [e] at this
   unfold hostOkC
   revert this
   generalize letterL l[j]=a
   generalize (l[j].toNat == 46)=b
   generalize (l[j].toNat == 45)=c
   cases a <;> cases b <;> cases c <;> simp
 ·rintro ⟨⟨⟨h1,h2⟩,h3⟩,h4⟩ j hj
  have ok:=h4 l[j] (List.getElem_mem hj)
  have e:l.getD j 0=l[j]:=by simp [List.getD_eq_getElem?_getD,hj]
  unfold hostAt
  rw [e]
  have hl:letterL l[j]=true∨(0 < j∧j + 1≠l.length∧((l[j].toNat == 45)=true∨(l[j].toNat == 46)=true)):=by
   by_cases hlt:letterL l[j]=true
   ·exact .inl hlt
   ·refine .inr ⟨?_,?_,?_⟩
    ·rcases Nat.eq_zero_or_pos j with h0 | h0
     ·subst h0;rw [e] at h1;exact absurd h1 hlt
     ·exact h0
    ·intro hjl
     have:l.length - 1=j:=by omega
     rw [this,e] at h2;exact hlt h2
    ·unfold hostOkC at ok
     revert ok
     generalize (l[j].toNat == 46)=b
     generalize (l[j].toNat == 45)=c
     simp only [Bool.not_eq_true] at hlt
     rw [hlt]
     cases b <;> cases c <;> simp
  have hd:(decide (0 < j) && l[j].toNat == 46 && (l.getD (j - 1) 0).toNat == 46)=false:=by
   cases hb:(decide (0 < j) && l[j].toNat == 46 && (l.getD (j - 1) 0).toNat == 46) with
   | false=>rfl
   | true =>
    simp only [Bool.and_eq_true,decide_eq_true_eq] at hb
    refine absurd ⟨(h46 _).1 hb.2,?_⟩ (h3 (j - 1) (by omega))
    have:j - 1 + 1=j:=by omega
    rw [this,e];exact (h46 _).1 hb.1.2
  rw [hd]
  rcases hl with hl | ⟨h5,h6,h7⟩
  ·simp [hl]
  ·rcases h7 with h7 | h7 <;> simp [h5,h6,h7]
end Go.Proofs.YtpkodpcfafipdaaGreatDoor

namespace Go.Proofs.YtpkodpcfafipdaaGreatDoor
open Go.RowKit
def checkA (n h r:List UInt8):Int :=
 if (decide (16 < n.length) || decide (16 < h.length) || decide (12 < r.length))=true then 5 else if (n.isEmpty || h.isEmpty)=true then 4 else if (nameL n && hostP h && plainL r)=true then 0 else 11
set_option maxHeartbeats 400000 in
theorem parts_c (a b c:ByteArray) (w:World) :
  Calls Tryz.prog 119 #[.agg #[.string a,.string b,.string c]] w (Ret w (.agg #[.string a,.string b,.string c])):=by
 go_enter Tryz.func119,Tryz.ntmps119
 go_wp2
 refine bodyPost_ret (v:=.agg #[.string a,.string b,.string c]) (by simp [results,Tryz.results119,go_sem]) rfl ⟨rfl,bel_⟩
theorem ixp0 (n h r:ByteArray) (w:World):(Instr.index 170 (.agg #[.string n,.string h,.string r]) (.int .i64 0)).run Tryz.prog w=.ok (.string n) w:=by kernel_rfl
theorem ixp1 (n h r:ByteArray) (w:World):(Instr.index 170 (.agg #[.string n,.string h,.string r]) (.int .i64 1)).run Tryz.prog w=.ok (.string h) w:=by kernel_rfl
theorem ixp2 (n h r:ByteArray) (w:World):(Instr.index 170 (.agg #[.string n,.string h,.string r]) (.int .i64 2)).run Tryz.prog w=.ok (.string r) w:=by kernel_rfl
theorem checkA_bytes (n h r:ByteArray):checkA n.data.toList h.data.toList r.data.toList=(if (decide (16 < n.size) || decide (16 < h.size) || decide (12 < r.size))=true then 5 else if (n.toList.isEmpty || h.toList.isEmpty)=true then 4 else if (nameL n.data.toList && hostP h.data.toList && plainL r.data.toList)=true then 0 else 11):=by
 unfold checkA
 rw [bl_len,bl_len,bl_len,isEmpty_bl,isEmpty_bl]
set_option maxRecDepth 100000 in
set_option maxHeartbeats 2000000 in
theorem check_c (n h r:ByteArray) (w:World) (hm:ML w) (hn:n.size≤100000) (hh:h.size≤100000) (hr:r.size≤100000) :
  Calls Tryz.prog 113 #[.agg #[.string n,.string h,.string r]] w (Ret w (.int .i64 (checkA n.data.toList h.data.toList r.data.toList))):=by
 have x0:=ixp0 n h r
 have x1:=ixp1 n h r
 have x2:=ixp2 n h r
 have HX:=Lib.hid (checkA_bytes n h r)
 have HK1:=Lib.hid (fun w'=>name_c n w' hn)
 have HK2:=Lib.hid (fun w' (hm' : ML w')=>host_c h w' hm' (by omega))
 have HK3:=Lib.hid (fun w'=>plain_c r w' (by omega))
 obtain ⟨v,hv⟩ : ∃ v,checkA n.data.toList h.data.toList r.data.toList=v:=⟨_,rfl⟩
 rw [hv] at HX ⊢
 clear hv
 generalize nameL n.data.toList=b1 at HX HK1
 generalize hostP h.data.toList=b2 at HX HK2
 generalize plainL r.data.toList=b3 at HX HK3
 go_enter Tryz.func113,Tryz.ntmps113
 go_wp2_with fail
 refine wp_loop_rounds 4 ?_
 rw [rounds_succ]
 go_wp2
 go_region_held3 (fun w'=>Below w.heap.size w w'∧w.heap.size + 1 < w'.heap.size∧w'.cell? ⟨w.heap.size,0,none⟩=some (.string n)∧w'.cell? ⟨w.heap.size,1,none⟩=some (.string h)∧w'.cell? ⟨w.heap.size,2,none⟩=some (.string r)∧w'.cell? ⟨w.heap.size + 1,0,none⟩=some (.int .i64 16)∧w'.cell? ⟨w.heap.size + 1,1,none⟩=some (.int .i64 16)∧w'.cell? ⟨w.heap.size + 1,2,none⟩=some (.int .i64 12)) (first | assumption | (obtain ⟨hx0,hx1,hx2⟩:=(‹Below w.heap.size w _∧w.heap.size + 1 < _∧_›);have hxa:=Nat.lt_of_succ_lt hx1;obtain ⟨hc1,_⟩:=bcell hb1;exact ⟨below_then hx0 hb1,Nat.lt_of_lt_of_le hx1 hb1.size,by simp only [hc1,hx1,hxa];exact hx2⟩) | (refine ⟨bel_,by first | assumption | (simp;done) | omega,?_⟩;go_keep)) (first | (go_at_call 119;(with_reducible refine (parts_c _ _ _ _).mono ?_);rintro e w' ⟨rfl,hb1⟩))
 obtain ⟨hy0,hy1,hy2⟩:=(‹Below w.heap.size w _∧w.heap.size + 1 < _∧_›)
 go_wp2
 ·have e:=HX.out
  rw [if_pos (by simp;omega)] at e
  go_ret
  exact ⟨by rw [e];rfl,bel_⟩
 rw [rounds_succ]
 go_wp2
 go_region_held3 (fun w'=>Below w.heap.size w w'∧w.heap.size + 1 < w'.heap.size∧w'.cell? ⟨w.heap.size,0,none⟩=some (.string n)∧w'.cell? ⟨w.heap.size,1,none⟩=some (.string h)∧w'.cell? ⟨w.heap.size,2,none⟩=some (.string r)∧w'.cell? ⟨w.heap.size + 1,0,none⟩=some (.int .i64 16)∧w'.cell? ⟨w.heap.size + 1,1,none⟩=some (.int .i64 16)∧w'.cell? ⟨w.heap.size + 1,2,none⟩=some (.int .i64 12)) (first | assumption | (obtain ⟨hx0,hx1,hx2⟩:=(‹Below w.heap.size w _∧w.heap.size + 1 < _∧_›);have hxa:=Nat.lt_of_succ_lt hx1;obtain ⟨hc1,_⟩:=bcell hb1;exact ⟨below_then hx0 hb1,Nat.lt_of_lt_of_le hx1 hb1.size,by simp only [hc1,hx1,hxa];exact hx2⟩) | (refine ⟨bel_,by first | assumption | (simp;done) | omega,?_⟩;go_keep)) (first | (go_at_call 119;(with_reducible refine (parts_c _ _ _ _).mono ?_);rintro e w' ⟨rfl,hb1⟩))
 clear hy0 hy1 hy2
 obtain ⟨hy0,hy1,hy2⟩:=(‹Below w.heap.size w _∧w.heap.size + 1 < _∧_›)
 go_wp2
 ·have e:=HX.out
  rw [if_pos (by simp;omega)] at e
  go_ret
  exact ⟨by rw [e];rfl,bel_⟩
 rw [rounds_succ]
 go_wp2
 go_region_held3 (fun w'=>Below w.heap.size w w'∧w.heap.size + 1 < w'.heap.size∧w'.cell? ⟨w.heap.size,0,none⟩=some (.string n)∧w'.cell? ⟨w.heap.size,1,none⟩=some (.string h)∧w'.cell? ⟨w.heap.size,2,none⟩=some (.string r)∧w'.cell? ⟨w.heap.size + 1,0,none⟩=some (.int .i64 16)∧w'.cell? ⟨w.heap.size + 1,1,none⟩=some (.int .i64 16)∧w'.cell? ⟨w.heap.size + 1,2,none⟩=some (.int .i64 12)) (first | assumption | (obtain ⟨hx0,hx1,hx2⟩:=(‹Below w.heap.size w _∧w.heap.size + 1 < _∧_›);have hxa:=Nat.lt_of_succ_lt hx1;obtain ⟨hc1,_⟩:=bcell hb1;exact ⟨below_then hx0 hb1,Nat.lt_of_lt_of_le hx1 hb1.size,by simp only [hc1,hx1,hxa];exact hx2⟩) | (refine ⟨bel_,by first | assumption | (simp;done) | omega,?_⟩;go_keep)) (first | (go_at_call 119;(with_reducible refine (parts_c _ _ _ _).mono ?_);rintro e w' ⟨rfl,hb1⟩))
 clear hy0 hy1 hy2
 obtain ⟨hy0,hy1,hy2⟩:=(‹Below w.heap.size w _∧w.heap.size + 1 < _∧_›)
 go_wp2
 ·have e:=HX.out
  rw [if_pos (by simp;omega)] at e
  go_ret
  exact ⟨by rw [e];rfl,bel_⟩
 rw [rounds_succ]
 obtain ⟨c0,c1,c2,_⟩:=hy2
 have hxa:=Nat.lt_of_succ_lt hy1
 clear x0 x1 x2 hb1
 go_wp2_with (first | ((go_at_call 120;(with_reducible refine (HK1.out _).mono ?_);rintro e w1 ⟨rfl,hcb1⟩;obtain ⟨hcc1,hcf1⟩:=bcell hcb1;have hcz1:=hcb1.size;have hcB1:Below w.heap.size w w1:=below_then bel_ hcb1);have hxb:=Nat.lt_of_lt_of_le hxa hcz1) | ((go_at_call 121;(with_reducible refine (HK2.out _ (hm.then (by assumption))).mono ?_);rintro e w2 ⟨rfl,hcb2⟩;obtain ⟨hcc2,hcf2⟩:=bcell hcb2;have hcz2:=hcb2.size;have hcB2:Below w.heap.size w w2:=below_then bel_ hcb2);have hxc:=Nat.lt_of_lt_of_le hxb hcz2) | (go_at_call 75;(with_reducible refine (HK3.out _).mono ?_);rintro e w3 ⟨rfl,hcb3⟩;obtain ⟨hcc3,hcf3⟩:=bcell hcb3;have hcz3:=hcb3.size;have hcB3:Below w.heap.size w w3:=below_then bel_ hcb3))
 all_goals (have e:=HX.out)
 all_goals (go_ret;refine ⟨?_,bel_⟩)
 all_goals (refine ret_i ?_;rw [e])
 all_goals (have z1:¬ 16 < n.size:=by omega)
 all_goals (have z2:¬ 16 < h.size:=by omega)
 all_goals (have z3:¬ 12 < r.size:=by omega)
 all_goals (clear HX HK1 HK2 HK3 e;first | (simp [*];done) | grind)
end Go.Proofs.YtpkodpcfafipdaaGreatDoor

namespace Go.Proofs.YtpkodpcfafipdaaGreatDoor
open Go.RowKit
theorem same_mono {P:Program} {f:FuncId} {args:Array Value} {w:World} {v:Value} (h:Calls P f args w fun e w'=>e=.returned v∧w=w'):Calls P f args w (Ret w v) :=
 h.mono fun _ _ h=>⟨h.1,h.2 ▸ Below.refl _ _⟩
set_option maxRecDepth 100000 in
set_option maxHeartbeats 2000000 in
theorem refCheck_c (n h r:ByteArray) (w:World) (hn:n.size≤100000) (hh:h.size≤100000) (hr:r.size≤100000) :
  Calls Tryz.prog 117 #[.agg #[.string n,.string h,.string r]] w (Ret w (.int .i64 (checkA n.data.toList h.data.toList r.data.toList))):=by
 have HX:=Lib.hid (checkA_bytes n h r)
 have HK1:=Lib.hid (fun w'=>refName_c n w' hn)
 have HK2:=Lib.hid (fun w'=>same_mono (refHost_c h w' (by omega)))
 have hk3:=(fun w'=>refPlain_c r w' (by omega))
 rw [plain_same] at hk3
 have HK3:=Lib.hid hk3
 clear hk3
 have hsame:h.toList.isEmpty=false→hostR h.data.toList=hostP h.data.toList:=fun he=>host_same _ (by intro h0;rw [← isEmpty_bl,h0] at he;exact absurd he (by simp))
 obtain ⟨v,hv⟩ : ∃ v,checkA n.data.toList h.data.toList r.data.toList=v:=⟨_,rfl⟩
 rw [hv] at HX ⊢
 clear hv
 generalize nameL n.data.toList=b1 at HX HK1
 generalize hostP h.data.toList=b2 at HX hsame
 generalize hostR h.data.toList=b4 at HK2 hsame
 generalize plainL r.data.toList=b3 at HX HK3
 have HSM:=Lib.hid hsame
 clear hsame
 go_enter Tryz.func117,Tryz.ntmps117
 go_wp2_with (first | ((go_at_call 124;(with_reducible refine (HK1.out _).mono ?_);rintro e w1 ⟨rfl,hcb1⟩;obtain ⟨hcc1,hcf1⟩:=bcell hcb1;have hcz1:=hcb1.size;have hcB1:Below w.heap.size w w1:=below_then bel_ hcb1);have hxb:w.heap.size < w1.heap.size:=by (have q:=hcz1;rw [World.size_alloc] at q;omega)) | ((go_at_call 125;(with_reducible refine (HK2.out _).mono ?_);rintro e w2 ⟨rfl,hcb2⟩;obtain ⟨hcc2,hcf2⟩:=bcell hcb2;have hcz2:=hcb2.size;have hcB2:Below w.heap.size w w2:=below_then bel_ hcb2);have hxc:=Nat.lt_of_lt_of_le hxb hcz2) | (go_at_call 83;(with_reducible refine (HK3.out _).mono ?_);rintro e w3 ⟨rfl,hcb3⟩;obtain ⟨hcc3,hcf3⟩:=bcell hcb3;have hcz3:=hcb3.size;have hcB3:Below w.heap.size w w3:=below_then bel_ hcb3))
 all_goals (have e:=HX.out;have e4:=HSM.out)
 all_goals (go_ret;refine ⟨?_,bel_⟩)
 all_goals (refine ret_i ?_;rw [e])
 all_goals (clear HX HK1 HK2 HK3 HSM e)
 all_goals first | (simp [*];done) | grind
end Go.Proofs.YtpkodpcfafipdaaGreatDoor

namespace Go.Proofs.YtpkodpcfafipdaaGreatDoor
open Go.RowKit
theorem findL_cons (b c:UInt8) (l:List UInt8):findL (b :: l) c=if (b == c)=true then 0 else findL l c + 1:=by
 unfold findL
 rw [List.findIdx_cons]
 cases (b == c) <;> rfl
theorem findL_le (l:List UInt8) (c:UInt8):findL l c≤l.length:=List.findIdx_le_length
theorem byte_find:∀ (l:List UInt8) (c:UInt8),Lib.indexByte l c=if findL l c < l.length then (findL l c:Int) else -1
 | [],c=>rfl
 | b :: l,c=>by
  have ih:=byte_find l c
  have hle:=findL_le l c
  rw [findL_cons]
  unfold Lib.indexByte
  rw [ih]
  cases (b == c) with
  | true=>simp
  | false =>
   by_cases h:findL l c < l.length
   ·simp [h]
   ·simp [h]
theorem cut_one (l:List UInt8) (c:UInt8):Lib.cut l [c]=(l.take (findL l c),l.drop (findL l c + 1),decide (findL l c < l.length)):=by
 unfold Lib.cut
 rw [Lib.index_one,byte_find]
 have hle:=findL_le l c
 by_cases h:findL l c < l.length
 ·simp [h]
 ·have e:findL l c=l.length:=by omega
  rw [if_neg h,if_neg (by omega),e]
  simp
theorem cut_c (s:ByteArray) (c:UInt8) (w:World) (hm:ML w) (hs:s.size≤1000000) :
  Calls Tryz.prog 111 #[.string s,.string ⟨#[c]⟩] w (Ret w (.tuple #[.string (ba (s.data.toList.take (findL s.data.toList c))),.string (ba (s.data.toList.drop (findL s.data.toList c + 1))),.bool (decide (findL s.data.toList c < s.data.toList.length))])):=by
 obtain ⟨_,m,hm⟩:=hm
 refine (Tryz.strings_Cut s ⟨#[c]⟩ m w (by omega) hm).mono ?_
 rintro e w' ⟨rfl,n,rfl⟩
 have hc:=cut_one s.data.toList c
 refine ⟨?_,below_drewN (Below.refl _ _) _⟩
 show Ending.returned (.tuple #[.string ⟨(Lib.cut s.data.toList [c]).1.toArray⟩,.string ⟨(Lib.cut s.data.toList [c]).2.1.toArray⟩,.bool (Lib.cut s.data.toList [c]).2.2])=_
 rw [hc]
 rfl
end Go.Proofs.YtpkodpcfafipdaaGreatDoor

namespace Go.Proofs.YtpkodpcfafipdaaGreatDoor
open Go.RowKit
structure ParseD where
 own:List UInt8
 place:List UInt8
 res:List UInt8
 err:Int
def ParseD.val (x:ParseD):Value:=.tuple #[.agg #[.string (ba x.own),.string (ba x.place),.string (ba x.res)],.int .i64 x.err]
def frontL (l:List UInt8):List UInt8:=(l.take (findL l 47)).map lowC
def ownL (l:List UInt8):List UInt8:=(frontL l).take (findL (frontL l) 64)
def placeL (l:List UInt8):List UInt8:=(frontL l).drop (findL (frontL l) 64 + 1)
def tailR (l:List UInt8):List UInt8:=l.drop (findL l 47 + 1)
def parseL (l:List UInt8):ParseD :=
 if (!decide (findL (frontL l) 64 < (frontL l).length) || (decide (findL l 47 < l.length) && (tailR l).isEmpty))=true then ⟨[],[],[],4⟩
 else if checkA (ownL l) (placeL l) (tailR l)=0 then ⟨ownL l,placeL l,tailR l,0⟩ else ⟨[],[],[],checkA (ownL l) (placeL l) (tailR l)⟩
theorem lowB_ba (l:List UInt8):lowB (ba l)=ba (l.map lowC):=bl_inj (by rw [lowB_list,ba_list,ba_list])
theorem find_small (l:List UInt8) (h:l.length≤100000):(frontL l).length≤100000∧(ownL l).length≤100000∧(placeL l).length≤100000∧(tailR l).length≤100000:=by
 have h1:(frontL l).length≤l.length:=by unfold frontL;simp;omega
 refine ⟨by omega,?_,?_,?_⟩
 ·unfold ownL;simp;omega
 ·unfold placeL;simp;omega
 ·unfold tailR;simp;omega
theorem empty_ba (l:List UInt8):(ba l).toList.isEmpty=l.isEmpty:=by rw [ByteArray.toList_eq,ba_list]
set_option maxRecDepth 100000 in
set_option maxHeartbeats 2000000 in
theorem parse_c (s : ByteArray) (w : World) (hm : ML w) (hs : s.size ≤ 100000) :
    Calls Tryz.prog 103 #[.string s] w (Ret w (parseL s.data.toList).val) := by
  have hlen := bl_len s
  obtain ⟨l, hl⟩ : ∃ l, s.data.toList = l := ⟨_, rfl⟩
  have hll : l.length ≤ 100000 := by rw [← hl, hlen]; exact hs
  obtain ⟨z1, z2, z3, z4⟩ := find_small l hll
  have k1 := fun w' (hm' : ML w') => cut_c s 47 w' hm' (by omega)
  have k2 := fun w' => low_c (ba (l.take (findL l 47))) w' (by rw [ba_size]; simp; omega)
  have k3 := fun w' (hm' : ML w') => cut_c (ba (frontL l)) 64 w' hm' (by rw [ba_size]; omega)
  have k4 := fun w' (hm' : ML w') => check_c (ba (ownL l)) (ba (placeL l)) (ba (tailR l)) w' hm' (by rw [ba_size]; omega) (by rw [ba_size]; omega) (by rw [ba_size]; omega)
  rw [hl] at k1 ⊢
  rw [lowB_ba] at k2
  simp only [ba_list] at k3 k4
  have k1' : ∀ w', ML w' → Calls Tryz.prog 111 #[.string s, .string ⟨#[47]⟩] w' (Ret w' (.tuple #[.string (ba (l.take (findL l 47))), .string (ba (tailR l)), .bool (decide (findL l 47 < l.length))])) := k1
  have k2' : ∀ w', Calls Tryz.prog 112 #[.string (ba (l.take (findL l 47)))] w' (Ret w' (.string (ba (frontL l)))) := k2
  have k3' : ∀ w', ML w' → Calls Tryz.prog 111 #[.string (ba (frontL l)), .string ⟨#[64]⟩] w' (Ret w' (.tuple #[.string (ba (ownL l)), .string (ba (placeL l)), .bool (decide (findL (frontL l) 64 < (frontL l).length))])) := k3
  have he := empty_ba (tailR l)
  obtain ⟨p, hp⟩ : ∃ p, parseL l = p := ⟨_, rfl⟩
  have hx := hp
  unfold parseL at hx
  rw [← he] at hx
  rw [hp]
  clear k1 k2 k3 hp hl hlen hll z1 z2 z3 z4 he
  generalize ownL l = O at *
  generalize placeL l = H at *
  generalize tailR l = R at *
  generalize ba (l.take (findL l 47)) = F at *
  generalize checkA O H R = v at *
  generalize ba (frontL l) = G at *
  generalize decide (findL l 47 < l.length) = sl at *
  generalize decide (findL (frontL l) 64 < (frontL l).length) = ha at *
  have K1 := Lib.hid k1'
  have K2 := Lib.hid k2'
  have K3 := Lib.hid k3'
  have K4 := Lib.hid k4
  have HX := Lib.hid hx
  clear k1' k2' k3' k4 hx
  go_enter Tryz.func103, Tryz.ntmps103
  go_wp2_with (first | ((go_at_call 111; (with_reducible refine (K1.out _ (hm.then bel_)).mono ?_); rintro e w1 ⟨rfl, hcb1⟩; obtain ⟨hcc1, hcf1⟩ := bcell hcb1; have hcz1 := hcb1.size; have hcB1 : Below w.heap.size w w1 := below_then bel_ hcb1); have hl1 : w.heap.size < w1.heap.size := Nat.lt_of_lt_of_le (by rw [World.size_alloc]; exact Nat.lt_succ_self _) hcz1) | ((go_at_call 112; (with_reducible refine (K2.out _).mono ?_); rintro e w2 ⟨rfl, hcb2⟩; obtain ⟨hcc2, hcf2⟩ := bcell hcb2; have hcz2 := hcb2.size; have hcB2 : Below w.heap.size w w2 := below_then bel_ hcb2); have hl2 := Nat.lt_of_lt_of_le hl1 hcz2) | ((go_at_call 111; (with_reducible refine (K3.out _ (hm.then bel_)).mono ?_); rintro e w3 ⟨rfl, hcb3⟩; obtain ⟨hcc3, hcf3⟩ := bcell hcb3; have hcz3 := hcb3.size; have hcB3 : Below w.heap.size w w3 := below_then bel_ hcb3); have hl3 := Nat.lt_of_lt_of_le hl2 hcz3; have hl3' := Nat.lt_succ_of_lt hl3) | ((go_at_call 113; (with_reducible refine (K4.out _ (hm.then bel_)).mono ?_); rintro e w4 ⟨rfl, hcb4⟩; obtain ⟨hcc4, hcf4⟩ := bcell hcb4; have hcz4 := hcb4.size; have hcB4 : Below w.heap.size w w4 := below_then bel_ hcb4); have hl4 := Nat.lt_of_lt_of_le hl3' (by rw [World.size_alloc] at hcz4; exact hcz4)))
  all_goals (have e := HX.out; clear HX K1 K2 K3 K4)
  all_goals first
    | (have e2 : p = ⟨[], [], [], 4⟩ := by (rw [← e]; clear e; first | (simp [*]; done) | grind)
       refine bodyPost_ret (v := .tuple #[.agg #[.string ⟨#[]⟩, .string ⟨#[]⟩, .string ⟨#[]⟩], .int .i64 4]) (by simp [results, Tryz.results103, go_sem, *]) rfl ⟨by rw [e2]; rfl, bel_⟩)
    | (have e2 : p = ⟨[], [], [], v⟩ := by (rw [← e]; clear e; first | (simp [*]; done) | grind)
       refine bodyPost_ret (v := .tuple #[.agg #[.string ⟨#[]⟩, .string ⟨#[]⟩, .string ⟨#[]⟩], .int .i64 v]) (by simp [results, Tryz.results103, go_sem, *]) rfl ⟨by rw [e2]; rfl, bel_⟩)
    | (have e2 : p = ⟨O, H, R, 0⟩ := by (rw [← e]; clear e; first | (simp [*]; done) | grind)
       refine bodyPost_ret (v := .tuple #[.agg #[.string (ba O), .string (ba H), .string (ba R)], .int .i64 0]) (by simp [results, Tryz.results103, go_sem, *]) rfl ⟨by rw [e2]; rfl, bel_⟩)
end Go.Proofs.YtpkodpcfafipdaaGreatDoor

namespace Go.Proofs.YtpkodpcfafipdaaGreatDoor
open Go.RowKit
theorem cut_take (s:ByteArray) (k:Nat):s.extract 0 k=ba (s.data.toList.take k):=by
 apply bl_inj
 rw [ba_list,Lib.extract_eq]
 simp
theorem cut_drop (s:ByteArray) (k:Nat):s.extract k s.size=ba (s.data.toList.drop k):=by
 apply bl_inj
 rw [ba_list,Lib.extract_eq,List.take_of_length_le (by rw [List.length_drop,bl_len];exact Nat.le_refl _)]
set_option maxRecDepth 100000 in
set_option maxHeartbeats 2000000 in
theorem refParse_c (s : ByteArray) (w : World) (hs : s.size ≤ 100000) :
    Calls Tryz.prog 106 #[.string s] w (Ret w (parseL s.data.toList).val) := by
  have hlen := bl_len s
  obtain ⟨l, hl⟩ : ∃ l, s.data.toList = l := ⟨_, rfl⟩
  have hll : l.length ≤ 100000 := by rw [← hl, hlen]; exact hs
  obtain ⟨z1, z2, z3, z4⟩ := find_small l hll
  have k1 := fun w' => same_mono (find_c s 47 w' (by omega))
  have k2 := fun w' => refLow_c (ba (l.take (findL l 47))) w' (by rw [ba_size]; simp; omega)
  have k3 := fun w' => same_mono (find_c (ba (frontL l)) 64 w' (by rw [ba_size]; omega))
  have k4 := fun w' => refCheck_c (ba (ownL l)) (ba (placeL l)) (ba (tailR l)) w' (by rw [ba_size]; omega) (by rw [ba_size]; omega) (by rw [ba_size]; omega)
  rw [hl] at k1 ⊢
  rw [lowB_ba] at k2
  simp only [ba_list] at k3 k4
  have e1 : s.extract 0 (findL l 47) = ba (l.take (findL l 47)) := by rw [cut_take, hl]
  have e2 : s.extract (findL l 47 + 1) s.size = ba (tailR l) := by rw [cut_drop, hl]; rfl
  have e3 : (ba (frontL l)).extract 0 (findL (frontL l) 64) = ba (ownL l) := by rw [cut_take, ba_list]; rfl
  have e4 : (ba (frontL l)).extract (findL (frontL l) 64 + 1) (ba (frontL l)).size = ba (placeL l) := by rw [cut_drop, ba_list]; rfl
  have k1' : ∀ w', Calls Tryz.prog 115 #[.string s, .int .u8 47] w' (Ret w' (.int .i64 (findL l 47))) := k1
  have k3' : ∀ w', Calls Tryz.prog 115 #[.string (ba (frontL l)), .int .u8 64] w' (Ret w' (.int .i64 (findL (frontL l) 64))) := k3
  have k2' : ∀ w', Calls Tryz.prog 116 #[.string (ba (l.take (findL l 47)))] w' (Ret w' (.string (ba (frontL l)))) := k2
  have g1 : findL l 47 ≤ s.size := by have := findL_le l 47; rw [← hlen, hl]; exact this
  have g2 : findL (frontL l) 64 ≤ (ba (frontL l)).size := by rw [ba_size]; exact findL_le _ _
  have g7 : (ba (frontL l)).size ≤ 100000 := by rw [ba_size]; exact z1
  have g3 : l.length = s.size := by rw [← hl, hlen]
  have g4 : (frontL l).length = (ba (frontL l)).size := (ba_size _).symm
  have g5 : (tailR l).isEmpty = decide (s.size ≤ findL l 47 + 1) := by
    rw [Bool.eq_iff_iff, List.isEmpty_iff_length_eq_zero, decide_eq_true_eq]
    unfold tailR; rw [List.length_drop, g3]; omega
  obtain ⟨p, hp⟩ : ∃ p, parseL l = p := ⟨_, rfl⟩
  have hx := hp
  unfold parseL at hx
  rw [g3, g4, g5] at hx
  have g6 : s.size ≤ findL l 47 → tailR l = [] := fun h => by unfold tailR; exact List.drop_eq_nil_of_le (by rw [g3]; omega)
  rw [hp]
  clear k1 k2 k3 hp hl hlen hll z1 z2 z3 z4 g3 g4 g5
  generalize ownL l = O at *
  generalize placeL l = H at *
  generalize tailR l = R at *
  generalize ba (l.take (findL l 47)) = F at *
  generalize checkA O H R = v at *
  generalize findL (frontL l) 64 = j at *
  generalize ba (frontL l) = G at *
  generalize findL l 47 = k at *
  have K1 := Lib.hid k1'
  have K2 := Lib.hid k2'
  have K3 := Lib.hid k3'
  have K4 := Lib.hid k4
  have HX := Lib.hid hx
  have HR := Lib.hid g6
  clear k1' k2' k3' k4 hx g6
  go_enter Tryz.func106, Tryz.ntmps106
  go_wp2_with (first | ((go_at_call 115; (with_reducible refine (K1.out _).mono ?_); rintro e w1 ⟨rfl, hcb1⟩; obtain ⟨hcc1, hcf1⟩ := bcell hcb1; have hcz1 := hcb1.size; have hcB1 : Below w.heap.size w w1 := below_then bel_ hcb1); have hl1 : w.heap.size < w1.heap.size := Nat.lt_of_lt_of_le (by rw [World.size_alloc]; exact Nat.lt_succ_self _) hcz1) | ((go_at_call 116; (with_reducible refine (K2.out _).mono ?_); rintro e w2 ⟨rfl, hcb2⟩; obtain ⟨hcc2, hcf2⟩ := bcell hcb2; have hcz2 := hcb2.size; have hcB2 : Below w.heap.size w w2 := below_then bel_ hcb2); have hl2 := Nat.lt_of_lt_of_le hl1 hcz2) | ((go_at_call 115; (with_reducible refine (K3.out _).mono ?_); rintro e w3 ⟨rfl, hcb3⟩; obtain ⟨hcc3, hcf3⟩ := bcell hcb3; have hcz3 := hcb3.size; have hcB3 : Below w.heap.size w w3 := below_then bel_ hcb3); have hl3 := Nat.lt_of_lt_of_le hl2 hcz3; have hl3' := Nat.lt_succ_of_lt hl3) | ((go_at_call 117; (with_reducible refine (K4.out _).mono ?_); rintro e w4 ⟨rfl, hcb4⟩; obtain ⟨hcc4, hcf4⟩ := bcell hcb4; have hcz4 := hcb4.size; have hcB4 : Below w.heap.size w w4 := below_then bel_ hcb4); have hl4 := Nat.lt_of_lt_of_le hl3' (by rw [World.size_alloc] at hcz4; exact hcz4)))
  rotate_left 2
  have q1 : IntKind.i64.wrap ((j : Int) + 1) = (j : Int) + 1 := IntWalk.i64_in _ (by omega)
  have q2 : (0 : Int) ≤ (j : Int) + 1 := by omega
  have q3 : ((j : Int) + 1).toNat = j + 1 := by omega
  · go_region
    clear q1 q2 q3
    by_cases hk : k < s.size
    · have K4' := K4.out
      clear K4 HR
      go_wp2_with (first | (have hq5 := hl4; (go_at_call 117; (with_reducible refine (K4' _).mono ?_); rintro e w5 ⟨rfl, hcb5⟩; obtain ⟨hcc5, hcf5⟩ := bcell hcb5; have hcz5 := hcb5.size; have hcB5 : Below w.heap.size w w5 := below_then bel_ hcb5); have hl5 := Nat.lt_of_lt_of_le hl4 hcz5) | ((go_at_call 117; (with_reducible refine (K4' _).mono ?_); rintro e w4 ⟨rfl, hcb4⟩; obtain ⟨hcc4, hcf4⟩ := bcell hcb4; have hcz4 := hcb4.size; have hcB4 : Below w.heap.size w w4 := below_then bel_ hcb4); have hl4 := Nat.lt_of_lt_of_le hl3' (by rw [World.size_drew, World.size_alloc] at hcz4; exact hcz4)))
      all_goals (have e := HX.out; clear HX K1 K2 K3)
      all_goals first
        | (have e9 : p = ⟨[], [], [], 4⟩ := by (rw [← e]; clear e; first | (simp [*]; done) | grind)
           refine bodyPost_ret (v := .tuple #[.agg #[.string ⟨#[]⟩, .string ⟨#[]⟩, .string ⟨#[]⟩], .int .i64 4]) (by simp [results, Tryz.results106, go_sem, *]) rfl ⟨by rw [e9]; rfl, bel_⟩)
        | (have e9 : p = ⟨[], [], [], v⟩ := by (rw [← e]; clear e; first | (simp [*]; done) | grind)
           refine bodyPost_ret (v := .tuple #[.agg #[.string ⟨#[]⟩, .string ⟨#[]⟩, .string ⟨#[]⟩], .int .i64 v]) (by simp [results, Tryz.results106, go_sem, *]) rfl ⟨by rw [e9]; rfl, bel_⟩)
        | (have e9 : p = ⟨O, H, R, 0⟩ := by (rw [← e]; clear e; first | (simp [*]; done) | grind)
           refine bodyPost_ret (v := .tuple #[.agg #[.string (ba O), .string (ba H), .string (ba R)], .int .i64 0]) (by simp [results, Tryz.results106, go_sem, *]) rfl ⟨by rw [e9]; rfl, bel_⟩)
    · have hR := HR.out (by omega)
      subst hR
      have K4' : ∀ w', Calls Tryz.prog 117 #[.agg #[.string (ba O), .string (ba H), .string ⟨#[]⟩]] w' (Ret w' (.int .i64 v)) := K4.out
      clear K4 HR
      go_wp2_with (first | (have hq5 := hl4; (go_at_call 117; (with_reducible refine (K4' _).mono ?_); rintro e w5 ⟨rfl, hcb5⟩; obtain ⟨hcc5, hcf5⟩ := bcell hcb5; have hcz5 := hcb5.size; have hcB5 : Below w.heap.size w w5 := below_then bel_ hcb5); have hl5 := Nat.lt_of_lt_of_le hl4 hcz5) | ((go_at_call 117; (with_reducible refine (K4' _).mono ?_); rintro e w4 ⟨rfl, hcb4⟩; obtain ⟨hcc4, hcf4⟩ := bcell hcb4; have hcz4 := hcb4.size; have hcB4 : Below w.heap.size w w4 := below_then bel_ hcb4); have hl4 := Nat.lt_of_lt_of_le hl3' (by rw [World.size_drew, World.size_alloc] at hcz4; exact hcz4)))
      all_goals (have e := HX.out; clear HX K1 K2 K3)
      all_goals first
        | (have e9 : p = ⟨[], [], [], 4⟩ := by (rw [← e]; clear e; first | (simp [*]; done) | grind)
           refine bodyPost_ret (v := .tuple #[.agg #[.string ⟨#[]⟩, .string ⟨#[]⟩, .string ⟨#[]⟩], .int .i64 4]) (by simp [results, Tryz.results106, go_sem, *]) rfl ⟨by rw [e9]; rfl, bel_⟩)
        | (have e9 : p = ⟨[], [], [], v⟩ := by (rw [← e]; clear e; first | (simp [*]; done) | grind)
           refine bodyPost_ret (v := .tuple #[.agg #[.string ⟨#[]⟩, .string ⟨#[]⟩, .string ⟨#[]⟩], .int .i64 v]) (by simp [results, Tryz.results106, go_sem, *]) rfl ⟨by rw [e9]; rfl, bel_⟩)
        | (have e9 : p = ⟨O, H, [], 0⟩ := by (rw [← e]; clear e; first | (simp [*]; done) | grind)
           refine bodyPost_ret (v := .tuple #[.agg #[.string (ba O), .string (ba H), .string ⟨#[]⟩], .int .i64 0]) (by simp [results, Tryz.results106, go_sem, *]) rfl ⟨by rw [e9]; rfl, bel_⟩)
  all_goals (have e := HX.out; clear HX K1 K2 K3)
  all_goals first
    | (have e9 : p = ⟨[], [], [], 4⟩ := by (rw [← e]; clear e; first | (simp [*]; done) | grind)
       refine bodyPost_ret (v := .tuple #[.agg #[.string ⟨#[]⟩, .string ⟨#[]⟩, .string ⟨#[]⟩], .int .i64 4]) (by simp [results, Tryz.results106, go_sem, *]) rfl ⟨by rw [e9]; rfl, bel_⟩)
end Go.Proofs.YtpkodpcfafipdaaGreatDoor

namespace Go.Proofs.YtpkodpcfafipdaaGreatDoor
open Go.RowKit
theorem ba_app (a b:List UInt8):ba a++ba b=ba (a++b):=by
 apply bl_inj
 simp [ba_list]
def textL (n h r:List UInt8):List UInt8:=if r.isEmpty=true then n++[64]++h else n++[64]++h++[47]++r
set_option maxHeartbeats 1000000 in
theorem text_c (n h r:List UInt8) (w:World) (hn:n.length≤100000) (hh:h.length≤100000) (hr:r.length≤100000) :
  Calls Tryz.prog 104 #[.agg #[.string (ba n),.string (ba h),.string (ba r)]] w (Ret w (.string (ba (textL n h r)))):=by
 have he:=empty_ba r
 have z1:=ba_size n
 have z2:=ba_size h
 have z3:=ba_size r
 go_enter Tryz.func104,Tryz.ntmps104
 go_wp2
 all_goals (go_ret;refine ⟨ret_v (congrArg Value.string (bl_inj ?_)),bel_⟩)
 all_goals (rw [ba_list];unfold textL;simp_all [ba_list])
theorem parse_small (l:List UInt8) (h:l.length≤100000):(parseL l).own.length≤100000∧(parseL l).place.length≤100000∧(parseL l).res.length≤100000:=by
 obtain ⟨z1,z2,z3,z4⟩:=find_small l h
 unfold parseL
 split
 ·simp
 ·split
  ·exact ⟨z2,z3,z4⟩
  ·simp
def bareT (l:List UInt8):List UInt8:=if (parseL l).err=0 then textL (parseL l).own (parseL l).place [] else []
def bareV (l:List UInt8):Value:=.tuple #[.string (ba (bareT l)),.int .i64 (parseL l).err]
set_option maxHeartbeats 1000000 in
theorem bare_c (s:ByteArray) (w:World) (hm:ML w) (hs:s.size≤100000) :
  Calls Tryz.prog 96 #[.string s] w (Ret w (bareV s.data.toList)):=by
 have hlen:=bl_len s
 obtain ⟨l,hl⟩ : ∃ l,s.data.toList=l:=⟨_,rfl⟩
 obtain ⟨z1,z2,z3⟩:=parse_small l (by rw [← hl,hlen];exact hs)
 have k1:=fun w' (hm' : ML w')=>parse_c s w' hm' hs
 have k2:=fun w'=>text_c (parseL l).own (parseL l).place [] w' z1 z2 (by simp)
 rw [hl] at k1 ⊢
 unfold bareV bareT
 obtain ⟨⟨O,H,R,v⟩,hp⟩ : ∃ p,parseL l=p:=⟨_,rfl⟩
 rw [hp] at k1 k2 ⊢
 generalize textL O H []=T at k2 ⊢
 have k1' : ∀ w',ML w'→Calls Tryz.prog 103 #[.string s] w' (Ret w' (.tuple #[.agg #[.string (ba O),.string (ba H),.string (ba R)],.int .i64 v])):=k1
 have k2' : ∀ w',Calls Tryz.prog 104 #[.agg #[.string (ba O),.string (ba H),.string ⟨#[]⟩]] w' (Ret w' (.string (ba T))):=k2
 clear k1 k2 hp hl z1 z2 z3 hlen
 have K1:=Lib.hid k1'
 have K2:=Lib.hid k2'
 clear k1' k2'
 go_enter Tryz.func96,Tryz.ntmps96
 go_wp2_with (first | (go_at_call 103;(with_reducible refine (K1.out _ hm).mono ?_);rintro e w1 ⟨rfl,hcb1⟩;obtain ⟨hcc1,hcf1⟩:=bcell hcb1;have hcz1:=hcb1.size;have hcB1:Below w.heap.size w w1:=below_then bel_ hcb1) | (go_at_call 104;(with_reducible refine (K2.out _).mono ?_);rintro e w2 ⟨rfl,hcb2⟩;obtain ⟨hcc2,hcf2⟩:=bcell hcb2;have hcz2:=hcb2.size;have hcB2:Below w.heap.size w w2:=below_then bel_ hcb2))
 all_goals (go_ret2;refine ⟨ret_v ?_,bel_⟩)
 all_goals simp_all
 all_goals rfl
def isBareL (l:List UInt8):Bool:=decide ((parseL l).err=0) && (bareT l == l)
theorem isBare_bytes (s:ByteArray):isBareL s.data.toList=(decide ((parseL s.data.toList).err=0) && ((ba (bareT s.data.toList)).toList == s.toList)):=by
 unfold isBareL
 rw [ByteArray.toList_eq,ByteArray.toList_eq,ba_list]
set_option maxHeartbeats 1000000 in
theorem isBare_c (s:ByteArray) (w:World) (hm:ML w) (hs:s.size≤100000) :
  Calls Tryz.prog 76 #[.string s] w (Ret w (.bool (isBareL s.data.toList))):=by
 have k1:=bare_c s w hm hs
 rw [isBare_bytes]
 unfold bareV at k1
 generalize bareT s.data.toList=T at *
 generalize (parseL s.data.toList).err=v at *
 have K1:=Lib.hid k1
 clear k1
 go_enter Tryz.func76,Tryz.ntmps76
 go_wp2_with (go_at_call 96;(with_reducible refine (K1.out).mono ?_);rintro e w1 ⟨rfl,hcb1⟩;obtain ⟨hcc1,hcf1⟩:=bcell hcb1;have hcz1:=hcb1.size;have hcB1:Below w.heap.size w w1:=below_then bel_ hcb1)
 all_goals (go_ret;refine ⟨ret_b ?_,bel_⟩)
 all_goals simp_all
theorem checkA_nores {n h r:List UInt8} (e:checkA n h r=0):checkA n h []=0:=by
 unfold checkA at e ⊢
 split at e
 ·exact absurd e (by decide)
 ·next h1 =>
  split at e
  ·exact absurd e (by decide)
  ·next h2 =>
   split at e
   ·next h3 =>
    have hp:plainL []=true:=rfl
    simp only [Bool.and_eq_true] at h3
    rw [if_neg (by simp at h1 ⊢;exact h1.1),if_neg h2,if_pos (by simp [h3,hp])]
   ·exact absurd e (by decide)
theorem parse_ok {l:List UInt8} (h:(parseL l).err=0):checkA (parseL l).own (parseL l).place (parseL l).res=0:=by
 unfold parseL at h ⊢
 split at h
 ·exact absurd h (by decide)
 ·next h1 =>
  rw [if_neg h1]
  split at h
  ·next h2=>rw [if_pos h2];exact h2
  ·next h2=>exact absurd h h2
set_option maxHeartbeats 1000000 in
theorem refPrint_c (n h r:List UInt8) (w:World) (hn:n.length≤100000) (hh:h.length≤100000) (hr:r.length≤100000) :
  Calls Tryz.prog 107 #[.agg #[.string (ba n),.string (ba h),.string (ba r)]] w (Ret w (.tuple #[.string (ba (if checkA n h r=0 then textL n h r else [])),.int .i64 (checkA n h r)])):=by
 have he:=empty_ba r
 have z1:=ba_size n
 have z2:=ba_size h
 have z3:=ba_size r
 have k1:=fun w'=>refCheck_c (ba n) (ba h) (ba r) w' (by omega) (by omega) (by omega)
 simp only [ba_list] at k1
 obtain ⟨v,hv⟩ : ∃ v,checkA n h r=v:=⟨_,rfl⟩
 rw [hv] at k1 ⊢
 have K1:=Lib.hid k1
 clear k1 hv
 go_enter Tryz.func107,Tryz.ntmps107
 go_wp2_with (first | (have hq:=hl1;(go_at_call 117;(with_reducible refine (K1.out _).mono ?_);rintro e w2 ⟨rfl,hcb2⟩;obtain ⟨hcc2,hcf2⟩:=bcell hcb2;have hcz2:=hcb2.size;have hcB2:Below w.heap.size w w2:=below_then bel_ hcb2);have hl2:=Nat.lt_of_lt_of_le hl1 hcz2) | ((go_at_call 117;(with_reducible refine (K1.out _).mono ?_);rintro e w1 ⟨rfl,hcb1⟩;obtain ⟨hcc1,hcf1⟩:=bcell hcb1;have hcz1:=hcb1.size;have hcB1:Below w.heap.size w w1:=below_then bel_ hcb1);have hl1:w.heap.size < w1.heap.size:=Nat.lt_of_lt_of_le (by rw [World.size_alloc];exact Nat.lt_succ_self _) hcz1))
 all_goals (go_ret2;refine ⟨ret_v ?_,bel_⟩)
 all_goals (clear K1)
 all_goals (try unfold textL)
 all_goals simp_all
 all_goals first
  | rfl
  | (apply bl_inj;simp [ba_list])
end Go.Proofs.YtpkodpcfafipdaaGreatDoor

namespace Go.Proofs.YtpkodpcfafipdaaGreatDoor
open Go.RowKit
set_option maxHeartbeats 1000000 in
theorem refBare_c (s:ByteArray) (w:World) (hs:s.size≤100000) :
  Calls Tryz.prog 98 #[.string s] w (Ret w (bareV s.data.toList)):=by
 have hlen:=bl_len s
 obtain ⟨l,hl⟩ : ∃ l,s.data.toList=l:=⟨_,rfl⟩
 obtain ⟨z1,z2,z3⟩:=parse_small l (by rw [← hl,hlen];exact hs)
 have k1:=fun w'=>refParse_c s w' hs
 have k2:=fun w'=>refPrint_c (parseL l).own (parseL l).place [] w' z1 z2 (by simp)
 have hok:(parseL l).err=0→checkA (parseL l).own (parseL l).place []=0:=fun h=>checkA_nores (parse_ok h)
 rw [hl] at k1 ⊢
 unfold bareV bareT
 obtain ⟨⟨O,H,R,v⟩,hp⟩ : ∃ p,parseL l=p:=⟨_,rfl⟩
 rw [hp] at k1 k2 hok ⊢
 have k1' : ∀ w',Calls Tryz.prog 106 #[.string s] w' (Ret w' (.tuple #[.agg #[.string (ba O),.string (ba H),.string (ba R)],.int .i64 v])):=k1
 have k2' : ∀ w',v=0→Calls Tryz.prog 107 #[.agg #[.string (ba O),.string (ba H),.string ⟨#[]⟩]] w' (Ret w' (.tuple #[.string (ba (textL O H [])),.int .i64 0])):=by
  intro w' hv
  have:=k2 w'
  rw [hok hv] at this
  exact this
 generalize textL O H []=T at k2' ⊢
 clear k1 k2 hp hl z1 z2 z3 hlen hok
 have K1:=Lib.hid k1'
 have K2:=Lib.hid k2'
 clear k1' k2'
 by_cases hv:v=0
 ·subst hv
  go_enter Tryz.func98,Tryz.ntmps98
  have K3:=K2.out
  simp only [forall_const] at K3
  go_wp2_with (first | (go_at_call 106;(with_reducible refine (K1.out _).mono ?_);rintro e w1 ⟨rfl,hcb1⟩;obtain ⟨hcc1,hcf1⟩:=bcell hcb1;have hcz1:=hcb1.size;have hcB1:Below w.heap.size w w1:=below_then bel_ hcb1) | (go_at_call 107;(with_reducible refine (K3 _).mono ?_);rintro e w2 ⟨rfl,hcb2⟩;obtain ⟨hcc2,hcf2⟩:=bcell hcb2;have hcz2:=hcb2.size;have hcB2:Below w.heap.size w w2:=below_then bel_ hcb2))
  all_goals (go_ret2;refine ⟨ret_v ?_,bel_⟩)
  all_goals rfl
 ·have hv2:(v != 0)=true:=by simpa using hv
  go_enter Tryz.func98,Tryz.ntmps98
  go_wp2_with (first | (go_at_call 106;(with_reducible refine (K1.out _).mono ?_);rintro e w1 ⟨rfl,hcb1⟩;obtain ⟨hcc1,hcf1⟩:=bcell hcb1;have hcz1:=hcb1.size;have hcB1:Below w.heap.size w w1:=below_then bel_ hcb1))
  all_goals (go_ret2;refine ⟨ret_v ?_,bel_⟩)
  all_goals simp_all
  all_goals rfl
set_option maxHeartbeats 1000000 in
theorem refIsBare_c (s:ByteArray) (w:World) (hs:s.size≤100000) :
  Calls Tryz.prog 85 #[.string s] w (Ret w (.bool (isBareL s.data.toList))):=by
 have k1:=refBare_c s w hs
 rw [isBare_bytes]
 unfold bareV at k1
 generalize bareT s.data.toList=T at *
 generalize (parseL s.data.toList).err=v at *
 have K1:=Lib.hid k1
 clear k1
 go_enter Tryz.func85,Tryz.ntmps85
 go_wp2_with (go_at_call 98;(with_reducible refine (K1.out).mono ?_);rintro e w1 ⟨rfl,hcb1⟩;obtain ⟨hcc1,hcf1⟩:=bcell hcb1;have hcz1:=hcb1.size;have hcB1:Below w.heap.size w w1:=below_then bel_ hcb1)
 all_goals (go_ret;refine ⟨ret_b ?_,bel_⟩)
 all_goals simp_all
end Go.Proofs.YtpkodpcfafipdaaGreatDoor

