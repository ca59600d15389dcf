/- A part of the proof: 13 texts joined. -/
import Derived.Test.YtpmoioopjbfhkaaGreatWgA6
import Derived.Test.YtpmoioopjbfhkaaGreatWgA5
import Derived.Test.YtpmoioopjbfhkaaGreatWgA3
import Derived.Test.YtpmoioopjbfhkaaGreatWgA4
import Derived.KernelRfl
import Derived.Test.YtpmoioopjbfhkaaGreatWeA5
import Derived.Lib.AppendZerosOnto
import Derived.Lib.SliceRun
import Derived.Test.YtpmoioopjbfhkaaGreatWgA1
set_option linter.all false
namespace Go.Proofs.YtpmoioopjbfhkaaGreat
open Go.RowKit
theorem mem_items {s:RosterState} (hs:SortedC s.Items) (x:ItemItem) (v:Int) (it:ItemItem):it ∈ itemsR s x v ↔ (it ∈ s.Items∧it.Contact≠x.Contact)∨(idleI x=false∧it=verI x v):=by
 obtain ⟨hA,hB,hsub⟩:=split_c hs x.Contact
 unfold itemsR
 rw [idle_ver]
 simp only [List.mem_append]
 constructor
 ·rintro (g | g | g)
  ·refine .inl ⟨List.mem_of_mem_take g,fun e=>?_⟩
   have:=hA it g;rw [e,cmp_refl] at this;omega
  ·cases hid:idleI x with
   | true=>rw [hid] at g;cases g
   | false=>rw [hid] at g;exact .inr ⟨rfl,List.mem_singleton.1 g⟩
  ·refine .inl ⟨List.mem_of_mem_drop g,fun e=>?_⟩
   have:=hB it g;rw [e,cmp_refl] at this;omega
 ·rintro (⟨h1,h2⟩ | ⟨h1,h2⟩)
  ·obtain ⟨k,hk,rfl⟩:=List.getElem_of_mem h1
   rcases Nat.lt_trichotomy k (posC s.Items x.Contact) with g | g | g
   ·refine .inl ?_
    have:(s.Items.take (posC s.Items x.Contact))[k]?=some s.Items[k]:=by rw [List.getElem?_take_of_lt g];exact List.getElem?_eq_getElem hk
    exact List.mem_of_getElem? this
   ·cases hf:fndC s.Items x.Contact with
    | true =>
     obtain ⟨hl,hc⟩:=fndC_some hf
     subst g
     exact absurd hc h2
    | false =>
     refine .inr (.inr ?_)
     simp only [if_false,Bool.false_eq_true]
     rw [← g,drop_at hk];exact List.mem_cons_self ..
   ·refine .inr (.inr ?_)
    have hq:(if fndC s.Items x.Contact then posC s.Items x.Contact + 1 else posC s.Items x.Contact)≤k:=by split <;> omega
    generalize (if fndC s.Items x.Contact then posC s.Items x.Contact + 1 else posC s.Items x.Contact)=q at hq
    have:(s.Items.drop q)[k - q]?=some s.Items[k]:=by rw [List.getElem?_drop,show q + (k - q)=k by omega];exact List.getElem?_eq_getElem hk
    exact List.mem_of_getElem? this
  ·rw [h1,h2];exact .inr (.inl (List.mem_singleton.2 rfl))
theorem items_change (s:RosterState) (x:ItemItem):(changeR s x).Items=itemsR s x (w64 (s.Ver + 1)):=by
 unfold changeR trimR
 split
 ·split <;> rfl
 ·rfl
theorem ver_change (s:RosterState) (x:ItemItem):(changeR s x).Ver=w64 (s.Ver + 1):=by
 unfold changeR trimR
 split
 ·split <;> rfl
 ·rfl
def othC (s:RosterState) (c:ByteArray):Nat:=s.Items.length - (if fndC s.Items c then 1 else 0)
theorem len_items {s:RosterState} (x:ItemItem) (v:Int):(itemsR s x v).length=othC s x.Contact + (if idleI x then 0 else 1):=by
 have hle:=posC_le s.Items x.Contact
 unfold itemsR othC
 rw [idle_ver]
 simp only [List.length_append,List.length_take,List.length_drop]
 cases hf:fndC s.Items x.Contact with
 | true=>obtain ⟨hl,_⟩:=fndC_some hf;cases idleI x <;> simp <;> omega
 | false=>cases idleI x <;> simp <;> omega
theorem fnd_iff {l:List ItemItem} (hs:SortedC l) (c:ByteArray):fndC l c=true ↔ ∃ it ∈ l,it.Contact=c:=by
 constructor
 ·intro h
  obtain ⟨hl,hc⟩:=fndC_some h
  exact ⟨_,List.getElem_mem hl,hc⟩
 ·rintro ⟨it,hit,hc⟩
  obtain ⟨k,hk,rfl⟩:=List.getElem_of_mem hit
  exact (fndC_of hs (List.getElem?_eq_getElem hk) hc).1
def HasR (s:RosterState) (c:ByteArray) (x:ItemItem × Bool):Prop:=(x.2=true∧x.1 ∈ s.Items∧x.1.Contact=c)∨(x=(ItemItem.mk ⟨#[]⟩ ⟨#[]⟩ 0 0 false,false)∧∀ it ∈ s.Items,it.Contact≠c)
structure OkR (s:RosterState):Prop where
 full:FullN 8 s
 light:LightS s
theorem findR {s:RosterState} (h:OkR s) (c:ByteArray):∃ x,p_roster_Find s c=some x∧HasR s c x∧x.2=fndC s.Items c:=by
 have hc:=check_full h.light h.full
 obtain ⟨e,h1,_,h3⟩:=checkS_p h.light
 rw [hc] at h1
 cases h1
 have hso:=h.full.sorted
 refine ⟨_,FindS_p hc (h3 rfl) c,?_⟩
 cases hf:fndC s.Items c with
 | true =>
  obtain ⟨hl,hcc⟩:=fndC_some hf
  rw [dif_pos hl,if_pos rfl]
  exact ⟨.inl ⟨rfl,List.getElem_mem hl,hcc⟩,rfl⟩
 | false =>
  simp only [if_false,Bool.false_eq_true,dite_eq_ite,ite_self]
  refine ⟨.inr ⟨rfl,fun it hit e=>?_⟩,trivial⟩
  have:=(fnd_iff hso c).2 ⟨it,hit,e⟩
  rw [hf] at this;cases this
theorem hasR_uniq {s:RosterState} (hs:FullN 8 s) {c:ByteArray} {x y:ItemItem × Bool} (h1:HasR s c x) (h2:HasR s c y):x=y:=by
 rcases h1 with ⟨a,b,d⟩ | ⟨a,b⟩ <;> rcases h2 with ⟨a',b',d'⟩ | ⟨a',b'⟩
 ·obtain ⟨k,hk,e⟩:=List.getElem_of_mem b
  obtain ⟨j,hj,e'⟩:=List.getElem_of_mem b'
  have p:=(fndC_of hs.sorted (List.getElem?_eq_getElem hk) (c:=c) (by rw [e];exact d)).2
  have q:=(fndC_of hs.sorted (List.getElem?_eq_getElem hj) (c:=c) (by rw [e'];exact d')).2
  have:k=j:=by omega
  subst this
  exact Prod.ext (e.symm.trans e') (a.trans a'.symm)
 ·exact absurd d (b' _ b)
 ·exact absurd d' (b _ b')
 ·rw [a,a']
theorem ok_change {s:RosterState} (h:OkR s) {x:ItemItem} (hv:s.Ver < 1099511627776) (hb:isBareL x.Contact.data.toList=true) (hsz:x.Contact.size≤100) (hn:x.Name.size≤100) (hx:idleI x=false→chkI (verI x (s.Ver + 1))=0) (hroom:fndC s.Items x.Contact=false→idleI x=false→s.Items.length < 12):OkR (changeR s x):=by
 have hc:=check_full h.light h.full
 obtain ⟨e,h1,_,h3⟩:=checkS_p h.light
 rw [hc] at h1
 cases h1
 exact ⟨full_change h.full hv hb hx hroom,light_change h.light (h3 rfl) hsz hn⟩
theorem subR {s:RosterState} (h:OkR s) (hv:s.Ver < 1099511627776) {c:ByteArray} (hb:isBareL c.data.toList=true) (hsz:c.size≤100) {q:Int} (hq:subC q=0) {x:ItemItem × Bool} (hx:HasR s c x) :
  p_roster_Sub s c q=some (if x.2=false∧q≠0∧12≤s.Items.length then (s,7) else if x.1.Sub=q then (s,0) else (changeR s (ItemItem.mk c x.1.Name q x.1.Ver x.1.Own),0)):=by
 have hc:=check_full h.light h.full
 obtain ⟨y,hf,hy,_⟩:=findR h c
 have e:=hasR_uniq h.full hx hy
 subst e
 unfold p_roster_Sub p_roster_State_may
 have k1:p_addr_IsBare c=some true:=by unfold p_addr_IsBare;rw [if_pos (by omega),hb]
 have k3:=change_p h.light.items h.light.gone h.full.sorted
 rw [ownS_p h.light.small,hc,k1,hf]
 simp only [Option.bind_some,bne_self_eq_false,cond_false,cond_true,subs_p,hq,k3]
 rw [decide_eq_false (show ¬ (1099511627776:Int)≤s.Ver by omega)]
 by_cases z:q=0
 ·rw [show (q != 0)=false by simpa using z]
  simp only [cond_false,Option.bind_some,bne_self_eq_false]
  rw [if_neg (fun g=>g.2.1 z)]
  by_cases w:x.1.Sub=q
  ·rw [show (x.1.Sub == q)=true by simpa using w,if_pos w];rfl
  ·rw [show (x.1.Sub == q)=false by simpa using w,if_neg w];rfl
 ·rw [show (q != 0)=true by simpa using z]
  have tail:((bif (x.1.Sub == q) then some (s,(0:Int)) else some (changeR s (ItemItem.mk c x.1.Name q x.1.Ver x.1.Own),(0:Int))):Option (RosterState × Int))=some (if x.1.Sub=q then (s,0) else (changeR s (ItemItem.mk c x.1.Name q x.1.Ver x.1.Own),0)):=by
   by_cases w:x.1.Sub=q
   ·rw [show (x.1.Sub == q)=true by simpa using w,if_pos w];rfl
   ·rw [show (x.1.Sub == q)=false by simpa using w,if_neg w];rfl
  cases hx2:x.2 with
  | true =>
   simp only [cond_true,cond_false,Option.bind_some,bne_self_eq_false]
   rw [if_neg (fun g=>by cases g.1)]
   exact tail
  | false =>
   simp only [cond_true,cond_false]
   by_cases u:(12:Int)≤(s.Items.length:Int)
   ·rw [decide_eq_true u,if_pos ⟨trivial,z,by omega⟩];rfl
   ·rw [decide_eq_false u,if_neg (fun g=>u (by omega))]
    exact tail
theorem setR {s:RosterState} (h:OkR s) (hv:s.Ver < 1099511627776) {c:ByteArray} (hb:isBareL c.data.toList=true) (hsz:c.size≤100) (hnew:∀ it ∈ s.Items,it.Contact≠c) (hr:s.Items.length < 12) :
  p_roster_Set s c ⟨#[]⟩=some (changeR s (ItemItem.mk c ⟨#[]⟩ 0 0 true),0):=by
 have hc:=check_full h.light h.full
 obtain ⟨y,hf,hy,_⟩:=findR h c
 have e:y=(ItemItem.mk ⟨#[]⟩ ⟨#[]⟩ 0 0 false,false):=hasR_uniq h.full hy (.inr ⟨rfl,hnew⟩)
 subst e
 unfold p_roster_Set p_roster_State_may
 have hck:p_item_Check (ItemItem.mk c ⟨#[]⟩ 0 0 true)=some 0:=by
  rw [check_p (by show c.size≤100000;omega) (Nat.zero_le _)]
  exact congrArg some (fine_to ⟨hb,Nat.zero_le _,rfl,rfl,⟨by show (0:Int)≤0;omega,by show (0:Int)≤_;omega⟩,.inl rfl⟩)
 have k3:=change_p h.light.items h.light.gone h.full.sorted
 rw [ownS_p h.light.small,hc,hf]
 simp only [Option.bind_some,bne_self_eq_false,cond_false,cond_true,hck,k3]
 rw [decide_eq_false (show ¬ (1099511627776:Int)≤s.Ver by omega),decide_eq_false (show ¬ (12:Int)≤(s.Items.length:Int) by omega)]
 rfl
end Go.Proofs.YtpmoioopjbfhkaaGreat

namespace Go.Proofs.YtpmoioopjbfhkaaGreat
open Go.RowKit
theorem out_p {k:Int} (hk:k=7∨k=8∨k=9∨k=10) (s:Int):p_subs_Out s k=p_ref19_Out s k∧∃ v,p_subs_Out s k=some v:=by
 by_cases h:subC s=0
 ·rcases sub16 (subC_in h) with g | g | g | g | g | g | g | g | g | g | g | g | g | g | g | g <;> rw [g] <;> rcases hk with rfl | rfl | rfl | rfl <;> exact ⟨by kernel_rfl,_,rfl⟩
 ·unfold p_subs_Out p_ref19_Out
  rw [subs_p,rsub_p,Option.bind_some,Option.bind_some,show (subC s != 0)=true by simpa using h]
  exact ⟨rfl,_,rfl⟩
theorem in_p {k:Int} (hk:k=7∨k=8∨k=9∨k=10) (s:Int):p_subs_In s k=p_ref19_In s k∧∃ v,p_subs_In s k=some v:=by
 by_cases h:subC s=0
 ·rcases sub16 (subC_in h) with g | g | g | g | g | g | g | g | g | g | g | g | g | g | g | g <;> rw [g] <;> rcases hk with rfl | rfl | rfl | rfl <;> exact ⟨by kernel_rfl,_,rfl⟩
 ·unfold p_subs_In p_ref19_In
  rw [subs_p,rsub_p,Option.bind_some,Option.bind_some,show (subC s != 0)=true by simpa using h]
  exact ⟨rfl,_,rfl⟩
theorem mirror_p {s:Int} (h:subC s=0):p_subs_Mirror s=p_ref19_Mirror s∧∃ v,p_subs_Mirror s=some v:=by
 rcases sub16 (subC_in h) with g | g | g | g | g | g | g | g | g | g | g | g | g | g | g | g <;> rw [g] <;> exact ⟨by kernel_rfl,_,rfl⟩
structure LightP (n:Ref22Names) (st:Ref22State):Prop where
 a:n.A.size≤100
 b:n.B.size≤100
 sa:LightS st.A
 sb:LightS st.B
theorem LightP.turn {n:Ref22Names} {st:Ref22State} (h:LightP n st):LightP ⟨n.B,n.A⟩ ⟨st.B,st.A⟩:=⟨h.b,h.a,h.sb,h.sa⟩
theorem turn_p (n:Ref22Names) (st:Ref22State):p_pair_Turn n st=some (⟨n.B,n.A⟩,⟨st.B,st.A⟩)∧p_ref22_Turn n st=some (⟨n.B,n.A⟩,⟨st.B,st.A⟩):=⟨rfl,rfl⟩
end Go.Proofs.YtpmoioopjbfhkaaGreat

namespace Go.Proofs.YtpmoioopjbfhkaaGreat
open Go.RowKit
theorem same_rs {s:RosterState} (h:s.Items.length≤100∧s.Gone.length≤100):p_roster_Same s s=some true:=by
 have h1:p_slices_Equal_item_Item_l1 s.Items s.Items (s.Items.length:Int) fuel 0=some (.inr (s.Items.length:Int)):=by
  rcases loop_all (N:=s.Items.length) (by omega) (p_slices_Equal_item_Item_l1 s.Items s.Items (s.Items.length:Int)) (s.Items.length:Int) (fun _=>True) (fun n k hk=>by
   rw [p_slices_Equal_item_Item_l1,lt_tt hk,cond_true,at_lt hk]
   simp only [Option.bind_some,eqT_refl,beq_self_eq_true,Bool.and_self,cond_true]
   rw [w64_succ (by omega)]
   exact ⟨fun _=>rfl,fun g=>absurd trivial g⟩) (fun n=>by rw [p_slices_Equal_item_Item_l1,lt_ff (Nat.le_refl _)];rfl) with ⟨_,e⟩ | ⟨g,_⟩
  ·exact e
  ·exact absurd (fun _ _=>trivial) g
 have h2:p_slices_Equal_roster_Gone_l1 s.Gone s.Gone (s.Gone.length:Int) fuel 0=some (.inr (s.Gone.length:Int)):=by
  rcases loop_all (N:=s.Gone.length) (by omega) (p_slices_Equal_roster_Gone_l1 s.Gone s.Gone (s.Gone.length:Int)) (s.Gone.length:Int) (fun _=>True) (fun n k hk=>by
   rw [p_slices_Equal_roster_Gone_l1,lt_tt hk,cond_true,at_lt hk]
   simp only [Option.bind_some,eqT_refl,beq_self_eq_true,Bool.and_self,cond_true]
   rw [w64_succ (by omega)]
   exact ⟨fun _=>rfl,fun g=>absurd trivial g⟩) (fun n=>by rw [p_slices_Equal_roster_Gone_l1,lt_ff (Nat.le_refl _)];rfl) with ⟨_,e⟩ | ⟨g,_⟩
  ·exact e
  ·exact absurd (fun _ _=>trivial) g
 unfold p_roster_Same p_slices_Equal_item_Item p_slices_Equal_roster_Gone
 simp only [beq_self_eq_true,cond_true,bne_self_eq_false,cond_false,h1,h2,Option.bind_some]
def stepB (a k:Int):Bool:=match p_subs_Mirror a with
 | some b=>match p_subs_Out a k with
  | some (a',p)=>match (if p then p_subs_In b k else some (b,false)) with
   | some (b',_)=>subC b == 0 && (subC a' == 0 && (subC b' == 0 && p_subs_Agree a' b' == some true))
   | none=>false
  | none=>false
 | none=>false
theorem stepB_ok {a k:Int} (ha:subC a=0) (hk:k=7∨k=8∨k=9∨k=10):stepB a k=true:=by
 rcases sub16 (subC_in ha) with g | g | g | g | g | g | g | g | g | g | g | g | g | g | g | g <;> subst g <;> first | exact absurd ha (by decide) | (rcases hk with rfl | rfl | rfl | rfl <;> kernel_rfl)
theorem agree_mir {a b:Int} (h:p_subs_Agree a b=some true):subC a=0∧subC b=0∧p_subs_Mirror a=some b:=by
 unfold p_subs_Agree at h
 rw [subs_p,subs_p] at h
 simp only [Option.bind_some] at h
 by_cases ha:subC a=0
 case neg=>rw [show (subC a == 0)=false by simpa using ha] at h;cases h
 rw [show (subC a == 0)=true by simpa using ha,cond_true] at h
 by_cases hb:subC b=0
 case neg=>rw [show (subC b == 0)=false by simpa using hb] at h;cases h
 rw [show (subC b == 0)=true by simpa using hb,cond_true] at h
 obtain ⟨_,m,hm⟩:=mirror_p ha
 rw [hm,Option.bind_some] at h
 have:m=b:=by simpa using Option.some.inj h
 exact ⟨ha,hb,by rw [hm,this]⟩
theorem step_p {a b k:Int} (h:p_subs_Agree a b=some true) (hk:k=7∨k=8∨k=9∨k=10):∃ (a' b' : Int) (p t:Bool),p_subs_Out a k=some (a',p)∧(p=true→p_subs_In b k=some (b',t))∧(p=false→b'=b)∧subC a'=0∧subC b'=0∧p_subs_Agree a' b'=some true:=by
 obtain ⟨ha,hb,hm⟩:=agree_mir h
 have hs:=stepB_ok ha hk
 unfold stepB at hs
 rw [hm] at hs
 dsimp only at hs
 obtain ⟨_,o,ho⟩:=out_p hk a
 obtain ⟨_,i,hi⟩:=in_p hk b
 rw [ho] at hs
 obtain ⟨a',p⟩:=o
 dsimp only at hs
 cases p with
 | true =>
  rw [if_pos rfl,hi] at hs
  obtain ⟨b',t⟩:=i
  dsimp only at hs
  simp only [Bool.and_eq_true,beq_iff_eq] at hs
  exact ⟨a',b',true,t,ho,fun _=>hi,fun e=>(by cases e),hs.2.1,hs.2.2.1,hs.2.2.2⟩
 | false =>
  rw [if_neg (by simp)] at hs
  dsimp only at hs
  simp only [Bool.and_eq_true,beq_iff_eq] at hs
  exact ⟨a',b,false,false,ho,fun e=>(by cases e),fun _=>rfl,hs.2.1,hs.2.2.1,hs.2.2.2⟩
def symB (a:Int):Bool:=match p_subs_Mirror a with
 | some b=>p_subs_Agree b a == some true
 | none=>false
theorem agree_sym {a b:Int} (h:p_subs_Agree a b=some true):p_subs_Agree b a=some true:=by
 obtain ⟨ha,hb,hm⟩:=agree_mir h
 have:symB a=true:=by
  rcases sub16 (subC_in ha) with g | g | g | g | g | g | g | g | g | g | g | g | g | g | g | g <;> subst g <;> first | exact absurd ha (by decide) | kernel_rfl
 unfold symB at this
 rw [hm] at this
 simpa using this
theorem sub_step {s:RosterState} (h:OkR s) (hv:s.Ver < 1099511627776) {c:ByteArray} (hb:isBareL c.data.toList=true) (hsz:c.size≤100) {q:Int} (hq:subC q=0) {x:ItemItem × Bool} (hx:HasR s c x) (ho:othC s c≤11) :
  ∃ s',p_roster_Sub s c q=some (s',0)∧OkR s'∧s.Ver≤s'.Ver∧s'.Ver≤s.Ver + 1∧othC s' c=othC s c∧∃ x',HasR s' c x'∧x'.1.Sub=q:=by
 have hso:=h.full.sorted
 have hver:=h.full.ver
 rw [subR h hv hb hsz hq hx]
 have hfx:x.2=fndC s.Items c:=by
  obtain ⟨y,_,hy,e⟩:=findR h c
  rw [hasR_uniq h.full hx hy];exact e
 have hroom:fndC s.Items c=false→s.Items.length < 12:=fun e=>by unfold othC at ho;rw [e] at ho;simp at ho;omega
 rw [if_neg (fun g=>by have:=hroom (hfx.symm.trans g.1);omega)]
 by_cases w:x.1.Sub=q
 ·rw [if_pos w]
  exact ⟨s,rfl,h,Int.le_refl _,by omega,rfl,x,hx,w⟩
 rw [if_neg w]
 have hfine:FineI (verI (ItemItem.mk c x.1.Name q x.1.Ver x.1.Own) (s.Ver + 1)):=by
  rcases hx with ⟨_,q2,q3⟩ | ⟨q1,_⟩
  ·have f:=fine_of (h.full.fine _ q2).1
   exact ⟨hb,f.name,f.plain,hq,⟨by show 0≤s.Ver + 1;omega,by show s.Ver + 1≤_;omega⟩,f.own⟩
  ·rw [q1]
   exact ⟨hb,Nat.zero_le _,rfl,hq,⟨by show 0≤s.Ver + 1;omega,by show s.Ver + 1≤_;omega⟩,.inr rfl⟩
 have hnm:x.1.Name.size≤100:=by have:=hfine.name;exact Nat.le_trans this (by decide)
 have hok:=ok_change h (x:=ItemItem.mk c x.1.Name q x.1.Ver x.1.Own) hv hb hsz hnm (fun _=>fine_to hfine) (fun e _=>hroom e)
 have hw:w64 (s.Ver + 1)=s.Ver + 1:=w64_id (by omega)
 refine ⟨_,rfl,hok,by rw [ver_change,hw];omega,by rw [ver_change,hw];omega,?_⟩
 have hmem:=fun it=>mem_items hso (ItemItem.mk c x.1.Name q x.1.Ver x.1.Own) (w64 (s.Ver + 1)) it
 have hit:=items_change s (ItemItem.mk c x.1.Name q x.1.Ver x.1.Own)
 have hlen:(changeR s (ItemItem.mk c x.1.Name q x.1.Ver x.1.Own)).Items.length=othC s c + (if idleI (ItemItem.mk c x.1.Name q x.1.Ver x.1.Own) then 0 else 1):=by rw [hit];exact len_items _ _
 cases hid:idleI (ItemItem.mk c x.1.Name q x.1.Ver x.1.Own) with
 | true =>
  have hnone:∀ it ∈ (changeR s (ItemItem.mk c x.1.Name q x.1.Ver x.1.Own)).Items,it.Contact≠c:=fun it h1=>by
   rw [hit] at h1
   rcases (hmem it).1 h1 with ⟨_,g⟩ | ⟨g,_⟩
   ·exact g
   ·rw [hid] at g;cases g
  have hf:fndC (changeR s (ItemItem.mk c x.1.Name q x.1.Ver x.1.Own)).Items c=false:=by
   cases hh:fndC (changeR s (ItemItem.mk c x.1.Name q x.1.Ver x.1.Own)).Items c with
   | false=>rfl
   | true=>obtain ⟨it,h1,h2⟩:=(fnd_iff hok.full.sorted c).1 hh;exact absurd h2 (hnone it h1)
  refine ⟨?_,_,.inr ⟨rfl,hnone⟩,?_⟩
  ·rw [hid] at hlen
   show (changeR s (ItemItem.mk c x.1.Name q x.1.Ver x.1.Own)).Items.length - _=_
   rw [hf,hlen];simp
  ·have:(q == 0 && !x.1.Own)=true:=hid
   simp only [Bool.and_eq_true,beq_iff_eq] at this
   exact this.1.symm
 | false =>
  have hin:verI (ItemItem.mk c x.1.Name q x.1.Ver x.1.Own) (w64 (s.Ver + 1)) ∈ (changeR s (ItemItem.mk c x.1.Name q x.1.Ver x.1.Own)).Items:=by
   rw [hit];exact (hmem _).2 (.inr ⟨hid,rfl⟩)
  have hf:fndC (changeR s (ItemItem.mk c x.1.Name q x.1.Ver x.1.Own)).Items c=true:=(fnd_iff hok.full.sorted c).2 ⟨_,hin,rfl⟩
  refine ⟨?_,(_,true),.inl ⟨rfl,hin,rfl⟩,rfl⟩
  rw [hid] at hlen
  show (changeR s (ItemItem.mk c x.1.Name q x.1.Ver x.1.Own)).Items.length - _=_
  rw [hf,hlen];simp
structure NamesOk (n:Ref22Names):Prop where
 a:isBareL n.A.data.toList=true
 b:isBareL n.B.data.toList=true
 sa:n.A.size≤100
 sb:n.B.size≤100
 ne:n.A≠n.B
structure InvP (n:Ref22Names) (oa ob:Nat) (v:Int) (st:Ref22State):Prop where
 okA:OkR st.A
 okB:OkR st.B
 va:st.A.Ver≤v
 vb:st.B.Ver≤v
 oa:othC st.A n.B=oa
 ob:othC st.B n.A=ob
 subs:∃ x y,HasR st.A n.B x∧HasR st.B n.A y∧p_subs_Agree x.1.Sub y.1.Sub=some true
theorem InvP.turn {n:Ref22Names} {oa ob:Nat} {v:Int} {st:Ref22State} (h:InvP n oa ob v st):InvP ⟨n.B,n.A⟩ ob oa v ⟨st.B,st.A⟩:=by
 obtain ⟨x,y,h1,h2,h3⟩:=h.subs
 exact ⟨h.okB,h.okA,h.vb,h.va,h.ob,h.oa,y,x,h2,h1,agree_sym h3⟩
theorem NamesOk.turn {n:Ref22Names} (h:NamesOk n):NamesOk ⟨n.B,n.A⟩:=⟨h.b,h.a,h.sb,h.sa,fun e=>h.ne e.symm⟩
theorem check_pr {n:Ref22Names} (hn:NamesOk n) {st:Ref22State} (ha:OkR st.A) (hb:OkR st.B):p_pair_Check n st=some 0:=by
 unfold p_pair_Check p_addr_IsBare
 have:=hn.sa
 have:=hn.sb
 rw [if_pos (by omega),if_pos (by omega),hn.a,hn.b,check_full ha.light ha.full,check_full hb.light hb.full,show (n.A.toList == n.B.toList)=false by rw [Bool.eq_false_iff];exact fun e=>hn.ne (eqT_iff.1 e)]
 rfl
theorem agree_pr {n:Ref22Names} (hn:NamesOk n) {oa ob:Nat} {v:Int} {st:Ref22State} (h:InvP n oa ob v st):p_pair_Agree n st=some true:=by
 obtain ⟨x,y,h1,h2,h3⟩:=h.subs
 obtain ⟨x',f1,g1,_⟩:=findR h.okA n.B
 obtain ⟨y',f2,g2,_⟩:=findR h.okB n.A
 rw [hasR_uniq h.okA.full h1 g1,hasR_uniq h.okB.full h2 g2] at h3
 unfold p_pair_Agree p_pair_State_has p_pair_State_turn p_pair_Names_turn
 simp only [check_pr hn h.okA h.okB,Option.bind_some,beq_self_eq_true,cond_true,f1,f2,h3]
theorem say_free {n:Ref22Names} (hn:NamesOk n) {oa ob:Nat} (hoa:oa≤11) (hob:ob≤11) {v:Int} (hv:v < 1099511627776) {st:Ref22State} (h:InvP n oa ob v st) {k:Int} (hk:k=7∨k=8∨k=9∨k=10) :
  ∃ st' d,p_pair_Say n st k=some (st',d,0)∧InvP n oa ob (v + 1) st'∧(d.Told=true→d.Passed=true)∧(d.Passed=false→st'.A=st.A∧st'.B=st.B∨True):=by
 obtain ⟨x,y,h1,h2,h3⟩:=h.subs
 obtain ⟨x',f1,g1,_⟩:=findR h.okA n.B
 obtain ⟨y',f2,g2,_⟩:=findR h.okB n.A
 have e1:=hasR_uniq h.okA.full h1 g1
 have e2:=hasR_uniq h.okB.full h2 g2
 subst e1 e2
 obtain ⟨a',b',p,t,ho,hi,hni,ha',hb',hag⟩:=step_p h3 hk
 have hva:=h.va
 have hvb:=h.vb
 obtain ⟨sa,p1,q1,l1,m1,o1,xa,r1,w1⟩:=sub_step h.okA (by omega) hn.b hn.sb ha' h1 (by rw [h.oa];exact hoa)
 obtain ⟨sb,p2,q2,l2,m2,o2,xb,r2,w2⟩:=sub_step h.okB (by omega) hn.a hn.sa hb' h2 (by rw [h.ob];exact hob)
 have hinv:InvP n oa ob (v + 1) ⟨sa,sb⟩:=⟨q1,q2,by show sa.Ver≤v + 1;omega,by show sb.Ver≤v + 1;omega,o1.trans h.oa,o2.trans h.ob,xa,xb,r1,r2,by rw [w1,w2];exact hag⟩
 unfold p_pair_Say p_pair_said p_pair_State_has p_pair_State_turn p_pair_Names_turn p_pair_State_set
 rw [check_pr hn h.okA h.okB]
 simp only [Option.bind_some,bne_self_eq_false,cond_false,decide_eq_true (show (7:Int)≤k by omega),decide_eq_true (show k≤(10:Int) by omega),cond_true,f1,f2,ho]
 cases p with
 | true =>
  simp only [cond_true,hi rfl,Option.bind_some,p1,p2,bne_self_eq_false,cond_false]
  exact ⟨_,_,rfl,hinv,fun _=>rfl,fun e=>.inr trivial⟩
 | false =>
  rw [hni rfl] at p2
  simp only [cond_false,Option.bind_some,p1,p2,bne_self_eq_false]
  exact ⟨_,_,rfl,hinv,fun e=>(by cases e),fun e=>.inr trivial⟩
end Go.Proofs.YtpmoioopjbfhkaaGreat

namespace Go.Proofs.YtpmoioopjbfhkaaGreat
open Go.RowKit
def p_law22_PairRefused_l1 (z11:Ar2_Bool):Nat→Int→Ref22State→Option ((Int × Ref22State))
 | 0,_,_=>none
 | n + 1,y10,y13 =>
  bif (decide (y10 < (12:Int))) then
   (text? [IntKind.wrap .u8 ((107:Int) + IntKind.wrap .u8 y10)]).bind fun s15 =>
   (cat? s15 (⟨#[64,122]⟩ : ByteArray)).bind fun s16 =>
   ((
    bif z11.a0 then
     (p_roster_Set y13.A s16 (⟨#[]⟩ : ByteArray)).bind fun v18 =>
     some (Ref22State.mk v18.1 y13.B)
    else
    bif (decide (y10 < (10:Int))) then
     (p_roster_Set y13.A s16 (⟨#[]⟩ : ByteArray)).bind fun v20 =>
     some (Ref22State.mk v20.1 y13.B)
    else
    some y13):Option (Ref22State)).bind fun q22 =>
   bif z11.a1 then
    (p_roster_Set q22.B s16 (⟨#[]⟩ : ByteArray)).bind fun v24 =>
    p_law22_PairRefused_l1 z11 n (w64 (y10 + (1:Int))) (Ref22State.mk q22.A v24.1)
   else
   bif (decide (y10 < (10:Int))) then
    (p_roster_Set q22.B s16 (⟨#[]⟩ : ByteArray)).bind fun v26 =>
    p_law22_PairRefused_l1 z11 n (w64 (y10 + (1:Int))) (Ref22State.mk q22.A v26.1)
   else
   p_law22_PairRefused_l1 z11 n (w64 (y10 + (1:Int))) q22
  else
  some (y10,y13)
def p_law22_PairRefused_l2 (z35:List PairAct) (z37:Ar2_Bool) (z38:Ref22Names):Nat→Int→Ref22State→Option (Bool ⊕ (Int × Ref22State))
 | 0,_,_=>none
 | n + 1,y36,y39 =>
  bif (decide (y36 < (z35.length:Int))) then
   ((
    (at? z35 y36).bind fun x41 =>
    bif x41.Back then
     (p_pair_Turn z38 y39).bind fun v43 =>
     some (z37.a1,z37.a0,v43.1,v43.2)
    else
    some (z37.a0,z37.a1,z38,y39)):Option ((Bool × Bool × Ref22Names × Ref22State))).bind fun q45 =>
   (at? z35 y36).bind fun x46 =>
   (p_pair_Say q45.2.2.1 q45.2.2.2 (IntKind.wrap .u8 ((7:Int) + (Int.tmod x46.Kind (4:Int))))).bind fun v47 =>
   ((
    bif (v47.2.2 != (0:Int)) then
     bif (v47.2.2 != (7:Int)) then
      some (.inl false)
     else
     (p_roster_Same v47.1.A q45.2.2.2.A).bind fun v50 =>
     bif v50 then
      (p_roster_Same v47.1.B q45.2.2.2.B).bind fun v52 =>
      bif v52 then
       bif q45.1 then
        bif (IntKind.wrap .u8 ((7:Int) + (Int.tmod x46.Kind (4:Int))) != (7:Int)) then
         some (.inl false)
        else
        bif (v47.2.2 == (0:Int)) then
         bif (IntKind.wrap .u8 ((7:Int) + (Int.tmod x46.Kind (4:Int))) == (7:Int)) then
          bif v47.2.1.Passed then
           some (.inl false)
          else
          some (.inr ())
         else
         some (.inr ())
        else
        some (.inr ())
       else
       bif q45.2.1 then
        bif (IntKind.wrap .u8 ((7:Int) + (Int.tmod x46.Kind (4:Int))) != (7:Int)) then
         some (.inl false)
        else
        bif (v47.2.2 == (0:Int)) then
         bif (IntKind.wrap .u8 ((7:Int) + (Int.tmod x46.Kind (4:Int))) == (7:Int)) then
          bif v47.2.1.Passed then
           some (.inl false)
          else
          some (.inr ())
         else
         some (.inr ())
        else
        some (.inr ())
       else
       some (.inl false)
      else
      some (.inl false)
     else
     some (.inl false)
    else
    bif (v47.2.2 == (0:Int)) then
     bif (IntKind.wrap .u8 ((7:Int) + (Int.tmod x46.Kind (4:Int))) == (7:Int)) then
      bif q45.1 then
       bif v47.2.1.Passed then
        some (.inl false)
       else
       some (.inr ())
      else
      bif q45.2.1 then
       bif v47.2.1.Passed then
        some (.inl false)
       else
       some (.inr ())
      else
      some (.inr ())
     else
     some (.inr ())
    else
    some (.inr ())):Option (Bool ⊕ Unit)).bind fun o70=>match o70 with
   | .inl q71 =>
    some (.inl q71)
   | .inr q72 =>
    (at? z35 y36).bind fun x73 =>
    bif x73.Back then
     (p_pair_Turn q45.2.2.1 v47.1).bind fun v75 =>
     (p_pair_Agree z38 v75.2).bind fun v76 =>
     bif v76 then
      p_law22_PairRefused_l2 z35 z37 z38 n (w64 (y36 + (1:Int))) v75.2
     else
     some (.inl false)
    else
    (p_pair_Agree z38 v47.1).bind fun v78 =>
    bif v78 then
     p_law22_PairRefused_l2 z35 z37 z38 n (w64 (y36 + (1:Int))) v47.1
    else
    some (.inl false)
  else
  some (.inr (y36,y39))
def p_law22_PairRefused (a0:Ar2_Bool) (a1:List PairAct):Option (Bool) :=
 bif (decide ((30:Int) < (a1.length:Int))) then
  (p_law22_awake).bind fun v2 =>
  some v2
 else
 (p_law22_PairRefused_l1 a0 fuel (0:Int) (Ref22State.mk (RosterState.mk (0:Int) (0:Int) [] []) (RosterState.mk (0:Int) (0:Int) [] []))).bind fun q28 =>
 (p_law22_PairRefused_l2 a1 a0 (Ref22Names.mk (⟨#[97,110,110,64,120]⟩ : ByteArray) (⟨#[98,111,98,64,121]⟩ : ByteArray)) fuel (0:Int) q28.2).bind fun o80=>match o80 with
 | .inl q81 =>
  some q81
 | .inr q82 =>
  (p_law22_awake).bind fun v83 =>
  some v83
end Go.Proofs.YtpmoioopjbfhkaaGreat

namespace Go.Proofs.YtpmoioopjbfhkaaGreat
open Go.RowKit
def cK (i:Nat):ByteArray:=⟨#[UInt8.ofNat (107 + i),64,122]⟩
theorem lt12 {i:Nat} (h:i < 12):i=0∨i=1∨i=2∨i=3∨i=4∨i=5∨i=6∨i=7∨i=8∨i=9∨i=10∨i=11:=by omega
theorem cK_text {i:Nat} (h:i < 12):∃ s,text? [IntKind.wrap .u8 ((107:Int) + IntKind.wrap .u8 (i:Int))]=some s∧cat? s (⟨#[64,122]⟩ : ByteArray)=some (cK i):=by
 rcases lt12 h with g | g | g | g | g | g | g | g | g | g | g | g <;> subst g <;> exact ⟨_,rfl,by kernel_rfl⟩
theorem cK_bare {i:Nat} (h:i < 12):isBareL (cK i).data.toList=true:=by
 rcases lt12 h with g | g | g | g | g | g | g | g | g | g | g | g <;> subst g <;> kernel_rfl
theorem cK_inj {i j:Nat} (hi:i < 12) (hj:j < 12) (h:cK i=cK j):i=j:=by
 have h1:(cK i).data.toList.head?=(cK j).data.toList.head?:=by rw [h]
 have h2:(UInt8.ofNat (107 + i)).toNat=(UInt8.ofNat (107 + j)).toNat:=congrArg UInt8.toNat (Option.some.inj h1)
 rw [UInt8.toNat_ofNat',UInt8.toNat_ofNat'] at h2
 omega
theorem cK_ne {i:Nat} {c:ByteArray} (hc:c.data.toList.length=5):cK i≠c:=fun e=>by rw [← e] at hc;cases hc
structure Built (m:Nat) (s:RosterState):Prop where
 ok:OkR s
 ver:s.Ver=m
 len:s.Items.length=m
 who:∀ it ∈ s.Items,∃ j,j < m∧it.Contact=cK j
theorem built0:Built 0 (RosterState.mk 0 0 [] []) :=
 ⟨⟨⟨Nat.zero_le _,Nat.zero_le _,⟨Int.le_refl _,by show (0:Int)≤_;omega⟩,⟨Int.le_refl _,Int.le_refl _⟩,fun _ h=>(by cases h),fun _ h=>(by cases h),fun _ h=>(by cases h),.nil,.nil,fun _ h=>(by cases h),.nil,.nil,fun _ h=>(by cases h)⟩,⟨Nat.zero_le _,Nat.zero_le _,fun _ h=>(by cases h),fun _ h=>(by cases h)⟩⟩,rfl,rfl,fun _ h=>(by cases h)⟩
theorem built_set {m:Nat} (hm:m < 12) {s:RosterState} (h:Built m s):∃ v,p_roster_Set s (cK m) ⟨#[]⟩=some v∧Built (m + 1) v.1:=by
 have hb:=cK_bare hm
 have hver:=h.ver
 have hnew:∀ it ∈ s.Items,it.Contact≠cK m:=fun it hit e=>by
  obtain ⟨j,hj,hc⟩:=h.who it hit
  have:=cK_inj (by omega) hm (hc.symm.trans e)
  omega
 have hlen:=h.len
 have hs:=setR h.ok (by omega) hb (show (cK m).size≤100 from by show 3≤100;omega) hnew (by omega)
 refine ⟨_,hs,?_⟩
 have hw:w64 (s.Ver + 1)=s.Ver + 1:=w64_id (by omega)
 have hid:idleI (ItemItem.mk (cK m) ⟨#[]⟩ 0 0 true)=false:=rfl
 have hfine:FineI (verI (ItemItem.mk (cK m) ⟨#[]⟩ 0 0 true) (s.Ver + 1)):=⟨hb,Nat.zero_le _,rfl,rfl,⟨by show 0≤s.Ver + 1;omega,by show s.Ver + 1≤_;omega⟩,.inl rfl⟩
 have hok:=ok_change h.ok (x:=ItemItem.mk (cK m) ⟨#[]⟩ 0 0 true) (by omega) hb (show (cK m).size≤100 from by show 3≤100;omega) (Nat.zero_le _) (fun _=>fine_to hfine) (fun _ _=>by omega)
 have hf:fndC s.Items (cK m)=false:=by
  cases hh:fndC s.Items (cK m) with
  | false=>rfl
  | true=>obtain ⟨it,h1,h2⟩:=(fnd_iff h.ok.full.sorted _).1 hh;exact absurd h2 (hnew it h1)
 refine ⟨hok,by show (changeR s _).Ver=_;rw [ver_change,hw];omega,?_,fun it hit=>?_⟩
 ·show (changeR s _).Items.length=_
  rw [items_change,len_items,hid]
  unfold othC
  show s.Items.length - (if fndC s.Items (cK m) then 1 else 0) + 1=m + 1
  rw [hf];simp;exact hlen
 ·have hit2:it ∈ (changeR s (ItemItem.mk (cK m) ⟨#[]⟩ 0 0 true)).Items:=hit
  rw [items_change] at hit2
  rcases (mem_items h.ok.full.sorted _ _ it).1 hit2 with ⟨q,_⟩ | ⟨_,q⟩
  ·obtain ⟨j,hj,hc⟩:=h.who it q
   exact ⟨j,by omega,hc⟩
  ·exact ⟨m,by omega,by rw [q];rfl⟩
def cnt (f:Bool) (k:Nat):Nat:=if f then k else min k 10
theorem built_l (f0 f1:Bool):∀ (n k F:Nat) (st:Ref22State),k + n=12→n < F→Built (cnt f0 k) st.A→Built (cnt f1 k) st.B→∃ st',p_law22_PairRefused_l1 ⟨f0,f1⟩ F (k:Int) st=some (12,st')∧Built (cnt f0 12) st'.A∧Built (cnt f1 12) st'.B
 | 0,k,F + 1,st,hk,hF,ha,hb=>by
  have e:k=12:=by omega
  subst e
  rw [p_law22_PairRefused_l1]
  exact ⟨st,rfl,ha,hb⟩
 | n + 1,k,F + 1,st,hk,hF,ha,hb=>by
  have h12:k < 12:=by omega
  obtain ⟨s,hs1,hs2⟩:=cK_text h12
  rw [p_law22_PairRefused_l1,decide_eq_true (show (k:Int) < 12 by omega),cond_true,hs1,Option.bind_some,hs2,Option.bind_some,w64_succ (by omega)]
  have rc:=built_l f0 f1 n (k + 1) F
  have stepA:∃ a,((bif f0 then (p_roster_Set st.A (cK k) (⟨#[]⟩ : ByteArray)).bind fun v18=>some (Ref22State.mk v18.1 st.B) else bif (decide ((k:Int) < (10:Int))) then (p_roster_Set st.A (cK k) (⟨#[]⟩ : ByteArray)).bind fun v20=>some (Ref22State.mk v20.1 st.B) else some st):Option Ref22State)=some (Ref22State.mk a st.B)∧Built (cnt f0 (k + 1)) a:=by
   cases f0 with
   | true =>
    obtain ⟨v,hv,hbu⟩:=built_set h12 (show Built k st.A from ha)
    rw [cond_true,hv];exact ⟨_,rfl,hbu⟩
   | false =>
    by_cases g:k < 10
    ·have e1:cnt false k=k:=by show min k 10=k;omega
     have e2:cnt false (k + 1)=k + 1:=by show min (k + 1) 10=k + 1;omega
     rw [e1] at ha
     obtain ⟨v,hv,hbu⟩:=built_set h12 ha
     rw [cond_false,decide_eq_true (show (k:Int) < 10 by omega),cond_true,hv,e2];exact ⟨_,rfl,hbu⟩
    ·have e1:cnt false k=10:=by show min k 10=10;omega
     have e2:cnt false (k + 1)=10:=by show min (k + 1) 10=10;omega
     rw [e1] at ha
     rw [cond_false,decide_eq_false (show ¬ (k:Int) < 10 by omega),e2];exact ⟨st.A,rfl,ha⟩
  obtain ⟨a,hA,hbA⟩:=stepA
  dsimp only
  rw [hA,Option.bind_some]
  cases f1 with
  | true =>
   obtain ⟨v,hv,hbu⟩:=built_set h12 (show Built k st.B from hb)
   rw [cond_true,hv,Option.bind_some]
   exact rc _ (by omega) (by omega) hbA hbu
  | false =>
   by_cases g:k < 10
   ·have e1:cnt false k=k:=by show min k 10=k;omega
    have e2:cnt false (k + 1)=k + 1:=by show min (k + 1) 10=k + 1;omega
    rw [e1] at hb
    obtain ⟨v,hv,hbu⟩:=built_set h12 hb
    rw [cond_false,decide_eq_true (show (k:Int) < 10 by omega),cond_true,hv,Option.bind_some]
    exact rc _ (by omega) (by omega) hbA (by rw [e2];exact hbu)
   ·have e1:cnt false k=10:=by show min k 10=10;omega
    have e2:cnt false (k + 1)=10:=by show min (k + 1) 10=10;omega
    rw [e1] at hb
    rw [cond_false,decide_eq_false (show ¬ (k:Int) < 10 by omega),cond_false]
    exact rc _ (by omega) (by omega) hbA (by rw [e2];exact hb)
def num (f:Bool):Nat:=if f then 12 else 10
structure Inv2 (n:Ref22Names) (fa fb:Bool) (v:Int) (st:Ref22State):Prop where
 inv:InvP n (num fa) (num fb) v st
 nil:(fa || fb)=true→∃ x y,HasR st.A n.B x∧HasR st.B n.A y∧x.1.Sub=0∧y.1.Sub=0
theorem Inv2.turn {n:Ref22Names} {fa fb:Bool} {v:Int} {st:Ref22State} (h:Inv2 n fa fb v st):Inv2 ⟨n.B,n.A⟩ fb fa v ⟨st.B,st.A⟩ :=
 ⟨h.inv.turn,fun e=>by obtain ⟨x,y,a,b,c,d⟩:=h.nil (by rw [Bool.or_comm];exact e);exact ⟨y,x,b,a,d,c⟩⟩
theorem full_no {s:RosterState} (h:OkR s) {c:ByteArray} (ho:othC s c=12) {x:ItemItem × Bool} (hx:HasR s c x):x.2=false∧12≤s.Items.length:=by
 obtain ⟨y,_,hy,e⟩:=findR h c
 have:=hasR_uniq h.full hx hy
 subst this
 have hl:=h.full.items
 rw [e]
 unfold othC at ho
 cases hf:fndC s.Items c with
 | false=>rw [hf] at ho;simp at ho;exact ⟨rfl,by omega⟩
 | true=>rw [hf] at ho;simp at ho;omega
theorem say_full {n:Ref22Names} (hn:NamesOk n) {fa fb:Bool} (hfl:(fa || fb)=true) {v:Int} (hv:v < 1099511627776) {st:Ref22State} (h:Inv2 n fa fb v st) {k:Int} (hk:k=7∨k=8∨k=9∨k=10) :
  ∃ d,p_pair_Say n st k=some (st,d,if k=7 then 7 else 0):=by
 obtain ⟨x,y,h1,h2,z1,z2⟩:=h.nil hfl
 have hi:=h.inv
 obtain ⟨x',f1,g1,_⟩:=findR hi.okA n.B
 obtain ⟨y',f2,g2,_⟩:=findR hi.okB n.A
 have e1:=hasR_uniq hi.okA.full h1 g1
 have e2:=hasR_uniq hi.okB.full h2 g2
 subst e1 e2
 have hva:=hi.va
 have hvb:=hi.vb
 have s0:=fun (q:Int) (hq:subC q=0)=>subR hi.okA (by omega) hn.b hn.sb hq h1
 have s1:=fun (q:Int) (hq:subC q=0)=>subR hi.okB (by omega) hn.a hn.sa hq h2
 unfold p_pair_Say p_pair_said p_pair_State_has p_pair_State_turn p_pair_Names_turn p_pair_State_set
 rw [check_pr hn hi.okA hi.okB]
 simp only [Option.bind_some,bne_self_eq_false,cond_false,decide_eq_true (show (7:Int)≤k by omega),decide_eq_true (show k≤(10:Int) by omega),cond_true,f1,f2,z1,z2]
 have quiet:∀ {o:Int × Bool},p_subs_Out 0 k=some o→o=(0,false)→k≠7→∃ d,((p_subs_Out 0 k).bind fun v6=>bif v6.2 then (p_subs_In 0 k).bind fun v11=>((p_roster_Sub st.A n.B v6.1).bind fun v1=>bif v1.2 != 0 then some (st,v1.2) else (p_roster_Sub st.B n.A v11.1).bind fun v3=>bif v3.2 != 0 then some (st,v3.2) else some (Ref22State.mk v1.1 v3.1,0)).bind fun v12=>bif v12.2 != 0 then some (st,PairDone.mk false false false false,v12.2) else some (v12.1,PairDone.mk v6.2 v11.2 (v12.1.A.Ver != st.A.Ver) (v12.1.B.Ver != st.B.Ver),0) else ((p_roster_Sub st.A n.B v6.1).bind fun v1=>bif v1.2 != 0 then some (st,v1.2) else (p_roster_Sub st.B n.A 0).bind fun v3=>bif v3.2 != 0 then some (st,v3.2) else some (Ref22State.mk v1.1 v3.1,0)).bind fun v14=>bif v14.2 != 0 then some (st,PairDone.mk false false false false,v14.2) else some (v14.1,PairDone.mk v6.2 false (v14.1.A.Ver != st.A.Ver) (v14.1.B.Ver != st.B.Ver),0))=some (st,d,if k=7 then 7 else 0):=fun {o} ho ho2 hk7=>by
  rw [ho,ho2]
  simp only [Option.bind_some,cond_false,s0 0 rfl,s1 0 rfl,z1,z2,ne_eq,not_true_eq_false,false_and,and_false,if_false,if_true,bne_self_eq_false,if_neg hk7]
  exact ⟨_,rfl⟩
 rcases hk with rfl | rfl | rfl | rfl
 ·have ho:p_subs_Out 0 7=some (4,true):=by kernel_rfl
  have hin:p_subs_In 0 7=some (8,true):=by kernel_rfl
  rw [ho,Option.bind_some,cond_true,hin,Option.bind_some]
  dsimp only
  cases fa with
  | true =>
   obtain ⟨q1,q2⟩:=full_no hi.okA hi.oa h1
   rw [s0 4 rfl,if_pos ⟨q1,by decide,q2⟩]
   exact ⟨_,rfl⟩
  | false =>
   have hfb:fb=true:=by simpa using hfl
   subst hfb
   obtain ⟨q1,q2⟩:=full_no hi.okB hi.ob h2
   obtain ⟨s',p1,_,_,_,_,_⟩:=sub_step hi.okA (by omega) hn.b hn.sb (q:=4) rfl h1 (by rw [hi.oa];show (10:Nat)≤11;omega)
   rw [p1,s1 8 rfl,if_pos ⟨q1,by decide,q2⟩]
   exact ⟨_,rfl⟩
 ·exact quiet (o:=(0,false)) (by kernel_rfl) rfl (by decide)
 ·exact quiet (o:=(0,false)) (by kernel_rfl) rfl (by decide)
 ·exact quiet (o:=(0,false)) (by kernel_rfl) rfl (by decide)
end Go.Proofs.YtpmoioopjbfhkaaGreat

namespace Go.Proofs.YtpmoioopjbfhkaaGreat
open Go.RowKit
theorem kind_p {K:Int} (h:0≤K):IntKind.wrap .u8 ((7:Int) + (Int.tmod K (4:Int)))=7∨IntKind.wrap .u8 ((7:Int) + (Int.tmod K (4:Int)))=8∨IntKind.wrap .u8 ((7:Int) + (Int.tmod K (4:Int)))=9∨IntKind.wrap .u8 ((7:Int) + (Int.tmod K (4:Int)))=10:=by
 have e:Int.tmod K 4=K % 4:=Int.tmod_eq_emod_of_nonneg h
 rw [e]
 have:K % 4=0∨K % 4=1∨K % 4=2∨K % 4=3:=by omega
 rcases this with g | g | g | g <;> rw [g]
 ·exact .inl rfl
 ·exact .inr (.inl rfl)
 ·exact .inr (.inr (.inl rfl))
 ·exact .inr (.inr (.inr rfl))
def condE (a b:Bool) (K:Int) (st:Ref22State) (v47:Ref22State × PairDone × Int):Option (Bool ⊕ Unit) :=
 bif (v47.2.2 != (0:Int)) then
  bif (v47.2.2 != (7:Int)) then
   some (.inl false)
  else
  (p_roster_Same v47.1.A st.A).bind fun v50 =>
  bif v50 then
   (p_roster_Same v47.1.B st.B).bind fun v52 =>
   bif v52 then
    bif a then
     bif (K != (7:Int)) then
      some (.inl false)
     else
     bif (v47.2.2 == (0:Int)) then
      bif (K == (7:Int)) then
       bif v47.2.1.Passed then
        some (.inl false)
       else
       some (.inr ())
      else
      some (.inr ())
     else
     some (.inr ())
    else
    bif b then
     bif (K != (7:Int)) then
      some (.inl false)
     else
     bif (v47.2.2 == (0:Int)) then
      bif (K == (7:Int)) then
       bif v47.2.1.Passed then
        some (.inl false)
       else
       some (.inr ())
      else
      some (.inr ())
     else
     some (.inr ())
    else
    some (.inl false)
   else
   some (.inl false)
  else
  some (.inl false)
 else
 bif (v47.2.2 == (0:Int)) then
  bif (K == (7:Int)) then
   bif a then
    bif v47.2.1.Passed then
     some (.inl false)
    else
    some (.inr ())
   else
   bif b then
    bif v47.2.1.Passed then
     some (.inl false)
    else
    some (.inr ())
   else
   some (.inr ())
  else
  some (.inr ())
 else
 some (.inr ())
theorem say_any {n:Ref22Names} (hn:NamesOk n) {fa fb:Bool} {v:Int} (hv:v < 1099511627776) {st:Ref22State} (h:Inv2 n fa fb v st) {k:Int} (hk:k=7∨k=8∨k=9∨k=10) :
  ∃ r,p_pair_Say n st k=some r∧Inv2 n fa fb (v + 1) r.1∧condE fa fb k st r=some (.inr ()):=by
 have up:∀ {s},Inv2 n fa fb v s→Inv2 n fa fb (v + 1) s:=fun {s} g=>⟨⟨g.inv.okA,g.inv.okB,by have:=g.inv.va;omega,by have:=g.inv.vb;omega,g.inv.oa,g.inv.ob,g.inv.subs⟩,g.nil⟩
 cases hfl:(fa || fb) with
 | true =>
  obtain ⟨d,hs⟩:=say_full hn hfl hv h hk
  refine ⟨_,hs,up h,?_⟩
  unfold condE
  dsimp only
  rw [same_rs h.inv.okA.light.small,same_rs h.inv.okB.light.small]
  rcases hk with rfl | rfl | rfl | rfl
  ·cases fa with
   | true=>rfl
   | false =>
    have:fb=true:=by simpa using hfl
    subst this;rfl
  ·rfl
  ·rfl
  ·rfl
 | false =>
  have h0:fa=false∧fb=false:=by simpa using hfl
  obtain ⟨rfl,rfl⟩:=h0
  obtain ⟨st',d,hs,hi,_⟩:=say_free hn (oa:=num false) (ob:=num false) (by show (10:Nat)≤11;omega) (by show (10:Nat)≤11;omega) hv h.inv hk
  refine ⟨_,hs,⟨hi,fun e=>by cases e⟩,?_⟩
  unfold condE
  rcases hk with rfl | rfl | rfl | rfl <;> rfl
theorem refused_l {acts:List PairAct} (hl:acts.length≤30) (ha:∀ x ∈ acts,0≤x.Kind) {N:Ref22Names} (hn:NamesOk N) (f0 f1:Bool):∀ (n k F:Nat) (st:Ref22State),k + n=acts.length→n < F→Inv2 N f0 f1 (100 + k) st →
  ∃ s,p_law22_PairRefused_l2 acts ⟨f0,f1⟩ N F (k:Int) st=some (.inr ((acts.length:Int),s))
 | 0,k,F + 1,st,hk,hF,h=>by
  have e:k=acts.length:=by omega
  rw [p_law22_PairRefused_l2,lt_ff (by omega),e]
  exact ⟨st,rfl⟩
 | n + 1,k,F + 1,st,hk,hF,h=>by
  have hlt:k < acts.length:=by omega
  have hK:=kind_p (ha _ (List.getElem_mem hlt))
  have rc:=refused_l hl ha hn f0 f1 n (k + 1) F
  rw [p_law22_PairRefused_l2,lt_tt hlt,cond_true,at_lt hlt,w64_succ (by omega)]
  simp only [Option.bind_some]
  generalize acts[k]=x at *
  cases hB:x.Back with
  | true =>
   obtain ⟨r,hs,hi,hc⟩:=say_any hn.turn (v:=100 + k) (by omega) h.turn hK
   simp only [cond_true,(turn_p N st).1,Option.bind_some,hs]
   have hi2:Inv2 N f0 f1 (100 + (k + 1:Nat)) ⟨r.1.B,r.1.A⟩:=by
    have:=hi.turn
    exact (show (100:Int) + (k:Int) + 1=100 + ((k + 1:Nat):Int) by omega) ▸ this
   show ∃ s,((condE f1 f0 _ ⟨st.B,st.A⟩ r).bind _)=_
   rw [hc]
   dsimp only [Option.bind_some]
   rw [(turn_p _ r.1).1]
   dsimp only [Option.bind_some]
   rw [agree_pr hn hi2.inv]
   exact rc _ (by omega) (by omega) hi2
  | false =>
   obtain ⟨r,hs,hi,hc⟩:=say_any hn (v:=100 + k) (by omega) h hK
   simp only [cond_false,Option.bind_some,hs]
   have hi2:Inv2 N f0 f1 (100 + (k + 1:Nat)) r.1:=(show (100:Int) + (k:Int) + 1=100 + ((k + 1:Nat):Int) by omega) ▸ hi
   show ∃ s,((condE f0 f1 _ st r).bind _)=_
   rw [hc]
   dsimp only [Option.bind_some]
   rw [agree_pr hn hi2.inv]
   exact rc _ (by omega) (by omega) hi2
theorem built_no {m:Nat} {s:RosterState} (h:Built m s) {c:ByteArray} (hc:c.data.toList.length=5):othC s c=m∧HasR s c (ItemItem.mk ⟨#[]⟩ ⟨#[]⟩ 0 0 false,false):=by
 have hnone:∀ it ∈ s.Items,it.Contact≠c:=fun it hit e=>by
  obtain ⟨j,hj,hq⟩:=h.who it hit
  exact cK_ne hc (hq.symm.trans e)
 refine ⟨?_,.inr ⟨rfl,hnone⟩⟩
 unfold othC
 cases hh:fndC s.Items c with
 | false=>exact h.len
 | true=>obtain ⟨it,h1,h2⟩:=(fnd_iff h.ok.full.sorted _).1 hh;exact absurd h2 (hnone it h1)
theorem pairRefused_pure (haw:p_law22_awake=some true) (f:Ar2_Bool) (l:List PairAct) (hl:∀ x ∈ l,0≤x.Kind):p_law22_PairRefused f l=some true:=by
 unfold p_law22_PairRefused
 rw [haw]
 by_cases g:(30:Int) < (l.length:Int)
 ·rw [decide_eq_true g];rfl
 rw [decide_eq_false g,cond_false]
 obtain ⟨f0,f1⟩:=f
 obtain ⟨st,h1,hA,hB⟩:=built_l f0 f1 12 0 fuel (Ref22State.mk (RosterState.mk 0 0 [] []) (RosterState.mk 0 0 [] [])) rfl (by have:=fuel_pos;omega) (by cases f0 <;> exact built0) (by cases f1 <;> exact built0)
 have h1' : p_law22_PairRefused_l1 ⟨f0,f1⟩ fuel 0 (Ref22State.mk (RosterState.mk 0 0 [] []) (RosterState.mk 0 0 [] []))=some (12,st):=h1
 rw [h1',Option.bind_some]
 have cn:∀ f,cnt f 12=num f:=fun f=>by cases f <;> rfl
 rw [cn] at hA hB
 have hn:NamesOk (Ref22Names.mk (⟨#[97,110,110,64,120]⟩ : ByteArray) (⟨#[98,111,98,64,121]⟩ : ByteArray)) :=
  ⟨by kernel_rfl,by kernel_rfl,by show 5≤100;omega,by show 5≤100;omega,fun e=>by have:=congrArg (fun b:ByteArray=>b.data.toList.head?) e;cases this⟩
 obtain ⟨oA,xA⟩:=built_no hA (c:=(⟨#[98,111,98,64,121]⟩ : ByteArray)) rfl
 obtain ⟨oB,xB⟩:=built_no hB (c:=(⟨#[97,110,110,64,120]⟩ : ByteArray)) rfl
 have hv:∀ f,(num f:Int)≤100 + (0:Nat):=fun f=>by cases f <;> decide
 have hinv:Inv2 (Ref22Names.mk (⟨#[97,110,110,64,120]⟩ : ByteArray) (⟨#[98,111,98,64,121]⟩ : ByteArray)) f0 f1 (100 + (0:Nat)) st :=
  ⟨⟨hA.ok,hB.ok,by rw [hA.ver];exact hv f0,by rw [hB.ver];exact hv f1,oA,oB,_,_,xA,xB,by kernel_rfl⟩,fun _=>⟨_,_,xA,xB,rfl,rfl⟩⟩
 obtain ⟨s,h2⟩:=refused_l (acts:=l) (by omega) hl hn f0 f1 l.length 0 fuel st (by omega) (by have:=fuel_pos;omega) hinv
 have h2' : p_law22_PairRefused_l2 l ⟨f0,f1⟩ (Ref22Names.mk (⟨#[97,110,110,64,120]⟩ : ByteArray) (⟨#[98,111,98,64,121]⟩ : ByteArray)) fuel 0 st=some (.inr ((l.length:Int),s)):=h2
 simp only [h2',Option.bind_some]
end Go.Proofs.YtpmoioopjbfhkaaGreat

namespace Go.Proofs.YtpmoioopjbfhkaaGreat
open Go.RowKit Go.Lib
end Go.Proofs.YtpmoioopjbfhkaaGreat

namespace Go.Proofs.YtpmoioopjbfhkaaGreat
open Go.RowKit
set_option maxRecDepth 100000
set_option maxHeartbeats 4000000
def gc86:BCode:=(.seq (R_ 0 [O_ 2 (.mv (i_ 0)) 0]) (.seq (.block 0 (.seq (.seq (R_ 0 [O_ 4 (.mv (t_ 0)) 0,O_ 5 (.bin .lss (t_ 4) (i_ 0)) 0,O_ 3 (.mv (t_ 5)) 0]) (.cond (t_ 3) .skip (R_ 0 [O_ 6 (.mv (t_ 0)) 0,O_ 7 (.bin .gtr (t_ 6) (i_ 15)) 0,O_ 3 (.mv (t_ 7)) 0]))) (.cond (t_ 3) (.seq (R_ 0 [O_ 2 (.mv (i_ 8)) 0]) .ret) (.seq (.seq (R_ 0 [O_ 9 (.mv (t_ 0)) 0,O_ 10 (.bin .and (t_ 9) (i_ 5)) 0,O_ 11 (.bin .eql (t_ 10) (i_ 5)) 0,O_ 8 (.mv (t_ 11)) 0]) (.cond (t_ 8) .skip (R_ 0 [O_ 12 (.mv (t_ 0)) 0,O_ 13 (.bin .and (t_ 12) (i_ 10)) 0,O_ 14 (.bin .eql (t_ 13) (i_ 10)) 0,O_ 8 (.mv (t_ 14)) 0]))) (.cond (t_ 8) (.seq (R_ 0 [O_ 2 (.mv (i_ 4)) 0]) .ret) .skip))))) (.seq (R_ 0 [O_ 2 (.mv (i_ 0)) 0]) .ret)))
theorem gc86_ok:compF Tryz.prog Tryz.f86=some (gc86.er,15,[.tmp 2]):=by unfold gc86;kernel_rfl
theorem p_subs_Check_v (a0:Int):CallsO Tryz.prog 86 [.i a0] V.i (p_subs_Check a0):=by
 refine callsO_comp mix Tryz.func86 gc86_ok fun r H=>?_
 rw [p_subs_Check] at H
 conv=>whnf
 refine tst_c H (fun b1 H=>?_) (fun b1 H=>?_)
 ·conv=>whnf
  refine Tst.T ?_;conv=>whnf
  exact fi_ H
 conv=>whnf
 refine tst_c H (fun b2 H=>?_) (fun b2 H=>?_)
 ·conv=>whnf
  exact fi_ H
 conv=>whnf
 refine tst_c H (fun b3 H=>?_) (fun b3 H=>?_)
 ·conv=>whnf
  refine Tst.T ?_;conv=>whnf
  exact fi_ H
 conv=>whnf
 refine tst_c H (fun b4 H=>?_) (fun b4 H=>?_)
 ·conv=>whnf
  exact fi_ H
 conv=>whnf
 exact fi_ H
def gc15:BCode:=(.seq (R_ 1 [O_ 1 (.bx (t_ 0)) 0,O_ 2 (.mv (i_ 0)) 1]) (.seq (.seq (R_ 0 [O_ 4 (.fa 0 (t_ 1)) 0,O_ 5 (.ld 1 false (t_ 4)) 0,O_ 6 (.cl 84 [(t_ 5)]) 0,O_ 7 (.un .not (t_ 6)) 0]) (.cond (t_ 7) (.seq (R_ 0 [O_ 2 (.mv (i_ 11)) 0]) .ret) .skip)) (.seq (.seq (R_ 0 [O_ 8 (.fa 1 (t_ 1)) 0,O_ 9 (.ld 1 false (t_ 8)) 0,O_ 10 (.lent (t_ 9)) 0,O_ 11 (.bin .gtr (t_ 10) (i_ 24)) 0]) (.cond (t_ 11) (.seq (R_ 0 [O_ 2 (.mv (i_ 5)) 0]) .ret) .skip)) (.seq (.seq (R_ 0 [O_ 12 (.fa 1 (t_ 1)) 0,O_ 13 (.ld 1 false (t_ 12)) 0,O_ 14 (.cl 85 [(t_ 13)]) 0,O_ 15 (.un .not (t_ 14)) 0]) (.cond (t_ 15) (.seq (R_ 0 [O_ 2 (.mv (i_ 11)) 0]) .ret) .skip)) (.seq (.seq (R_ 0 [O_ 16 (.fa 2 (t_ 1)) 0,O_ 17 (.ld 1 false (t_ 16)) 0,O_ 18 (.cl 86 [(t_ 17)]) 0,O_ 3 (.mv (t_ 18)) 0]) (.seq (R_ 0 [O_ 19 (.mv (t_ 3)) 0,O_ 20 (.bin .neq (t_ 19) (i_ 0)) 0]) (.cond (t_ 20) (.seq (R_ 0 [O_ 21 (.mv (t_ 3)) 0,O_ 2 (.mv (t_ 21)) 0]) .ret) .skip))) (.seq (.seq (R_ 0 [O_ 22 (.fa 3 (t_ 1)) 0,O_ 23 (.ld 1 false (t_ 22)) 0,O_ 24 (.bin .lss (t_ 23) (i_ 0)) 0,O_ 25 (.mv (t_ 24)) 0,⟨(some 26),.fa 3 (t_ 1),(some (25,false)),0⟩,⟨(some 27),.ld 1 false (t_ 26),(some (25,false)),0⟩,⟨(some 28),.bin .gtr (t_ 27) (i_ 1099511627776),(some (25,false)),0⟩,O_ 29 (.pick (t_ 25) (b_ true) (t_ 28)) 0]) (.cond (t_ 29) (.seq (R_ 0 [O_ 2 (.mv (i_ 8)) 0]) .ret) .skip)) (.seq (.seq (R_ 0 [O_ 30 (.fa 1 (t_ 1)) 0,O_ 31 (.ld 1 false (t_ 30)) 0,O_ 32 (.bin .neq (t_ 31) (.const (.string ⟨#[]⟩))) 0,O_ 33 (.mv (t_ 32)) 0,⟨(some 34),.fa 4 (t_ 1),(some (33,true)),0⟩,⟨(some 35),.ld 1 false (t_ 34),(some (33,true)),0⟩,⟨(some 36),.un .not (t_ 35),(some (33,true)),0⟩,O_ 37 (.pick (t_ 33) (t_ 36) (b_ false)) 0]) (.cond (t_ 37) (.seq (R_ 0 [O_ 2 (.mv (i_ 4)) 0]) .ret) .skip)) (.seq (R_ 0 [O_ 2 (.mv (i_ 0)) 0]) .ret))))))))
theorem gc15_ok:compF Tryz.prog Tryz.f15=some (gc15.er,38,[.tmp 2]):=by unfold gc15;kernel_rfl
theorem p_item_Check_v (a0:ItemItem):CallsO Tryz.prog 15 [.agg [.s a0.Contact,.s a0.Name,.i a0.Sub,.i a0.Ver,.b a0.Own]] V.i (p_item_Check a0):=by
 refine callsO_comp mix Tryz.func15 gc15_ok fun r H=>?_
 rw [p_item_Check] at H
 conv=>whnf
 refine ask_c (p_addr_IsBare_v _) H rfl rfl (fun v1 H=>?_);conv=>whnf
 refine Tst.not ?_
 refine tst_d H (fun b2 H=>?_) (fun b2 H=>?_)
 ·conv=>whnf
  exact fi_ H
 conv=>whnf
 refine tst_c H (fun b3 H=>?_) (fun b3 H=>?_)
 ·conv=>whnf
  exact fi_ H
 conv=>whnf
 refine ask_c (p_utf_Plain_v _) H rfl rfl (fun v4 H=>?_);conv=>whnf
 refine Tst.not ?_
 refine tst_d H (fun b5 H=>?_) (fun b5 H=>?_)
 ·conv=>whnf
  exact fi_ H
 conv=>whnf
 refine ask_c (p_subs_Check_v _) H rfl rfl (fun v6 H=>?_);conv=>whnf
 refine tst_c H (fun b7 H=>?_) (fun b7 H=>?_)
 ·conv=>whnf
  exact fi_ H
 conv=>whnf
 refine tst_c H (fun b8 H=>?_) (fun b8 H=>?_)
 ·conv=>whnf
  iterate 4 (refine Tst.T ?_;conv=>whnf)
  exact fi_ H
 conv=>whnf
 iterate 3 (refine Tst.F ?_;conv=>whnf)
 refine tst_c H (fun b9 H=>?_) (fun b9 H=>?_)
 ·conv=>whnf
  exact fi_ H
 conv=>whnf
 refine Tst.not ?_
 refine tst_c H (fun b10 H=>?_) (fun b10 H=>?_)
 ·conv=>whnf
  iterate 4 (refine Tst.F ?_;conv=>whnf)
  exact fi_ H
 conv=>whnf
 iterate 3 (refine Tst.T ?_;conv=>whnf)
 refine Tst.not ?_
 refine tst_c H (fun b11 H=>?_) (fun b11 H=>?_)
 ·conv=>whnf
  exact fi_ H
 conv=>whnf
 exact fi_ H
end Go.Proofs.YtpmoioopjbfhkaaGreat

namespace Go.Proofs.YtpmoioopjbfhkaaGreat
open Go.RowKit
end Go.Proofs.YtpmoioopjbfhkaaGreat

namespace Go.Proofs.YtpmoioopjbfhkaaGreat
open Go.RowKit
set_option maxRecDepth 100000
set_option maxHeartbeats 4000000
def gc90:BCode:=(.seq (R_ 1 [O_ 2 (.bx (t_ 0)) 0,O_ 4 (.mv (b_ false)) 1]) (.seq (R_ 0 [O_ 5 (.fa 2 (t_ 2)) 0,O_ 6 (.ld 1 false (t_ 5)) 0,O_ 7 (.cl 86 [(t_ 6)]) 0,O_ 8 (.bin .eql (t_ 7) (i_ 0)) 0,O_ 9 (.mv (t_ 8)) 0,⟨(some 10),.fa 2 (t_ 2),(some (9,true)),0⟩,⟨(some 11),.ld 1 false (t_ 10),(some (9,true)),0⟩,⟨(some 12),.mv (t_ 1),(some (9,true)),0⟩,⟨(some 13),.bin .and (t_ 11) (t_ 12),(some (9,true)),0⟩,⟨(some 14),.bin .neq (t_ 13) (i_ 0),(some (9,true)),0⟩,O_ 15 (.pick (t_ 9) (t_ 14) (b_ false)) 0,O_ 4 (.mv (t_ 15)) 0]) .ret))
theorem gc90_ok:compF Tryz.prog Tryz.f90=some (gc90.er,16,[.tmp 4]):=by unfold gc90;kernel_rfl
theorem p_item_Item_has_v (a0:ItemItem) (a1:Int):CallsO Tryz.prog 90 [.agg [.s a0.Contact,.s a0.Name,.i a0.Sub,.i a0.Ver,.b a0.Own],.i a1] V.b (p_item_Item_has a0 a1):=by
 refine callsO_comp mix Tryz.func90 gc90_ok fun r H=>?_
 rw [p_item_Item_has] at H
 conv=>whnf
 refine ask_c (p_subs_Check_v _) H rfl rfl (fun v1 H=>?_);conv=>whnf
 refine tst_c H (fun b2 H=>?_) (fun b2 H=>?_)
 ·conv=>whnf
  iterate 5 (refine Tst.T ?_;conv=>whnf)
  exact fb_ H
 conv=>whnf
 iterate 5 (refine Tst.F ?_;conv=>whnf)
 exact fb_ H
def gc17:BCode:=(.seq (R_ 1 [O_ 1 (.bx (t_ 0)) 0,O_ 2 (.mv (b_ false)) 1]) (.seq (R_ 0 [O_ 3 (.fa 4 (t_ 1)) 0,O_ 4 (.ld 1 false (t_ 3)) 0,O_ 5 (.mv (t_ 4)) 0,⟨(some 6),.ld 5 true (t_ 1),(some (5,false)),0⟩,⟨(some 7),.cl 90 [(t_ 6),(i_ 7)],(some (5,false)),0⟩,O_ 8 (.pick (t_ 5) (b_ true) (t_ 7)) 0,O_ 2 (.mv (t_ 8)) 0]) .ret))
theorem gc17_ok:compF Tryz.prog Tryz.f17=some (gc17.er,9,[.tmp 2]):=by unfold gc17;kernel_rfl
theorem p_item_Listed_v (a0:ItemItem):CallsO Tryz.prog 17 [.agg [.s a0.Contact,.s a0.Name,.i a0.Sub,.i a0.Ver,.b a0.Own]] V.b (p_item_Listed a0):=by
 refine callsO_comp mix Tryz.func17 gc17_ok fun r H=>?_
 rw [p_item_Listed] at H
 conv=>whnf
 refine tst_c H (fun b1 H=>?_) (fun b1 H=>?_)
 ·conv=>whnf
  iterate 2 (refine Tst.T ?_;conv=>whnf)
  exact fb_ H
 conv=>whnf
 refine Tst.F ?_;conv=>whnf
 refine ask_c (p_item_Item_has_v _ _) H rfl rfl (fun v2 H=>?_);conv=>whnf
 refine Tst.F ?_;conv=>whnf
 exact fb_ H
def gc19:BCode:=(.seq (R_ 1 [O_ 1 (.bx (t_ 0)) 0,O_ 2 (.mv (b_ false)) 1]) (.seq (R_ 0 [O_ 3 (.fa 2 (t_ 1)) 0,O_ 4 (.ld 1 false (t_ 3)) 0,O_ 5 (.bin .eql (t_ 4) (i_ 0)) 0,O_ 6 (.mv (t_ 5)) 0,⟨(some 7),.fa 4 (t_ 1),(some (6,true)),0⟩,⟨(some 8),.ld 1 false (t_ 7),(some (6,true)),0⟩,⟨(some 9),.un .not (t_ 8),(some (6,true)),0⟩,O_ 10 (.pick (t_ 6) (t_ 9) (b_ false)) 0,O_ 2 (.mv (t_ 10)) 0]) .ret))
theorem gc19_ok:compF Tryz.prog Tryz.f19=some (gc19.er,11,[.tmp 2]):=by unfold gc19;kernel_rfl
theorem p_item_Idle_v (a0:ItemItem):CallsO Tryz.prog 19 [.agg [.s a0.Contact,.s a0.Name,.i a0.Sub,.i a0.Ver,.b a0.Own]] V.b (p_item_Idle a0):=by
 refine callsO_comp mix Tryz.func19 gc19_ok fun r H=>?_
 rw [p_item_Idle] at H
 conv=>whnf
 refine tst_c H (fun b1 H=>?_) (fun b1 H=>?_)
 ·conv=>whnf
  iterate 3 (refine Tst.T ?_;conv=>whnf)
  exact fb_ H
 conv=>whnf
 iterate 3 (refine Tst.F ?_;conv=>whnf)
 exact fb_ H
end Go.Proofs.YtpmoioopjbfhkaaGreat

namespace Go.Proofs.YtpmoioopjbfhkaaGreat
open Go.RowKit
end Go.Proofs.YtpmoioopjbfhkaaGreat

namespace Go.Proofs.YtpmoioopjbfhkaaGreat
open Go.RowKit
end Go.Proofs.YtpmoioopjbfhkaaGreat

namespace Go.Proofs.YtpmoioopjbfhkaaGreat
open Go.RowKit
end Go.Proofs.YtpmoioopjbfhkaaGreat

