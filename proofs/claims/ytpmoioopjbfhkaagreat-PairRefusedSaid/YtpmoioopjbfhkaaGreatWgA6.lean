/- A part of the proof: 6 texts joined. -/
import Derived.Test.YtpmoioopjbfhkaaGreatWgA5
set_option linter.all false
namespace Go.Proofs.YtpmoioopjbfhkaaGreat
open Go.RowKit
def RiseAt (s:RosterState) (k:Nat):Prop:=∀ x,s.Items[k]?=some x→1≤x.Ver∧x.Ver≤s.Ver∧(∀ j,j < k→∀ y,s.Items[j]?=some y→y.Ver≠x.Ver)∧(0 < k→∀ y,s.Items[k - 1]?=some y→Op.bytesLess y.Contact.toList x.Contact.toList=true)
def Rise (s:RosterState):Prop:=∀ k,k < s.Items.length→RiseAt s k
theorem of_p {s:RosterState} (h:LightS s) (v:Int):∃ i,p_roster_State_of s v=some i∧Idx (fun x=>x.Ver == v) s.Items i:=by
 have hi:=h.items
 obtain ⟨i,h1,h2⟩:=idxI_p (fun x=>x.Ver == v) s.Items (by omega)
 exact ⟨i,by unfold p_roster_State_of p_roster_State_of_1;rw [h1];rfl,h2⟩
theorem rise_p {s:RosterState} (h:LightS s):∃ b,p_roster_State_rise s=some b∧(b=true ↔ Rise s):=by
 have hi:=h.items
 unfold p_roster_State_rise
 have l1:=loop_all (N:=s.Items.length) (by omega) (p_roster_State_rise_l1 s.Items (s.Items.length:Int) s) (s.Items.length:Int) (RiseAt s) (fun n k hk=>by
  obtain ⟨i,h1,h2⟩:=of_p h s.Items[k].Ver
  rw [p_roster_State_rise_l1,lt_tt hk,cond_true,at_lt hk,Option.bind_some,h1,w64_succ (by omega)]
  by_cases g1:s.Items[k].Ver < 1
  ·rw [decide_eq_true g1]
   exact ⟨fun g=>by have:=(g _ (List.getElem?_eq_getElem hk)).1;omega,fun _=>rfl⟩
  rw [decide_eq_false g1,cond_false]
  by_cases g2:s.Ver < s.Items[k].Ver
  ·rw [decide_eq_true g2]
   exact ⟨fun g=>by have:=(g _ (List.getElem?_eq_getElem hk)).2.1;omega,fun _=>rfl⟩
  rw [decide_eq_false g2,cond_false,Option.bind_some]
  by_cases g3:i=(k:Int)
  case neg =>
   rw [show (i != (k:Int))=true by simpa using g3]
   refine ⟨fun g=>absurd ?_ g3,fun _=>rfl⟩
   rcases h2 with ⟨q,rfl,x,hx,hp,hj⟩ | ⟨_,hn⟩
   ·rcases Nat.lt_trichotomy q k with c | c | c
    ·exact absurd (by simpa using hp) ((g _ (List.getElem?_eq_getElem hk)).2.2.1 q c x hx)
    ·rw [c]
    ·have:=hj k c _ (List.getElem?_eq_getElem hk);simp at this
   ·have:=hn _ (List.getElem_mem hk);simp at this
  have g3' : ∀ j,j < k→∀ y,s.Items[j]?=some y→y.Ver≠s.Items[k].Ver:=by
   rcases h2 with ⟨q,rfl,x,hx,hp,hj⟩ | ⟨e,_⟩
   ·have:q=k:=by omega
    subst this
    intro j hjk y hy;have:=hj j hjk y hy;simpa using this
   ·omega
  rw [show (i != (k:Int))=false by simpa using g3,cond_false]
  by_cases g4:0 < k
  ·have e1:w64 ((k:Int) - 1)=((k - 1:Nat):Int):=by rw [w64_id (by omega)];omega
   have hk1:k - 1 < s.Items.length:=by omega
   rw [show decide ((0:Int) < (k:Int))=true by simp;omega,cond_true,e1,at_lt hk1,Option.bind_some]
   cases g5:Op.bytesLess s.Items[k - 1].Contact.toList s.Items[k].Contact.toList with
   | true =>
    rw [cond_true]
    exact ⟨fun _=>rfl,fun g=>absurd (fun x hx=>by rw [List.getElem?_eq_getElem hk] at hx;cases hx;exact ⟨by omega,by omega,g3',fun _ y hy=>by rw [List.getElem?_eq_getElem hk1] at hy;cases hy;exact g5⟩) g⟩
   | false =>
    rw [cond_false]
    exact ⟨fun g=>(by have:=(g _ (List.getElem?_eq_getElem hk)).2.2.2 g4 _ (List.getElem?_eq_getElem hk1);rw [g5] at this;cases this),fun _=>rfl⟩
  ·rw [show decide ((0:Int) < (k:Int))=false by simp;omega,cond_false]
   exact ⟨fun _=>rfl,fun g=>absurd (fun x hx=>by rw [List.getElem?_eq_getElem hk] at hx;cases hx;exact ⟨by omega,by omega,g3',fun h=>absurd h g4⟩) g⟩) (fun n=>by rw [p_roster_State_rise_l1,lt_ff (Nat.le_refl _)];rfl)
 rcases l1 with ⟨a,e⟩ | ⟨a,e⟩
 ·rw [e];exact ⟨true,rfl,fun _=>a,fun _=>rfl⟩
 ·rw [e];exact ⟨false,rfl,fun h=>(by cases h),fun h=>absurd h a⟩
theorem rrise2_p {s:RosterState} (hi:s.Items.length≤20) {k:Nat} (hk:k≤s.Items.length) (x:ItemItem):((∀ j,j < k→∀ y,s.Items[j]?=some y→y.Ver≠x.Ver)∧p_ref21_rises_l2 (k:Int) s x fuel 0=some (.inr (k:Int)))∨(¬ (∀ j,j < k→∀ y,s.Items[j]?=some y→y.Ver≠x.Ver)∧p_ref21_rises_l2 (k:Int) s x fuel 0=some (.inl false)) :=
 loop_all (N:=k) (by omega) (p_ref21_rises_l2 (k:Int) s x) (k:Int) (fun j=>∀ y,s.Items[j]?=some y→y.Ver≠x.Ver) (fun n j hj=>by
  have hl:j < s.Items.length:=by omega
  rw [p_ref21_rises_l2,lt_tt hj,cond_true,at_lt hl,Option.bind_some,w64_succ (by omega),List.getElem?_eq_getElem hl]
  by_cases g:s.Items[j].Ver=x.Ver
  ·rw [show (s.Items[j].Ver == x.Ver)=true by simpa using g]
   exact ⟨fun h=>absurd g (h _ rfl),fun _=>rfl⟩
  ·rw [show (s.Items[j].Ver == x.Ver)=false by simpa using g]
   exact ⟨fun _=>rfl,fun h=>absurd (fun y hy=>by cases hy;exact g) h⟩) (fun n=>by rw [p_ref21_rises_l2,lt_ff (Nat.le_refl _)];rfl)
theorem rrise1_p {s:RosterState} (hi:s.Items.length≤20):(Rise s∧p_ref21_rises_l1 s fuel 0=some (.inr (s.Items.length:Int)))∨(¬ Rise s∧p_ref21_rises_l1 s fuel 0=some (.inl false)) :=
 loop_all (N:=s.Items.length) (by omega) (p_ref21_rises_l1 s) (s.Items.length:Int) (RiseAt s) (fun n k hk=>by
  have l2:=rrise2_p hi (Nat.le_of_lt hk) s.Items[k]
  rw [p_ref21_rises_l1,lt_tt hk,cond_true,at_lt hk,Option.bind_some,w64_succ (by omega)]
  by_cases g1:s.Items[k].Ver < 1
  ·rw [decide_eq_true g1]
   exact ⟨fun g=>by have:=(g _ (List.getElem?_eq_getElem hk)).1;omega,fun _=>rfl⟩
  rw [decide_eq_false g1,cond_false]
  by_cases g2:s.Ver < s.Items[k].Ver
  ·rw [decide_eq_true g2]
   exact ⟨fun g=>by have:=(g _ (List.getElem?_eq_getElem hk)).2.1;omega,fun _=>rfl⟩
  rw [decide_eq_false g2,cond_false]
  by_cases g4:0 < k
  ·have e1:w64 ((k:Int) - 1)=((k - 1:Nat):Int):=by rw [w64_id (by omega)];omega
   have hk1:k - 1 < s.Items.length:=by omega
   rw [show decide ((0:Int) < (k:Int))=true by simp;omega,cond_true,e1,at_lt hk1,Option.bind_some]
   cases g5:Op.bytesLess s.Items[k - 1].Contact.toList s.Items[k].Contact.toList with
   | true =>
    rw [cond_true]
    rcases l2 with ⟨a,e⟩ | ⟨a,e⟩
    ·rw [e]
     exact ⟨fun _=>rfl,fun g=>absurd (fun x hx=>by rw [List.getElem?_eq_getElem hk] at hx;cases hx;exact ⟨by omega,by omega,a,fun _ y hy=>by rw [List.getElem?_eq_getElem hk1] at hy;cases hy;exact g5⟩) g⟩
    ·rw [e]
     exact ⟨fun g=>absurd ((g _ (List.getElem?_eq_getElem hk)).2.2.1) a,fun _=>rfl⟩
   | false =>
    rw [cond_false]
    exact ⟨fun g=>(by have:=(g _ (List.getElem?_eq_getElem hk)).2.2.2 g4 _ (List.getElem?_eq_getElem hk1);rw [g5] at this;cases this),fun _=>rfl⟩
  ·rw [show decide ((0:Int) < (k:Int))=false by simp;omega,cond_false]
   rcases l2 with ⟨a,e⟩ | ⟨a,e⟩
   ·rw [e]
    exact ⟨fun _=>rfl,fun g=>absurd (fun x hx=>by rw [List.getElem?_eq_getElem hk] at hx;cases hx;exact ⟨by omega,by omega,a,fun h=>absurd h g4⟩) g⟩
   ·rw [e]
    exact ⟨fun g=>absurd ((g _ (List.getElem?_eq_getElem hk)).2.2.1) a,fun _=>rfl⟩) (fun n=>by rw [p_ref21_rises_l1,lt_ff (Nat.le_refl _)];rfl)
def SortedC (l:List ItemItem):Prop:=∀ i j:Nat,i < j→∀ x y:ItemItem,l[i]?=some x→l[j]?=some y→Lib.compareBytes x.Contact.data.toList y.Contact.data.toList < 0
theorem Rise.sorted {s:RosterState} (h:Rise s):SortedC s.Items:=by
 have key:∀ d i,∀ x y,s.Items[i]?=some x→s.Items[i + (d + 1)]?=some y→Lib.compareBytes x.Contact.data.toList y.Contact.data.toList < 0:=by
  intro d
  induction d with
  | zero =>
   intro i x y hx hy
   have hl:=(List.getElem?_eq_some_iff.1 hy).1
   have:=(h (i + 1) hl y hy).2.2.2 (by omega) x hx
   rw [tl_data,tl_data,cmp_less] at this
   simpa using this
  | succ d ih =>
   intro i x y hx hy
   have hl:=(List.getElem?_eq_some_iff.1 hy).1
   have h2:=ih i x s.Items[i + (d + 1)] hx (List.getElem?_eq_getElem (by omega))
   have:=(h (i + (d + 1 + 1)) hl y hy).2.2.2 (by omega) s.Items[i + (d + 1)] (by rw [show i + (d + 1 + 1) - 1=i + (d + 1) by omega];exact List.getElem?_eq_getElem (by omega))
   rw [tl_data,tl_data,cmp_less] at this
   exact cmp_trans h2 (by simpa using this)
 intro i j hij x y hx hy
 exact key (j - i - 1) i x y hx (by rw [show i + (j - i - 1 + 1)=j by omega];exact hy)
def posC (l:List ItemItem) (c:ByteArray):Nat:=l.findIdx fun x=>!Op.bytesLess x.Contact.toList c.toList
def fndC (l:List ItemItem) (c:ByteArray):Bool:=match l[posC l c]? with | some x=>x.Contact.toList == c.toList | none=>false
theorem posC_le (l:List ItemItem) (c:ByteArray):posC l c≤l.length:=List.findIdx_le_length
theorem posC_lt {l:List ItemItem} {c:ByteArray} {k:Nat} (h:k < posC l c) {x:ItemItem} (hx:l[k]?=some x):Lib.compareBytes x.Contact.data.toList c.data.toList < 0:=by
 have hl:=(List.getElem?_eq_some_iff.1 hx).1
 have:(!Op.bytesLess (l[k]'hl).Contact.toList c.toList)=false:=by simpa using List.not_of_lt_findIdx (p:=fun x:ItemItem=>!Op.bytesLess x.Contact.toList c.toList) (xs:=l) h
 rw [List.getElem?_eq_getElem hl] at hx
 cases hx
 rw [tl_data,tl_data,cmp_less] at this
 simpa using this
theorem posC_at {l:List ItemItem} {c:ByteArray} {x:ItemItem} (hx:l[posC l c]?=some x):0≤Lib.compareBytes x.Contact.data.toList c.data.toList:=by
 have hl:=(List.getElem?_eq_some_iff.1 hx).1
 have this:(!Op.bytesLess (l[posC l c]'hl).Contact.toList c.toList)=true:=List.findIdx_getElem (p:=fun x:ItemItem=>!Op.bytesLess x.Contact.toList c.toList) (xs:=l) (w:=hl)
 rw [List.getElem?_eq_getElem hl] at hx
 have e:l[posC l c]=x:=Option.some.inj hx
 rw [e,tl_data,tl_data,cmp_less] at this
 simpa using this
theorem posC_ge {l:List ItemItem} {c:ByteArray} (hs:SortedC l) {k:Nat} (h:posC l c≤k) {x:ItemItem} (hx:l[k]?=some x):0≤Lib.compareBytes x.Contact.data.toList c.data.toList:=by
 have hl:=(List.getElem?_eq_some_iff.1 hx).1
 rcases Nat.lt_or_ge (posC l c) k with g | g
 ·have h1:=hs _ _ g l[posC l c] x (List.getElem?_eq_getElem (by omega)) hx
  have h2:=posC_at (List.getElem?_eq_getElem (show posC l c < l.length by omega))
  rcases Int.lt_or_le (Lib.compareBytes x.Contact.data.toList c.data.toList) 0 with q | q
  ·have:=cmp_trans h1 q;omega
  ·exact q
 ·have:k=posC l c:=by omega
  subst this;exact posC_at hx
theorem searchI_l {l:List ItemItem} {c:ByteArray} (hn:l.length≤1000) (hs:SortedC l):∀ (d i j F:Nat),i + d=j→j≤l.length→i≤posC l c→posC l c≤j→d < F →
  p_slices_BinarySearchFunc_item_Item_l1 (fun x0 x1=>p_roster_State_find_1 x0 x1) l c F i j=some ((posC l c:Int),(posC l c:Int)):=by
 intro d
 induction d using Nat.strongRecOn with
 | ind d ih =>
  intro i j F hd hj h1 h2 hF
  obtain ⟨F,rfl⟩ : ∃ G,F=G + 1:=⟨F - 1,by omega⟩
  rw [p_slices_BinarySearchFunc_item_Item_l1]
  rcases Nat.lt_or_ge i j with hij | hij
  ·rw [lt_tt hij,half_p (by omega),w64_succ (show (i + j) / 2≤1000000 by omega)]
   have hm:(i + j) / 2 < l.length:=by omega
   simp only [cond_true,at_lt hm,Option.bind_some,p_roster_State_find_1,p_strings_Compare]
   rcases Nat.lt_or_ge ((i + j) / 2) (posC l c) with hlt | hge
   ·rw [decide_eq_true (posC_lt hlt (List.getElem?_eq_getElem hm)),cond_true]
    exact ih (j - ((i + j) / 2 + 1)) (by omega) _ _ F (by omega) hj (by omega) h2 (by omega)
   ·have:=posC_ge hs hge (List.getElem?_eq_getElem hm)
    rw [decide_eq_false (by omega),cond_false]
    exact ih ((i + j) / 2 - i) (by omega) _ _ F (by omega) (by omega) h1 hge (by omega)
  ·rw [lt_ff hij]
   have e1:i=posC l c:=by omega
   have e2:j=posC l c:=by omega
   rw [cond_false,e1,e2]
theorem findC_p {s:RosterState} (hn:s.Items.length≤1000) (hs:SortedC s.Items) (c:ByteArray):p_roster_State_find s c=some (((posC s.Items c:Nat):Int),fndC s.Items c):=by
 have hl:=searchI_l (c:=c) hn hs s.Items.length 0 s.Items.length fuel (by omega) (Nat.le_refl _) (Nat.zero_le _) (posC_le _ _) (by have:=fuel_pos;omega)
 unfold p_roster_State_find p_slices_BinarySearchFunc_item_Item
 rw [show ((0:Int))=((0:Nat):Int) from rfl,hl]
 simp only [Option.bind_some]
 unfold fndC
 rcases Nat.lt_or_ge (posC s.Items c) s.Items.length with h | h
 ·rw [lt_tt h,at_lt h,List.getElem?_eq_getElem h]
  simp only [cond_true,Option.bind_some,p_roster_State_find_1,p_strings_Compare,eq_cmp0];rfl
 ·rw [lt_ff h,List.getElem?_eq_none h];rfl
theorem fndC_some {l:List ItemItem} {c:ByteArray} (h:fndC l c=true):∃ hl:posC l c < l.length,l[posC l c].Contact=c:=by
 unfold fndC at h
 rcases Nat.lt_or_ge (posC l c) l.length with g | g
 ·rw [List.getElem?_eq_getElem g] at h
  exact ⟨g,eqT_iff.1 h⟩
 ·rw [List.getElem?_eq_none g] at h;cases h
theorem fndC_of {l:List ItemItem} {c:ByteArray} (hs:SortedC l) {k:Nat} {x:ItemItem} (hx:l[k]?=some x) (hc:x.Contact=c):fndC l c=true∧posC l c=k:=by
 have e:Lib.compareBytes x.Contact.data.toList c.data.toList=0:=by rw [hc];exact cmp_refl _
 have hp:posC l c=k:=by
  rcases Nat.lt_trichotomy k (posC l c) with g | g | g
  ·have:=posC_lt g hx;omega
  ·exact g.symm
  ·have hl:=(List.getElem?_eq_some_iff.1 hx).1
   have h1:=hs _ _ g l[posC l c] x (List.getElem?_eq_getElem (by omega)) hx
   have h2:=posC_at (List.getElem?_eq_getElem (show posC l c < l.length by omega))
   rw [hc] at h1;omega
 refine ⟨?_,hp⟩
 unfold fndC
 rw [hp,hx]
 exact eqT_iff.2 hc
end Go.Proofs.YtpmoioopjbfhkaaGreat

namespace Go.Proofs.YtpmoioopjbfhkaaGreat
open Go.RowKit
def accG (s:RosterState):Nat→Int
 | 0=>s.Floor
 | k + 1=>match s.Gone[k]? with | some g=>g.Ver | none=>0
theorem accG_succ {s:RosterState} {k:Nat} (hk:k < s.Gone.length):accG s (k + 1)=s.Gone[k].Ver:=by
 show (match s.Gone[k]? with | some g=>g.Ver | none=>0)=_
 rw [List.getElem?_eq_getElem hk]
def WentOk (s:RosterState) (g:RosterGone):Prop:=∀ x ∈ s.Items,(x.Ver=g.Ver→x.Contact=g.Contact)∧(x.Contact=g.Contact→listedI x=false)
def LeftAt (s:RosterState) (k:Nat):Prop:=∀ g,s.Gone[k]?=some g→accG s k < g.Ver∧g.Ver≤s.Ver∧(∀ j,j < k→∀ h,s.Gone[j]?=some h→h.Contact≠g.Contact)∧WentOk s g
def Left (s:RosterState):Prop:=∀ k,k < s.Gone.length→LeftAt s k
theorem containsG_p (p:RosterGone→Bool) (l:List RosterGone) (hl:l.length≤1000):p_slices_ContainsFunc_roster_Gone l (fun x=>some (p x))=some (l.any p):=by
 obtain ⟨v,hv,hi⟩:=idxG_p p l hl
 unfold p_slices_ContainsFunc_roster_Gone
 rw [hv,Option.bind_some,hi.has]
theorem findpart {α:Type} {s:RosterState} (hn:s.Items.length≤20) (hs:SortedC s.Items) (c:ByteArray) (A K:Option α) :
  ∃ b:Bool,((p_roster_State_find s c).bind fun v=>bif v.2 then (at? s.Items v.1).bind fun x=>(p_item_Listed x).bind fun w=>bif w then A else K else K)=(bif b then A else K)∧(b=true ↔ ∃ x ∈ s.Items,x.Contact=c∧listedI x=true):=by
 rw [findC_p (by omega) hs,Option.bind_some]
 dsimp only
 cases hf:fndC s.Items c with
 | false =>
  refine ⟨false,rfl,fun h=>(by cases h),fun ⟨x,hx,hc,_⟩=>?_⟩
  obtain ⟨k,hk,rfl⟩:=List.getElem_of_mem hx
  have:=(fndC_of hs (List.getElem?_eq_getElem hk) hc).1
  rw [hf] at this;exact this
 | true =>
  obtain ⟨hl,hc⟩:=fndC_some hf
  refine ⟨listedI s.Items[posC s.Items c],?_,fun h=>⟨_,List.getElem_mem hl,hc,h⟩,fun ⟨x,hx,hc2,h2⟩=>?_⟩
  ·rw [cond_true,at_lt hl,Option.bind_some,listed_p,Option.bind_some]
  ·obtain ⟨k,hk,rfl⟩:=List.getElem_of_mem hx
   have:=(fndC_of hs (List.getElem?_eq_getElem hk) hc2).2
   subst this
   exact h2
theorem ofpart {α:Type} {s:RosterState} (h:LightS s) (hr:Rise s) (v:Int) (c:ByteArray) (A K:Option α) :
  ∃ b:Bool,((p_roster_State_of s v).bind fun i=>bif decide ((0:Int)≤i) then (at? s.Items i).bind fun x=>bif (x.Contact.toList == c.toList) then K else A else K)=(bif b then A else K)∧(b=true ↔ ∃ x ∈ s.Items,x.Ver=v∧x.Contact≠c):=by
 obtain ⟨i,h1,h2⟩:=of_p h v
 rw [h1,Option.bind_some]
 rcases h2 with ⟨q,rfl,x,hx,hp,hj⟩ | ⟨rfl,hn⟩
 ·have hq:=(List.getElem?_eq_some_iff.1 hx).1
  have ex:s.Items[q]=x:=(List.getElem?_eq_some_iff.1 hx).2
  rw [show decide ((0:Int)≤(q:Int))=true by simp,cond_true,at_lt hq,Option.bind_some,ex]
  refine ⟨!(x.Contact.toList == c.toList),by cases (x.Contact.toList == c.toList) <;> rfl,fun hb=>⟨x,List.mem_of_getElem? hx,by simpa using hp,fun e=>?_⟩,fun ⟨y,hy,hyv,hyc⟩=>?_⟩
  ·rw [eqT_iff.2 e] at hb;cases hb
  ·obtain ⟨m,hm,rfl⟩:=List.getElem_of_mem hy
   have:m=q:=by
    rcases Nat.lt_trichotomy m q with g | g | g
    ·have:=hj m g _ (List.getElem?_eq_getElem hm);simp [hyv] at this
    ·exact g
    ·have:=(hr m hm _ (List.getElem?_eq_getElem hm)).2.2.1 q g x hx
     exact absurd (by rw [hyv];simpa using hp) this
   subst this
   rw [ex] at hyc
   rw [Bool.not_eq_true',Bool.eq_false_iff]
   exact fun g=>hyc (eqT_iff.1 g)
 ·rw [show decide ((0:Int)≤-1)=false from rfl,cond_false]
  refine ⟨false,rfl,fun h=>(by cases h),fun ⟨y,hy,hyv,_⟩=>?_⟩
  have:=hn y hy
  simp [hyv] at this
theorem wentOk_iff {s:RosterState} {g:RosterGone}:WentOk s g ↔ (¬ ∃ x ∈ s.Items,x.Ver=g.Ver∧x.Contact≠g.Contact)∧¬ ∃ x ∈ s.Items,x.Contact=g.Contact∧listedI x=true:=by
 constructor
 ·exact fun h=>⟨fun ⟨x,hx,a,b⟩=>b ((h x hx).1 a),fun ⟨x,hx,a,b⟩=>by rw [(h x hx).2 a] at b;cases b⟩
 ·refine fun ⟨h1,h2⟩ x hx=>⟨fun a=>?_,fun a=>?_⟩
  ·exact Classical.byContradiction fun g=>h1 ⟨x,hx,a,g⟩
  ·cases hb:listedI x with
   | false=>rfl
   | true=>exact absurd ⟨x,hx,a,hb⟩ h2
theorem left_p {s:RosterState} (h:LightS s) (hr:Rise s):∃ b,p_roster_State_left s=some b∧(b=true ↔ Left s):=by
 have hi:=h.items
 have hg:=h.gone
 unfold p_roster_State_left
 have l1:=loop_all (N:=s.Gone.length) (by omega) (fun n y=>p_roster_State_left_l1 s.Gone (s.Gone.length:Int) s n (accG s y.toNat) y) (accG s s.Gone.length,(s.Gone.length:Int)) (LeftAt s) (fun n k hk=>by
  show (LeftAt s k→p_roster_State_left_l1 s.Gone (s.Gone.length:Int) s (n + 1) (accG s k) (k:Int)=p_roster_State_left_l1 s.Gone (s.Gone.length:Int) s n (accG s (k + 1)) ((k + 1:Nat):Int))∧(¬ LeftAt s k→p_roster_State_left_l1 s.Gone (s.Gone.length:Int) s (n + 1) (accG s k) (k:Int)=some (.inl false))
  obtain ⟨b1,e1,i1⟩:=findpart (α:=Bool ⊕ (Int × Int)) hi hr.sorted s.Gone[k].Contact (some (.inl false)) (p_roster_State_left_l1 s.Gone (s.Gone.length:Int) s n s.Gone[k].Ver ((k + 1:Nat):Int))
  obtain ⟨b2,e2,i2⟩:=ofpart (α:=Bool ⊕ (Int × Int)) h hr s.Gone[k].Ver s.Gone[k].Contact (some (.inl false)) (bif b1 then some (.inl false) else p_roster_State_left_l1 s.Gone (s.Gone.length:Int) s n s.Gone[k].Ver ((k + 1:Nat):Int))
  rw [p_roster_State_left_l1,lt_tt hk,cond_true,at_lt hk,Option.bind_some,accG_succ hk,w64_succ (by omega),cutTo (by omega),Option.bind_some,e1,e2]
  by_cases g1:s.Gone[k].Ver≤accG s k
  ·rw [decide_eq_true g1]
   exact ⟨fun g=>by have:=(g _ (List.getElem?_eq_getElem hk)).1;omega,fun _=>rfl⟩
  rw [decide_eq_false g1,cond_false]
  by_cases g2:s.Ver < s.Gone[k].Ver
  ·rw [decide_eq_true g2]
   exact ⟨fun g=>by have:=(g _ (List.getElem?_eq_getElem hk)).2.1;omega,fun _=>rfl⟩
  rw [decide_eq_false g2,cond_false]
  have ec:=containsG_p (fun x=>x.Contact.toList == s.Gone[k].Contact.toList) (s.Gone.take k) (by simp;omega)
  unfold p_roster_State_left_1
  rw [ec,Option.bind_some]
  cases g3:(s.Gone.take k).any fun x=>x.Contact.toList == s.Gone[k].Contact.toList with
  | true =>
   refine ⟨fun g=>?_,fun _=>rfl⟩
   obtain ⟨x,hx,hc⟩:=List.any_eq_true.1 g3
   obtain ⟨j,hj,rfl⟩:=List.getElem_of_mem hx
   rw [List.length_take] at hj
   have:=(g _ (List.getElem?_eq_getElem hk)).2.2.1 j (by omega) s.Gone[j] (List.getElem?_eq_getElem (by omega))
   rw [List.getElem_take] at hc
   exact absurd (eqT_iff.1 hc) this
  | false =>
   have g3' : ∀ j,j < k→∀ h,s.Gone[j]?=some h→h.Contact≠s.Gone[k].Contact:=fun j hj h hh e=>by
    have:=List.any_eq_false.1 g3 h (by
     have:(s.Gone.take k)[j]?=some h:=by rw [List.getElem?_take_of_lt hj];exact hh
     exact List.mem_of_getElem? this)
    exact this (eqT_iff.2 e)
   rw [cond_false]
   cases b2 with
   | true =>
    refine ⟨fun g=>?_,fun _=>rfl⟩
    exact absurd (i2.1 rfl) (wentOk_iff.1 (g _ (List.getElem?_eq_getElem hk)).2.2.2).1
   | false =>
    cases b1 with
    | true =>
     refine ⟨fun g=>?_,fun _=>rfl⟩
     exact absurd (i1.1 rfl) (wentOk_iff.1 (g _ (List.getElem?_eq_getElem hk)).2.2.2).2
    | false =>
     refine ⟨fun _=>rfl,fun g=>absurd (fun x hx=>?_) g⟩
     rw [List.getElem?_eq_getElem hk] at hx
     cases hx
     exact ⟨by omega,by omega,g3',wentOk_iff.2 ⟨fun q=>(by have:=i2.2 q;cases this),fun q=>(by have:=i1.2 q;cases this)⟩⟩) (fun n=>by
  show p_roster_State_left_l1 s.Gone (s.Gone.length:Int) s (n + 1) (accG s s.Gone.length) (s.Gone.length:Int)=_
  rw [p_roster_State_left_l1,lt_ff (Nat.le_refl _)];rfl)
 have l1' : p_roster_State_left_l1 s.Gone (s.Gone.length:Int) s fuel s.Floor 0=p_roster_State_left_l1 s.Gone (s.Gone.length:Int) s fuel (accG s (0:Int).toNat) 0:=rfl
 rw [l1']
 rcases l1 with ⟨a,e⟩ | ⟨a,e⟩
 ·rw [e];exact ⟨true,rfl,fun _=>a,fun _=>rfl⟩
 ·rw [e];exact ⟨false,rfl,fun h=>(by cases h),fun h=>absurd h a⟩
theorem rleft4_p {s:RosterState} (hg:s.Gone.length≤20) {k:Nat} (hk:k≤s.Gone.length) (g:RosterGone):((∀ j,j < k→∀ h,s.Gone[j]?=some h→h.Contact≠g.Contact)∧p_ref21_rises_l4 (k:Int) s g fuel 0=some (.inr (k:Int)))∨(¬ (∀ j,j < k→∀ h,s.Gone[j]?=some h→h.Contact≠g.Contact)∧p_ref21_rises_l4 (k:Int) s g fuel 0=some (.inl false)) :=
 loop_all (N:=k) (by omega) (p_ref21_rises_l4 (k:Int) s g) (k:Int) (fun j=>∀ h,s.Gone[j]?=some h→h.Contact≠g.Contact) (fun n j hj=>by
  have hl:j < s.Gone.length:=by omega
  rw [p_ref21_rises_l4,lt_tt hj,cond_true,at_lt hl,Option.bind_some,w64_succ (by omega),List.getElem?_eq_getElem hl]
  by_cases q:s.Gone[j].Contact=g.Contact
  ·rw [eqT_iff.2 q]
   exact ⟨fun h=>absurd q (h _ rfl),fun _=>rfl⟩
  ·rw [show (s.Gone[j].Contact.toList == g.Contact.toList)=false by rw [Bool.eq_false_iff];exact fun e=>q (eqT_iff.1 e)]
   exact ⟨fun _=>rfl,fun h=>absurd (fun y hy=>by cases hy;exact q) h⟩) (fun n=>by rw [p_ref21_rises_l4,lt_ff (Nat.le_refl _)];rfl)
theorem rleft5_p {s:RosterState} (hi:s.Items.length≤20) (g:RosterGone):(WentOk s g∧p_ref21_rises_l5 s g fuel 0=some (.inr (s.Items.length:Int)))∨(¬ WentOk s g∧p_ref21_rises_l5 s g fuel 0=some (.inl false)):=by
 have l:=loop_all (N:=s.Items.length) (by omega) (p_ref21_rises_l5 s g) (s.Items.length:Int) (fun j=>∀ x,s.Items[j]?=some x→(x.Ver=g.Ver→x.Contact=g.Contact)∧(x.Contact=g.Contact→listedI x=false)) (fun n j hj=>by
  rw [p_ref21_rises_l5,lt_tt hj,cond_true,at_lt hj,Option.bind_some,w64_succ (by omega),List.getElem?_eq_getElem hj,rlisted_p]
  generalize s.Items[j]=x
  by_cases q:x.Contact=g.Contact
  ·rw [eqT_iff.2 q]
   cases hb:listedI x with
   | true =>
    refine ⟨fun h=>?_,fun _=>by cases (x.Ver == g.Ver) <;> rfl⟩
    have:=(h _ rfl).2 q
    rw [hb] at this;cases this
   | false=>exact ⟨fun _=>by cases (x.Ver == g.Ver) <;> rfl,fun h=>absurd (fun y hy=>by cases hy;exact ⟨fun _=>q,fun _=>hb⟩) h⟩
  ·rw [show (x.Contact.toList == g.Contact.toList)=false by rw [Bool.eq_false_iff];exact fun e=>q (eqT_iff.1 e)]
   by_cases w:x.Ver=g.Ver
   ·rw [show (x.Ver == g.Ver)=true by simpa using w]
    exact ⟨fun h=>absurd ((h _ rfl).1 w) q,fun _=>rfl⟩
   ·rw [show (x.Ver == g.Ver)=false by simpa using w]
    exact ⟨fun _=>rfl,fun h=>absurd (fun y hy=>by cases hy;exact ⟨fun e=>absurd e w,fun e=>absurd e q⟩) h⟩) (fun n=>by rw [p_ref21_rises_l5,lt_ff (Nat.le_refl _)];rfl)
 have e:(∀ k,k < s.Items.length→∀ x,s.Items[k]?=some x→(x.Ver=g.Ver→x.Contact=g.Contact)∧(x.Contact=g.Contact→listedI x=false)) ↔ WentOk s g:=by
  refine ⟨fun h x hx=>?_,fun h k hk x hx=>h x (List.mem_of_getElem? hx)⟩
  obtain ⟨k,hk,rfl⟩:=List.getElem_of_mem hx
  exact h k hk _ (List.getElem?_eq_getElem hk)
 rw [e] at l
 exact l
theorem rleft3_p {s:RosterState} (h:LightS s):(Left s∧p_ref21_rises_l3 s fuel s.Floor 0=some (.inr (accG s s.Gone.length,(s.Gone.length:Int))))∨(¬ Left s∧p_ref21_rises_l3 s fuel s.Floor 0=some (.inl false)):=by
 have hi:=h.items
 have hg:=h.gone
 exact loop_all (N:=s.Gone.length) (by omega) (fun n y=>p_ref21_rises_l3 s n (accG s y.toNat) y) (accG s s.Gone.length,(s.Gone.length:Int)) (LeftAt s) (fun n k hk=>by
  show (LeftAt s k→p_ref21_rises_l3 s (n + 1) (accG s k) (k:Int)=p_ref21_rises_l3 s n (accG s (k + 1)) ((k + 1:Nat):Int))∧(¬ LeftAt s k→p_ref21_rises_l3 s (n + 1) (accG s k) (k:Int)=some (.inl false))
  have l4:=rleft4_p hg (Nat.le_of_lt hk) s.Gone[k]
  have l5:=rleft5_p hi s.Gone[k]
  rw [p_ref21_rises_l3,lt_tt hk,cond_true,at_lt hk,Option.bind_some,accG_succ hk,w64_succ (by omega)]
  by_cases g1:s.Gone[k].Ver≤accG s k
  ·rw [decide_eq_true g1]
   exact ⟨fun g=>by have:=(g _ (List.getElem?_eq_getElem hk)).1;omega,fun _=>rfl⟩
  rw [decide_eq_false g1,cond_false]
  by_cases g2:s.Ver < s.Gone[k].Ver
  ·rw [decide_eq_true g2]
   exact ⟨fun g=>by have:=(g _ (List.getElem?_eq_getElem hk)).2.1;omega,fun _=>rfl⟩
  rw [decide_eq_false g2,cond_false]
  rcases l4 with ⟨a4,e4⟩ | ⟨a4,e4⟩
  ·rcases l5 with ⟨a5,e5⟩ | ⟨a5,e5⟩
   ·rw [e4,e5]
    exact ⟨fun _=>rfl,fun g=>absurd (fun x hx=>by rw [List.getElem?_eq_getElem hk] at hx;cases hx;exact ⟨by omega,by omega,a4,a5⟩) g⟩
   ·rw [e4,e5]
    exact ⟨fun g=>absurd (g _ (List.getElem?_eq_getElem hk)).2.2.2 a5,fun _=>rfl⟩
  ·rw [e4]
   exact ⟨fun g=>absurd (g _ (List.getElem?_eq_getElem hk)).2.2.1 a4,fun _=>rfl⟩) (fun n=>by
  show p_ref21_rises_l3 s (n + 1) (accG s s.Gone.length) (s.Gone.length:Int)=_
  rw [p_ref21_rises_l3,lt_ff (Nat.le_refl _)];rfl)
structure FineS (s:RosterState):Prop where
 items:s.Items.length≤12
 gone:s.Gone.length≤8
 ver:0≤s.Ver∧s.Ver≤1099511627776
 rise:Rise s
 left:Left s
 fine:∀ x ∈ s.Items,chkI x=0
theorem checkS_p {s:RosterState} (h:LightS s):∃ c,p_roster_Check s=some c∧p_ref21_Check s=some c∧(c=0→FineS s):=by
 unfold p_roster_Check p_ref21_Check
 by_cases g1:(12:Int) < (s.Items.length:Int)
 ·rw [decide_eq_true g1];exact ⟨5,rfl,rfl,fun h=>by cases h⟩
 rw [decide_eq_false g1,cond_false,cond_false]
 by_cases g2:(8:Int) < (s.Gone.length:Int)
 ·rw [decide_eq_true g2];exact ⟨5,rfl,rfl,fun h=>by cases h⟩
 rw [decide_eq_false g2,cond_false,cond_false]
 by_cases g3:s.Ver < 0
 ·rw [decide_eq_true g3];exact ⟨8,rfl,rfl,fun h=>by cases h⟩
 rw [decide_eq_false g3,cond_false,cond_false]
 by_cases g4:(1099511627776:Int) < s.Ver
 ·rw [decide_eq_true g4];exact ⟨8,rfl,rfl,fun h=>by cases h⟩
 rw [decide_eq_false g4,cond_false,cond_false]
 by_cases g5:s.Floor < 0
 ·rw [decide_eq_true g5];exact ⟨8,rfl,rfl,fun h=>by cases h⟩
 rw [decide_eq_false g5,cond_false,cond_false]
 by_cases g6:s.Ver < s.Floor
 ·rw [decide_eq_true g6];exact ⟨8,rfl,rfl,fun h=>by cases h⟩
 rw [decide_eq_false g6,cond_false,cond_false]
 obtain ⟨e,h1,h2,h3⟩:=errs_p h
 rw [h1,h2,Option.bind_some,Option.bind_some]
 by_cases g7:e=0
 case neg =>
  rw [show (e != 0)=true by simpa using g7]
  exact ⟨e,rfl,rfl,fun h=>absurd h g7⟩
 rw [show (e != 0)=false by simpa using g7,cond_false,cond_false]
 obtain ⟨c1,c2⟩:=gone_p h
 rw [c1,Option.bind_some]
 rcases c2 with ⟨ce,cl⟩ | ⟨ce,cl⟩
 ·rw [ce,cl];exact ⟨11,rfl,rfl,fun h=>by cases h⟩
 rw [ce,cl,cond_false]
 obtain ⟨b,hb,hb2⟩:=rise_p h
 rw [hb,Option.bind_some]
 unfold p_ref21_rises
 rcases rrise1_p (s:=s) h.items with ⟨a,er⟩ | ⟨a,er⟩
 ·rw [er,hb2.2 a,cond_true]
  obtain ⟨b2,hl,hl2⟩:=left_p h a
  rw [hl,Option.bind_some]
  rcases rleft3_p h with ⟨q,el⟩ | ⟨q,el⟩
  ·rw [hl2.2 q]
   refine ⟨0,rfl,?_,fun _=>⟨by omega,by omega,⟨by omega,by omega⟩,a,q,h3 g7⟩⟩
   simp only [Option.bind_some,el,cond_true]
  ·have:b2=false:=by cases b2 with | false=>rfl | true=>exact absurd (hl2.1 rfl) q
   rw [this]
   refine ⟨10,rfl,?_,fun h=>by cases h⟩
   simp only [Option.bind_some,el,cond_false]
 ·have:b=false:=by cases b with | false=>rfl | true=>exact absurd (hb2.1 rfl) a
  rw [this,er]
  refine ⟨10,rfl,?_,fun h=>by cases h⟩
  simp only [Option.bind_some,cond_false]
end Go.Proofs.YtpmoioopjbfhkaaGreat

namespace Go.Proofs.YtpmoioopjbfhkaaGreat
open Go.RowKit
def trimR (v fl:Int) (l:List ItemItem) (g:List RosterGone):RosterState :=
 match g with
 | a :: r=>if 8≤r.length then RosterState.mk v a.Ver l r else RosterState.mk v fl l (a :: r)
 | []=>RosterState.mk v fl l []
theorem trim_p (v fl:Int) (l:List ItemItem) {g:List RosterGone} (hg:g.length≤1000):(bif decide ((8:Int) < (g.length:Int)) then (at? g (0:Int)).bind fun x=>(del? g (0:Int) (1:Int)).bind fun w=>some (RosterState.mk v x.Ver l w) else some (RosterState.mk v fl l g))=some (trimR v fl l g):=by
 unfold trimR
 cases g with
 | nil=>rfl
 | cons a r =>
  dsimp only
  by_cases h:8≤r.length
  ·rw [show decide ((8:Int) < ((a :: r).length:Int))=true by simp;omega,cond_true,if_pos h]
   have e:del? (a :: r) 0 1=some r:=by
    unfold del?
    rw [if_pos (by simp at hg ⊢;omega)];rfl
   rw [e];rfl
  ·rw [show decide ((8:Int) < ((a :: r).length:Int))=false by simp;omega,cond_false,if_neg h]
def verI (x:ItemItem) (v:Int):ItemItem:=ItemItem.mk x.Contact x.Name x.Sub v x.Own
def itemsR (s:RosterState) (x:ItemItem) (v:Int):List ItemItem :=
 s.Items.take (posC s.Items x.Contact)++((if idleI (verI x v) then [] else [verI x v])++s.Items.drop (if fndC s.Items x.Contact then posC s.Items x.Contact + 1 else posC s.Items x.Contact))
def wasR (s:RosterState) (x:ItemItem):Bool:=match s.Items[posC s.Items x.Contact]? with | some y=>fndC s.Items x.Contact && listedI y | none=>false
def goneR (s:RosterState) (x:ItemItem) (v:Int):List RosterGone :=
 s.Gone.filter (fun g=>!(g.Contact.toList == x.Contact.toList) || !(listedI x || wasR s x))++(if wasR s x && !listedI x then [RosterGone.mk x.Contact v] else [])
def changeR (s:RosterState) (x:ItemItem):RosterState:=trimR (w64 (s.Ver + 1)) s.Floor (itemsR s x (w64 (s.Ver + 1))) (goneR s x (w64 (s.Ver + 1)))
theorem delF_y {s:RosterState} (hg:s.Gone.length≤1000) (y:ItemItem):delF? (fun x0=>p_roster_State_change_1 x0 y) s.Gone=some (s.Gone.filter fun g=>!(g.Contact.toList == y.Contact.toList)):=by
 unfold delF? p_roster_State_change_1
 rw [if_pos ⟨by omega,by simp⟩]
 simp
theorem filt_t {l:List RosterGone}:(l.filter fun _=>true)=l:=by simp
theorem keep_all {l:List RosterGone} {c:ByteArray}:(l.filter fun g=>!(g.Contact.toList == c.toList) || !false)=l:=by simp
theorem keep_some {l:List RosterGone} {c:ByteArray}:(l.filter fun g=>!(g.Contact.toList == c.toList) || !true)=l.filter fun g=>!(g.Contact.toList == c.toList):=by simp
theorem change_p {s:RosterState} (hi:s.Items.length≤20) (hg:s.Gone.length≤20) (hs:SortedC s.Items) (x:ItemItem):p_roster_State_change s x=some (changeR s x):=by
 have hle:=posC_le s.Items x.Contact
 unfold p_roster_State_change
 rw [findC_p (by omega) hs,Option.bind_some]
 simp only [listed_p,idle_p,Option.bind_some,delF_y (s:=s) (by omega)]
 unfold changeR itemsR goneR verI
 cases hf:fndC s.Items x.Contact with
 | true =>
  obtain ⟨hl,hc⟩:=fndC_some hf
  have hw:wasR s x=listedI s.Items[posC s.Items x.Contact]:=by unfold wasR;rw [List.getElem?_eq_getElem hl,hf];rfl
  have hd:del? s.Items (posC s.Items x.Contact:Int) ((posC s.Items x.Contact + 1:Nat):Int)=some (s.Items.take (posC s.Items x.Contact)++s.Items.drop (posC s.Items x.Contact + 1)):=by
   unfold del?
   rw [if_pos (by omega)];rfl
  have hset:∀ y,List.set s.Items (Int.toNat ((posC s.Items x.Contact:Nat):Int)) y=s.Items.take (posC s.Items x.Contact)++([y]++s.Items.drop (posC s.Items x.Contact + 1)):=fun y=>by
   rw [Int.toNat_natCast,List.set_eq_take_append_cons_drop,if_pos hl];rfl
  rw [hw]
  simp only [cond_true,at_lt hl,Option.bind_some,w64_succ (show posC s.Items x.Contact≤1000000 by omega),hd,hset,if_true]
  have hfl:∀ c:ByteArray,(s.Gone.filter fun g=>!(g.Contact.toList == c.toList)).length≤20:=fun c=>Nat.le_trans (List.length_filter_le _ _) hg
  have happ:∀ (c:ByteArray) (z:RosterGone),app? (s.Gone.filter fun g=>!(g.Contact.toList == c.toList)) [z]=some ((s.Gone.filter fun g=>!(g.Contact.toList == c.toList))++[z]):=fun c z=>app_ok (by have:=hfl c;simp;omega)
  have t1:∀ (c:ByteArray) (l:List ItemItem),_:=fun c l=>trim_p (w64 (s.Ver + 1)) s.Floor l (g:=s.Gone.filter fun g=>!(g.Contact.toList == c.toList)) (by have:=hfl c;omega)
  have t2:∀ (c:ByteArray) (z:RosterGone) (l:List ItemItem),_:=fun c z l=>trim_p (w64 (s.Ver + 1)) s.Floor l (g:=(s.Gone.filter fun g=>!(g.Contact.toList == c.toList))++[z]) (by have:=hfl c;simp;omega)
  have t3:∀ l:List ItemItem,_:=fun l=>trim_p (w64 (s.Ver + 1)) s.Floor l (g:=s.Gone) (by omega)
  cases hid:idleI (ItemItem.mk x.Contact x.Name x.Sub (w64 (s.Ver + 1)) x.Own) <;> cases hl1:listedI s.Items[posC s.Items x.Contact] <;> cases hl2:listedI x <;>
   simp only [cond_true,cond_false,if_true,if_false,Bool.false_eq_true,happ,t1,t2,t3,Option.bind_some,List.nil_append,Bool.or_true,Bool.or_false,Bool.true_or,Bool.false_or,Bool.and_true,Bool.and_false,Bool.true_and,Bool.false_and,Bool.not_true,Bool.not_false,keep_all,keep_some,List.append_nil,filt_t]
 | false =>
  have hw:wasR s x=false:=by unfold wasR;rw [hf];split <;> rfl
  have hins:∀ y,insAt? s.Items (posC s.Items x.Contact:Int) y=some (s.Items.take (posC s.Items x.Contact)++([y]++s.Items.drop (posC s.Items x.Contact))):=fun y=>by
   unfold insAt?
   rw [if_pos (by omega)];rfl
  rw [hw]
  have hfl:∀ c:ByteArray,(s.Gone.filter fun g=>!(g.Contact.toList == c.toList)).length≤20:=fun c=>Nat.le_trans (List.length_filter_le _ _) hg
  have t1:∀ (c:ByteArray) (l:List ItemItem),_:=fun c l=>trim_p (w64 (s.Ver + 1)) s.Floor l (g:=s.Gone.filter fun g=>!(g.Contact.toList == c.toList)) (by have:=hfl c;omega)
  have t3:∀ l:List ItemItem,_:=fun l=>trim_p (w64 (s.Ver + 1)) s.Floor l (g:=s.Gone) (by omega)
  have htd:s.Items.take (posC s.Items x.Contact)++s.Items.drop (posC s.Items x.Contact)=s.Items:=List.take_append_drop _ _
  cases hid:idleI (ItemItem.mk x.Contact x.Name x.Sub (w64 (s.Ver + 1)) x.Own) <;> cases hl2:listedI x <;>
   simp only [cond_true,cond_false,if_true,if_false,Bool.false_eq_true,hins,t1,t3,Option.bind_some,List.nil_append,Bool.or_true,Bool.or_false,Bool.true_or,Bool.false_or,Bool.and_true,Bool.and_false,Bool.true_and,Bool.false_and,Bool.not_true,Bool.not_false,keep_all,keep_some,List.append_nil,filt_t,htd]
end Go.Proofs.YtpmoioopjbfhkaaGreat

namespace Go.Proofs.YtpmoioopjbfhkaaGreat
open Go.RowKit
end Go.Proofs.YtpmoioopjbfhkaaGreat

namespace Go.Proofs.YtpmoioopjbfhkaaGreat
open Go.RowKit
theorem ownS_p {s:RosterState} (h:s.Items.length≤100∧s.Gone.length≤100):p_roster_State_own s=some s:=by
 unfold p_roster_State_own clone?
 rw [if_pos (by omega),Option.bind_some,if_pos (by omega)];rfl
theorem FindS_p {s:RosterState} (hc0:p_roster_Check s=some 0) (f:FineS s) (c:ByteArray):p_roster_Find s c=some (if hl:posC s.Items c < s.Items.length then (if fndC s.Items c then (s.Items[posC s.Items c],true) else (ItemItem.mk ⟨#[]⟩ ⟨#[]⟩ 0 0 false,false)) else (ItemItem.mk ⟨#[]⟩ ⟨#[]⟩ 0 0 false,false)):=by
 have:=f.items
 unfold p_roster_Find
 rw [hc0,Option.bind_some,findC_p (by omega) f.rise.sorted]
 simp only [bne_self_eq_false,cond_false,Option.bind_some]
 cases hf:fndC s.Items c with
 | true =>
  obtain ⟨hl,_⟩:=fndC_some hf
  rw [cond_true,at_lt hl,dif_pos hl];rfl
 | false=>rw [cond_false];split <;> rfl
def SmallS (s:RosterState):Prop:=s.Items.length≤100∧s.Gone.length≤100
theorem LightS.small {s:RosterState} (h:LightS s):SmallS s:=⟨by have:=h.items;omega,by have:=h.gone;omega⟩
theorem light_change {s:RosterState} (h:LightS s) (f:FineS s) {x:ItemItem} (hc:x.Contact.size≤100) (hn:x.Name.size≤100):LightS (changeR s x):=by
 have hfi:=f.items
 have hfg:=f.gone
 have h1:(itemsR s x (w64 (s.Ver + 1))).length≤20:=by
  unfold itemsR
  have:(if idleI (verI x (w64 (s.Ver + 1))) then ([]:List ItemItem) else [verI x (w64 (s.Ver + 1))]).length≤1:=by split <;> simp
  have h2:posC s.Items x.Contact≤(if fndC s.Items x.Contact then posC s.Items x.Contact + 1 else posC s.Items x.Contact):=by split <;> omega
  simp only [List.length_append,List.length_take,List.length_drop]
  generalize (if fndC s.Items x.Contact then posC s.Items x.Contact + 1 else posC s.Items x.Contact)=q at *
  generalize (if idleI (verI x (w64 (s.Ver + 1))) then ([]:List ItemItem) else [verI x (w64 (s.Ver + 1))]).length=z at *
  omega
 have h2:(goneR s x (w64 (s.Ver + 1))).length≤20:=by
  unfold goneR
  rw [List.length_append]
  have a:=List.length_filter_le (fun g:RosterGone=>!(g.Contact.toList == x.Contact.toList) || !(listedI x || wasR s x)) s.Gone
  have:(if wasR s x && !listedI x then [RosterGone.mk x.Contact (w64 (s.Ver + 1))] else []).length≤1:=by split <;> simp
  omega
 have h3:∀ y ∈ itemsR s x (w64 (s.Ver + 1)),y.Contact.size≤100∧y.Name.size≤100:=fun y hy=>by
  unfold itemsR at hy
  rcases List.mem_append.1 hy with g | g
  ·exact h.item y (List.mem_of_mem_take g)
  ·rcases List.mem_append.1 g with g | g
   ·split at g
    ·cases g
    ·rw [List.mem_singleton.1 g];exact ⟨hc,hn⟩
   ·exact h.item y (List.mem_of_mem_drop g)
 have h4:∀ g ∈ goneR s x (w64 (s.Ver + 1)),g.Contact.size≤100:=fun y hy=>by
  unfold goneR at hy
  rcases List.mem_append.1 hy with g | g
  ·exact h.went y (List.mem_filter.1 g).1
  ·split at g
   ·rw [List.mem_singleton.1 g];exact hc
   ·cases g
 unfold changeR trimR
 split
 ·rename_i a r e
  rw [e] at h2 h4
  rw [List.length_cons] at h2
  split
  ·exact ⟨h1,by show r.length≤20;omega,h3,fun g hg=>h4 g (List.mem_cons_of_mem _ hg)⟩
  ·exact ⟨h1,h2,h3,h4⟩
 ·exact ⟨h1,by simp,h3,fun g hg=>by cases hg⟩
end Go.Proofs.YtpmoioopjbfhkaaGreat

namespace Go.Proofs.YtpmoioopjbfhkaaGreat
open Go.RowKit
structure FullN (n:Nat) (s:RosterState):Prop where
 items:s.Items.length≤12
 gone:s.Gone.length≤n
 ver:0≤s.Ver∧s.Ver≤1099511627776
 floor:0≤s.Floor∧s.Floor≤s.Ver
 fine:∀ x ∈ s.Items,chkI x=0∧idleI x=false
 bare:∀ g ∈ s.Gone,isBareL g.Contact.data.toList=true
 low:∀ x ∈ s.Items,1≤x.Ver∧x.Ver≤s.Ver
 vers:s.Items.Pairwise fun a b=>a.Ver≠b.Ver
 cont:s.Items.Pairwise fun a b=>Lib.compareBytes a.Contact.data.toList b.Contact.data.toList < 0
 glow:∀ g ∈ s.Gone,s.Floor < g.Ver∧g.Ver≤s.Ver
 gver:s.Gone.Pairwise fun a b=>a.Ver < b.Ver
 gcont:s.Gone.Pairwise fun a b=>a.Contact≠b.Contact
 went:∀ g ∈ s.Gone,WentOk s g
theorem pw_get {α:Type} {R:α→α→Prop} {l:List α} (h:l.Pairwise R) {i j:Nat} (hij:i < j) {x y:α} (hx:l[i]?=some x) (hy:l[j]?=some y):R x y:=by
 have hi:=(List.getElem?_eq_some_iff.1 hx)
 have hj:=(List.getElem?_eq_some_iff.1 hy)
 have:=List.pairwise_iff_getElem.1 h i j hi.1 hj.1 hij
 rw [hi.2,hj.2] at this;exact this
theorem FullN.sorted {n:Nat} {s:RosterState} (h:FullN n s):SortedC s.Items:=fun _ _ hij _ _ hx hy=>pw_get h.cont hij hx hy
theorem FullN.rise {n:Nat} {s:RosterState} (h:FullN n s):Rise s:=fun k _ x hx=>by
 have hl:=h.low x (List.mem_of_getElem? hx)
 refine ⟨hl.1,hl.2,fun j hj y hy=>pw_get h.vers hj hy hx,fun hk y hy=>?_⟩
 have:=pw_get h.cont (show k - 1 < k by omega) hy hx
 rw [tl_data,tl_data,cmp_less]
 exact decide_eq_true this
theorem FullN.left {n:Nat} {s:RosterState} (h:FullN n s):Left s:=fun k hk g hg=>by
 have hl:=h.glow g (List.mem_of_getElem? hg)
 refine ⟨?_,hl.2,fun j hj y hy=>pw_get h.gcont hj hy hg,h.went g (List.mem_of_getElem? hg)⟩
 cases k with
 | zero=>exact hl.1
 | succ k =>
  rw [accG_succ (by omega)]
  exact pw_get h.gver (Nat.lt_succ_self k) (List.getElem?_eq_getElem (by omega)) hg
theorem FullN.small {n:Nat} (hn:n≤20) {s:RosterState} (h:FullN n s):s.Items.length≤20∧s.Gone.length≤20:=⟨by have:=h.items;omega,by have:=h.gone;omega⟩
theorem check_full {s:RosterState} (hl:LightS s) (h:FullN 8 s):p_roster_Check s=some 0:=by
 obtain ⟨c,h1,h2,h3⟩:=checkS_p hl
 have hi:=h.items
 have e1:p_ref21_items_l1 s fuel 0=some (.inr (s.Items.length:Int)):=by
  have l1:=loop_all (N:=s.Items.length) (by omega) (fun n y=>(p_ref21_items_l1 s n y).map fun r=>match r with | .inl _=>.inl false | .inr z=>.inr z) (s.Items.length:Int) (fun k=>True) (fun n k hk=>by
   obtain ⟨a,b⟩:=hl.item _ (List.getElem_mem hk)
   obtain ⟨q1,q2⟩:=h.fine _ (List.getElem_mem hk)
   refine ⟨fun _=>?_,fun g=>absurd trivial g⟩
   show Option.map _ (p_ref21_items_l1 s (n + 1) (k:Int))=Option.map _ (p_ref21_items_l1 s n ((k + 1:Nat):Int))
   rw [p_ref21_items_l1,lt_tt hk,cond_true,at_lt hk,Option.bind_some,rcheck_p (by omega) (by omega),Option.bind_some,Option.bind_some,ridle_p,Option.bind_some,w64_succ (by omega),q1,q2]
   rfl) (fun n=>by
   show Option.map _ (p_ref21_items_l1 s (n + 1) (s.Items.length:Int))=_
   rw [p_ref21_items_l1,lt_ff (Nat.le_refl _)];rfl)
  rcases l1 with ⟨_,e⟩ | ⟨g,_⟩
  ·cases hr:p_ref21_items_l1 s fuel 0 with
   | none=>rw [hr] at e;cases e
   | some r =>
    rw [hr] at e
    cases r with
    | inl v=>cases e
    | inr z=>exact congrArg some (by have:=Option.some.inj e;injection this with this;rw [this])
  ·exact absurd (fun _ _=>trivial) g
 have e2:p_ref21_items s=some 0:=by unfold p_ref21_items;rw [e1];rfl
 obtain ⟨c1,c2⟩:=gone_p hl
 have hb:(s.Gone.any fun g=>!isBareL g.Contact.data.toList)=false:=by
  rw [List.any_eq_false];intro g hg;rw [h.bare g hg];simp
 have e3:p_ref21_Check_l1 s fuel 0=some (.inr (s.Gone.length:Int)):=by
  rcases c2 with ⟨g,_⟩ | ⟨_,e⟩
  ·rw [hb] at g;cases g
  ·exact e
 have e4:p_ref21_rises s=some true:=by
  unfold p_ref21_rises
  rcases rrise1_p (s:=s) hl.items with ⟨_,er⟩ | ⟨a,_⟩
  ·rcases rleft3_p hl with ⟨_,el⟩ | ⟨a,_⟩
   ·rw [er];simp only [Option.bind_some,el]
   ·exact absurd h.left a
  ·exact absurd h.rise a
 have:p_ref21_Check s=some 0:=by
  unfold p_ref21_Check
  have hv:=h.ver
  have hf:=h.floor
  have hg:=h.gone
  rw [show decide ((12:Int) < (s.Items.length:Int))=false by simp;omega,show decide ((8:Int) < (s.Gone.length:Int))=false by simp;omega,decide_eq_false (show ¬ s.Ver < 0 by omega),decide_eq_false (show ¬ (1099511627776:Int) < s.Ver by omega),decide_eq_false (show ¬ s.Floor < 0 by omega),decide_eq_false (show ¬ s.Ver < s.Floor by omega),e2,e3,e4]
  rfl
 rw [h1];rw [h2] at this;exact this
theorem pw_ins {α:Type} {R:α→α→Prop} {A m B:List α} (h:(A++B).Pairwise R) (hm:m.Pairwise R) (h1:∀ a ∈ A,∀ y ∈ m,R a y) (h2:∀ y ∈ m,∀ b ∈ B,R y b):(A++(m++B)).Pairwise R:=by
 rw [List.pairwise_append] at h ⊢
 refine ⟨h.1,List.pairwise_append.2 ⟨hm,h.2.1,h2⟩,fun a ha b hb=>?_⟩
 rcases List.mem_append.1 hb with g | g
 ·exact h1 a ha b g
 ·exact h.2.2 a ha b g
theorem cmp_swap {a b:List UInt8} (h:0 < Lib.compareBytes a b):Lib.compareBytes b a < 0:=by rw [cmp_anti a b];omega
theorem split_c {l:List ItemItem} (hs:SortedC l) (c:ByteArray) :
  (∀ a ∈ l.take (posC l c),Lib.compareBytes a.Contact.data.toList c.data.toList < 0)∧(∀ b ∈ l.drop (if fndC l c then posC l c + 1 else posC l c),Lib.compareBytes c.data.toList b.Contact.data.toList < 0)∧(l.take (posC l c)++l.drop (if fndC l c then posC l c + 1 else posC l c)).Sublist l:=by
 refine ⟨fun a ha=>?_,fun b hb=>?_,?_⟩
 ·obtain ⟨k,hk,rfl⟩:=List.getElem_of_mem ha
  rw [List.length_take] at hk
  rw [List.getElem_take]
  exact posC_lt (c:=c) (k:=k) (by omega) (List.getElem?_eq_getElem (by omega))
 ·obtain ⟨k,hk,rfl⟩:=List.getElem_of_mem hb
  rw [List.length_drop] at hk
  rw [List.getElem_drop]
  have hge:posC l c≤(if fndC l c then posC l c + 1 else posC l c):=by split <;> omega
  have hl:(if fndC l c then posC l c + 1 else posC l c) + k < l.length:=by omega
  have h0:=posC_ge (c:=c) hs (k:=(if fndC l c then posC l c + 1 else posC l c) + k) (by omega) (List.getElem?_eq_getElem hl)
  refine cmp_swap ?_
  rcases Int.lt_or_eq_of_le h0 with g | g
  ·exact g
  ·exfalso
   have he:=fndC_of (c:=c) hs (List.getElem?_eq_getElem hl) (eqT_iff.1 (by rw [eq_cmp0,← g];rfl))
   have h1:=he.2
   rw [he.1,if_pos rfl] at h1
   omega
 ·have h2:(l.drop (if fndC l c then posC l c + 1 else posC l c)).Sublist (l.drop (posC l c)):=by
   split
   ·rw [← List.drop_drop];exact List.drop_sublist _ _
   ·exact List.Sublist.refl _
  have:=(List.Sublist.refl (l.take (posC l c))).append h2
  rwa [List.take_append_drop] at this
theorem full_trim {v fl:Int} {l:List ItemItem} {g:List RosterGone} (h:FullN 9 (RosterState.mk v fl l g)):FullN 8 (trimR v fl l g):=by
 unfold trimR
 split
 ·rename_i a r
  split
  ·have hg:=h.glow a (List.mem_cons_self ..)
   have hv:=List.pairwise_cons.1 h.gver
   have hc:=List.pairwise_cons.1 h.gcont
   have hlen:r.length + 1≤9:=h.gone
   have hf:=h.floor
   exact ⟨h.items,by show r.length≤8;omega,h.ver,⟨by have:fl < a.Ver:=hg.1;have:0≤fl:=hf.1;show 0≤a.Ver;omega,hg.2⟩,h.fine,fun x hx=>h.bare x (List.mem_cons_of_mem _ hx),h.low,h.vers,h.cont,fun x hx=>⟨hv.1 x hx,(h.glow x (List.mem_cons_of_mem _ hx)).2⟩,hv.2,hc.2,fun x hx=>h.went x (List.mem_cons_of_mem _ hx)⟩
  ·rename_i hr
   exact ⟨h.items,by show (a :: r).length≤8;rw [List.length_cons];omega,h.ver,h.floor,h.fine,h.bare,h.low,h.vers,h.cont,h.glow,h.gver,h.gcont,h.went⟩
 ·exact ⟨h.items,Nat.zero_le _,h.ver,h.floor,h.fine,h.bare,h.low,h.vers,h.cont,h.glow,h.gver,h.gcont,h.went⟩
theorem idle_ver (x:ItemItem) (v:Int):idleI (verI x v)=idleI x:=rfl
theorem full_change {s:RosterState} (h:FullN 8 s) {x:ItemItem} (hv:s.Ver < 1099511627776) (hb:isBareL x.Contact.data.toList=true) (hx:idleI x=false→chkI (verI x (s.Ver + 1))=0) (hroom:fndC s.Items x.Contact=false→idleI x=false→s.Items.length < 12):FullN 8 (changeR s x):=by
 have hver:=h.ver
 have hfl:=h.floor
 have hw:w64 (s.Ver + 1)=s.Ver + 1:=w64_id (by omega)
 unfold changeR
 rw [hw]
 obtain ⟨hA,hB,hsub⟩:=split_c h.sorted x.Contact
 have hwas:∀ it ∈ s.Items,it.Contact=x.Contact→wasR s x=listedI it:=fun it hit he=>by
  obtain ⟨k,hk,rfl⟩:=List.getElem_of_mem hit
  obtain ⟨h1,h2⟩:=fndC_of h.sorted (List.getElem?_eq_getElem hk) he
  unfold wasR
  rw [h2,List.getElem?_eq_getElem hk,h1];rfl
 have hnot:wasR s x=true→∃ it ∈ s.Items,it.Contact=x.Contact:=fun hh=>by
  unfold wasR at hh
  split at hh
  ·rename_i y hy
   simp only [Bool.and_eq_true] at hh
   obtain ⟨hl,hc⟩:=fndC_some hh.1
   exact ⟨_,List.getElem_mem hl,hc⟩
  ·cases hh
 have hlen:(s.Items.take (posC s.Items x.Contact)++s.Items.drop (if fndC s.Items x.Contact then posC s.Items x.Contact + 1 else posC s.Items x.Contact)).length + (if fndC s.Items x.Contact then 1 else 0)=s.Items.length:=by
  have hle:=posC_le s.Items x.Contact
  cases hf:fndC s.Items x.Contact with
  | true=>obtain ⟨hl,_⟩:=fndC_some hf;simp only [if_true,List.length_append,List.length_take,List.length_drop];omega
  | false=>simp only [if_false,Bool.false_eq_true,List.length_append,List.length_take,List.length_drop];omega
 generalize hAe:s.Items.take (posC s.Items x.Contact)=A at *
 generalize hBe:s.Items.drop (if fndC s.Items x.Contact then posC s.Items x.Contact + 1 else posC s.Items x.Contact)=B at *
 have hmem:∀ it,it ∈ A∨it ∈ B→it ∈ s.Items∧it.Contact≠x.Contact:=fun it hit=>by
  refine ⟨hsub.subset (List.mem_append.2 hit),fun e=>?_⟩
  rcases hit with g | g
  ·have:=hA it g;rw [e,cmp_refl] at this;omega
  ·have:=hB it g;rw [e,cmp_refl] at this;omega
 have hI:itemsR s x (s.Ver + 1)=A++((if idleI x then [] else [verI x (s.Ver + 1)])++B):=by unfold itemsR;rw [hAe,hBe,idle_ver]
 have hm:∀ it ∈ itemsR s x (s.Ver + 1),(it ∈ s.Items∧it.Contact≠x.Contact)∨(idleI x=false∧it=verI x (s.Ver + 1)):=fun it hit=>by
  rw [hI] at hit
  rcases List.mem_append.1 hit with g | g
  ·exact .inl (hmem it (.inl g))
  ·rcases List.mem_append.1 g with g | g
   ·cases hid:idleI x with
    | true=>rw [hid] at g;cases g
    | false=>rw [hid] at g;exact .inr ⟨rfl,List.mem_singleton.1 g⟩
   ·exact .inl (hmem it (.inr g))
 have hmid:∀ y ∈ (if idleI x then [] else [verI x (s.Ver + 1)]),y=verI x (s.Ver + 1):=fun y hy=>by
  split at hy
  ·cases hy
  ·exact List.mem_singleton.1 hy
 have hmidp:∀ {R:ItemItem→ItemItem→Prop},(if idleI x then [] else [verI x (s.Ver + 1)]).Pairwise R:=fun {R}=>by
  split
  ·exact .nil
  ·exact List.pairwise_singleton _ _
 have hg:∀ g ∈ goneR s x (s.Ver + 1),(g ∈ s.Gone∧(listedI x=true∨wasR s x=true→g.Contact≠x.Contact))∨(g=RosterGone.mk x.Contact (s.Ver + 1)∧wasR s x=true∧listedI x=false):=fun g hgm=>by
  unfold goneR at hgm
  rcases List.mem_append.1 hgm with q | q
  ·obtain ⟨q1,q2⟩:=List.mem_filter.1 q
   refine .inl ⟨q1,fun hh e=>?_⟩
   rw [show (g.Contact.toList == x.Contact.toList)=true from eqT_iff.2 e] at q2
   rcases hh with hh | hh <;> rw [hh] at q2 <;> simp at q2
  ·split at q
   ·rename_i hh
    simp only [Bool.and_eq_true,Bool.not_eq_true'] at hh
    exact .inr ⟨List.mem_singleton.1 q,hh.1,hh.2⟩
   ·cases q
 refine full_trim ⟨?_,?_,?_,?_,?_,?_,?_,?_,?_,?_,?_,?_,?_⟩
 ·show (itemsR s x (s.Ver + 1)).length≤12
  have hi:=h.items
  rw [hI]
  rw [List.length_append] at hlen
  rw [List.length_append,List.length_append]
  cases hid:idleI x with
  | true=>simp only [if_true,List.length_nil];omega
  | false =>
   simp only [if_false,Bool.false_eq_true,List.length_singleton]
   cases hf:fndC s.Items x.Contact with
   | true=>rw [hf] at hlen;simp only [if_true] at hlen;omega
   | false=>rw [hf] at hlen;have:=hroom hf hid;simp only [if_false,Bool.false_eq_true] at hlen;omega
 ·show (goneR s x (s.Ver + 1)).length≤9
  have hgl:=h.gone
  unfold goneR
  rw [List.length_append]
  have a:=List.length_filter_le (fun g:RosterGone=>!(g.Contact.toList == x.Contact.toList) || !(listedI x || wasR s x)) s.Gone
  have:(if wasR s x && !listedI x then [RosterGone.mk x.Contact (s.Ver + 1)] else []).length≤1:=by split <;> simp
  omega
 ·exact ⟨by show 0≤s.Ver + 1;omega,by show s.Ver + 1≤_;omega⟩
 ·exact ⟨hfl.1,by show s.Floor≤s.Ver + 1;omega⟩
 ·intro it hit
  rcases hm it hit with ⟨q,_⟩ | ⟨q,rfl⟩
  ·exact h.fine it q
  ·exact ⟨hx q,q⟩
 ·intro g hgm
  rcases hg g hgm with ⟨q,_⟩ | ⟨rfl,_,_⟩
  ·exact h.bare g q
  ·exact hb
 ·intro it hit
  rcases hm it hit with ⟨q,_⟩ | ⟨q,rfl⟩
  ·have:=h.low it q;exact ⟨this.1,by show it.Ver≤s.Ver + 1;omega⟩
  ·exact ⟨by show 1≤s.Ver + 1;omega,Int.le_refl _⟩
 ·show (itemsR s x (s.Ver + 1)).Pairwise _
  rw [hI]
  refine pw_ins (h.vers.sublist hsub) hmidp (fun a ha y hy=>?_) (fun y hy b hb2=>?_)
  ·rw [hmid y hy];have:=(h.low a (hmem a (.inl ha)).1).2;show a.Ver≠s.Ver + 1;omega
  ·rw [hmid y hy];have:=(h.low b (hmem b (.inr hb2)).1).2;show s.Ver + 1≠b.Ver;omega
 ·show (itemsR s x (s.Ver + 1)).Pairwise _
  rw [hI]
  refine pw_ins (h.cont.sublist hsub) hmidp (fun a ha y hy=>?_) (fun y hy b hb2=>?_)
  ·rw [hmid y hy];exact hA a ha
  ·rw [hmid y hy];exact hB b hb2
 ·intro g hgm
  rcases hg g hgm with ⟨q,_⟩ | ⟨rfl,_,_⟩
  ·have:=h.glow g q;exact ⟨this.1,by show g.Ver≤s.Ver + 1;omega⟩
  ·exact ⟨by show s.Floor < s.Ver + 1;omega,Int.le_refl _⟩
 ·show (goneR s x (s.Ver + 1)).Pairwise _
  unfold goneR
  refine List.pairwise_append.2 ⟨h.gver.sublist List.filter_sublist,by split <;> simp,fun a ha b hb2=>?_⟩
  split at hb2
  ·rw [List.mem_singleton.1 hb2];have:=(h.glow a (List.mem_filter.1 ha).1).2;show a.Ver < s.Ver + 1;omega
  ·cases hb2
 ·show (goneR s x (s.Ver + 1)).Pairwise _
  unfold goneR
  refine List.pairwise_append.2 ⟨h.gcont.sublist List.filter_sublist,by split <;> simp,fun a ha b hb2=>?_⟩
  split at hb2
  ·rename_i hh
   simp only [Bool.and_eq_true] at hh
   rw [List.mem_singleton.1 hb2]
   intro e
   have q2:=(List.mem_filter.1 ha).2
   rw [show (a.Contact.toList == x.Contact.toList)=true from eqT_iff.2 e,hh.1] at q2
   simp at q2
  ·cases hb2
 ·intro g hgm it hit
  have hit2:it ∈ itemsR s x (s.Ver + 1):=hit
  rcases hg g hgm with ⟨q,qc⟩ | ⟨rfl,qw,ql⟩
  ·rcases hm it hit2 with ⟨r,_⟩ | ⟨r,rfl⟩
   ·exact h.went g q it r
   ·refine ⟨fun e=>?_,fun e=>?_⟩
    ·have:=(h.glow g q).2;have e2:s.Ver + 1=g.Ver:=e;omega
    ·cases hl:listedI x with
     | false=>exact hl
     | true=>exact absurd (show g.Contact=x.Contact from e.symm) (qc (.inl hl))
  ·rcases hm it hit2 with ⟨r,rc⟩ | ⟨r,rfl⟩
   ·refine ⟨fun e=>?_,fun e=>absurd e rc⟩
    have:=(h.low it r).2;have e2:it.Ver=s.Ver + 1:=e;omega
   ·exact ⟨fun _=>rfl,fun _=>ql⟩
end Go.Proofs.YtpmoioopjbfhkaaGreat

