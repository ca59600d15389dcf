/- A part of the proof: 4 texts joined. -/
import Derived.Test.YtmmmcpeickfolaaYbA17
import Derived.Test.YtmmmcpeickfolaaYbA16
import Derived.Test.YtmmmcpeickfolaaYbA13
import Derived.Test.YtmmmcpeickfolaaYbA12
import Derived.Test.YtmmmcpeickfolaaYbA10
import Derived.KernelRfl
import Derived.Test.YtmmmcpeickfolaaYbA14
import Derived.Test.YtmmmcpeickfolaaYbA15
set_option linter.all false
namespace Go.Proofs.Ytmmmcpeickfolaa
open Go.RowKit
def whoC (i:Nat):ByteArray:=⟨#[UInt8.ofNat (97 + i),64,104,111,109,101]⟩
theorem lt14 {i:Nat} (h:i < 14):i=0∨i=1∨i=2∨i=3∨i=4∨i=5∨i=6∨i=7∨i=8∨i=9∨i=10∨i=11∨i=12∨i=13:=by omega
theorem who_p {i:Nat} (h:i < 14) {K:Int} (hK:Int.tmod K 14=(i:Int)):p_law21_who K=some (whoC i):=by
 unfold p_law21_who
 rw [hK]
 rcases lt14 h with rfl | rfl | rfl | rfl | rfl | rfl | rfl | rfl | rfl | rfl | rfl | rfl | rfl | rfl <;> kernel_rfl
theorem who_bare {i:Nat} (h:i < 14):isBareL (whoC i).data.toList=true:=by
 rcases lt14 h with rfl | rfl | rfl | rfl | rfl | rfl | rfl | rfl | rfl | rfl | rfl | rfl | rfl | rfl <;> kernel_rfl
theorem who_sz (i:Nat):(whoC i).size≤100:=by show 6≤100;omega
theorem who_inj {i j:Nat} (hi:i < 14) (hj:j < 14) (h:whoC i=whoC j):i=j:=by
 have h2:UInt8.ofNat (97 + i)=UInt8.ofNat (97 + j):=by
  have:=congrArg (fun b:ByteArray=>b.data.toList) h
  simp only [whoC,List.cons.injEq] at this
  exact this.1
 have h3:=congrArg UInt8.toNat h2
 simp only [UInt8.toNat_ofNat'] at h3
 omega
theorem tmod_nat {K:Int} (h:0≤K) (n:Nat) (hn:0 < n):∃ i:Nat,i < n∧Int.tmod K n=(i:Int):=by
 obtain ⟨k,rfl⟩ : ∃ k:Nat,K=k:=⟨K.toNat,by omega⟩
 exact ⟨k % n,Nat.mod_lt _ hn,rfl⟩
theorem aaa_p {K:Int} (h:0≤K):∃ s:ByteArray,sub? (⟨#[65,97,97]⟩ : ByteArray) none (some (Int.tmod K (4:Int)))=some s∧s.size≤24∧plainL s.data.toList=true:=by
 obtain ⟨i,hi,e⟩:=tmod_nat h 4 (by decide)
 have e' : Int.tmod K 4=(i:Int):=e
 rw [e']
 have:i=0∨i=1∨i=2∨i=3:=by omega
 rcases this with rfl | rfl | rfl | rfl
 ·exact ⟨⟨#[]⟩,by kernel_rfl,by decide,by kernel_rfl⟩
 ·exact ⟨⟨#[65]⟩,by kernel_rfl,by decide,by kernel_rfl⟩
 ·exact ⟨⟨#[65,97]⟩,by kernel_rfl,by decide,by kernel_rfl⟩
 ·exact ⟨⟨#[65,97,97]⟩,by kernel_rfl,by decide,by kernel_rfl⟩
structure DeedOk (d:Law21Deed):Prop where
 kind:0≤d.Kind
 who:0≤d.Who
 name:0≤d.Name
structure Left1 (s s' : RosterState) (c:ByteArray):Prop where
 out:s'=s∨∃ x:ItemItem,x.Contact=c∧Chg s x∧s'=changeR s x
theorem Left1.ok {s s' : RosterState} {c:ByteArray} (h:Left1 s s' c) (hs:OkR s):OkR s':=by
 rcases h.out with e | ⟨x,_,hc,e⟩
 ·rw [e];exact hs
 ·rw [e];exact hc.ok
theorem Left1.ver {s s' : RosterState} {c:ByteArray} (h:Left1 s s' c) (hs:OkR s) (hv:s.Ver < 1099511627776):s.Ver≤s'.Ver∧s'.Ver≤s.Ver + 1:=by
 rcases h.out with e | ⟨x,_,hc,e⟩
 ·rw [e];omega
 ·rw [e,chg_ver hs hv x];omega
theorem Left1.other {s s' : RosterState} {c c' : ByteArray} (h:Left1 s s' c) (hs:OkR s) (hc:c'≠c) {y:ItemItem × Bool} (hy:HasR s c' y):HasR s' c' y:=by
 rcases h.out with e | ⟨x,hx,_,e⟩
 ·rw [e];exact hy
 ·rw [e];exact hasR_other hs.full.sorted (by rw [hx];exact hc) hy
theorem Left1.items {s s' : RosterState} {c:ByteArray} (h:Left1 s s' c) (hs:OkR s):∀ it ∈ s'.Items,it ∈ s.Items∨it.Contact=c:=by
 rcases h.out with e | ⟨x,hx,_,e⟩
 ·rw [e];exact fun it h=>.inl h
 ·rw [e]
  intro it hit
  rw [items_change] at hit
  rcases (mem_items hs.full.sorted x _ it).1 hit with ⟨g,_⟩ | ⟨_,g⟩
  ·exact .inl g
  ·exact .inr (by rw [g];exact hx)
theorem sub14 {s:RosterState} (h:OkR s) (hv:s.Ver < 1099511627776) {i:Nat} (hi:i < 14) (q:Int) {x:ItemItem × Bool} (hx:HasR s (whoC i) x) :
  ∃ s' e,p_roster_Sub s (whoC i) q=some (s',e)∧Left1 s s' (whoC i)∧(e≠0→s'=s)∧(e≠0→subC q=0→e=7)∧(e=0→subC q=0∧∃ y,HasR s' (whoC i) y∧y.1.Sub=q):=by
 rcases subG h hv (who_bare hi) (who_sz i) q hx with ⟨e,e0,e1,e2⟩ | ⟨e0,e1,e2⟩ | ⟨e0,e1,e2⟩
 ·exact ⟨_,_,e2,⟨.inl rfl⟩,fun _=>rfl,fun _=>e1,fun g=>absurd g e0⟩
 ·exact ⟨_,_,e2,⟨.inl rfl⟩,fun _=>rfl,fun g=>absurd rfl g,fun _=>⟨e0,x,hx,e1⟩⟩
 ·refine ⟨_,_,e2,⟨.inr ⟨_,rfl,e1,rfl⟩⟩,fun g=>absurd rfl g,fun g=>absurd rfl g,fun _=>⟨e0,?_⟩⟩
  obtain ⟨y,y1,y2⟩:=hasR_sub h.full.sorted (ItemItem.mk (whoC i) x.1.Name q x.1.Ver x.1.Own)
  exact ⟨y,y1,y2⟩
theorem drop14 {s:RosterState} (h:OkR s) (hv:s.Ver < 1099511627776) {i:Nat} (hi:i < 14) {x:ItemItem × Bool} (hx:HasR s (whoC i) x) :
  ∃ s' e,p_roster_Drop s (whoC i)=some (s',e)∧Left1 s s' (whoC i)∧(e≠0→s'=s)∧(e=0→HasR s' (whoC i) noneI):=by
 rcases dropG h hv (who_bare hi) (who_sz i) hx with ⟨_,e2⟩ | ⟨_,e1,e2⟩
 ·exact ⟨_,_,e2,⟨.inl rfl⟩,fun _=>rfl,fun g=>(by cases g)⟩
 ·exact ⟨_,_,e2,⟨.inr ⟨_,rfl,e1,rfl⟩⟩,fun g=>absurd rfl g,fun _=>hasR_idle h.full.sorted (x:=ItemItem.mk (whoC i) ⟨#[]⟩ 0 0 false) rfl⟩
theorem set14 {s:RosterState} (h:OkR s) (hv:s.Ver < 1099511627776) {i:Nat} (hi:i < 14) {n:ByteArray} (hn:n.size≤24) (hp:plainL n.data.toList=true) {x:ItemItem × Bool} (hx:HasR s (whoC i) x) :
  ∃ s' e,p_roster_Set s (whoC i) n=some (s',e)∧Left1 s s' (whoC i)∧∃ y,HasR s' (whoC i) y∧y.1.Sub=x.1.Sub:=by
 rcases setG h hv (who_bare hi) (who_sz i) hn hp hx with ⟨e,e2⟩ | ⟨e1,e2⟩
 ·exact ⟨_,_,e2,⟨.inl rfl⟩,x,hx,rfl⟩
 ·refine ⟨_,_,e2,⟨.inr ⟨_,rfl,e1,rfl⟩⟩,?_⟩
  obtain ⟨y,y1,y2⟩:=hasR_sub h.full.sorted (ItemItem.mk (whoC i) n x.1.Sub 0 true)
  exact ⟨y,y1,y2⟩
theorem done14 {s:RosterState} (h:OkR s) (hv:s.Ver < 1099511627776) {d:Law21Deed} (hd:DeedOk d) {i:Nat} (hi:i < 14) (hw:Int.tmod d.Who 14=(i:Int)) {x:ItemItem × Bool} (hx:HasR s (whoC i) x) :
  ∃ s',p_law21_done s d=some s'∧Left1 s s' (whoC i)∧((Int.tmod d.Kind 4 == 2)=false→(Int.tmod d.Kind 4 == 3)=false→∃ y,HasR s' (whoC i) y∧y.1.Sub=x.1.Sub):=by
 unfold p_law21_done
 rw [who_p hi hw]
 simp only [Option.bind_some]
 cases h2:(Int.tmod d.Kind 4 == 2) with
 | true =>
  obtain ⟨s',e,e1,e2,_⟩:=sub14 h hv hi (w64 (Int.tmod d.Name 16)) hx
  exact ⟨s',by rw [e1];rfl,e2,fun g=>(by cases g)⟩
 | false =>
  cases h3:(Int.tmod d.Kind 4 == 3) with
  | true =>
   obtain ⟨s',e,e1,e2,_⟩:=drop14 h hv hi hx
   exact ⟨s',by rw [e1];rfl,e2,fun _ g=>(by cases g)⟩
  | false =>
   obtain ⟨n,n1,n2,n3⟩:=aaa_p hd.name
   obtain ⟨s',e,e1,e2,e3⟩:=set14 h hv hi n2 n3 hx
   exact ⟨s',by rw [n1,Option.bind_some,e1];rfl,e2,fun _ _=>e3⟩
theorem some_l (l:List ItemItem) (hn:l.length≤1000) (q:ItemItem→Bool) (f:ItemItem→Option Bool) (hf:∀ x ∈ l,f x=some (q x)):∀ (n k F:Nat) (acc:List ItemItem),k + n=l.length→n < F→acc.length≤k →
  p_roster_State_some_l1 f l (l.length:Int) F acc (k:Int)=some (acc++(l.drop k).filter q,(l.length:Int))
 | 0,k,F + 1,acc,hk,hF,ha=>by
  rw [p_roster_State_some_l1,lt_ff (by omega),show k=l.length by omega,List.drop_length];simp
 | n + 1,k,F + 1,acc,hk,hF,ha=>by
  have hlt:k < l.length:=by omega
  rw [p_roster_State_some_l1,lt_tt hlt,cond_true,at_lt hlt,Option.bind_some,hf _ (List.getElem_mem hlt),Option.bind_some,w64_succ (by omega),drop_at hlt,List.filter_cons]
  cases q l[k] with
  | true =>
   rw [cond_true,app_ok (by simp;omega),Option.bind_some,some_l l hn q f hf n (k + 1) F _ (by omega) (by omega) (by simp;omega)]
   simp
  | false =>
   rw [cond_false,some_l l hn q f hf n (k + 1) F _ (by omega) (by omega) (by omega)]
   simp
theorem some_p {s:RosterState} (h:OkR s) (q:ItemItem→Bool) (f:ItemItem→Option Bool) (hf:∀ x ∈ s.Items,f x=some (q x)):p_roster_State_some s f=some (s.Items.filter q):=by
 have hi:=h.full.items
 unfold p_roster_State_some
 rw [check_full h.light h.full]
 have e:=some_l s.Items (by omega) q f hf s.Items.length 0 fuel [] (by omega) (by have:=fuel_pos;omega) (Nat.zero_le _)
 rw [List.drop_zero,List.nil_append] at e
 have e' : p_roster_State_some_l1 f s.Items (s.Items.length:Int) fuel [] (0:Int)=_:=e
 simp only [Option.bind_some,bne_self_eq_false,cond_false]
 rw [e'];rfl
theorem cont_l (l:List ItemItem) (hn:l.length≤1000):∀ (n k F:Nat) (acc:List ByteArray),k + n=l.length→n < F→acc.length≤k→p_roster_contacts_l1 l (l.length:Int) F acc (k:Int)=some (acc++(l.drop k).map (·.Contact),(l.length:Int))
 | 0,k,F + 1,acc,hk,hF,ha=>by
  rw [p_roster_contacts_l1,lt_ff (by omega),show k=l.length by omega,List.drop_length];simp
 | n + 1,k,F + 1,acc,hk,hF,ha=>by
  have hlt:k < l.length:=by omega
  rw [p_roster_contacts_l1,lt_tt hlt,cond_true,at_lt hlt,Option.bind_some,app_ok (by simp;omega),Option.bind_some,w64_succ (by omega),drop_at hlt,cont_l l hn n (k + 1) F _ (by omega) (by omega) (by simp;omega),List.map_cons]
  simp only [List.append_assoc,List.singleton_append]
theorem cont_p (l:List ItemItem) (hn:l.length≤1000):p_roster_contacts l=some (l.map (·.Contact)):=by
 unfold p_roster_contacts
 have e:=cont_l l hn l.length 0 fuel [] (by omega) (by have:=fuel_pos;omega) (Nat.zero_le _)
 rw [List.drop_zero,List.nil_append] at e
 have e' : p_roster_contacts_l1 l (l.length:Int) fuel [] (0:Int)=_:=e
 rw [e'];rfl
theorem sees_pp (x:ItemItem):p_item_Sees x=some (hasB x.Sub 1):=by unfold p_item_Sees;rw [has_p];rfl
theorem seen_pp (x:ItemItem):p_item_Seen x=some (hasB x.Sub 2):=by unfold p_item_Seen;rw [has_p];rfl
theorem seesR {s:RosterState} (h:OkR s):p_roster_Sees s=some ((s.Items.filter fun x=>hasB x.Sub 1).map (·.Contact))∧p_roster_Seen s=some ((s.Items.filter fun x=>hasB x.Sub 2).map (·.Contact)):=by
 have hi:=h.full.items
 have a1:=List.length_filter_le (fun x:ItemItem=>hasB x.Sub 1) s.Items
 have a2:=List.length_filter_le (fun x:ItemItem=>hasB x.Sub 2) s.Items
 unfold p_roster_Sees p_roster_Seen
 rw [some_p h (fun x=>hasB x.Sub 1) _ fun x _=>sees_pp x,some_p h (fun x=>hasB x.Sub 2) _ fun x _=>seen_pp x,Option.bind_some,Option.bind_some,cont_p _ (by omega),cont_p _ (by omega)]
 exact ⟨rfl,rfl⟩
theorem len_sub {α:Type} [DecidableEq α]:∀ {l m:List α},l.Nodup→(∀ x ∈ l,x ∈ m)→l.length≤m.length
 | [],_,_,_=>Nat.zero_le _
 | x :: l,m,h,hs=>by
  obtain ⟨h1,h2⟩:=List.nodup_cons.1 h
  have hx:=hs x (List.mem_cons_self ..)
  have:=len_sub (m:=m.erase x) h2 fun y hy=>(List.mem_erase_of_ne (fun e=>h1 (by rw [← e];exact hy))).2 (hs y (List.mem_cons_of_mem _ hy))
  rw [List.length_erase_of_mem hx] at this
  have hp:=List.length_pos_of_mem hx
  rw [List.length_cons];omega
structure Tab (s:RosterState) (sub:List Int):Prop where
 ok:OkR s
 len:sub.length=14
 who:∀ it ∈ s.Items,∃ m,m < 14∧it.Contact=whoC m
 has:∀ m (h:m < sub.length),∃ x,HasR s (whoC m) x∧x.1.Sub=sub[m]
theorem Tab.fine {s:RosterState} {sub:List Int} (h:Tab s sub) (m:Nat) (hm:m < sub.length):subC sub[m]=0:=by
 obtain ⟨x,h1,h2⟩:=h.has m hm
 rw [← h2];exact (hasR_fine h.ok h1).1
theorem count_tab {s:RosterState} {sub:List Int} (h:Tab s sub) (p:Int) (hp:hasB 0 p=false):((s.Items.filter fun x=>hasB x.Sub p).map (·.Contact)).length=((List.range 14).filter fun m=>hasB (sub.getD m 0) p).length:=by
 have hl:=h.len
 have nd1:((s.Items.filter fun x=>hasB x.Sub p).map (·.Contact)).Nodup:=by
  refine List.Pairwise.map _ (fun a b (hab:Lib.compareBytes a.Contact.data.toList b.Contact.data.toList < 0) e=>?_) (h.ok.full.cont.sublist List.filter_sublist)
  rw [e,cmp_refl] at hab;omega
 have nd2:(((List.range 14).filter fun m=>hasB (sub.getD m 0) p).map whoC).Nodup:=by
  refine List.pairwise_map.2 ((List.nodup_range.sublist List.filter_sublist).imp_of_mem fun {a b} ha hb hab e=>hab (who_inj ?_ ?_ e))
  ·exact List.mem_range.1 (List.mem_filter.1 ha).1
  ·exact List.mem_range.1 (List.mem_filter.1 hb).1
 have key:∀ c:ByteArray,c ∈ ((s.Items.filter fun x=>hasB x.Sub p).map (·.Contact)) ↔ c ∈ (((List.range 14).filter fun m=>hasB (sub.getD m 0) p).map whoC):=fun c=>by
  constructor
  ·intro hc
   obtain ⟨it,hit,rfl⟩:=List.mem_map.1 hc
   obtain ⟨g1,g2⟩:=List.mem_filter.1 hit
   obtain ⟨m,hm,e⟩:=h.who it g1
   obtain ⟨x,x1,x2⟩:=h.has m (by omega)
   have:=hasR_uniq h.ok.full x1 (y:=(it,true)) (.inl ⟨rfl,g1,e⟩)
   refine List.mem_map.2 ⟨m,List.mem_filter.2 ⟨List.mem_range.2 hm,?_⟩,e.symm⟩
   rw [List.getD_eq_getElem?_getD,List.getElem?_eq_getElem (by omega),Option.getD_some,← x2,this]
   exact g2
  ·intro hc
   obtain ⟨m,hm,rfl⟩:=List.mem_map.1 hc
   obtain ⟨g1,g2⟩:=List.mem_filter.1 hm
   have hm14:=List.mem_range.1 g1
   obtain ⟨x,x1,x2⟩:=h.has m (by omega)
   rw [List.getD_eq_getElem?_getD,List.getElem?_eq_getElem (by omega),Option.getD_some,← x2] at g2
   rcases x1 with ⟨q1,q2,q3⟩ | ⟨q1,_⟩
   ·exact List.mem_map.2 ⟨_,List.mem_filter.2 ⟨q2,g2⟩,q3⟩
   ·rw [q1] at g2
    have:hasB 0 p=true:=g2
    rw [hp] at this;cases this
 have l1:=len_sub nd1 fun c hc=>(key c).1 hc
 have l2:=len_sub nd2 fun c hc=>(key c).2 hc
 have l3:(((List.range 14).filter fun m=>hasB (sub.getD m 0) p).map whoC).length=((List.range 14).filter fun m=>hasB (sub.getD m 0) p).length:=List.length_map ..
 omega
theorem and_pos {q:Int} (h:subC q=0):decide ((0:Int) < andI .i64 q 1)=hasB q 1∧decide ((0:Int) < andI .i64 q 2)=hasB q 2:=by
 rcases sub16 (subC_in h) with rfl | rfl | rfl | rfl | rfl | rfl | rfl | rfl | rfl | rfl | rfl | rfl | rfl | rfl | rfl | rfl <;> first | exact absurd h (by decide) | (constructor <;> kernel_rfl)
theorem look_l {s:RosterState} {sub:List Int} (h:Tab s sub):∀ (n k F:Nat) (a b:Nat),k + n=14→n < F→a≤k→b≤k→a=((List.range k).filter fun m=>hasB (sub.getD m 0) 1).length→b=((List.range k).filter fun m=>hasB (sub.getD m 0) 2).length →
  p_law21_RosterSees_l2 s sub F (a:Int) (b:Int) (k:Int)=some (.inr ((((List.range 14).filter fun m=>hasB (sub.getD m 0) 1).length:Int),(((List.range 14).filter fun m=>hasB (sub.getD m 0) 2).length:Int),14))
 | 0,k,F + 1,a,b,hk,hF,ha,hb,ea,eb=>by
  have e:k=14:=by omega
  subst e
  rw [p_law21_RosterSees_l2,ea,eb];rfl
 | n + 1,k,F + 1,a,b,hk,hF,ha,hb,ea,eb=>by
  have hl:=h.len
  have hk14:k < 14:=by omega
  have hk2:k < sub.length:=by omega
  have hat:arr? 14 sub (k:Int)=some sub[k]:=by
   unfold arr?
   rw [if_pos hl,at_lt hk2]
  obtain ⟨x,x1,x2⟩:=h.has k hk2
  obtain ⟨x',f1,g1,_⟩:=findR h.ok (whoC k)
  have e1:=hasR_uniq h.ok.full x1 g1
  subst e1
  obtain ⟨p1,p2⟩:=and_pos (h.fine k hk2)
  have hw:p_law21_who (IntKind.wrap .u8 (k:Int))=some (whoC k):=by
   refine who_p hk14 ?_
   rcases lt14 hk14 with rfl | rfl | rfl | rfl | rfl | rfl | rfl | rfl | rfl | rfl | rfl | rfl | rfl | rfl <;> kernel_rfl
  have hgd:sub.getD k 0=sub[k]:=by rw [List.getD_eq_getElem?_getD,List.getElem?_eq_getElem hk2,Option.getD_some]
  have hr1:((List.range (k + 1)).filter fun m=>hasB (sub.getD m 0) 1).length=a + (if hasB sub[k] 1 then 1 else 0):=by
   rw [List.range_succ,List.filter_append,List.length_append,← ea,List.filter_cons,hgd]
   cases hasB sub[k] 1 <;> rfl
  have hr2:((List.range (k + 1)).filter fun m=>hasB (sub.getD m 0) 2).length=b + (if hasB sub[k] 2 then 1 else 0):=by
   rw [List.range_succ,List.filter_append,List.length_append,← eb,List.filter_cons,hgd]
   cases hasB sub[k] 2 <;> rfl
  have next:=look_l h n (k + 1) F (a + (if hasB sub[k] 1 then 1 else 0)) (b + (if hasB sub[k] 2 then 1 else 0)) (by omega) (by omega) (by split <;> omega) (by split <;> omega) hr1.symm hr2.symm
  have c1:(bif hasB sub[k] 1 then some (w64 ((a:Int) + 1)) else some (a:Int))=some (((a + (if hasB sub[k] 1 then 1 else 0):Nat)):Int):=by
   cases hasB sub[k] 1
   ·rfl
   ·rw [cond_true,w64_succ (by omega),if_pos rfl]
  have c2:(bif hasB sub[k] 2 then some (w64 ((b:Int) + 1)) else some (b:Int))=some (((b + (if hasB sub[k] 2 then 1 else 0):Nat)):Int):=by
   cases hasB sub[k] 2
   ·rfl
   ·rw [cond_true,w64_succ (by omega),if_pos rfl]
  rw [p_law21_RosterSees_l2,show decide ((k:Int) < (14:Int))=true by simp;omega,cond_true,hat]
  simp only [Option.bind_some]
  rw [p1,p2,c1,c2]
  simp only [Option.bind_some,hw,f1]
  rw [w64_succ (by omega),next,← x2]
  have z:x.2=false→x.1.Sub=0:=fun hz=>by
   rcases x1 with ⟨q,_⟩ | ⟨q,_⟩
   ·rw [hz] at q;cases q
   ·rw [q]
  cases hx2:x.2 with
  | true=>simp only [cond_true,bne_self_eq_false,cond_false]
  | false=>simp only [cond_false,z hx2,bne_self_eq_false]
theorem Tab.look {s:RosterState} {sub:List Int} (h:Tab s sub):p_law21_RosterSees_l2 s sub fuel (0:Int) (0:Int) (0:Int)=some (.inr ((((List.range 14).filter fun m=>hasB (sub.getD m 0) 1).length:Int),(((List.range 14).filter fun m=>hasB (sub.getD m 0) 2).length:Int),14)) :=
 look_l h 14 0 fuel 0 0 (by omega) (by have:=fuel_pos;omega) (Nat.le_refl _) (Nat.le_refl _) rfl rfl
theorem Tab.step {s s' : RosterState} {sub:List Int} (h:Tab s sub) {i:Nat} (hi:i < 14) (hl:Left1 s s' (whoC i)) {q:Int} (hq:∃ y,HasR s' (whoC i) y∧y.1.Sub=q):Tab s' (sub.set i q):=by
 have hlen:=h.len
 refine ⟨hl.ok h.ok,by rw [List.length_set];exact hlen,fun it hit=>?_,fun m hm=>?_⟩
 ·rcases hl.items h.ok it hit with g | g
  ·exact h.who it g
  ·exact ⟨i,hi,g⟩
 ·rw [List.length_set] at hm
  by_cases e:i=m
  ·subst e
   rw [List.getElem_set_self];exact hq
  ·rw [List.getElem_set_ne e]
   obtain ⟨x,x1,x2⟩:=h.has m hm
   exact ⟨x,hl.other h.ok (fun g=>e (who_inj (by omega) hi g).symm) x1,x2⟩
theorem Tab.same {s s' : RosterState} {sub:List Int} (h:Tab s sub) {i:Nat} (hi:i < 14) (hl:Left1 s s' (whoC i)) (hq:∃ y,HasR s' (whoC i) y∧y.1.Sub=sub[i]'(by rw [h.len];exact hi)):Tab s' sub:=by
 have:=h.step hi hl hq
 rwa [List.set_getElem_self] at this
theorem sees_l {l:List Law21Deed} (hl:l.length≤60) (hd:∀ d ∈ l,DeedOk d):∀ (n k F:Nat) (s:RosterState) (sub:List Int),k + n=l.length→n < F→Tab s sub→s.Ver≤k→∃ r,p_law21_RosterSees_l1 l F (k:Int) s sub=some (.inr r)
 | 0,k,F + 1,s,sub,hk,hF,h,hv=>⟨_,by
  rw [p_law21_RosterSees_l1,lt_ff (by omega)];rfl⟩
 | n + 1,k,F + 1,s,sub,hk,hF,h,hv=>by
  have hlt:k < l.length:=by omega
  have hdk:=hd _ (List.getElem_mem hlt)
  obtain ⟨i,hi,hw⟩:=tmod_nat hdk.who 14 (by decide)
  have hw' : Int.tmod l[k].Who 14=(i:Int):=hw
  have hlen:=h.len
  have hi2:i < sub.length:=by omega
  obtain ⟨x,x1,x2⟩:=h.has i hi2
  have hk60:(k:Int)≤60:=by omega
  have hs:s.Ver < 1099511627776:=by omega
  have hw64:w64 (Int.tmod l[k].Who 14)=(i:Int):=by rw [hw',w64_id (by omega)]
  have hat:arr? 14 sub (i:Int)=some sub[i]:=by
   unfold arr?
   rw [if_pos hlen,at_lt hi2]
  -- what stands behind the deed
  have tail:∀ (s' : RosterState) (sub' : List Int),Tab s' sub'→s'.Ver≤(k + 1:Nat)→∃ r,((p_law21_RosterSees_l2 s' sub' fuel (0:Int) (0:Int) (0:Int)).bind fun o76=>match o76 with
    | .inl q77=>some (.inl q77)
    | .inr q78 =>
     (p_roster_Sees s').bind fun v79 =>
     bif ((v79.length:Int) != q78.1) then some (.inl false) else
     (p_roster_Seen s').bind fun v81 =>
     bif ((v81.length:Int) != q78.2.1) then some (.inl false) else
     p_law21_RosterSees_l1 l F (w64 ((k:Int) + (1:Int))) s' sub')=some (.inr r):=fun s' sub' h' hv'=>by
   obtain ⟨r,e⟩:=sees_l hl hd n (k + 1) F s' sub' (by omega) (by omega) h' hv'
   refine ⟨r,?_⟩
   rw [h'.look,(seesR h'.ok).1,(seesR h'.ok).2]
   simp only [Option.bind_some]
   rw [count_tab h' 1 rfl,count_tab h' 2 rfl,w64_succ (by omega),e]
   simp only [bne_self_eq_false,cond_false]
  rw [p_law21_RosterSees_l1,lt_tt hlt,cond_true,at_lt hlt]
  simp only [Option.bind_some,who_p hi hw',hw64,hat,Int.toNat_natCast]
  cases h2:(Int.tmod l[k].Kind 4 == 2) with
  | true =>
   obtain ⟨s',e,e1,e2,e3,e4,e5⟩:=sub14 h.ok hs hi (w64 (Int.tmod l[k].Name 16)) x1
   have hv2:=e2.ver h.ok hs
   rw [e1]
   simp only [cond_true,Option.bind_some,subs_p]
   by_cases e0:e=0
   ·obtain ⟨q1,q2⟩:=e5 e0
    subst e0
    rw [q1]
    exact tail s' _ (h.step hi e2 q2) (by omega)
   ·have hsame:=e3 e0
    subst hsame
    have c0:(e == 0)=false:=by simpa using e0
    have:((bif ((e == (0:Int)) != (subC (w64 (Int.tmod l[k].Name 16)) == (0:Int))) then (bif (e != (7:Int)) then some (.inl false) else some (.inr ())) else some (.inr ())):Option (Bool ⊕ Unit))=some (.inr ()):=by
     rw [c0]
     by_cases g:subC (w64 (Int.tmod l[k].Name 16))=0
     ·rw [e4 e0 g,g];rfl
     ·rw [show (subC (w64 (Int.tmod l[k].Name 16)) == 0)=false by simpa using g];rfl
    rw [this,c0]
    exact tail s' sub h (by omega)
  | false =>
   cases h3:(Int.tmod l[k].Kind 4 == 3) with
   | true =>
    obtain ⟨s',e,e1,e2,e3,e4⟩:=drop14 h.ok hs hi x1
    have hv2:=e2.ver h.ok hs
    rw [e1]
    simp only [cond_false,cond_true,Option.bind_some]
    by_cases e0:e=0
    ·subst e0
     exact tail s' _ (h.step hi e2 ⟨_,e4 rfl,rfl⟩) (by omega)
    ·have hsame:=e3 e0
     subst hsame
     have c0:(e == 0)=false:=by simpa using e0
     rw [c0]
     exact tail s' sub h (by omega)
   | false =>
    obtain ⟨s',e1,e2,e3⟩:=done14 h.ok hs hdk hi hw' x1
    have hv2:=e2.ver h.ok hs
    rw [e1]
    obtain ⟨y,y1,y2⟩:=e3 h2 h3
    exact tail s' sub (h.same hi e2 ⟨y,y1,y2.trans x2⟩) (by omega)
theorem tabR0:Tab (RosterState.mk 0 0 [] []) (List.replicate 14 (0:Int)) :=
 ⟨⟨⟨Nat.zero_le _,Nat.zero_le _,⟨by decide,by decide⟩,⟨by decide,by decide⟩,(by simp),(by simp),(by simp),.nil,.nil,(by simp),.nil,.nil,(by simp)⟩,⟨Nat.zero_le _,Nat.zero_le _,(by simp),(by simp)⟩⟩,rfl,(by simp),fun m hm=>⟨noneI,.inr ⟨rfl,by simp⟩,by rw [List.getElem_replicate]⟩⟩
theorem rosterSees_pure (haw:p_law21_awake=some true) (l:List Law21Deed) (hd:∀ d ∈ l,DeedOk d):p_law21_RosterSees l=some true:=by
 unfold p_law21_RosterSees
 by_cases h:(60:Int) < (l.length:Int)
 ·rw [decide_eq_true h,haw];rfl
 rw [decide_eq_false h,cond_false]
 obtain ⟨r,e⟩:=sees_l (by omega) hd l.length 0 fuel _ _ (by omega) (by have:=fuel_pos;omega) tabR0 (Int.le_refl _)
 have e' : p_law21_RosterSees_l1 l fuel (0:Int) (RosterState.mk 0 0 [] []) (List.replicate 14 (0:Int))=_:=e
 rw [e',haw];rfl
end Go.Proofs.Ytmmmcpeickfolaa

namespace Go.Proofs.Ytmmmcpeickfolaa
open Go.RowKit
set_option maxRecDepth 100000
set_option maxHeartbeats 4000000
def gc19:BCode:=(.seq (R_ 0 [O_ 2 (.mv (i_ 0)) 0]) (.seq (.block 0 (.seq (.seq (R_ 0 [O_ 4 (.mv (t_ 0)) 0,O_ 5 (.bin .lss (t_ 4) (i_ 0)) 0,O_ 3 (.mv (t_ 5)) 0]) (.cond (t_ 3) .skip (R_ 0 [O_ 6 (.mv (t_ 0)) 0,O_ 7 (.bin .gtr (t_ 6) (i_ 15)) 0,O_ 3 (.mv (t_ 7)) 0]))) (.cond (t_ 3) (.seq (R_ 0 [O_ 2 (.mv (i_ 8)) 0]) .ret) (.seq (.seq (R_ 0 [O_ 9 (.mv (t_ 0)) 0,O_ 10 (.bin .and (t_ 9) (i_ 5)) 0,O_ 11 (.bin .eql (t_ 10) (i_ 5)) 0,O_ 8 (.mv (t_ 11)) 0]) (.cond (t_ 8) .skip (R_ 0 [O_ 12 (.mv (t_ 0)) 0,O_ 13 (.bin .and (t_ 12) (i_ 10)) 0,O_ 14 (.bin .eql (t_ 13) (i_ 10)) 0,O_ 8 (.mv (t_ 14)) 0]))) (.cond (t_ 8) (.seq (R_ 0 [O_ 2 (.mv (i_ 4)) 0]) .ret) .skip))))) (.seq (R_ 0 [O_ 2 (.mv (i_ 0)) 0]) .ret)))
theorem gc19_ok:compF Try.prog Try.f19=some (gc19.er,15,[.tmp 2]):=by unfold gc19;kernel_rfl
theorem p_subs_Check_v (a0:Int):CallsO Try.prog 19 [.i a0] V.i (p_subs_Check a0):=by
 refine callsO_comp mix Try.func19 gc19_ok fun r H=>?_
 rw [p_subs_Check] at H
 conv=>whnf
 refine tst_c H (fun b1 H=>?_) (fun b1 H=>?_)
 ·conv=>whnf
  refine Tst.T ?_;conv=>whnf
  exact fi_ H
 conv=>whnf
 refine tst_c H (fun b2 H=>?_) (fun b2 H=>?_)
 ·conv=>whnf
  exact fi_ H
 conv=>whnf
 refine tst_c H (fun b3 H=>?_) (fun b3 H=>?_)
 ·conv=>whnf
  refine Tst.T ?_;conv=>whnf
  exact fi_ H
 conv=>whnf
 refine tst_c H (fun b4 H=>?_) (fun b4 H=>?_)
 ·conv=>whnf
  exact fi_ H
 conv=>whnf
 exact fi_ H
def gc87:BCode:=(.seq (R_ 1 [O_ 1 (.bx (t_ 0)) 0,O_ 2 (.mv (i_ 0)) 1]) (.seq (.seq (R_ 0 [O_ 4 (.fa 0 (t_ 1)) 0,O_ 5 (.ld 1 false (t_ 4)) 0,O_ 6 (.cl 40 [(t_ 5)]) 0,O_ 7 (.un .not (t_ 6)) 0]) (.cond (t_ 7) (.seq (R_ 0 [O_ 2 (.mv (i_ 11)) 0]) .ret) .skip)) (.seq (.seq (R_ 0 [O_ 8 (.fa 1 (t_ 1)) 0,O_ 9 (.ld 1 false (t_ 8)) 0,O_ 10 (.lent (t_ 9)) 0,O_ 11 (.bin .gtr (t_ 10) (i_ 24)) 0]) (.cond (t_ 11) (.seq (R_ 0 [O_ 2 (.mv (i_ 5)) 0]) .ret) .skip)) (.seq (.seq (R_ 0 [O_ 12 (.fa 1 (t_ 1)) 0,O_ 13 (.ld 1 false (t_ 12)) 0,O_ 14 (.cl 39 [(t_ 13)]) 0,O_ 15 (.un .not (t_ 14)) 0]) (.cond (t_ 15) (.seq (R_ 0 [O_ 2 (.mv (i_ 11)) 0]) .ret) .skip)) (.seq (.seq (R_ 0 [O_ 16 (.fa 2 (t_ 1)) 0,O_ 17 (.ld 1 false (t_ 16)) 0,O_ 18 (.cl 19 [(t_ 17)]) 0,O_ 3 (.mv (t_ 18)) 0]) (.seq (R_ 0 [O_ 19 (.mv (t_ 3)) 0,O_ 20 (.bin .neq (t_ 19) (i_ 0)) 0]) (.cond (t_ 20) (.seq (R_ 0 [O_ 21 (.mv (t_ 3)) 0,O_ 2 (.mv (t_ 21)) 0]) .ret) .skip))) (.seq (.seq (R_ 0 [O_ 22 (.fa 3 (t_ 1)) 0,O_ 23 (.ld 1 false (t_ 22)) 0,O_ 24 (.bin .lss (t_ 23) (i_ 0)) 0,O_ 25 (.mv (t_ 24)) 0,⟨(some 26),.fa 3 (t_ 1),(some (25,false)),0⟩,⟨(some 27),.ld 1 false (t_ 26),(some (25,false)),0⟩,⟨(some 28),.bin .gtr (t_ 27) (i_ 1099511627776),(some (25,false)),0⟩,O_ 29 (.pick (t_ 25) (b_ true) (t_ 28)) 0]) (.cond (t_ 29) (.seq (R_ 0 [O_ 2 (.mv (i_ 8)) 0]) .ret) .skip)) (.seq (.seq (R_ 0 [O_ 30 (.fa 1 (t_ 1)) 0,O_ 31 (.ld 1 false (t_ 30)) 0,O_ 32 (.bin .neq (t_ 31) (.const (.string ⟨#[]⟩))) 0,O_ 33 (.mv (t_ 32)) 0,⟨(some 34),.fa 4 (t_ 1),(some (33,true)),0⟩,⟨(some 35),.ld 1 false (t_ 34),(some (33,true)),0⟩,⟨(some 36),.un .not (t_ 35),(some (33,true)),0⟩,O_ 37 (.pick (t_ 33) (t_ 36) (b_ false)) 0]) (.cond (t_ 37) (.seq (R_ 0 [O_ 2 (.mv (i_ 4)) 0]) .ret) .skip)) (.seq (R_ 0 [O_ 2 (.mv (i_ 0)) 0]) .ret))))))))
theorem gc87_ok:compF Try.prog Try.f87=some (gc87.er,38,[.tmp 2]):=by unfold gc87;kernel_rfl
theorem p_item_Check_v (a0:ItemItem):CallsO Try.prog 87 [.agg [.s a0.Contact,.s a0.Name,.i a0.Sub,.i a0.Ver,.b a0.Own]] V.i (p_item_Check a0):=by
 refine callsO_comp mix Try.func87 gc87_ok fun r H=>?_
 rw [p_item_Check] at H
 conv=>whnf
 refine ask_c (p_addr_IsBare_v _) H rfl rfl (fun v1 H=>?_);conv=>whnf
 refine Tst.not ?_
 refine tst_d H (fun b2 H=>?_) (fun b2 H=>?_)
 ·conv=>whnf
  exact fi_ H
 conv=>whnf
 refine tst_c H (fun b3 H=>?_) (fun b3 H=>?_)
 ·conv=>whnf
  exact fi_ H
 conv=>whnf
 refine ask_c (p_utf_Plain_v _) H rfl rfl (fun v4 H=>?_);conv=>whnf
 refine Tst.not ?_
 refine tst_d H (fun b5 H=>?_) (fun b5 H=>?_)
 ·conv=>whnf
  exact fi_ H
 conv=>whnf
 refine ask_c (p_subs_Check_v _) H rfl rfl (fun v6 H=>?_);conv=>whnf
 refine tst_c H (fun b7 H=>?_) (fun b7 H=>?_)
 ·conv=>whnf
  exact fi_ H
 conv=>whnf
 refine tst_c H (fun b8 H=>?_) (fun b8 H=>?_)
 ·conv=>whnf
  iterate 4 (refine Tst.T ?_;conv=>whnf)
  exact fi_ H
 conv=>whnf
 iterate 3 (refine Tst.F ?_;conv=>whnf)
 refine tst_c H (fun b9 H=>?_) (fun b9 H=>?_)
 ·conv=>whnf
  exact fi_ H
 conv=>whnf
 refine Tst.not ?_
 refine tst_c H (fun b10 H=>?_) (fun b10 H=>?_)
 ·conv=>whnf
  iterate 4 (refine Tst.F ?_;conv=>whnf)
  exact fi_ H
 conv=>whnf
 iterate 3 (refine Tst.T ?_;conv=>whnf)
 refine Tst.not ?_
 refine tst_c H (fun b11 H=>?_) (fun b11 H=>?_)
 ·conv=>whnf
  exact fi_ H
 conv=>whnf
 exact fi_ H
def gc100:BCode:=(.seq (R_ 1 [O_ 1 (.bx (t_ 0)) 0,O_ 2 (.mv (b_ false)) 1]) (.seq (R_ 0 [O_ 3 (.fa 2 (t_ 1)) 0,O_ 4 (.ld 1 false (t_ 3)) 0,O_ 5 (.bin .eql (t_ 4) (i_ 0)) 0,O_ 6 (.mv (t_ 5)) 0,⟨(some 7),.fa 4 (t_ 1),(some (6,true)),0⟩,⟨(some 8),.ld 1 false (t_ 7),(some (6,true)),0⟩,⟨(some 9),.un .not (t_ 8),(some (6,true)),0⟩,O_ 10 (.pick (t_ 6) (t_ 9) (b_ false)) 0,O_ 2 (.mv (t_ 10)) 0]) .ret))
theorem gc100_ok:compF Try.prog Try.f100=some (gc100.er,11,[.tmp 2]):=by unfold gc100;kernel_rfl
theorem p_item_Idle_v (a0:ItemItem):CallsO Try.prog 100 [.agg [.s a0.Contact,.s a0.Name,.i a0.Sub,.i a0.Ver,.b a0.Own]] V.b (p_item_Idle a0):=by
 refine callsO_comp mix Try.func100 gc100_ok fun r H=>?_
 rw [p_item_Idle] at H
 conv=>whnf
 refine tst_c H (fun b1 H=>?_) (fun b1 H=>?_)
 ·conv=>whnf
  iterate 3 (refine Tst.T ?_;conv=>whnf)
  exact fb_ H
 conv=>whnf
 iterate 3 (refine Tst.F ?_;conv=>whnf)
 exact fb_ H
def gc109:BCode:=(.seq (R_ 1 [O_ 2 (.bx (t_ 0)) 0,O_ 4 (.mv (b_ false)) 1]) (.seq (R_ 0 [O_ 5 (.fa 2 (t_ 2)) 0,O_ 6 (.ld 1 false (t_ 5)) 0,O_ 7 (.cl 19 [(t_ 6)]) 0,O_ 8 (.bin .eql (t_ 7) (i_ 0)) 0,O_ 9 (.mv (t_ 8)) 0,⟨(some 10),.fa 2 (t_ 2),(some (9,true)),0⟩,⟨(some 11),.ld 1 false (t_ 10),(some (9,true)),0⟩,⟨(some 12),.mv (t_ 1),(some (9,true)),0⟩,⟨(some 13),.bin .and (t_ 11) (t_ 12),(some (9,true)),0⟩,⟨(some 14),.bin .neq (t_ 13) (i_ 0),(some (9,true)),0⟩,O_ 15 (.pick (t_ 9) (t_ 14) (b_ false)) 0,O_ 4 (.mv (t_ 15)) 0]) .ret))
theorem gc109_ok:compF Try.prog Try.f109=some (gc109.er,16,[.tmp 4]):=by unfold gc109;kernel_rfl
theorem p_item_Item_has_v (a0:ItemItem) (a1:Int):CallsO Try.prog 109 [.agg [.s a0.Contact,.s a0.Name,.i a0.Sub,.i a0.Ver,.b a0.Own],.i a1] V.b (p_item_Item_has a0 a1):=by
 refine callsO_comp mix Try.func109 gc109_ok fun r H=>?_
 rw [p_item_Item_has] at H
 conv=>whnf
 refine ask_c (p_subs_Check_v _) H rfl rfl (fun v1 H=>?_);conv=>whnf
 refine tst_c H (fun b2 H=>?_) (fun b2 H=>?_)
 ·conv=>whnf
  iterate 5 (refine Tst.T ?_;conv=>whnf)
  exact fb_ H
 conv=>whnf
 iterate 5 (refine Tst.F ?_;conv=>whnf)
 exact fb_ H
def gc90:BCode:=(.seq (R_ 1 [O_ 1 (.bx (t_ 0)) 0,O_ 2 (.mv (b_ false)) 1]) (.seq (R_ 0 [O_ 3 (.fa 4 (t_ 1)) 0,O_ 4 (.ld 1 false (t_ 3)) 0,O_ 5 (.mv (t_ 4)) 0,⟨(some 6),.ld 5 true (t_ 1),(some (5,false)),0⟩,⟨(some 7),.cl 109 [(t_ 6),(i_ 7)],(some (5,false)),0⟩,O_ 8 (.pick (t_ 5) (b_ true) (t_ 7)) 0,O_ 2 (.mv (t_ 8)) 0]) .ret))
theorem gc90_ok:compF Try.prog Try.f90=some (gc90.er,9,[.tmp 2]):=by unfold gc90;kernel_rfl
theorem p_item_Listed_v (a0:ItemItem):CallsO Try.prog 90 [.agg [.s a0.Contact,.s a0.Name,.i a0.Sub,.i a0.Ver,.b a0.Own]] V.b (p_item_Listed a0):=by
 refine callsO_comp mix Try.func90 gc90_ok fun r H=>?_
 rw [p_item_Listed] at H
 conv=>whnf
 refine tst_c H (fun b1 H=>?_) (fun b1 H=>?_)
 ·conv=>whnf
  iterate 2 (refine Tst.T ?_;conv=>whnf)
  exact fb_ H
 conv=>whnf
 refine Tst.F ?_;conv=>whnf
 refine ask_c (p_item_Item_has_v _ _) H rfl rfl (fun v2 H=>?_);conv=>whnf
 refine Tst.F ?_;conv=>whnf
 exact fb_ H
def gc57:BCode:=(.seq (R_ 1 [O_ 1 (.bx (t_ 0)) 0,O_ 2 (.mv (b_ false)) 1]) (.seq (R_ 0 [O_ 3 (.ld 5 true (t_ 1)) 0,O_ 4 (.cl 109 [(t_ 3),(i_ 1)]) 0,O_ 2 (.mv (t_ 4)) 0]) .ret))
theorem gc57_ok:compF Try.prog Try.f57=some (gc57.er,5,[.tmp 2]):=by unfold gc57;kernel_rfl
theorem p_item_Sees_v (a0:ItemItem):CallsO Try.prog 57 [.agg [.s a0.Contact,.s a0.Name,.i a0.Sub,.i a0.Ver,.b a0.Own]] V.b (p_item_Sees a0):=by
 refine callsO_comp mix Try.func57 gc57_ok fun r H=>?_
 rw [p_item_Sees] at H
 conv=>whnf
 refine ask_c (p_item_Item_has_v _ _) H rfl rfl (fun v1 H=>?_);conv=>whnf
 exact fb_ H
def gc58:BCode:=(.seq (R_ 1 [O_ 1 (.bx (t_ 0)) 0,O_ 2 (.mv (b_ false)) 1]) (.seq (R_ 0 [O_ 3 (.ld 5 true (t_ 1)) 0,O_ 4 (.cl 109 [(t_ 3),(i_ 2)]) 0,O_ 2 (.mv (t_ 4)) 0]) .ret))
theorem gc58_ok:compF Try.prog Try.f58=some (gc58.er,5,[.tmp 2]):=by unfold gc58;kernel_rfl
theorem p_item_Seen_v (a0:ItemItem):CallsO Try.prog 58 [.agg [.s a0.Contact,.s a0.Name,.i a0.Sub,.i a0.Ver,.b a0.Own]] V.b (p_item_Seen a0):=by
 refine callsO_comp mix Try.func58 gc58_ok fun r H=>?_
 rw [p_item_Seen] at H
 conv=>whnf
 refine ask_c (p_item_Item_has_v _ _) H rfl rfl (fun v1 H=>?_);conv=>whnf
 exact fb_ H
end Go.Proofs.Ytmmmcpeickfolaa

namespace Go.Proofs.Ytmmmcpeickfolaa
open Go.RowKit
set_option maxRecDepth 100000
set_option maxHeartbeats 4000000
def gc91:BCode:=(.seq (R_ 1 [O_ 1 (.bx (t_ 0)) 0,O_ 2 (.mv (i_ 0)) 1]) (.seq (.seq (R_ 0 [O_ 6 (.fa 2 (t_ 1)) 0,O_ 7 (.ld 1 false (t_ 6)) 0,O_ 8 (.lens (t_ 7)) 0,O_ 9 (.mv (i_ 0)) 0]) (.block 0 (.loop (.seq (R_ 0 [O_ 10 (.bin .lss (t_ 9) (t_ 8)) 0]) (.seq (.cond (t_ 10) .skip (.exit 0)) (.seq (.block 1 (.seq (R_ 1 [O_ 11 (.ixs 5 (t_ 7) (t_ 9)) 0,O_ 12 (.ld 5 true (t_ 11)) 0,O_ 4 (.al (.agg [(.lit (.string ⟨#[]⟩)),(.lit (.string ⟨#[]⟩)),(.lit (.int .i64 0)),(.lit (.int .i64 0)),(.lit (.bool false))])) 0,U_ (.st 5 (t_ 4) (t_ 12)) 1]) (.seq (.seq (R_ 0 [O_ 13 (.ld 5 true (t_ 4)) 0,O_ 14 (.cl 87 [(t_ 13)]) 0,O_ 5 (.mv (t_ 14)) 0]) (.seq (R_ 0 [O_ 15 (.mv (t_ 5)) 0,O_ 16 (.bin .neq (t_ 15) (i_ 0)) 0]) (.cond (t_ 16) (.seq (R_ 0 [O_ 17 (.mv (t_ 5)) 0,O_ 2 (.mv (t_ 17)) 0]) .ret) .skip))) (.seq (R_ 0 [O_ 18 (.ld 5 true (t_ 4)) 0,O_ 19 (.cl 100 [(t_ 18)]) 0]) (.cond (t_ 19) (.seq (R_ 0 [O_ 2 (.mv (i_ 4)) 0]) .ret) .skip))))) (R_ 0 [O_ 20 (.bin .add (t_ 9) (i_ 1)) 0,O_ 9 (.mv (t_ 20)) 0]))))))) (.seq (R_ 0 [O_ 2 (.mv (i_ 0)) 0]) .ret)))
theorem gc91_ok:compF Try.prog Try.f91=some (gc91.er,21,[.tmp 2]):=by unfold gc91;kernel_rfl
theorem p_roster_State_errors_v {u1 u2:Bool} (a0:RosterState):CallsO Try.prog 91 [.agg [.i a0.Ver,.i a0.Floor,.sl (List.map ItemItem.v a0.Items) u1,.sl (List.map RosterGone.v a0.Gone) u2]] V.i (p_roster_State_errors a0):=by
 refine callsO_comp mix Try.func91 gc91_ok fun r H=>?_
 rw [p_roster_State_errors] at H
 conv=>whnf
 refine LenQ.M ?_;conv=>whnf
 obtain ⟨o2,HL3,HQ4⟩:=bind_c H
 refine loop_c [2,9] [4,5,10,11,12,13,14,15,16,17,18,19,20,1,6] [4,5,10,11,12,13,14,15,16,17,18,19,20,1,6] (fun n vals st=>(∃ y6,p_roster_State_errors_l1  a0.Items (a0.Items.length:Int) n y6=some o2∧vals=[.i (0:Int),.i y6]∧st=[])) fuel 0 [] (⟨_,HL3,rfl,rfl⟩) (Nat.zero_le _) rfl (by kernel_rfl) (by kernel_rfl) rfl trivial ?_
 rintro (_ | n5) _ _ (⟨y6,H,rfl,rfl⟩)
 ·rw [p_roster_State_errors_l1] at H;cases H
 rw [p_roster_State_errors_l1] at H
 conv=>whnf
 refine tst_d H (fun b7 H=>?_) (fun b7 H=>?_)
 ·conv=>whnf
  obtain rfl:=Option.some.inj H
  have H:=HQ4
  try dsimp only at H
  exact fi_ H
 conv=>whnf
 refine ixs_c (f:=ItemItem.v) H (fun _=>rfl) (fun x8 H=>?_);conv=>whnf
 refine lq_ ?_;conv=>whnf
 refine ask_c (p_item_Check_v _) H rfl rfl (fun v9 H=>?_);conv=>whnf
 refine tst_c H (fun b10 H=>?_) (fun b10 H=>?_)
 ·conv=>whnf
  obtain rfl:=Option.some.inj H
  have H:=HQ4
  try dsimp only at H
  exact fi_ H
 conv=>whnf
 refine ask_c (p_item_Idle_v _) H rfl rfl (fun v11 H=>?_);conv=>whnf
 refine tst_c H (fun b12 H=>?_) (fun b12 H=>?_)
 ·conv=>whnf
  obtain rfl:=Option.some.inj H
  have H:=HQ4
  try dsimp only at H
  exact fi_ H
 conv=>whnf
 refine Ari.w ?_;conv=>whnf
 exact again_c [4,5,10,11,12,13,14,15,16,17,18,19,20,1,6] n5 0 [] (⟨_,H,rfl,rfl⟩) (Nat.lt_succ_self _) (Nat.zero_le _) rfl (by kernel_rfl) (by kernel_rfl) rfl trivial
def gc93:BCode:=(.seq (R_ 1 [O_ 1 (.bx (t_ 0)) 0,O_ 2 (.mv (b_ false)) 1]) (.seq (R_ 0 [O_ 3 (.fa 0 (t_ 1)) 0,O_ 4 (.ld 1 false (t_ 3)) 0,O_ 5 (.cl 40 [(t_ 4)]) 0,O_ 6 (.un .not (t_ 5)) 0,O_ 2 (.mv (t_ 6)) 0]) .ret))
theorem gc93_ok:compF Try.prog Try.f93=some (gc93.er,7,[.tmp 2]):=by unfold gc93;kernel_rfl
theorem p_roster_Check_1_v (a0:RosterGone):CallsO Try.prog 93 [.agg [.s a0.Contact,.i a0.Ver]] V.b (p_roster_Check_1 a0):=by
 refine callsO_comp mix Try.func93 gc93_ok fun r H=>?_
 rw [p_roster_Check_1] at H
 conv=>whnf
 refine ask_c (p_addr_IsBare_v _) H rfl rfl (fun v1 H=>?_);conv=>whnf
 exact fb_ H
def gc92:BCode:=(.seq (R_ 0 [O_ 4 (.mv (b_ false)) 0]) (.seq (R_ 0 [O_ 5 (.mv (t_ 0)) 0,O_ 6 (.mv (t_ 1)) 0,O_ 7 (.cl 127 [(t_ 5),(t_ 6)]) 0,O_ 8 (.bin .geq (t_ 7) (i_ 0)) 0,O_ 4 (.mv (t_ 8)) 0]) .ret))
theorem gc92_ok:compF Try.prog Try.f92=some (gc92.er,9,[.tmp 4]):=by unfold gc92;kernel_rfl
theorem p_slices_ContainsFunc_roster_Gone_v {u1:Bool} (a0:List RosterGone) (a1:RosterGone→Option Bool) {a1_g:Nat} {a1_k:List V} (a1_h:Clo1 Try.prog a1_g a1_k RosterGone.v V.b a1):CallsO Try.prog 92 [.sl (List.map RosterGone.v a0) u1,.clo (.func a1_g) a1_k] V.b (p_slices_ContainsFunc_roster_Gone a0 a1):=by
 refine callsO_comp mix Try.func92 gc92_ok fun r H=>?_
 rw [p_slices_ContainsFunc_roster_Gone] at H
 conv=>whnf
 refine askF_c (p_slices_IndexFunc_roster_Gone_v _ _ a1_h) H (.cons (.c (.slw)) (.cons (.c (.id a1_h.own)) (.nil))) (fun v1 H=>?_);conv=>whnf
 exact fb_ H
def gc141:BCode:=(.seq (R_ 1 [O_ 2 (.bx (t_ 0)) 0,O_ 3 (.mv (b_ false)) 1]) (.seq (R_ 0 [O_ 4 (.fa 3 (t_ 2)) 0,O_ 5 (.ld 1 false (t_ 4)) 0,O_ 6 (.ld 1 false (t_ 1)) 0,O_ 7 (.bin .eql (t_ 5) (t_ 6)) 0,O_ 3 (.mv (t_ 7)) 0]) .ret))
theorem gc141_ok:compF Try.prog Try.f141=some (gc141.er,8,[.tmp 3]):=by unfold gc141;kernel_rfl
theorem p_roster_State_of_1_v (a0:ItemItem) (c0:Int):CallsO Try.prog 141 [.agg [.s a0.Contact,.s a0.Name,.i a0.Sub,.i a0.Ver,.b a0.Own],.eptr [.i c0]] V.b (p_roster_State_of_1 a0 c0):=by
 refine callsO_comp mix Try.func141 gc141_ok fun r H=>?_
 rw [p_roster_State_of_1] at H
 conv=>whnf
 exact fb_ H
def gc140:BCode:=(.seq (R_ 0 [O_ 4 (.mv (i_ 0)) 0]) (.seq (.seq (R_ 0 [O_ 6 (.mv (t_ 0)) 0,O_ 7 (.lens (t_ 6)) 0,O_ 8 (.mv (i_ 0)) 0]) (.block 0 (.loop (.seq (R_ 0 [O_ 9 (.bin .lss (t_ 8) (t_ 7)) 0]) (.seq (.cond (t_ 9) .skip (.exit 0)) (.seq (.block 1 (.seq (R_ 0 [O_ 10 (.mv (t_ 8)) 0,O_ 5 (.mv (t_ 10)) 0]) (.seq (R_ 0 [O_ 11 (.mv (t_ 1)) 0,O_ 12 (.mv (t_ 0)) 0,O_ 13 (.mv (t_ 5)) 0,O_ 14 (.ixs 5 (t_ 12) (t_ 13)) 0,O_ 15 (.ld 5 true (t_ 14)) 0,O_ 16 (.cv (t_ 11) [(t_ 15)]) 0]) (.cond (t_ 16) (.seq (R_ 0 [O_ 17 (.mv (t_ 5)) 0,O_ 4 (.mv (t_ 17)) 0]) .ret) .skip)))) (R_ 0 [O_ 18 (.bin .add (t_ 8) (i_ 1)) 0,O_ 8 (.mv (t_ 18)) 0]))))))) (.seq (R_ 0 [O_ 4 (.mv (.const (.int .i64 (-1)))) 0]) .ret)))
theorem gc140_ok:compF Try.prog Try.f140=some (gc140.er,19,[.tmp 4]):=by unfold gc140;kernel_rfl
theorem p_slices_IndexFunc_item_Item_v {u1:Bool} (a0:List ItemItem) (a1:ItemItem→Option Bool) {a1_g:Nat} {a1_k:List V} (a1_h:Clo1 Try.prog a1_g a1_k ItemItem.v V.b a1):CallsO Try.prog 140 [.sl (List.map ItemItem.v a0) u1,.clo (.func a1_g) a1_k] V.i (p_slices_IndexFunc_item_Item a0 a1):=by
 refine callsO_comp mix Try.func140 gc140_ok fun r H=>?_
 rw [p_slices_IndexFunc_item_Item] at H
 conv=>whnf
 refine LenQ.M ?_;conv=>whnf
 obtain ⟨o2,HL3,HQ4⟩:=bind_c H
 refine loop_c [4,8] [5,9,10,11,12,13,14,15,16,17,18] [5,9,10,11,12,13,14,15,16,17,18] (fun n vals st=>(∃ y6,p_slices_IndexFunc_item_Item_l1  a1 a0 (a0.length:Int) n y6=some o2∧vals=[.i (0:Int),.i y6]∧st=[])) fuel 0 [] (⟨_,HL3,rfl,rfl⟩) (Nat.zero_le _) rfl (by simp only [maskF,setF,List.set_cons_zero,List.set_cons_succ,V.ren.renL,V.ren,renL_id _ a1_h.own] <;> rfl) (by simp only [maskF,setF,List.set_cons_zero,List.set_cons_succ,V.idlt.belowL,V.idlt,fun n=>idltL_up (n:=n) _ a1_h.own] <;> rfl) rfl trivial ?_
 rintro (_ | n5) _ _ (⟨y6,H,rfl,rfl⟩)
 ·rw [p_slices_IndexFunc_item_Item_l1] at H;cases H
 rw [p_slices_IndexFunc_item_Item_l1] at H
 conv=>whnf
 refine tst_d H (fun b7 H=>?_) (fun b7 H=>?_)
 ·conv=>whnf
  obtain rfl:=Option.some.inj H
  have H:=HQ4
  try dsimp only at H
  exact fi_ H
 conv=>whnf
 refine ixs_c (f:=ItemItem.v) H (fun _=>rfl) (fun x8 H=>?_);conv=>whnf
 refine askC_c a1_h H (.cons (fzagg (.cons (.id rfl) (.cons (.id rfl) (.cons (.id rfl) (.cons (.id rfl) (.cons (.id rfl) (.nil)))))) rfl) (.nil)) (fun v9 H=>?_);conv=>whnf
 refine tst_c H (fun b10 H=>?_) (fun b10 H=>?_)
 ·conv=>whnf
  obtain rfl:=Option.some.inj H
  have H:=HQ4
  try dsimp only at H
  exact fi_ H
 conv=>whnf
 refine Ari.w ?_;conv=>whnf
 exact again_c [5,9,10,11,12,13,14,15,16,17,18] n5 0 [] (⟨_,H,rfl,rfl⟩) (Nat.lt_succ_self _) (Nat.zero_le _) rfl (by simp only [maskF,setF,List.set_cons_zero,List.set_cons_succ,V.ren.renL,V.ren,renL_id _ a1_h.own] <;> rfl) (by simp only [maskF,setF,List.set_cons_zero,List.set_cons_succ,V.idlt.belowL,V.idlt,fun n=>idltL_up (n:=n) _ a1_h.own] <;> rfl) rfl trivial
def gc128:BCode:=(.seq (R_ 2 [O_ 2 (.bx (t_ 0)) 0,O_ 3 (.bx (t_ 1)) 1,O_ 4 (.mv (i_ 0)) 2]) (.seq (.reg 0 [O_ 5 (.fa 2 (t_ 2)) 0,O_ 6 (.ld 1 false (t_ 5)) 0,O_ 7 (.mf (.func 141) [(t_ 3)]) 0,O_ 8 (.cl 140 [(t_ 6),(t_ 7)]) 0,O_ 4 (.mv (t_ 8)) 0] none 0 [3]) .ret))
theorem gc128_ok:compF Try.prog Try.f128=some (gc128.er,9,[.tmp 4]):=by unfold gc128;kernel_rfl
theorem p_roster_State_of_v {u1 u2:Bool} (a0:RosterState) (a1:Int):CallsO Try.prog 128 [.agg [.i a0.Ver,.i a0.Floor,.sl (List.map ItemItem.v a0.Items) u1,.sl (List.map RosterGone.v a0.Gone) u2],.i a1] V.i (p_roster_State_of a0 a1):=by
 refine callsO_comp mix Try.func128 gc128_ok fun r H=>?_
 rw [p_roster_State_of] at H
 conv=>whnf
 refine ⟨Nat.zero_le _,?_⟩;conv=>whnf
 refine askF_c (p_slices_IndexFunc_item_Item_v _ _ ⟨⟨_,Try.func141,by kernel_rfl,by kernel_rfl⟩,rfl,fun x0=>p_roster_State_of_1_v _ _⟩) H (.cons (.c (.slw)) (.cons (.c (.clo (.cons (.ptr rfl (Nat.le_of_ble_eq_true rfl) (.cons (.id rfl) (.nil))) (.nil)))) (.nil))) (fun v1 H=>?_);conv=>whnf
 exact fi_ H
def gc94:BCode:=(.seq (R_ 1 [O_ 1 (.bx (t_ 0)) 0,O_ 2 (.mv (b_ false)) 1]) (.seq (.seq (R_ 0 [O_ 5 (.fa 2 (t_ 1)) 0,O_ 6 (.ld 1 false (t_ 5)) 0,O_ 7 (.lens (t_ 6)) 0,O_ 8 (.mv (i_ 0)) 0]) (.block 0 (.loop (.seq (R_ 0 [O_ 9 (.bin .lss (t_ 8) (t_ 7)) 0]) (.seq (.cond (t_ 9) .skip (.exit 0)) (.seq (.block 1 (.seq (R_ 1 [O_ 10 (.mv (t_ 8)) 0,O_ 11 (.ixs 5 (t_ 6) (t_ 8)) 0,O_ 12 (.ld 5 true (t_ 11)) 0,O_ 4 (.al (.agg [(.lit (.string ⟨#[]⟩)),(.lit (.string ⟨#[]⟩)),(.lit (.int .i64 0)),(.lit (.int .i64 0)),(.lit (.bool false))])) 0,O_ 3 (.mv (t_ 10)) 1,U_ (.st 5 (t_ 4) (t_ 12)) 1]) (.seq (.reg 0 [O_ 13 (.fa 3 (t_ 4)) 0,O_ 14 (.ld 1 false (t_ 13)) 0,O_ 15 (.bin .lss (t_ 14) (i_ 1)) 0,O_ 16 (.mv (t_ 15)) 0,⟨(some 17),.fa 3 (t_ 4),(some (16,false)),0⟩,⟨(some 18),.ld 1 false (t_ 17),(some (16,false)),0⟩,⟨(some 19),.fa 0 (t_ 1),(some (16,false)),0⟩,⟨(some 20),.ld 1 false (t_ 19),(some (16,false)),0⟩,⟨(some 21),.bin .gtr (t_ 18) (t_ 20),(some (16,false)),0⟩,O_ 22 (.pick (t_ 16) (b_ true) (t_ 21)) 0,O_ 23 (.mv (t_ 22)) 0,⟨(some 24),.ld 4 true (t_ 1),(some (23,false)),0⟩,⟨(some 25),.fa 3 (t_ 4),(some (23,false)),0⟩,⟨(some 26),.ld 1 false (t_ 25),(some (23,false)),0⟩,⟨(some 27),.cl 128 [(t_ 24),(t_ 26)],(some (23,false)),0⟩,⟨(some 28),.mv (t_ 3),(some (23,false)),0⟩,⟨(some 29),.bin .neq (t_ 27) (t_ 28),(some (23,false)),0⟩,O_ 30 (.pick (t_ 23) (b_ true) (t_ 29)) 0,O_ 31 (.mv (t_ 30)) 0,⟨(some 32),.mv (t_ 3),(some (31,false)),0⟩,⟨(some 33),.bin .gtr (t_ 32) (i_ 0),(some (31,false)),0⟩,⟨(some 34),.mv (t_ 33),(some (31,false)),0⟩,⟨(some 35),.fa 2 (t_ 1),(some (34,true)),0⟩,⟨(some 36),.ld 1 false (t_ 35),(some (34,true)),0⟩,⟨(some 37),.mv (t_ 3),(some (34,true)),0⟩,⟨(some 38),.bin .sub (t_ 37) (i_ 1),(some (34,true)),0⟩,⟨(some 39),.ixs 5 (t_ 36) (t_ 38),(some (34,true)),0⟩,⟨(some 40),.fa 0 (t_ 39),(some (34,true)),0⟩,⟨(some 41),.ld 1 false (t_ 40),(some (34,true)),0⟩,⟨(some 42),.fa 0 (t_ 4),(some (34,true)),0⟩,⟨(some 43),.ld 1 false (t_ 42),(some (34,true)),0⟩,⟨(some 44),.bin .geq (t_ 41) (t_ 43),(some (34,true)),0⟩,⟨(some 45),.pick (t_ 34) (t_ 44) (b_ false),(some (31,false)),0⟩,O_ 46 (.pick (t_ 31) (b_ true) (t_ 45)) 0] (some [[],[0],[0,1],[1,0,2],[2,0,1,3],[3,1,0,2,4],[2,0,1,3],[3,1,0,2,6],[6,7,4,2,0,1,3,5],[5,4,7,6,8,2,0,1,3],[3,1,0,2,8,6,7,4,5,9],[9,5,4,7,6,8,2,0,1,3,10],[9,5,4,7,6,8,2,0,1,3,10],[10,3,1,0,2,8,6,7,4,5,9,12],[12,13,10,3,1,0,2,8,6,7,4,5,9,11],[9,5,4,7,6,8,2,0,1,3,10],[15,11,9,5,4,7,6,8,2,0,1,3,10,13,12,14],[14,12,13,11,15,16,9,5,4,7,6,8,2,0,1,3,10],[10,3,1,0,2,8,6,7,4,5,9,16,15,11,13,12,14,17],[17,14,12,13,11,15,16,9,5,4,7,6,8,2,0,1,3,10,18],[18,10,3,1,0,2,8,6,7,4,5,9,16,15,11,13,12,14,17,19],[19,17,14,12,13,11,15,16,9,5,4,7,6,8,2,0,1,3,10,18,20],[20,18,10,3,1,0,2,8,6,7,4,5,9,16,15,11,13,12,14,17,19,21],[21,19,17,14,12,13,11,15,16,9,5,4,7,6,8,2,0,1,3,10,18,20,22],[20,18,10,3,1,0,2,8,6,7,4,5,9,16,15,11,13,12,14,17,19,21],[21,19,17,14,12,13,11,15,16,9,5,4,7,6,8,2,0,1,3,10,18,20,24],[24,25,22,20,18,10,3,1,0,2,8,6,7,4,5,9,16,15,11,13,12,14,17,19,21,23],[23,21,19,17,14,12,13,11,15,16,9,5,4,7,6,8,2,0,1,3,10,18,20,22,25,24,26],[26,24,25,22,20,18,10,3,1,0,2,8,6,7,4,5,9,16,15,11,13,12,14,17,19,21,23,27],[20,18,10,3,1,0,2,8,6,7,4,5,9,16,15,11,13,12,14,17,19,21],[21,19,17,14,12,13,11,15,16,9,5,4,7,6,8,2,0,1,3,10,18,20,29],[29,30,27,23,21,19,17,14,12,13,11,15,16,9,5,4,7,6,8,2,0,1,3,10,18,20,22,25,24,26,28],[28,26,24,25,22,23,27,30,29,31,20,18,10,3,1,0,2,8,6,7,4,5,9,16,15,11,13,12,14,17,19,21],[21,19,20,31,29,30,27,23,22,25,24,26,28,32,17,14,12,13,11,15,16,9,5,4,7,6,8,2,0,1,3,10,18]]) 0 []) (.cond (t_ 46) (.seq (R_ 0 [O_ 2 (.mv (b_ false)) 0]) .ret) .skip)))) (R_ 0 [O_ 47 (.bin .add (t_ 8) (i_ 1)) 0,O_ 8 (.mv (t_ 47)) 0]))))))) (.seq (R_ 0 [O_ 2 (.mv (b_ true)) 0]) .ret)))
theorem gc94_ok:compF Try.prog Try.f94=some (gc94.er,48,[.tmp 2]):=by unfold gc94;kernel_rfl
theorem p_roster_State_rise_v {u1 u2:Bool} (a0:RosterState):CallsO Try.prog 94 [.agg [.i a0.Ver,.i a0.Floor,.sl (List.map ItemItem.v a0.Items) u1,.sl (List.map RosterGone.v a0.Gone) u2]] V.b (p_roster_State_rise a0):=by
 refine callsO_comp mix Try.func94 gc94_ok fun r H=>?_
 rw [p_roster_State_rise] at H
 conv=>whnf
 refine LenQ.M ?_;conv=>whnf
 obtain ⟨o2,HL3,HQ4⟩:=bind_c H
 refine loop_c [2,8] [3,4,9,10,11,12,13,14,15,16,17,18,19,20,21,22,23,24,25,26,27,28,29,30,31,32,33,34,35,36,37,38,39,40,41,42,43,44,45,46,47,5] [3,4,9,10,11,12,13,14,15,16,17,18,19,20,21,22,23,24,25,26,27,28,29,30,31,32,33,34,35,36,37,38,39,40,41,42,43,44,45,46,47,5] (fun n vals st=>(∃ y6,p_roster_State_rise_l1  a0.Items (a0.Items.length:Int) a0 n y6=some o2∧vals=[.b false,.i y6]∧st=[.live [.i a0.Ver,.i a0.Floor,.sl (List.map ItemItem.v a0.Items) u1,.sl (List.map RosterGone.v a0.Gone) u2] 0])) fuel 1 [] (⟨_,HL3,rfl,rfl⟩) (Nat.zero_le _) rfl (by kernel_rfl) (by kernel_rfl) rfl ⟨⟨rfl,rfl,rfl⟩,trivial⟩ ?_
 rintro (_ | n5) _ _ (⟨y6,H,rfl,rfl⟩)
 ·rw [p_roster_State_rise_l1] at H;cases H
 rw [p_roster_State_rise_l1] at H
 conv=>whnf
 refine tst_d H (fun b7 H=>?_) (fun b7 H=>?_)
 ·conv=>whnf
  obtain rfl:=Option.some.inj H
  have H:=HQ4
  try dsimp only at H
  exact fb_ H
 conv=>whnf
 refine ixs_c (f:=ItemItem.v) H (fun _=>rfl) (fun x8 H=>?_);conv=>whnf
 refine lq_ ?_;conv=>whnf
 refine tst_c H (fun b9 H=>?_) (fun b9 H=>?_)
 ·conv=>whnf
  iterate 17 (refine Tst.T ?_;conv=>whnf)
  refine FootQ.mk ⟨rfl,?_⟩;conv=>whnf
  refine Tst.T ?_;conv=>whnf
  obtain rfl:=Option.some.inj H
  have H:=HQ4
  try dsimp only at H
  exact fb_ H
 conv=>whnf
 iterate 5 (refine Tst.F ?_;conv=>whnf)
 refine tst_c H (fun b10 H=>?_) (fun b10 H=>?_)
 ·conv=>whnf
  iterate 11 (refine Tst.T ?_;conv=>whnf)
  refine FootQ.mk ⟨rfl,?_⟩;conv=>whnf
  refine Tst.T ?_;conv=>whnf
  obtain rfl:=Option.some.inj H
  have H:=HQ4
  try dsimp only at H
  exact fb_ H
 conv=>whnf
 iterate 3 (refine Tst.F ?_;conv=>whnf)
 refine ask_c (p_roster_State_of_v _ _) H rfl rfl (fun v11 H=>?_);conv=>whnf
 iterate 3 (refine Tst.F ?_;conv=>whnf)
 refine tst_c H (fun b12 H=>?_) (fun b12 H=>?_)
 ·conv=>whnf
  iterate 4 (refine Tst.T ?_;conv=>whnf)
  refine FootQ.mk ⟨rfl,?_⟩;conv=>whnf
  refine Tst.T ?_;conv=>whnf
  obtain rfl:=Option.some.inj H
  have H:=HQ4
  try dsimp only at H
  exact fb_ H
 conv=>whnf
 iterate 2 (refine Tst.F ?_;conv=>whnf)
 refine tst_d H (fun b13 H=>?_) (fun b13 H=>?_)
 ·conv=>whnf
  iterate 12 (refine Tst.F ?_;conv=>whnf)
  refine FootQ.mk ⟨rfl,?_⟩;conv=>whnf
  refine Tst.F ?_;conv=>whnf
  refine Ari.w ?_;conv=>whnf
  exact again_c [3,4,9,10,11,12,13,14,15,16,17,18,19,20,21,22,23,24,25,26,27,28,29,30,31,32,33,34,35,36,37,38,39,40,41,42,43,44,45,46,47,5] n5 1 [] (⟨_,H,rfl,rfl⟩) (Nat.lt_succ_self _) (Nat.zero_le _) rfl (by kernel_rfl) (by kernel_rfl) rfl ⟨⟨rfl,rfl,rfl⟩,trivial⟩
 conv=>whnf
 iterate 3 (refine Tst.T ?_;conv=>whnf)
 refine Ari.w ?_;conv=>whnf
 refine Tst.T ?_;conv=>whnf
 refine ixs_c (f:=ItemItem.v) H (fun _=>rfl) (fun x14 H=>?_);conv=>whnf
 refine Tst.T ?_;conv=>whnf
 refine lq_ ?_;conv=>whnf
 iterate 4 (refine Tst.T ?_;conv=>whnf)
 refine Tst.F ?_;conv=>whnf
 refine Tst.T ?_;conv=>whnf
 refine Tst.F ?_;conv=>whnf
 refine FootQ.mk ⟨rfl,?_⟩;conv=>whnf
 refine Tst.not ?_
 refine tst_d H (fun b15 H=>?_) (fun b15 H=>?_)
 ·conv=>whnf
  obtain rfl:=Option.some.inj H
  have H:=HQ4
  try dsimp only at H
  exact fb_ H
 conv=>whnf
 refine Ari.w ?_;conv=>whnf
 exact again_c [3,4,9,10,11,12,13,14,15,16,17,18,19,20,21,22,23,24,25,26,27,28,29,30,31,32,33,34,35,36,37,38,39,40,41,42,43,44,45,46,47,5] n5 1 [] (⟨_,H,rfl,rfl⟩) (Nat.lt_succ_self _) (Nat.zero_le _) rfl (by kernel_rfl) (by kernel_rfl) rfl ⟨⟨rfl,rfl,rfl⟩,trivial⟩
def gc129:BCode:=(.seq (R_ 1 [O_ 2 (.bx (t_ 0)) 0,O_ 3 (.mv (b_ false)) 1]) (.seq (R_ 0 [O_ 4 (.fa 0 (t_ 2)) 0,O_ 5 (.ld 1 false (t_ 4)) 0,O_ 6 (.fa 0 (t_ 1)) 0,O_ 7 (.ld 1 false (t_ 6)) 0,O_ 8 (.bin .eql (t_ 5) (t_ 7)) 0,O_ 3 (.mv (t_ 8)) 0]) .ret))
theorem gc129_ok:compF Try.prog Try.f129=some (gc129.er,9,[.tmp 3]):=by unfold gc129;kernel_rfl
theorem p_roster_State_left_1_v (a0:RosterGone) (c0:RosterGone):CallsO Try.prog 129 [.agg [.s a0.Contact,.i a0.Ver],.eptr [.s c0.Contact,.i c0.Ver]] V.b (p_roster_State_left_1 a0 c0):=by
 refine callsO_comp mix Try.func129 gc129_ok fun r H=>?_
 rw [p_roster_State_left_1] at H
 conv=>whnf
 refine lq_ ?_;conv=>whnf
 exact fb_ H
end Go.Proofs.Ytmmmcpeickfolaa

namespace Go.Proofs.Ytmmmcpeickfolaa
open Go.RowKit
set_option maxRecDepth 100000
set_option maxHeartbeats 4000000
def gc107:BCode:=(.seq (R_ 1 [O_ 2 (.bx (t_ 0)) 0,O_ 4 (.mv (i_ 0)) 1]) (.seq (R_ 0 [O_ 5 (.fa 0 (t_ 2)) 0,O_ 6 (.ld 1 false (t_ 5)) 0,O_ 7 (.mv (t_ 1)) 0,O_ 8 (.cl 108 [(t_ 6),(t_ 7)]) 0,O_ 4 (.mv (t_ 8)) 0]) .ret))
theorem gc107_ok:compF Try.prog Try.f107=some (gc107.er,9,[.tmp 4]):=by unfold gc107;kernel_rfl
theorem p_roster_State_find_1_v (a0:ItemItem) (a1:ByteArray):CallsO Try.prog 107 [.agg [.s a0.Contact,.s a0.Name,.i a0.Sub,.i a0.Ver,.b a0.Own],.s a1] V.i (p_roster_State_find_1 a0 a1):=by
 refine callsO_comp mix Try.func107 gc107_ok fun r H=>?_
 rw [p_roster_State_find_1] at H
 conv=>whnf
 refine ask_c (p_strings_Compare_v _ _) H rfl rfl (fun v1 H=>?_);conv=>whnf
 exact fi_ H
def gc106:BCode:=(.seq (R_ 0 [O_ 6 (.mv (i_ 0)) 0,O_ 7 (.mv (b_ false)) 0]) (.seq (R_ 0 [O_ 12 (.mv (t_ 0)) 0,O_ 13 (.lens (t_ 12)) 0,O_ 8 (.mv (t_ 13)) 0]) (.seq (R_ 0 [O_ 14 (.mv (t_ 8)) 0,O_ 9 (.mv (i_ 0)) 0,O_ 10 (.mv (t_ 14)) 0]) (.seq (.block 0 (.loop (.seq (.seq (R_ 0 [O_ 15 (.mv (t_ 9)) 0,O_ 16 (.mv (t_ 10)) 0,O_ 17 (.bin .lss (t_ 15) (t_ 16)) 0]) (.cond (t_ 17) .skip (.exit 0))) (.block 1 (.seq (R_ 0 [O_ 18 (.mv (t_ 9)) 0,O_ 19 (.mv (t_ 10)) 0,O_ 20 (.bin .add (t_ 18) (t_ 19)) 0,O_ 21 (.cvi .u64 (t_ 20)) 0,O_ 22 (.bin .shr (t_ 21) (.const (.int .u64 1))) 0,O_ 23 (.cvi .i64 (t_ 22)) 0,O_ 11 (.mv (t_ 23)) 0]) (.seq (R_ 0 [O_ 24 (.mv (t_ 2)) 0,O_ 25 (.mv (t_ 0)) 0,O_ 26 (.mv (t_ 11)) 0,O_ 27 (.ixs 5 (t_ 25) (t_ 26)) 0,O_ 28 (.ld 5 true (t_ 27)) 0,O_ 29 (.mv (t_ 1)) 0,O_ 30 (.cv (t_ 24) [(t_ 28),(t_ 29)]) 0,O_ 31 (.bin .lss (t_ 30) (i_ 0)) 0]) (.cond (t_ 31) (R_ 0 [O_ 32 (.mv (t_ 11)) 0,O_ 33 (.bin .add (t_ 32) (i_ 1)) 0,O_ 9 (.mv (t_ 33)) 0]) (R_ 0 [O_ 34 (.mv (t_ 11)) 0,O_ 10 (.mv (t_ 34)) 0])))))))) (.seq (R_ 0 [O_ 35 (.mv (t_ 9)) 0,O_ 36 (.mv (t_ 9)) 0,O_ 37 (.mv (t_ 8)) 0,O_ 38 (.bin .lss (t_ 36) (t_ 37)) 0,O_ 39 (.mv (t_ 38)) 0,⟨(some 40),.mv (t_ 2),(some (39,true)),0⟩,⟨(some 41),.mv (t_ 0),(some (39,true)),0⟩,⟨(some 42),.mv (t_ 9),(some (39,true)),0⟩,⟨(some 43),.ixs 5 (t_ 41) (t_ 42),(some (39,true)),0⟩,⟨(some 44),.ld 5 true (t_ 43),(some (39,true)),0⟩,⟨(some 45),.mv (t_ 1),(some (39,true)),0⟩,⟨(some 46),.cv (t_ 40) [(t_ 44),(t_ 45)],(some (39,true)),0⟩,⟨(some 47),.bin .eql (t_ 46) (i_ 0),(some (39,true)),0⟩,O_ 48 (.pick (t_ 39) (t_ 47) (b_ false)) 0,O_ 6 (.mv (t_ 35)) 0,O_ 7 (.mv (t_ 48)) 0]) .ret)))))
theorem gc106_ok:compF Try.prog Try.f106=some (gc106.er,49,[.tmp 6,.tmp 7]):=by unfold gc106;kernel_rfl
theorem p_slices_BinarySearchFunc_item_Item_v {u1:Bool} (a0:List ItemItem) (a1:ByteArray) (a2:ItemItem→ByteArray→Option Int) {a2_g:Nat} {a2_k:List V} (a2_h:Clo2 Try.prog a2_g a2_k ItemItem.v V.s V.i a2):CallsO Try.prog 106 [.sl (List.map ItemItem.v a0) u1,.s a1,.clo (.func a2_g) a2_k] (fun r:Int × Bool=>.tup [V.i r.1,V.b r.2]) (p_slices_BinarySearchFunc_item_Item a0 a1 a2):=by
 refine callsO_comp mix Try.func106 gc106_ok fun r H=>?_
 rw [p_slices_BinarySearchFunc_item_Item] at H
 conv=>whnf
 refine LenQ.M ?_;conv=>whnf
 obtain ⟨o2,HL3,HQ4⟩:=bind_c H
 refine loop_c [9,10] [11,15,16,17,18,19,20,21,22,23,24,25,26,27,28,29,30,31,32,33,34] [11,15,16,17,18,19,20,21,22,23,24,25,26,27,28,29,30,31,32,33,34] (fun n vals st=>(∃ y6 y7,p_slices_BinarySearchFunc_item_Item_l1  a2 a0 a1 n y6 y7=some o2∧vals=[.i y6,.i y7]∧st=[])) fuel 0 [] (⟨_,_,HL3,rfl,rfl⟩) (Nat.zero_le _) rfl (by simp only [maskF,setF,List.set_cons_zero,List.set_cons_succ,V.ren.renL,V.ren,renL_id _ a2_h.own] <;> rfl) (by simp only [maskF,setF,List.set_cons_zero,List.set_cons_succ,V.idlt.belowL,V.idlt,fun n=>idltL_up (n:=n) _ a2_h.own] <;> rfl) rfl trivial ?_
 rintro (_ | n5) _ _ (⟨y6,y7,H,rfl,rfl⟩)
 ·rw [p_slices_BinarySearchFunc_item_Item_l1] at H;cases H
 rw [p_slices_BinarySearchFunc_item_Item_l1] at H
 conv=>whnf
 refine tst_d H (fun b8 H=>?_) (fun b8 H=>?_)
 ·conv=>whnf
  obtain rfl:=Option.some.inj H
  have H:=HQ4
  try dsimp only at H
  refine tst_d H (fun b12 H=>?_) (fun b12 H=>?_)
  ·conv=>whnf
   iterate 8 (refine Tst.F ?_;conv=>whnf)
   exact fq_ H
  conv=>whnf
  iterate 3 (refine Tst.T ?_;conv=>whnf)
  refine ixs_c (f:=ItemItem.v) H (fun _=>rfl) (fun x13 H=>?_);conv=>whnf
  iterate 3 (refine Tst.T ?_;conv=>whnf)
  refine askC2_c a2_h H (.cons (fzagg (.cons (.id rfl) (.cons (.id rfl) (.cons (.id rfl) (.cons (.id rfl) (.cons (.id rfl) (.nil)))))) rfl) (.cons (.c (.id rfl)) (.nil))) (fun v14 H=>?_);conv=>whnf
  iterate 2 (refine Tst.T ?_;conv=>whnf)
  exact fq_ H
 conv=>whnf
 iterate 2 (refine Ari.w ?_;conv=>whnf)
 refine Shr.ok (by decide) ?_;conv=>whnf
 refine Ari.w ?_;conv=>whnf
 refine ixs_c (f:=ItemItem.v) H (fun _=>rfl) (fun x9 H=>?_);conv=>whnf
 refine askC2_c a2_h H (.cons (fzagg (.cons (.id rfl) (.cons (.id rfl) (.cons (.id rfl) (.cons (.id rfl) (.cons (.id rfl) (.nil)))))) rfl) (.cons (.c (.id rfl)) (.nil))) (fun v10 H=>?_);conv=>whnf
 refine tst_d H (fun b11 H=>?_) (fun b11 H=>?_)
 ·conv=>whnf
  exact again_c [11,15,16,17,18,19,20,21,22,23,24,25,26,27,28,29,30,31,32,33,34] n5 0 [] (⟨_,_,H,rfl,rfl⟩) (Nat.lt_succ_self _) (Nat.zero_le _) rfl (by simp only [maskF,setF,List.set_cons_zero,List.set_cons_succ,V.ren.renL,V.ren,renL_id _ a2_h.own] <;> rfl) (by simp only [maskF,setF,List.set_cons_zero,List.set_cons_succ,V.idlt.belowL,V.idlt,fun n=>idltL_up (n:=n) _ a2_h.own] <;> rfl) rfl trivial
 conv=>whnf
 refine Ari.w ?_;conv=>whnf
 exact again_c [11,15,16,17,18,19,20,21,22,23,24,25,26,27,28,29,30,31,32,33,34] n5 0 [] (⟨_,_,H,rfl,rfl⟩) (Nat.lt_succ_self _) (Nat.zero_le _) rfl (by simp only [maskF,setF,List.set_cons_zero,List.set_cons_succ,V.ren.renL,V.ren,renL_id _ a2_h.own] <;> rfl) (by simp only [maskF,setF,List.set_cons_zero,List.set_cons_succ,V.idlt.belowL,V.idlt,fun n=>idltL_up (n:=n) _ a2_h.own] <;> rfl) rfl trivial
def gc54:BCode:=(.seq (R_ 1 [O_ 2 (.bx (t_ 0)) 0,O_ 4 (.mv (i_ 0)) 1,O_ 5 (.mv (b_ false)) 1]) (.seq (R_ 0 [O_ 6 (.fa 2 (t_ 2)) 0,O_ 7 (.ld 1 false (t_ 6)) 0,O_ 8 (.mv (t_ 1)) 0,O_ 9 (.cl 106 [(t_ 7),(t_ 8),(.func 107)]) 0,O_ 10 (.ex (t_ 9) 0) 0,O_ 11 (.ex (t_ 9) 1) 0,O_ 4 (.mv (t_ 10)) 0,O_ 5 (.mv (t_ 11)) 0]) .ret))
theorem gc54_ok:compF Try.prog Try.f54=some (gc54.er,12,[.tmp 4,.tmp 5]):=by unfold gc54;kernel_rfl
theorem p_roster_State_find_v {u1 u2:Bool} (a0:RosterState) (a1:ByteArray):CallsO Try.prog 54 [.agg [.i a0.Ver,.i a0.Floor,.sl (List.map ItemItem.v a0.Items) u1,.sl (List.map RosterGone.v a0.Gone) u2],.s a1] (fun r:Int × Bool=>.tup [V.i r.1,V.b r.2]) (p_roster_State_find a0 a1):=by
 refine callsO_comp mix Try.func54 gc54_ok fun r H=>?_
 rw [p_roster_State_find] at H
 conv=>whnf
 refine askF_c (p_slices_BinarySearchFunc_item_Item_v _ _ _ ⟨⟨_,Try.func107,by kernel_rfl,by kernel_rfl⟩,rfl,fun x0 x1=>p_roster_State_find_1_v _ _⟩) H (.cons (.c (.slw)) (.cons (.c (.id rfl)) (.cons (.c (.clo (.nil))) (.nil)))) (fun v1 H=>?_);conv=>whnf
 exact fq_ H
def gc104:BCode:=(.seq (R_ 1 [O_ 2 (.bx (t_ 0)) 0,O_ 3 (.mv (b_ false)) 1]) (.seq (R_ 0 [O_ 4 (.fa 0 (t_ 2)) 0,O_ 5 (.ld 1 false (t_ 4)) 0,O_ 6 (.fa 0 (t_ 1)) 0,O_ 7 (.ld 1 false (t_ 6)) 0,O_ 8 (.bin .eql (t_ 5) (t_ 7)) 0,O_ 3 (.mv (t_ 8)) 0]) .ret))
theorem gc104_ok:compF Try.prog Try.f104=some (gc104.er,9,[.tmp 3]):=by unfold gc104;kernel_rfl
theorem p_roster_State_change_1_v (a0:RosterGone) (c0:ItemItem):CallsO Try.prog 104 [.agg [.s a0.Contact,.i a0.Ver],.eptr [.s c0.Contact,.s c0.Name,.i c0.Sub,.i c0.Ver,.b c0.Own]] V.b (p_roster_State_change_1 a0 c0):=by
 refine callsO_comp mix Try.func104 gc104_ok fun r H=>?_
 rw [p_roster_State_change_1] at H
 conv=>whnf
 refine lq_ ?_;conv=>whnf
 exact fb_ H
end Go.Proofs.Ytmmmcpeickfolaa

