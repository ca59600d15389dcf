/- A part of the proof: 14 texts joined. -/
import Derived.Test.YthnihifblmnkdaaGreatPdA17
import Derived.Test.YthnihifblmnkdaaGreatPdA14
import Derived.Test.YthnihifblmnkdaaGreatPdA16
import Derived.Test.YthnihifblmnkdaaGreatPdA15
import Derived.KernelRfl
set_option linter.all false
namespace Go.Proofs.YthnihifblmnkdaaGreat
open Go.RowKit
structure Good (seq:Int) (rows:List BookRow):Prop where
 len:rows.length≤16
 seq0:0≤seq
 seqM:seq≤1099511627776
 key:∀ r ∈ rows,((keyR r).toList == (⟨#[]⟩ : ByteArray).toList)=false
 pres:∀ r ∈ rows,presCheckL r.P=0∧r.P.On=true
 rng:∀ r ∈ rows,1≤r.P.Seq∧r.P.Seq≤seq
 ord:rows.Pairwise fun a b=>cmpR a (keyR b) < 0
 diff:rows.Pairwise fun a b=>a.P.Seq≠b.P.Seq
 many:∀ r ∈ rows,manyL rows r.User≤3
theorem err_0:∀ {rows:List BookRow},(∀ r ∈ rows,presCheckL r.P=0∧r.P.On=true)→errL rows=0
 | [],_=>rfl
 | r :: l,h=>by
  have h1:=h r (by simp)
  unfold errL
  rw [if_neg (by simpa using h1.1),if_neg (by rw [h1.2];simp)]
  exact err_0 fun x hx=>h x (by simp [hx])
theorem good_check {seq:Int} {rows:List BookRow} (h:Good seq rows):bookCheck seq rows=0:=by
 have e1:emptyL rows=false:=by
  unfold emptyL;rw [List.any_eq_false]
  intro r hr;rw [h.key r hr];simp
 have e2:=err_0 h.pres
 have e3:ordL seq rows=true:=ord_yes fun i hi=>by
  have hm:=h.rng _ (List.getElem_mem hi)
  have hd:((rows.take i).any fun o=>o.P.Seq == rows[i].P.Seq)=false:=by
   rw [List.any_eq_false]
   intro o ho
   obtain ⟨j,hj,rfl⟩:=List.mem_take_iff_getElem.1 ho
   have:=List.pairwise_iff_getElem.1 h.diff j i (by omega) hi (by omega)
   simpa using this
  cases i with
  | zero=>rw [okAt_0 hi,hd];simp;omega
  | succ j =>
   have hl:=List.pairwise_iff_getElem.1 h.ord j (j + 1) (by omega) hi (by omega)
   have:lessR rows[j] rows[j + 1]=true:=by
    unfold lessR
    rw [ByteArray.toList_eq,ByteArray.toList_eq,cmp_less,decide_eq_true_eq];exact hl
   rw [okAt_s j hi,hd,this];simp;omega
 have e4:fullL rows=false:=by
  unfold fullL;rw [List.any_eq_false]
  intro r hr;have:=h.many r hr;simp;omega
 have h1:=h.len
 have h2:=h.seq0
 have h3:=h.seqM
 unfold bookCheck
 rw [if_neg (by omega),if_neg (by omega),e1,if_neg (by simp),e2,if_neg (by simp),e3,if_neg (by simp),e4,if_neg (by simp)]
theorem pos_of {rows:List BookRow} {k:ByteArray} {p:Nat} (h:StandsAt rows k p):posL rows k=p:=by
 rcases Nat.lt_trichotomy (posL rows k) p with h1 | h1 | h1
 ·have hl:posL rows k < rows.length:=Nat.lt_of_lt_of_le h1 h.le
  have hx:=List.findIdx_getElem (p:=fun r=>decide (0≤cmpR r k)) (xs:=rows) (w:=hl)
  rw [decide_eq_true_eq] at hx
  have h2:=h.lt (posL rows k) hl h1
  have hx' : 0≤cmpR rows[posL rows k] k:=hx
  omega
 ·exact h1
 ·have hl:p < rows.length:=Nat.lt_of_lt_of_le h1 List.findIdx_le_length
  have h2:=List.not_of_lt_findIdx h1
  have h3:=h.ge p hl (Nat.le_refl _)
  simp at h2;omega
structure Cut3 (K:ByteArray) (A M B:List BookRow):Prop where
 a:∀ x ∈ A,cmpR x K < 0
 m:∀ x ∈ M,cmpR x K=0
 b:∀ x ∈ B,0 < cmpR x K
theorem cut_stands {K:ByteArray} {A M B:List BookRow} (h:Cut3 K A M B):StandsAt (A++(M++B)) K A.length:=by
 refine ⟨by simp,fun i hi h1=>?_,fun i hi h1=>?_⟩
 ·rw [List.getElem_append_left h1];exact h.a _ (List.getElem_mem h1)
 ·rw [List.getElem_append_right h1]
  have:=List.getElem_mem (l:=M++B) (n:=i - A.length) (by simp at hi ⊢;omega)
  rcases List.mem_append.1 this with g | g
  ·rw [h.m _ g];exact Int.le_refl _
  ·exact Int.le_of_lt (h.b _ g)
theorem cut_pos {K:ByteArray} {A M B:List BookRow} (h:Cut3 K A M B):posL (A++(M++B)) K=A.length:=pos_of (cut_stands h)
theorem cut_yes {K:ByteArray} {A B:List BookRow} {x:BookRow} (h:Cut3 K A [x] B):foundB (A++([x]++B)) K A.length=true:=by
 unfold foundB
 have:(A++([x]++B))[A.length]?=some x:=by rw [List.getElem?_append_right (Nat.le_refl _),Nat.sub_self];rfl
 rw [this]
 simp [h.m x (by simp)]
theorem cut_no {K:ByteArray} {A B:List BookRow} (h:Cut3 K A [] B):foundB (A++([]++B)) K A.length=false:=by
 unfold foundB
 have:(A++([]++B))[A.length]?=B[0]?:=by rw [List.getElem?_append_right (Nat.le_refl _),Nat.sub_self,List.nil_append]
 rw [this]
 cases B with
 | nil=>rfl
 | cons b B =>
  have:=h.b b (by simp)
  simp;omega
theorem set_cut {seq:Int} {A B:List BookRow} {M:List BookRow} {u r:ByteArray} {sh prio:Int} (hg:bookCheck seq (A++(M++B))=0) (hM:M.length≤1) (hc:Cut3 (keyL u r) A M B) (hk:((keyL u r).toList == (⟨#[]⟩ : ByteArray).toList)=false) (hp:presCheckL ⟨true,sh,prio,0⟩=0) (hs:seq < 1099511627776) :
  setL seq (A++(M++B)) u r sh prio=if M=[]∧(16≤(A++(M++B)).length∨3≤manyL (A++(M++B)) u) then (seq,A++(M++B),⟨false,0,0,0⟩,7) else (seq + 1,A++([⟨u,r,⟨true,sh,prio,seq + 1⟩⟩]++B),⟨true,sh,prio,seq + 1⟩,0):=by
 unfold setL
 have hkr:keyR ⟨u,r,⟨true,sh,prio,0⟩⟩=keyL u r:=rfl
 simp only [hkr]
 rw [if_neg (by simpa using hg),if_neg (by rw [hk];simp),if_neg (by simpa using hp),cut_pos hc]
 rcases M with _ | ⟨x,M⟩
 ·rw [cut_no hc]
  by_cases h:16≤(A++([]++B)).length∨3≤manyL (A++([]++B)) u
  ·rw [if_pos ⟨rfl,h⟩,if_pos ⟨rfl,h⟩]
  ·have h1:¬ (false=false∧(16≤(A++([]++B)).length∨3≤manyL (A++([]++B)) u)):=fun g=>h g.2
   have h2:¬ (([]:List BookRow)=[]∧(16≤(A++([]++B)).length∨3≤manyL (A++([]++B)) u)):=fun g=>h g.2
   rw [if_neg h1,if_neg h2,if_neg (show ¬ 1099511627776≤seq by omega),if_neg (show ¬ false=true by simp)]
   rw [List.take_left,List.drop_left];rfl
 ·have:M=[]:=by cases M with | nil=>rfl | cons _ _=>simp at hM
  subst this
  have h1:¬ (true=false∧(16≤(A++([x]++B)).length∨3≤manyL (A++([x]++B)) u)):=by rintro ⟨g,_⟩;cases g
  have h2:¬ ([x]=[]∧(16≤(A++([x]++B)).length∨3≤manyL (A++([x]++B)) u)):=by rintro ⟨g,_⟩;cases g
  rw [cut_yes hc,if_neg h1,if_neg h2,if_neg (show ¬ 1099511627776≤seq by omega),if_pos (show true=true from rfl)]
  rw [List.take_left,← List.drop_drop,List.drop_left];rfl
theorem off_cut {seq:Int} {A B:List BookRow} {M:List BookRow} {u r:ByteArray} (hg:bookCheck seq (A++(M++B))=0) (hM:M.length≤1) (hc:Cut3 (keyL u r) A M B) (hk:((keyL u r).toList == (⟨#[]⟩ : ByteArray).toList)=false) (hs:seq < 1099511627776) :
  offL seq (A++(M++B)) u r=if M=[] then (seq,A++(M++B),⟨false,0,0,0⟩,6) else (seq + 1,A++([]++B),⟨false,0,0,seq + 1⟩,0):=by
 unfold offL
 simp only
 rw [if_neg (by simpa using hg),cut_pos hc]
 rcases M with _ | ⟨x,M⟩
 ·rw [cut_no hc,if_pos (.inl rfl),if_pos rfl]
 ·have:M=[]:=by cases M with | nil=>rfl | cons _ _=>simp at hM
  subst this
  have h1:¬ (true=false∨((keyL u r).toList == (⟨#[]⟩ : ByteArray).toList)=true):=by
   rw [hk];rintro (g | g) <;> cases g
  rw [cut_yes hc,if_neg h1,if_neg (show ¬ 1099511627776≤seq by omega),if_neg (show ¬ [x]=[] by simp)]
  rw [List.take_left,← List.drop_drop,List.drop_left];rfl
def headP:List BookRow→PresPres × Bool
 | []=>(⟨false,0,0,0⟩,false)
 | x :: _=>(x.P,true)
theorem get_cut {seq:Int} {A B:List BookRow} {M:List BookRow} {u r:ByteArray} (hg:bookCheck seq (A++(M++B))=0) (hc:Cut3 (keyL u r) A M B) (hk:((keyL u r).toList == (⟨#[]⟩ : ByteArray).toList)=false) :
  getL seq (A++(M++B)) u r=headP M:=by
 unfold getL
 simp only
 rw [if_neg (by rw [hk];simp),if_neg (by simpa using hg),cut_pos hc]
 rcases M with _ | ⟨x,M⟩
 ·rw [cut_no hc,if_pos rfl];rfl
 ·have hf:foundB (A++(x :: M++B)) (keyL u r) A.length=true:=by
   unfold foundB
   have:(A++(x :: M++B))[A.length]?=some x:=by rw [List.getElem?_append_right (Nat.le_refl _),Nat.sub_self];rfl
   rw [this];simp [hc.m x (by simp)]
  have hx:(A++(x :: M++B)).getD A.length default=x:=by
   rw [List.getD_eq_getElem?_getD,List.getElem?_append_right (Nat.le_refl _),Nat.sub_self];rfl
  rw [hf,if_neg (by simp),hx];rfl
end Go.Proofs.YthnihifblmnkdaaGreat

namespace Go.Proofs.YthnihifblmnkdaaGreat
open Go.RowKit
structure Fam where
 n:Nat
 u:Nat→ByteArray
 r:Nat→ByteArray
 ok:∀ m,m < n→((keyL (u m) (r m)).toList == (⟨#[]⟩ : ByteArray).toList)=false∧(u m).size≤100∧(r m).size≤100
 mono:∀ i j,i < j→j < n→Lib.compareBytes (keyL (u i) (r i)).data.toList (keyL (u j) (r j)).data.toList < 0
def Fam.key (F:Fam) (m:Nat):ByteArray:=keyL (F.u m) (F.r m)
def preT (has:List PresPres) (m:Nat):PresPres:=has.getD m ⟨false,0,0,0⟩
def onF (has:List PresPres) (m:Nat):Bool:=(preT has m).On
def rowT (F:Fam) (has:List PresPres) (m:Nat):BookRow:=⟨F.u m,F.r m,preT has m⟩
def tabA (F:Fam) (has:List PresPres) (l:List Nat):List BookRow:=(l.filter (onF has)).map (rowT F has)
def tabR (F:Fam) (has:List PresPres):List BookRow:=tabA F has (List.range F.n)
theorem tabA_app (F:Fam) (has:List PresPres) (a b:List Nat):tabA F has (a++b)=tabA F has a++tabA F has b:=by
 unfold tabA;rw [List.filter_append,List.map_append]
theorem range_cut {n k:Nat} (h:k < n):List.range n=List.range k++([k]++(List.range (n - k - 1)).map (k + 1 + ·)):=by
 have:n=k + (1 + (n - k - 1)):=by omega
 rw [this,List.range_add,List.range_add]
 congr 1
 rw [List.map_append]
 simp
 intro a _;omega
theorem tab_split (F:Fam) (has:List PresPres) {k:Nat} (h:k < F.n):tabR F has=tabA F has (List.range k)++(tabA F has [k]++tabA F has ((List.range (F.n - k - 1)).map (k + 1 + ·))):=by
 unfold tabR;rw [range_cut h,tabA_app,tabA_app]
theorem preT_set {has:List PresPres} {k:Nat} (p:PresPres) (hk:k < has.length):preT (has.set k p) k=p:=by
 unfold preT;rw [List.getD_eq_getElem?_getD,List.getElem?_set_self hk];rfl
theorem preT_ne {has:List PresPres} {k m:Nat} (p:PresPres) (h:m≠k):preT (has.set k p) m=preT has m:=by
 unfold preT;rw [List.getD_eq_getElem?_getD,List.getD_eq_getElem?_getD,List.getElem?_set_ne (by omega)]
theorem tabA_ne (F:Fam) (has:List PresPres) {k:Nat} (p:PresPres) (l:List Nat) (h:∀ m ∈ l,m≠k):tabA F (has.set k p) l=tabA F has l:=by
 unfold tabA
 have e:l.filter (onF (has.set k p))=l.filter (onF has):=List.filter_congr fun m hm=>by unfold onF;rw [preT_ne p (h m hm)]
 rw [e]
 refine List.map_congr_left fun m hm=>?_
 unfold rowT
 rw [preT_ne p (h m (List.mem_filter.1 hm).1)]
theorem tabA_one (F:Fam) (has:List PresPres) (k:Nat):tabA F has [k]=if onF has k=true then [rowT F has k] else []:=by
 unfold tabA
 by_cases h:onF has k=true
 ·rw [if_pos h,List.filter_cons_of_pos h];rfl
 ·rw [if_neg h,List.filter_cons_of_neg h];rfl
theorem mem_tabA {F:Fam} {has:List PresPres} {l:List Nat} {x:BookRow} (h:x ∈ tabA F has l):∃ m ∈ l,onF has m=true∧x=rowT F has m:=by
 unfold tabA at h
 obtain ⟨m,hm,rfl⟩:=List.mem_map.1 h
 exact ⟨m,(List.mem_filter.1 hm).1,(List.mem_filter.1 hm).2,rfl⟩
theorem mem_tabR {F:Fam} {has:List PresPres} {x:BookRow} (h:x ∈ tabR F has):∃ m,m < F.n∧onF has m=true∧x=rowT F has m:=by
 obtain ⟨m,hm,h1,h2⟩:=mem_tabA h
 exact ⟨m,List.mem_range.1 hm,h1,h2⟩
theorem tab_cut3 (F:Fam) (has:List PresPres) {k:Nat} (h:k < F.n):Cut3 (F.key k) (tabA F has (List.range k)) (tabA F has [k]) (tabA F has ((List.range (F.n - k - 1)).map (k + 1 + ·))):=by
 refine ⟨fun x hx=>?_,fun x hx=>?_,fun x hx=>?_⟩
 ·obtain ⟨m,hm,_,rfl⟩:=mem_tabA hx
  exact F.mono m k (List.mem_range.1 hm) h
 ·obtain ⟨m,hm,_,rfl⟩:=mem_tabA hx
  rw [List.mem_singleton] at hm
  subst hm
  exact cmp_refl _
 ·obtain ⟨m,hm,_,rfl⟩:=mem_tabA hx
  obtain ⟨j,hj,rfl⟩:=List.mem_map.1 hm
  have hj:=List.mem_range.1 hj
  have:=F.mono k (k + 1 + j) (by omega) (by omega)
  have h2:=cmp_anti (F.key k).data.toList (F.key (k + 1 + j)).data.toList
  show 0 < Lib.compareBytes (F.key (k + 1 + j)).data.toList (F.key k).data.toList
  have h3:Lib.compareBytes (F.key k).data.toList (F.key (k + 1 + j)).data.toList < 0:=this
  omega
theorem tab_put_eq (F:Fam) (has:List PresPres) {k:Nat} (p:PresPres) (h:k < F.n) (hl:has.length=F.n):tabR F (has.set k p)=tabA F has (List.range k)++((if p.On=true then [⟨F.u k,F.r k,p⟩] else [])++tabA F has ((List.range (F.n - k - 1)).map (k + 1 + ·))):=by
 have e:preT (has.set k p) k=p:=preT_set p (by omega)
 rw [tab_split F _ h,tabA_ne F has p (List.range k) (fun m hm=>by have:=List.mem_range.1 hm;omega),tabA_ne F has p ((List.range (F.n - k - 1)).map (k + 1 + ·)) (fun m hm=>by obtain ⟨j,_,rfl⟩:=List.mem_map.1 hm;omega),tabA_one]
 unfold onF rowT
 rw [e]
structure TabOK (F:Fam) (seq:Int) (has:List PresPres):Prop where
 len:has.length=F.n
 seq0:0≤seq
 pres:∀ m,m < F.n→onF has m=true→presCheckL (preT has m)=0
 rng:∀ m,m < F.n→onF has m=true→1≤(preT has m).Seq∧(preT has m).Seq≤seq
 diff:∀ i j,i < j→j < F.n→onF has i=true→onF has j=true→(preT has i).Seq≠(preT has j).Seq
 cnt:(tabR F has).length≤16
 many:∀ m,m < F.n→onF has m=true→manyL (tabR F has) (F.u m)≤3
theorem range_pw (n:Nat):(List.range n).Pairwise (fun a b=>a < b∧b < n):=by
 rw [List.pairwise_iff_getElem]
 intro i j hi hj h
 simp at hi hj ⊢
 omega
theorem tab_good {F:Fam} {seq:Int} {has:List PresPres} (h:TabOK F seq has) (hs:seq≤1099511627776):Good seq (tabR F has) where
 len:=h.cnt
 seq0:=h.seq0
 seqM:=hs
 key r hr:=by
  obtain ⟨m,hm,_,rfl⟩:=mem_tabR hr
  exact (F.ok m hm).1
 pres r hr:=by
  obtain ⟨m,hm,ho,rfl⟩:=mem_tabR hr
  exact ⟨h.pres m hm ho,ho⟩
 rng r hr:=by
  obtain ⟨m,hm,ho,rfl⟩:=mem_tabR hr
  exact h.rng m hm ho
 ord:=by
  unfold tabR tabA
  rw [List.pairwise_map]
  exact ((range_pw F.n).filter _).imp fun {a b} hab=>F.mono a b hab.1 hab.2
 diff:=by
  unfold tabR tabA
  rw [List.pairwise_map]
  refine ((range_pw F.n).filter _).imp_of_mem fun {a b} ha hb hab=>h.diff a b hab.1 hab.2 (List.mem_filter.1 ha).2 (List.mem_filter.1 hb).2
 many r hr:=by
  obtain ⟨m,hm,ho,rfl⟩:=mem_tabR hr
  exact h.many m hm ho
theorem many_app (a b:List BookRow) (v:ByteArray):manyL (a++b) v=manyL a v + manyL b v:=by unfold manyL;rw [List.countP_append]
theorem many_one (x:BookRow) (v:ByteArray):manyL [x] v=if (x.User.toList == v.toList)=true then 1 else 0:=by
 unfold manyL;rw [List.countP_cons,List.countP_nil];simp
theorem tab_ok_put {F:Fam} {seq:Int} {has:List PresPres} {k:Nat} {p:PresPres} (h:TabOK F seq has) (hk:k < F.n) (hp:p.On=true→presCheckL p=0∧p.Seq=seq + 1)
  (hroom:p.On=true→onF has k=false→(tabR F has).length < 16∧manyL (tabR F has) (F.u k) < 3):TabOK F (seq + 1) (has.set k p):=by
 have hlk:k < has.length:=by rw [h.len];exact hk
 have hk':=preT_set p hlk
 have hon:∀ m,m≠k→onF (has.set k p) m=onF has m:=fun m hm=>by unfold onF;rw [preT_ne p hm]
 have honk:onF (has.set k p) k=p.On:=by unfold onF;rw [hk']
 have hput:=tab_put_eq F has p hk h.len
 have hold:=tab_split F has hk
 rw [tabA_one] at hold
 have hcnt:=h.cnt
 have h0:=h.seq0
 refine ⟨by rw [List.length_set];exact h.len,by omega,fun m hm ho=>?_,fun m hm ho=>?_,fun i j hij hj hi ho=>?_,?_,fun m hm ho=>?_⟩
 ·by_cases e:m=k
  ·subst e;rw [honk] at ho;rw [hk'];exact (hp ho).1
  ·rw [hon m e] at ho;rw [preT_ne p e];exact h.pres m hm ho
 ·by_cases e:m=k
  ·subst e;rw [honk] at ho;rw [hk'];have:=(hp ho).2;omega
  ·rw [hon m e] at ho;rw [preT_ne p e];have:=h.rng m hm ho;omega
 ·by_cases e:i=k
  ·subst e
   rw [honk] at hi;rw [hk',preT_ne p (by omega)]
   rw [hon j (by omega)] at ho
   have:=h.rng j hj ho
   have:=(hp hi).2;omega
  ·rw [hon i e] at hi;rw [preT_ne p e]
   by_cases e2:j=k
   ·subst e2
    rw [honk] at ho;rw [hk']
    have:=h.rng i (by omega) hi
    have:=(hp ho).2;omega
   ·rw [hon j e2] at ho;rw [preT_ne p e2]
    exact h.diff i j hij hj hi ho
 ·rw [hput]
  rw [hold] at hcnt hroom
  cases ho:p.On with
  | false=>rw [if_neg (by simp)];simp at hcnt ⊢;omega
  | true =>
   rw [if_pos rfl]
   cases ho2:onF has k with
   | true=>rw [ho2,if_pos rfl] at hcnt;simp at hcnt ⊢;omega
   | false=>have:=(hroom ho ho2).1;rw [ho2,if_neg (by simp)] at this;simp at this ⊢;omega
 ·have hm0:m≠k→onF has m=true:=fun e=>by rw [hon m e] at ho;exact ho
  rw [hput,many_app,many_app]
  have hmany:=h.many m hm
  rw [hold,many_app,many_app] at hmany hroom
  cases hp2:p.On with
  | false =>
   rw [if_neg (by simp)]
   have e:m≠k:=fun e=>by subst e;rw [honk,hp2] at ho;cases ho
   have:=hmany (hm0 e)
   have:manyL [] (F.u m)=0:=rfl
   omega
  | true =>
   rw [if_pos rfl,many_one]
   cases ho2:onF has k with
   | true =>
    rw [ho2,if_pos rfl,many_one] at hmany
    have hmo:onF has m=true:=by
     by_cases e:m=k
     ·rw [e];exact ho2
     ·exact hm0 e
    exact hmany hmo
   | false =>
    have hr:=(hroom hp2 ho2).2
    rw [ho2,if_neg (by simp)] at hmany hr
    by_cases e:m=k
    ·subst e
     have:manyL [] (F.u m)=0:=rfl
     split <;> omega
    ·have h1:=hmany (hm0 e)
     have:∀ v,manyL [] v=0:=fun v=>rfl
     by_cases e2:((F.u k).toList == (F.u m).toList)=true
     ·have e3:F.u k=F.u m:=by
       have:=eq_of_beq e2
       rw [ByteArray.toList_eq,ByteArray.toList_eq] at this
       exact bl_inj this
      rw [if_pos e2]
      rw [← e3]
      have:=this (F.u k)
      omega
     ·rw [if_neg e2]
      have:=this (F.u m)
      omega
end Go.Proofs.YthnihifblmnkdaaGreat

namespace Go.Proofs.YthnihifblmnkdaaGreat
open Go.RowKit
theorem tab_check {F:Fam} {seq:Int} {has:List PresPres} (h:TabOK F seq has) (hs:seq < 1000):bookCheck seq (tabR F has)=0:=good_check (tab_good h (by omega))
theorem tabA1_len (F:Fam) (has:List PresPres) (k:Nat):(tabA F has [k]).length≤1:=by rw [tabA_one];split <;> simp
theorem tabA1_nil (F:Fam) (has:List PresPres) (k:Nat):tabA F has [k]=[] ↔ onF has k=false:=by
 rw [tabA_one];split <;> simp [*]
theorem tab_set {F:Fam} {seq:Int} {has:List PresPres} {k:Nat} {sh prio:Int} (h:TabOK F seq has) (hs:seq < 1000) (hk:k < F.n) (hp:presCheckL ⟨true,sh,prio,0⟩=0) :
  setL seq (tabR F has) (F.u k) (F.r k) sh prio=if onF has k=false∧(16≤(tabR F has).length∨3≤manyL (tabR F has) (F.u k)) then (seq,tabR F has,⟨false,0,0,0⟩,7) else (seq + 1,tabR F (has.set k ⟨true,sh,prio,seq + 1⟩),⟨true,sh,prio,seq + 1⟩,0):=by
 have hg:=tab_check h hs
 have hput:=tab_put_eq F has ⟨true,sh,prio,seq + 1⟩ hk h.len
 rw [if_pos rfl] at hput
 rw [hput]
 have hc:=tab_cut3 F has hk
 have hsp:=tab_split F has hk
 have:=set_cut (seq:=seq) (sh:=sh) (prio:=prio) (by rw [← hsp];exact hg) (tabA1_len F has k) hc (F.ok k hk).1 hp (by omega)
 rw [← hsp] at this
 rw [this]
 simp only [tabA1_nil]
theorem tab_off {F:Fam} {seq:Int} {has:List PresPres} {k:Nat} (h:TabOK F seq has) (hs:seq < 1000) (hk:k < F.n) :
  offL seq (tabR F has) (F.u k) (F.r k)=if onF has k=false then (seq,tabR F has,⟨false,0,0,0⟩,6) else (seq + 1,tabR F (has.set k ⟨false,0,0,seq + 1⟩),⟨false,0,0,seq + 1⟩,0):=by
 have hg:=tab_check h hs
 have hput:=tab_put_eq F has ⟨false,0,0,seq + 1⟩ hk h.len
 rw [if_neg (by simp)] at hput
 rw [hput]
 have hc:=tab_cut3 F has hk
 have hsp:=tab_split F has hk
 have:=off_cut (seq:=seq) (by rw [← hsp];exact hg) (tabA1_len F has k) hc (F.ok k hk).1 (by omega)
 rw [← hsp] at this
 rw [this]
 simp only [tabA1_nil]
theorem tab_get {F:Fam} {seq:Int} {has:List PresPres} {k:Nat} (h:TabOK F seq has) (hs:seq < 1000) (hk:k < F.n) :
  getL seq (tabR F has) (F.u k) (F.r k)=if onF has k=true then (preT has k,true) else (⟨false,0,0,0⟩,false):=by
 have hg:=tab_check h hs
 have hc:=tab_cut3 F has hk
 have hsp:=tab_split F has hk
 have:=get_cut (seq:=seq) (by rw [← hsp];exact hg) hc (F.ok k hk).1
 rw [← hsp] at this
 rw [this,tabA_one]
 by_cases ho:onF has k=true
 ·rw [if_pos ho,if_pos ho];rfl
 ·rw [if_neg ho,if_neg ho];rfl
theorem tab_small (F:Fam) (has:List PresPres):smallB (tabR F has):=fun r hr=>by
 obtain ⟨m,hm,_,rfl⟩:=mem_tabR hr
 have:=(F.ok m hm).2
 exact ⟨by show (F.u m).size≤100000;omega,by show (F.r m).size≤100000;omega⟩
def u20 (w:Nat):ByteArray:=⟨#[UInt8.ofNat (97 + w)]⟩++⟨#[64,120]⟩
end Go.Proofs.YthnihifblmnkdaaGreat

namespace Go.Proofs.YthnihifblmnkdaaGreat
open Go.RowKit
theorem named_p {u r:ByteArray} (hu:u.size≤100000) (hr:r.size≤100000):p_pres_named u r=some (namedL u r):=by
 unfold p_pres_named p_addr_Resource p_addr_IsBare namedL
 rw [if_pos hr,if_pos hu]
 by_cases h:resL r.data.toList=0
 ·simp [h]
 ·have e:(resL r.data.toList == 0)=false:=by simpa using h
  simp [h,e]
theorem key_p {u r:ByteArray} (hu:u.size≤100000) (hr:r.size≤100000):p_pres_Key u r=some (keyL u r):=by
 unfold p_pres_Key cat? keyL
 rw [named_p hu hr]
 obtain ⟨h1,h2⟩:=cat_sz u r hu hr
 cases namedL u r
 ·rfl
 ·simp only [Option.bind_some,cond_true,if_pos h1,if_pos h2,if_true]
theorem keyR_p {x:BookRow} (h:smallR x):p_book_Row_key x=some (keyR x):=by
 unfold p_book_Row_key;rw [key_p h.1 h.2];rfl
theorem check1_p {x:BookRow} (h:smallR x):p_book_Check_1 x=some ((keyR x).toList == (⟨#[]⟩ : ByteArray).toList):=by
 unfold p_book_Check_1;rw [keyR_p h];rfl
theorem index_l (f:BookRow→Option Bool) (p:BookRow→Bool) (rows:List BookRow) (hn:rows.length≤1000) (hf:∀ x ∈ rows,f x=some (p x)):∀ (n k F:Nat),k + n=rows.length→n < F →
  p_slices_IndexFunc_book_Row_l1 f rows rows.length F k=some (if (rows.drop k).any p=true then .inl ((k + (rows.drop k).findIdx p:Nat):Int) else .inr (rows.length:Int))
 | 0,k,F + 1,hk,hF=>by
  have e:rows.drop k=[]:=List.drop_of_length_le (by omega)
  have:k=rows.length:=by omega
  rw [p_slices_IndexFunc_book_Row_l1,lt_ff (by omega),e,this];rfl
 | n + 1,k,F + 1,hk,hF=>by
  have hlt:k < rows.length:=by omega
  rw [p_slices_IndexFunc_book_Row_l1,lt_tt hlt,at_lt hlt,drop_at hlt]
  simp only [cond_true,Option.bind_some,hf _ (List.getElem_mem hlt)]
  cases hp:p rows[k] with
  | true=>rw [List.any_cons,hp,List.findIdx_cons,hp];rfl
  | false =>
   simp only [cond_false]
   rw [w64_succ (by omega),index_l f p rows hn hf n (k + 1) F (by omega) (by omega)]
   simp only [List.any_cons,hp,Bool.false_or,List.findIdx_cons,cond_false]
   split
   ·congr 3;omega
   ·rfl
theorem index_p {f:BookRow→Option Bool} (p:BookRow→Bool) {rows:List BookRow} (hn:rows.length≤1000) (hf:∀ x ∈ rows,f x=some (p x)):p_slices_IndexFunc_book_Row rows f=some (idxL p rows):=by
 unfold p_slices_IndexFunc_book_Row
 have:=index_l f p rows hn hf rows.length 0 fuel (by omega) (by have:=fuel_pos;omega)
 rw [show ((0:Int))=((0:Nat):Int) from rfl,this]
 unfold idxL
 rw [List.drop_zero]
 split <;> simp
theorem contains_p {f:BookRow→Option Bool} (p:BookRow→Bool) {rows:List BookRow} (hn:rows.length≤1000) (hf:∀ x ∈ rows,f x=some (p x)):p_slices_ContainsFunc_book_Row rows f=some (rows.any p):=by
 unfold p_slices_ContainsFunc_book_Row
 rw [index_p p hn hf]
 unfold idxL
 cases rows.any p <;> simp
theorem in_p (n a b:Int):p_pres_in n a b=some (decide (a≤n) && decide (n≤b)):=by
 unfold p_pres_in
 cases decide (a≤n) <;> rfl
theorem presCheck_p (x:PresPres):p_pres_Check x=some (presCheckL x):=by
 unfold p_pres_Check presCheckL
 simp only [in_p,Option.bind_some]
 cases h1:(decide (0≤x.Show) && decide (x.Show≤4)) with
 | false =>
  have:x.Show < 0∨4 < x.Show:=by simp at h1;omega
  rw [if_pos (by omega)];rfl
 | true =>
  cases h2:(decide (-128≤x.Prio) && decide (x.Prio≤127)) with
  | false =>
   have:x.Prio < -128∨127 < x.Prio:=by simp at h2;omega
   rw [if_pos (by omega)];rfl
  | true =>
   cases h3:(decide (0≤x.Seq) && decide (x.Seq≤1099511627776)) with
   | false =>
    have:x.Seq < 0∨1099511627776 < x.Seq:=by simp at h3;omega
    rw [if_pos (by omega)];rfl
   | true =>
    simp at h1 h2 h3
    rw [if_neg (by omega)]
    cases ho:x.On with
    | true=>simp
    | false =>
     by_cases hs:x.Show=0 <;> by_cases hq:x.Prio=0
     ·simp [hs,hq]
     ·have e:(x.Prio == 0)=false:=by simpa using hq
      simp [hs,hq,e]
     ·have e:(x.Show == 0)=false:=by simpa using hs
      simp [hs,hq,e]
     ·have e:(x.Show == 0)=false:=by simpa using hs
      simp [hs,hq,e]
theorem errors_l (rows:List BookRow) (hn:rows.length≤1000):∀ (n k F:Nat),k + n=rows.length→n < F →
  p_book_State_errors_l1 rows rows.length F k=some (if errL (rows.drop k)≠0 then .inl (errL (rows.drop k)) else .inr (rows.length:Int))
 | 0,k,F + 1,hk,hF=>by
  have e:rows.drop k=[]:=List.drop_of_length_le (by omega)
  have:k=rows.length:=by omega
  rw [p_book_State_errors_l1,lt_ff (by omega),e,this];rfl
 | n + 1,k,F + 1,hk,hF=>by
  have hlt:k < rows.length:=by omega
  rw [p_book_State_errors_l1,lt_tt hlt,at_lt hlt,err_at rows k hlt]
  simp only [cond_true,Option.bind_some,presCheck_p]
  by_cases h:presCheckL rows[k].P=0
  ·simp only [h,bne_self_eq_false,cond_false]
   cases ho:rows[k].P.On with
   | false=>simp
   | true =>
    simp only [cond_true]
    rw [w64_succ (by omega),errors_l rows hn n (k + 1) F (by omega) (by omega)]
    simp
  ·have:(presCheckL rows[k].P != 0)=true:=by simpa using h
   simp [this,h]
theorem errors_p (st:BookState) (hn:st.Rows.length≤1000):p_book_State_errors st=some (errL st.Rows):=by
 unfold p_book_State_errors
 have:=errors_l st.Rows hn st.Rows.length 0 fuel (by omega) (by have:=fuel_pos;omega)
 rw [show ((0:Int))=((0:Nat):Int) from rfl,this]
 rw [List.drop_zero]
 by_cases h:errL st.Rows=0 <;> simp [h]
theorem ord1_p (x:BookRow):∀ o:BookRow,p_book_State_ordered_1 o x=some (o.P.Seq == x.P.Seq):=fun _=>rfl
theorem ordered_l (st:BookState) (hn:st.Rows.length≤1000) (hs:smallB st.Rows):∀ (n k F:Nat),k + n=st.Rows.length→n < F →
  p_book_State_ordered_l1 st.Rows st.Rows.length st F k=some (if ((List.range st.Rows.length).drop k).all (okAt st.Seq st.Rows)=true then .inr (st.Rows.length:Int) else .inl false)
 | 0,k,F + 1,hk,hF=>by
  have e:(List.range st.Rows.length).drop k=[]:=List.drop_of_length_le (by simp;omega)
  have:k=st.Rows.length:=by omega
  rw [p_book_State_ordered_l1,lt_ff (by omega),e,this];rfl
 | n + 1,k,F + 1,hk,hF=>by
  have hlt:k < st.Rows.length:=by omega
  have hd:(List.range st.Rows.length).drop k=k :: (List.range st.Rows.length).drop (k + 1):=by
   rw [drop_at (by simpa using hlt)];simp
  rw [p_book_State_ordered_l1,lt_tt hlt,at_lt hlt,hd,List.all_cons]
  simp only [cond_true,Option.bind_some]
  have hc:=contains_p (f:=fun x0=>p_book_State_ordered_1 x0 st.Rows[k]) (fun o=>o.P.Seq == st.Rows[k].P.Seq) (rows:=st.Rows.take k) (by rw [List.length_take];omega) (fun o _=>ord1_p _ o)
  have ih:=ordered_l st hn hs n (k + 1) F (by omega) (by omega)
  rw [w64_succ (by omega),ih,cutTo (by omega)]
  simp only [Option.bind_some,hc]
  cases k with
  | zero =>
   rw [okAt_0 hlt]
   by_cases h1:st.Rows[0].P.Seq < 1
   ·simp only [decide_eq_true h1,cond_true]
    rw [if_neg (by simp <;> omega)]
   ·by_cases h2:st.Seq < st.Rows[0].P.Seq
    ·simp only [decide_eq_false h1,cond_false,decide_eq_true h2,cond_true]
     rw [if_neg (by simp <;> omega)]
    ·simp only [decide_eq_false h1,cond_false,decide_eq_false h2,show decide ((0:Int) < ((0:Nat):Int))=false from rfl]
     rw [decide_eq_true (show (1:Int)≤st.Rows[0].P.Seq by omega),decide_eq_true (show st.Rows[0].P.Seq≤st.Seq by omega)]
     cases (List.take 0 st.Rows).any fun o=>o.P.Seq == st.Rows[0].P.Seq
     ·simp only [cond_false,Bool.not_false,Bool.and_true,Bool.true_and]
     ·simp
  | succ j =>
   rw [okAt_s j hlt]
   have hj:j < st.Rows.length:=by omega
   have e0:w64 (((j + 1:Nat):Int) - 1)=(j:Int):=by rw [w64_id (by omega)];omega
   rw [e0,at_lt hj]
   simp only [Option.bind_some,keyR_p (hs _ (List.getElem_mem hj)),keyR_p (hs _ (List.getElem_mem hlt))]
   by_cases h1:st.Rows[j + 1].P.Seq < 1
   ·simp only [decide_eq_true h1,cond_true]
    rw [if_neg (by simp <;> omega)]
   ·by_cases h2:st.Seq < st.Rows[j + 1].P.Seq
    ·simp only [decide_eq_false h1,cond_false,decide_eq_true h2,cond_true]
     rw [if_neg (by simp <;> omega)]
    ·have h3:decide ((0:Int) < ((j + 1:Nat):Int))=true:=decide_eq_true (by omega)
     simp only [decide_eq_false h1,cond_false,decide_eq_false h2,h3,cond_true]
     rw [decide_eq_true (show (1:Int)≤st.Rows[j + 1].P.Seq by omega),decide_eq_true (show st.Rows[j + 1].P.Seq≤st.Seq by omega)]
     have hl:lessR st.Rows[j] st.Rows[j + 1]=Op.bytesLess (keyR st.Rows[j]).toList (keyR st.Rows[j + 1]).toList:=rfl
     rw [hl]
     cases Op.bytesLess (keyR st.Rows[j]).toList (keyR st.Rows[j + 1]).toList
     ·simp
     ·cases (List.take (j + 1) st.Rows).any fun o=>o.P.Seq == st.Rows[j + 1].P.Seq
      ·simp only [cond_true,cond_false,Bool.not_false,Bool.and_true,Bool.true_and]
      ·simp
theorem ordered_p (st:BookState) (hn:st.Rows.length≤1000) (hs:smallB st.Rows):p_book_State_ordered st=some (ordL st.Seq st.Rows):=by
 unfold p_book_State_ordered
 have:=ordered_l st hn hs st.Rows.length 0 fuel (by omega) (by have:=fuel_pos;omega)
 rw [show ((0:Int))=((0:Nat):Int) from rfl,this]
 rw [List.drop_zero]
 unfold ordL
 cases (List.range st.Rows.length).all (okAt st.Seq st.Rows) <;> simp
theorem many_l (u:ByteArray) (rows:List BookRow) (hn:rows.length≤1000):∀ (n k F a:Nat),k + n=rows.length→n < F→a≤k →
  p_book_State_many_l1 u rows rows.length F a k=some (((a + manyL (rows.drop k) u:Nat):Int),(rows.length:Int))
 | 0,k,F + 1,a,hk,hF,ha=>by
  have e:rows.drop k=[]:=List.drop_of_length_le (by omega)
  have:k=rows.length:=by omega
  rw [p_book_State_many_l1,lt_ff (by omega),e,this];rfl
 | n + 1,k,F + 1,a,hk,hF,ha=>by
  have hlt:k < rows.length:=by omega
  rw [p_book_State_many_l1,lt_tt hlt,at_lt hlt,drop_at hlt]
  simp only [cond_true,Option.bind_some]
  rw [w64_succ (show k≤1000000 by omega),w64_succ (show a≤1000000 by omega)]
  have hm:manyL (rows[k] :: rows.drop (k + 1)) u=manyL (rows.drop (k + 1)) u + if (rows[k].User.toList == u.toList)=true then 1 else 0:=by
   unfold manyL;rw [List.countP_cons]
  rw [hm]
  cases h:rows[k].User.toList == u.toList with
  | true =>
   simp only [cond_true,if_true]
   rw [many_l u rows hn n (k + 1) F (a + 1) (by omega) (by omega) (by omega)]
   congr 3;omega
  | false =>
   simp only [cond_false]
   rw [many_l u rows hn n (k + 1) F a (by omega) (by omega) (by omega)]
   simp
theorem many_p (st:BookState) (u:ByteArray) (hn:st.Rows.length≤1000):p_book_State_many st u=some ((manyL st.Rows u:Nat):Int):=by
 unfold p_book_State_many
 have:=many_l u st.Rows hn st.Rows.length 0 fuel 0 (by omega) (by have:=fuel_pos;omega) (by omega)
 rw [show ((0:Int))=((0:Nat):Int) from rfl,this]
 simp
theorem check2_p (st:BookState) (hn:st.Rows.length≤1000) (x:BookRow):p_book_Check_2 x st=some (decide (3 < manyL st.Rows x.User)):=by
 unfold p_book_Check_2
 rw [many_p st x.User hn]
 simp only [Option.bind_some,Option.some.injEq,decide_eq_decide]
 omega
theorem check_p (st:BookState) (hn:st.Rows.length≤1000) (hs:smallB st.Rows):p_book_Check st=some (bookCheck st.Seq st.Rows):=by
 unfold p_book_Check bookCheck
 by_cases h0:16 < st.Rows.length
 ·rw [decide_eq_true (show (16:Int) < (st.Rows.length:Int) by omega),if_pos h0];rfl
 rw [decide_eq_false (show ¬ (16:Int) < (st.Rows.length:Int) by omega),if_neg h0]
 by_cases h1:st.Seq < 0
 ·rw [decide_eq_true h1,if_pos (.inl h1)];rfl
 rw [decide_eq_false h1]
 by_cases h2:1099511627776 < st.Seq
 ·rw [decide_eq_true h2,if_pos (.inr h2)];rfl
 rw [decide_eq_false h2,if_neg (by omega)]
 simp only [cond_false]
 rw [contains_p (fun r=>(keyR r).toList == (⟨#[]⟩ : ByteArray).toList) hn (fun x hx=>check1_p (hs x hx))]
 have he:emptyL st.Rows=st.Rows.any fun r=>(keyR r).toList == (⟨#[]⟩ : ByteArray).toList:=rfl
 rw [← he]
 cases emptyL st.Rows with
 | true=>rfl
 | false =>
  simp only [Option.bind_some,cond_false,errors_p st hn,ordered_p st hn hs]
  by_cases h3:errL st.Rows=0
  ·simp only [h3,bne_self_eq_false,cond_false]
   cases ordL st.Seq st.Rows with
   | false=>rfl
   | true =>
    simp only [cond_true]
    rw [contains_p (fun r=>decide (3 < manyL st.Rows r.User)) hn (fun x _=>check2_p st hn x)]
    have hf:fullL st.Rows=st.Rows.any fun r=>decide (3 < manyL st.Rows r.User):=rfl
    rw [← hf]
    cases fullL st.Rows <;> rfl
  ·have:(errL st.Rows != 0)=true:=by simpa using h3
   simp [this,h3]
end Go.Proofs.YthnihifblmnkdaaGreat

namespace Go.Proofs.YthnihifblmnkdaaGreat
open Go.RowKit
theorem find1_p {x:BookRow} (h:smallR x) (k:ByteArray):p_book_State_find_1 x k=some (cmpR x k):=by
 unfold p_book_State_find_1 p_strings_Compare
 rw [keyR_p h];rfl
theorem search_l {rows:List BookRow} {key:ByteArray} {pos:Nat} (hn:rows.length≤1000) (hs:smallB rows) (hp:StandsAt rows key pos):∀ (d i j F:Nat),i + d=j→j≤rows.length→i≤pos→pos≤j→d < F →
  p_slices_BinarySearchFunc_book_Row_l1 (fun x0 x1=>p_book_State_find_1 x0 x1) rows key F i j=some ((pos:Int),(pos:Int)):=by
 intro d
 induction d using Nat.strongRecOn with
 | ind d ih =>
  intro i j F hd hj h1 h2 hF
  obtain ⟨F,rfl⟩ : ∃ G,F=G + 1:=⟨F - 1,by omega⟩
  rw [p_slices_BinarySearchFunc_book_Row_l1]
  rcases Nat.lt_or_ge i j with hij | hij
  ·rw [lt_tt hij,half_p (by omega),w64_succ (show (i + j) / 2≤1000000 by omega)]
   have hm:(i + j) / 2 < rows.length:=by omega
   simp only [cond_true,at_lt hm,Option.bind_some,find1_p (hs _ (List.getElem_mem hm))]
   rcases Nat.lt_or_ge ((i + j) / 2) pos with hlt | hge
   ·rw [decide_eq_true (hp.lt _ hm hlt),cond_true]
    exact ih (j - ((i + j) / 2 + 1)) (by omega) _ _ F (by omega) hj (by omega) h2 (by omega)
   ·have:=hp.ge _ hm hge
    rw [decide_eq_false (by omega),cond_false]
    exact ih ((i + j) / 2 - i) (by omega) _ _ F (by omega) (by omega) h1 hge (by omega)
  ·rw [lt_ff hij]
   have:i=pos:=by omega
   have:j=pos:=by omega
   subst_vars
   simp
theorem find_p {st:BookState} {k:ByteArray} (hn:st.Rows.length≤1000) (hs:smallB st.Rows) (ho:sortedR st.Rows):p_book_State_find st k=some (((posL st.Rows k:Nat):Int),foundB st.Rows k (posL st.Rows k)):=by
 have hp:=stands ho k
 have hl:=search_l hn hs hp st.Rows.length 0 st.Rows.length fuel (by omega) (Nat.le_refl _) (Nat.zero_le _) hp.le (by have:=fuel_pos;omega)
 unfold p_book_State_find p_slices_BinarySearchFunc_book_Row
 rw [show ((0:Int))=((0:Nat):Int) from rfl,hl]
 simp only [Option.bind_some]
 unfold foundB
 rcases Nat.lt_or_ge (posL st.Rows k) st.Rows.length with h | h
 ·rw [lt_tt h,at_lt h,List.getElem?_eq_getElem h]
  simp only [cond_true,Option.bind_some,find1_p (hs _ (List.getElem_mem h))];rfl
 ·rw [lt_ff h,List.getElem?_eq_none h];rfl
def stL (t:Int × List BookRow × PresPres × Int):BookState × PresPres × Int:=(⟨t.1,t.2.1⟩,t.2.2.1,t.2.2.2)
theorem set_p {st:BookState} {u r:ByteArray} {sh prio:Int} (hn:st.Rows.length≤1000) (hs:smallB st.Rows) (hu:u.size≤100000) (hr:r.size≤100000):p_book_Set st u r sh prio=some (stL (setL st.Seq st.Rows u r sh prio)):=by
 unfold p_book_Set setL
 rw [check_p st hn hs]
 by_cases hc:bookCheck st.Seq st.Rows=0
 ·have ho:=ord_sorted (check_ord hc)
  have hsq:=check_seq hc
  have hl:=check_len hc
  simp only [hc,bne_self_eq_false,cond_false,Option.bind_some,ne_eq,not_true_eq_false,if_false]
  have hx:smallR (BookRow.mk u r ⟨true,sh,prio,0⟩):=⟨hu,hr⟩
  rw [keyR_p hx]
  simp only [Option.bind_some]
  generalize hk:keyR (BookRow.mk u r ⟨true,sh,prio,0⟩)=k
  cases hke:k.toList == (⟨#[]⟩ : ByteArray).toList with
  | true=>simp;rfl
  | false =>
   simp only [cond_false,Bool.false_eq_true,if_false,presCheck_p,Option.bind_some]
   by_cases hpc:presCheckL ⟨true,sh,prio,0⟩=0
   ·simp only [hpc,bne_self_eq_false,cond_false,not_true_eq_false,if_false]
    rw [find_p hn hs ho]
    simp only [Option.bind_some]
    have hle:posL st.Rows k≤st.Rows.length:=List.findIdx_le_length
    have hw:w64 (st.Seq + 1)=st.Seq + 1:=w64_id (by omega)
    cases hf:foundB st.Rows k (posL st.Rows k) with
    | true =>
     have hlt:=found_lt hf
     simp only [cond_true,Bool.true_eq_false,false_and,if_false,if_true,hw]
     by_cases h9:1099511627776≤st.Seq
     ·rw [decide_eq_true h9,if_pos h9];rfl
     ·rw [decide_eq_false h9,if_neg h9]
      simp only [cond_false]
      rw [w64_succ (by omega),cutFrom hle,cutFrom (by omega),cutTo hle]
      simp only [Option.bind_some]
      rw [app_ok (by simp;omega)]
      simp only [Option.bind_some]
      rw [app_ok (by simp;omega)]
      simp [stL]
    | false =>
     simp only [cond_false,true_and,Bool.false_eq_true,if_false,hw]
     by_cases h16:16≤st.Rows.length
     ·rw [decide_eq_true (show (16:Int)≤(st.Rows.length:Int) by omega),if_pos (.inl h16)];rfl
     ·rw [decide_eq_false (show ¬ (16:Int)≤(st.Rows.length:Int) by omega),many_p st u hn]
      simp only [cond_false,Option.bind_some]
      by_cases h3:3≤manyL st.Rows u
      ·rw [decide_eq_true (show (3:Int)≤((manyL st.Rows u:Nat):Int) by omega),if_pos (.inr h3)];rfl
      ·rw [decide_eq_false (show ¬ (3:Int)≤((manyL st.Rows u:Nat):Int) by omega),if_neg (by omega)]
       by_cases h9:1099511627776≤st.Seq
       ·rw [decide_eq_true h9,if_pos h9];rfl
       ·rw [decide_eq_false h9,if_neg h9]
        simp only [cond_false]
        rw [cutFrom hle,cutTo hle]
        simp only [Option.bind_some]
        rw [app_ok (by simp;omega)]
        simp only [Option.bind_some]
        rw [app_ok (by simp;omega)]
        simp [stL]
   ·have:(presCheckL ⟨true,sh,prio,0⟩ != 0)=true:=by simpa using hpc
    simp [this,hpc,stL]
 ·have:(bookCheck st.Seq st.Rows != 0)=true:=by simpa using hc
  simp [this,hc,stL]
theorem off_p {st:BookState} {u r:ByteArray} (hn:st.Rows.length≤1000) (hs:smallB st.Rows) (hu:u.size≤100000) (hr:r.size≤100000):p_book_Off st u r=some (stL (offL st.Seq st.Rows u r)):=by
 unfold p_book_Off offL
 rw [check_p st hn hs]
 by_cases hc:bookCheck st.Seq st.Rows=0
 ·have ho:=ord_sorted (check_ord hc)
  have hsq:=check_seq hc
  have hl:=check_len hc
  simp only [hc,bne_self_eq_false,cond_false,Option.bind_some,ne_eq,not_true_eq_false,if_false]
  rw [key_p hu hr]
  simp only [Option.bind_some]
  generalize hk:keyL u r=k
  rw [find_p hn hs ho]
  simp only [Option.bind_some]
  have hle:posL st.Rows k≤st.Rows.length:=List.findIdx_le_length
  have hw:w64 (st.Seq + 1)=st.Seq + 1:=w64_id (by omega)
  cases hf:foundB st.Rows k (posL st.Rows k) with
  | false=>simp [stL]
  | true =>
   have hlt:=found_lt hf
   simp only [cond_true,Bool.true_eq_false,false_or,hw]
   cases hke:k.toList == (⟨#[]⟩ : ByteArray).toList with
   | true=>simp [stL]
   | false =>
    simp only [cond_false,Bool.false_eq_true,if_false]
    by_cases h9:1099511627776≤st.Seq
    ·rw [decide_eq_true h9,if_pos h9];rfl
    ·rw [decide_eq_false h9,if_neg h9]
     simp only [cond_false]
     rw [w64_succ (by omega),cutFrom (by omega),cutTo hle]
     simp only [Option.bind_some]
     rw [app_ok (by simp;omega)]
     rfl
 ·have:(bookCheck st.Seq st.Rows != 0)=true:=by simpa using hc
  simp [this,hc,stL]
theorem get_p {st:BookState} {u r:ByteArray} (hn:st.Rows.length≤1000) (hs:smallB st.Rows) (hu:u.size≤100000) (hr:r.size≤100000):p_book_Get st u r=some (getL st.Seq st.Rows u r):=by
 unfold p_book_Get getL
 rw [key_p hu hr]
 simp only [Option.bind_some]
 generalize hk:keyL u r=k
 cases hke:k.toList == (⟨#[]⟩ : ByteArray).toList with
 | true=>simp
 | false =>
  simp only [cond_false,Bool.false_eq_true,if_false,check_p st hn hs,Option.bind_some]
  by_cases hc:bookCheck st.Seq st.Rows=0
  ·have ho:=ord_sorted (check_ord hc)
   simp only [hc,bne_self_eq_false,cond_false,ne_eq,not_true_eq_false,if_false]
   rw [find_p hn hs ho]
   simp only [Option.bind_some]
   cases hf:foundB st.Rows k (posL st.Rows k) with
   | false=>simp
   | true =>
    have hlt:=found_lt hf
    simp only [cond_true,Bool.true_eq_false,if_false]
    rw [at_lt hlt,List.getD_eq_getElem?_getD,List.getElem?_eq_getElem hlt];rfl
  ·have:(bookCheck st.Seq st.Rows != 0)=true:=by simpa using hc
   simp [this,hc]
theorem next_p {st:BookState} {k:ByteArray} (hn:st.Rows.length≤1000) (hs:smallB st.Rows):p_book_Next st k=some (nxtL st.Seq st.Rows k):=by
 unfold p_book_Next nxtL
 rw [check_p st hn hs]
 by_cases hc:bookCheck st.Seq st.Rows=0
 ·have ho:=ord_sorted (check_ord hc)
  simp only [hc,bne_self_eq_false,cond_false,Option.bind_some,ne_eq,not_true_eq_false,if_false]
  rw [find_p hn hs ho]
  have hle:posL st.Rows k≤st.Rows.length:=List.findIdx_le_length
  simp only [Option.bind_some]
  have go:∀ p:Nat,p≤st.Rows.length→(bif ((p:Int) == (st.Rows.length:Int)) then some ((BookRow.mk (⟨#[]⟩ : ByteArray) (⟨#[]⟩ : ByteArray) (PresPres.mk false (0:Int) (0:Int) (0:Int))),false) else (at? st.Rows (p:Int)).bind fun x6=>some (x6,true))=some (rowAt st.Rows p):=by
   intro p hp
   rcases Nat.lt_or_ge p st.Rows.length with h | h
   ·have e:((p:Int) == (st.Rows.length:Int))=false:=by simp;omega
    rw [e,at_lt h,rowAt_lt h];rfl
   ·have e:((p:Int) == (st.Rows.length:Int))=true:=by simp;omega
    rw [e,rowAt_ge h];rfl
  cases hf:foundB st.Rows k (posL st.Rows k) with
  | false =>
   simp only [cond_false,Bool.false_eq_true,if_false]
   exact go _ hle
  | true =>
   have hlt:=found_lt hf
   simp only [cond_true,if_true]
   rw [w64_succ (by omega)]
   exact go _ hlt
 ·have:(bookCheck st.Seq st.Rows != 0)=true:=by simpa using hc
  simp [this,hc]
end Go.Proofs.YthnihifblmnkdaaGreat

namespace Go.Proofs.YthnihifblmnkdaaGreat
open Go.RowKit
def frontB (s:ByteArray):ByteArray:=ba (s.data.toList.take (findL s.data.toList 32))
def backB (s:ByteArray):ByteArray:=ba (s.data.toList.drop (findL s.data.toList 32 + 1))
def splitE (s:ByteArray):ByteArray × ByteArray × Int :=
 if findL s.data.toList 32 < s.data.toList.length then
  if isBareL (frontB s).data.toList=true then
   if resL (backB s).data.toList=0 then (frontB s,backB s,0) else (⟨#[]⟩,⟨#[]⟩,resL (backB s).data.toList)
  else (⟨#[]⟩,⟨#[]⟩,11)
 else (⟨#[]⟩,⟨#[]⟩,4)
theorem ba_sz (l:List UInt8):(ba l).size=l.length:=by unfold ba;simp [ByteArray.size]
theorem front_sz (s:ByteArray):(frontB s).size≤s.size:=by
 unfold frontB;rw [ba_sz,List.length_take];simp;omega
theorem back_sz (s:ByteArray):(backB s).size≤s.size:=by
 unfold backB;rw [ba_sz,List.length_drop];simp
theorem split_p {s:ByteArray} (h:s.size≤100000):p_pres_Split s=some (splitE s):=by
 unfold p_pres_Split p_strings_Cut splitE
 have e:(⟨#[32]⟩ : ByteArray).data.toList=[32]:=rfl
 have h1:=front_sz s
 have h2:=back_sz s
 simp only [e,if_pos h,Option.bind_some]
 by_cases hf:findL s.data.toList 32 < s.data.toList.length
 ·rw [decide_eq_true hf,if_pos hf,cond_true]
  have f1:ba (List.take (findL s.data.toList 32) s.data.toList)=frontB s:=rfl
  have f2:ba (List.drop (findL s.data.toList 32 + 1) s.data.toList)=backB s:=rfl
  rw [f1,f2]
  unfold p_addr_IsBare p_addr_Resource
  rw [if_pos (show (frontB s).size≤100000 by omega),if_pos (show (backB s).size≤100000 by omega)]
  simp only [Option.bind_some]
  change (bif isBareL (frontB s).data.toList then _ else _)=_
  cases isBareL (frontB s).data.toList with
  | true =>
   simp only [cond_true,if_true]
   change (bif resL (backB s).data.toList != 0 then _ else _)=_
   by_cases hr:resL (backB s).data.toList=0
   ·rw [if_pos hr,hr];rfl
   ·have:(resL (backB s).data.toList != 0)=true:=by simpa using hr
    rw [if_neg hr,this];rfl
  | false=>rfl
 ·rw [decide_eq_false hf,if_neg hf];rfl
theorem rsplit_l (s:ByteArray) (hs:s.size≤100000):∀ (n k F:Nat),k + n=s.size→n < F→p_ref23_Split_l1 s F k=some ((k + findL (s.data.toList.drop k) 32:Nat):Int)
 | 0,k,F + 1,hk,hF=>by
  have e:s.data.toList.drop k=[]:=List.drop_of_length_le (by simp;have:s.data.size=s.size:=rfl;omega)
  rw [p_ref23_Split_l1,lt_ff (by omega),e];rfl
 | n + 1,k,F + 1,hk,hF=>by
  have hlt:k < s.size:=by omega
  have hd:s.data.toList.drop k=s[k] :: s.data.toList.drop (k + 1):=by
   rw [List.drop_eq_getElem_cons (by rw [bl_len];exact hlt),bl_get s k hlt]
  rw [p_ref23_Split_l1,lt_tt hlt,byte_at hlt,hd,findL_cons]
  simp only [cond_true,Option.bind_some]
  have hb:=byte_ne s[k] 32
  have e32:(((32:UInt8).toNat:Nat):Int)=32:=rfl
  rw [e32] at hb
  rw [hb]
  cases hc:(s[k] == 32) with
  | true=>simp
  | false =>
   simp only [Bool.not_false,cond_true]
   rw [w64_succ (by omega),rsplit_l s hs n (k + 1) F (by omega) (by omega)]
   simp
   omega
theorem rsplit_p {s:ByteArray} (h:s.size≤100000):p_ref23_Split s=some (splitE s):=by
 have h1:=front_sz s
 have h2:=back_sz s
 have hl:=rsplit_l s h s.size 0 fuel (by omega) (by have:=fuel_pos;omega)
 have z0:((0:Nat):Int)=0:=rfl
 rw [z0,List.drop_zero,Nat.zero_add] at hl
 unfold p_ref23_Split splitE
 rw [hl]
 simp only [Option.bind_some]
 have hle:=findL_le s.data.toList 32
 have hbl:s.data.toList.length=s.size:=bl_len s
 by_cases hf:findL s.data.toList 32 < s.data.toList.length
 ·have hne:((findL s.data.toList 32:Int) == (s.size:Int))=false:=by
   simp;omega
  rw [hne,if_pos hf,cond_false]
  have s1:sub? s none (some (findL s.data.toList 32:Int))=some (frontB s):=by
   unfold sub?
   simp only [Option.getD_none,Option.getD_some]
   rw [if_pos (by omega)]
   congr 1
   rw [show ((0:Int).toNat)=0 from rfl,Int.toNat_natCast,cut_take];rfl
  have s2:sub? s (some (w64 ((findL s.data.toList 32:Int) + 1))) none=some (backB s):=by
   rw [w64_succ (by omega)]
   unfold sub?
   simp only [Option.getD_none,Option.getD_some]
   rw [if_pos (by omega)]
   congr 1
   rw [Int.toNat_natCast,Int.toNat_natCast,cut_drop];rfl
  rw [s1,s2]
  simp only [Option.bind_some]
  unfold p_ref09_IsBare p_ref09_Resource
  rw [if_pos (show (frontB s).size≤100000 by omega),if_pos (show (backB s).size≤100000 by omega)]
  simp only [Option.bind_some]
  cases isBareL (frontB s).data.toList with
  | true =>
   simp only [cond_true,if_true]
   by_cases hr:resL (backB s).data.toList=0
   ·rw [if_pos hr,hr];rfl
   ·have:(resL (backB s).data.toList != 0)=true:=by simpa using hr
    rw [if_neg hr,this];rfl
  | false=>rfl
 ·have hne:((findL s.data.toList 32:Int) == (s.size:Int))=true:=by
   simp;omega
  rw [hne,if_neg hf];rfl
end Go.Proofs.YthnihifblmnkdaaGreat

namespace Go.Proofs.YthnihifblmnkdaaGreat
open Go.RowKit
theorem text1 (a b:Nat) (x:Int) (m:Int) (hx:x=(b:Int)) (hb:a + b≤255):text? [IntKind.wrap .u8 ((a:Int) + x)]=some ⟨#[UInt8.ofNat (a + b)]⟩:=by
 subst hx
 rw [u8_in (by omega)]
 unfold text?
 have h:([(a:Int) + (b:Int)].all fun b=>decide (0≤b) && decide (b≤255))=true:=by simp;omega
 have e:((a:Int) + (b:Int)).toNat=a + b:=by omega
 rw [if_pos h]
 simp only [List.map_cons,List.map_nil,e]
theorem tmod_nat {x:Int} (h:0≤x) (m:Nat):Int.tmod x (m:Int)=((x.toNat % m:Nat):Int):=by
 obtain ⟨n,rfl⟩:=Int.eq_ofNat_of_zero_le h
 simp [Int.tmod]
theorem presOn (sh prio s:Int) (h1:0≤sh∧sh≤4) (h2:-128≤prio∧prio≤127) (h3:0≤s∧s≤1099511627776):presCheckL ⟨true,sh,prio,s⟩=0:=by
 unfold presCheckL
 rw [if_neg (by simp;omega)];simp
theorem nxt_key {seq:Int} {rows:List BookRow} (hc:bookCheck seq rows=0) {i:Nat} (hi:i < rows.length):nxtL seq rows (keyR rows[i])=rowAt rows (i + 1):=by
 have hs:=ord_sorted (check_ord hc)
 have hp:posL rows (keyR rows[i])=i:=pos_of ⟨by omega,fun j hj hji=>hs j i hi hji,fun j hj hij=>by
  rcases Nat.lt_or_ge i j with h | h
  ·have h1:=hs i j hj h
   have h2:=cmp_anti (keyR rows[i]).data.toList (keyR rows[j]).data.toList
   have h1' : Lib.compareBytes (keyR rows[i]).data.toList (keyR rows[j]).data.toList < 0:=h1
   show 0≤Lib.compareBytes (keyR rows[j]).data.toList (keyR rows[i]).data.toList
   omega
  ·have:j=i:=by omega
   subst this
   show 0≤Lib.compareBytes _ _
   rw [cmp_refl];omega⟩
 have hf:foundB rows (keyR rows[i]) i=true:=by
  unfold foundB
  rw [List.getElem?_eq_getElem hi]
  show (Lib.compareBytes _ _ == 0)=true
  rw [cmp_refl];rfl
 unfold nxtL
 rw [if_neg (by simpa using hc),hp,hf,if_pos rfl]
theorem cmp_empty {a:List UInt8} (h:a≠[]):0 < Lib.compareBytes a []:=by
 cases a with
 | nil=>exact absurd rfl h
 | cons x xs=>simp [Lib.compareBytes]
theorem nxt_empty {seq:Int} {rows:List BookRow} (hc:bookCheck seq rows=0) (hk:∀ r ∈ rows,((keyR r).toList == (⟨#[]⟩ : ByteArray).toList)=false):nxtL seq rows ⟨#[]⟩=rowAt rows 0:=by
 have pos:∀ r ∈ rows,0 < cmpR r ⟨#[]⟩:=fun r hr=>cmp_empty (fun e=>by
  have:=hk r hr
  rw [ByteArray.toList_eq,ByteArray.toList_eq,e] at this
  simp at this)
 have hp:posL rows ⟨#[]⟩=0:=pos_of ⟨Nat.zero_le _,fun j hj hji=>by omega,fun j hj _=>Int.le_of_lt (pos _ (List.getElem_mem hj))⟩
 have hf:foundB rows ⟨#[]⟩ 0=false:=by
  unfold foundB
  cases rows with
  | nil=>rfl
  | cons r l =>
   have:=pos r (by simp)
   simp;omega
 unfold nxtL
 rw [if_neg (by simpa using hc),hp,hf,if_neg (by simp)]
end Go.Proofs.YthnihifblmnkdaaGreat

namespace Go.Proofs.YthnihifblmnkdaaGreat
open Go.RowKit
theorem idxS_l (l:List ByteArray) (s:ByteArray) (hn:l.length≤1000):∀ (n k F:Nat),k + n=l.length→n < F →
  p_slices_Index_string_l1 l s l.length F k=some (if (l.drop k).any (fun y=>s.toList == y.toList)=true then .inl ((k + (l.drop k).findIdx (fun y=>s.toList == y.toList):Nat):Int) else .inr (l.length:Int))
 | 0,k,F + 1,hk,hF=>by
  have e:l.drop k=[]:=List.drop_of_length_le (by omega)
  have:k=l.length:=by omega
  rw [p_slices_Index_string_l1,lt_ff (by omega),e,this];rfl
 | n + 1,k,F + 1,hk,hF=>by
  have hlt:k < l.length:=by omega
  rw [p_slices_Index_string_l1,lt_tt hlt,at_lt hlt,drop_at hlt]
  simp only [cond_true,Option.bind_some]
  cases hp:s.toList == l[k].toList with
  | true=>rw [List.any_cons,hp,List.findIdx_cons,hp];rfl
  | false =>
   simp only [cond_false]
   rw [w64_succ (by omega),idxS_l l s hn n (k + 1) F (by omega) (by omega)]
   simp only [List.any_cons,hp,Bool.false_or,List.findIdx_cons,cond_false]
   split
   ·congr 3;omega
   ·rfl
theorem containsS_p (l:List ByteArray) (s:ByteArray) (hn:l.length≤1000):p_slices_Contains_string l s=some (l.any fun y=>s.toList == y.toList):=by
 unfold p_slices_Contains_string p_slices_Index_string
 have:=idxS_l l s hn l.length 0 fuel (by omega) (by have:=fuel_pos;omega)
 rw [show ((0:Int))=((0:Nat):Int) from rfl,this,List.drop_zero]
 cases l.any (fun y=>s.toList == y.toList) <;> simp
def seesL (e:SnapEyes) (x:BookRow):Bool:=(e.Users.any fun y=>x.User.toList == y.toList) || (e.Keys.any fun y=>(keyR x).toList == y.toList)
def fewE (e:SnapEyes):Prop:=e.Users.length≤1000∧e.Keys.length≤1000
theorem sees_p {e:SnapEyes} {x:BookRow} (he:fewE e) (hx:smallR x):p_snap_Sees e x=some (seesL e x):=by
 unfold p_snap_Sees seesL
 rw [containsS_p _ _ he.1]
 simp only [Option.bind_some]
 cases e.Users.any (fun y=>x.User.toList == y.toList) with
 | true=>rfl
 | false =>
  rw [key_p hx.1 hx.2]
  simp only [cond_false,Option.bind_some]
  rw [containsS_p _ _ he.2]
  rfl
def itemS (x:BookRow):ItmS:=(keyR x,x)
theorem items_l {e:SnapEyes} {b:BookState} (he:fewE e) (hn:b.Rows.length≤1000) (hs:smallB b.Rows) (hc:bookCheck b.Seq b.Rows=0):∀ (n j F:Nat) (key:ByteArray),j + n=b.Rows.length→n < F→nxtL b.Seq b.Rows key=rowAt b.Rows j →
  rowsI p_book_Next p_pres_Key p_snap_Sees e b F key=some (((b.Rows.drop j).filter (seesL e)).map itemS)
 | 0,j,F + 1,key,hj,hF,hk=>by
  have e0:b.Rows.drop j=[]:=List.drop_of_length_le (by omega)
  rw [rowsI,next_p hn hs,hk,rowAt_ge (by omega),e0];rfl
 | n + 1,j,F + 1,key,hj,hF,hk=>by
  have hlt:j < b.Rows.length:=by omega
  have hx:=hs _ (List.getElem_mem hlt)
  rw [rowsI,next_p hn hs,hk,rowAt_lt hlt]
  simp only [Option.bind_some,cond_true]
  rw [key_p hx.1 hx.2]
  simp only [Option.bind_some]
  rw [sees_p he hx]
  simp only [Option.bind_some]
  have ih:=items_l he hn hs hc n (j + 1) F (keyL b.Rows[j].User b.Rows[j].Res) (by omega) (by omega) (nxt_key hc hlt)
  rw [ih]
  simp only [Option.bind_some]
  rw [drop_at hlt]
  cases h:seesL e b.Rows[j] with
  | true=>rw [List.filter_cons_of_pos h];rfl
  | false=>rw [List.filter_cons_of_neg (by simp [h])];rfl
theorem items_p {e:SnapEyes} {b:BookState} {key:ByteArray} {j:Nat} (he:fewE e) (hn:b.Rows.length≤1000) (hs:smallB b.Rows) (hc:bookCheck b.Seq b.Rows=0) (hj:j≤b.Rows.length) (hk:nxtL b.Seq b.Rows key=rowAt b.Rows j) :
  p_snap_items e b key=some (((b.Rows.drop j).filter (seesL e)).map itemS) :=
 items_l he hn hs hc (b.Rows.length - j) j fuel key (by omega) (by have:=fuel_pos;omega) hk
theorem items_bad {e:SnapEyes} {b:BookState} {key:ByteArray} (hn:b.Rows.length≤1000) (hs:smallB b.Rows) (hc:bookCheck b.Seq b.Rows≠0):p_snap_items e b key=some []:=by
 unfold p_snap_items
 obtain ⟨F,hF⟩ : ∃ F,fuel=F + 1:=⟨fuel - 1,by have:=fuel_pos;omega⟩
 rw [hF,rowsI,next_p hn hs]
 have:nxtL b.Seq b.Rows key=(⟨⟨#[]⟩,⟨#[]⟩,⟨false,0,0,0⟩⟩,false):=by unfold nxtL;rw [if_pos hc]
 rw [this];rfl
theorem keys_full {b:BookState} (hc:bookCheck b.Seq b.Rows=0):∀ r ∈ b.Rows,((keyR r).toList == (⟨#[]⟩ : ByteArray).toList)=false:=fun r hr=>by
 cases hk:((keyR r).toList == (⟨#[]⟩ : ByteArray).toList) with
 | false=>rfl
 | true =>
  have he:emptyL b.Rows=true:=by unfold emptyL;exact List.any_eq_true.2 ⟨r,hr,hk⟩
  have h:=hc
  unfold bookCheck at h
  rw [if_pos he] at h
  split at h
  ·omega
  ·split at h <;> omega
def viewL (e:SnapEyes) (b:BookState):List BookRow:=if bookCheck b.Seq b.Rows≠0 then [] else b.Rows.filter (seesL e)
theorem view_p {e:SnapEyes} {b:BookState} (he:fewE e) (hn:b.Rows.length≤1000) (hs:smallB b.Rows):p_snap_View e b=some (viewL e b):=by
 unfold p_snap_View viewL
 by_cases hc:bookCheck b.Seq b.Rows=0
 ·rw [items_p he hn hs hc (Nat.zero_le _) (nxt_empty hc (keys_full hc)),List.drop_zero,if_neg (by simpa using hc)]
  simp only [Option.bind_some,List.length_map]
  have hl:(b.Rows.filter (seesL e)).length≤1000000:=Nat.le_trans (List.length_filter_le _ _) (by omega)
  rw [decide_eq_true hl,cond_true,List.map_map]
  have:(fun x:ItmS=>x.2) ∘ itemS=id:=rfl
  rw [this,List.map_id]
 ·rw [items_bad hn hs hc,if_pos hc];rfl
theorem count_p {e:SnapEyes} {b:BookState} (he:fewE e) (hn:b.Rows.length≤1000) (hs:smallB b.Rows):p_snap_Count e b=some ((viewL e b).length:Int):=by
 unfold p_snap_Count
 rw [view_p he hn hs];rfl
end Go.Proofs.YthnihifblmnkdaaGreat


namespace Go.Proofs.YthnihifblmnkdaaGreat
open Go.RowKit
def stz0:StanzaStanza:=⟨0,⟨#[]⟩,⟨#[]⟩,⟨#[]⟩,0,0,0,0⟩
def sayL (u r:ByteArray) (p:PresPres):StanzaStanza :=
 if presCheckL p≠0 then stz0 else if namedL u r=true then (if p.On=true then ⟨34,u,r,⟨#[]⟩,p.Show,p.Prio,0,p.Seq⟩ else ⟨35,u,r,⟨#[]⟩,0,0,0,p.Seq⟩) else stz0
theorem say_p {u r:ByteArray} (p:PresPres) (hu:u.size≤100000) (hr:r.size≤100000):p_pres_Say u r p=some (sayL u r p):=by
 unfold p_pres_Say sayL
 rw [presCheck_p]
 simp only [Option.bind_some]
 by_cases h:presCheckL p=0
 ·rw [h,if_neg (by simp)]
  simp only [bne_self_eq_false,cond_false]
  rw [named_p hu hr]
  simp only [Option.bind_some]
  cases namedL u r with
  | true=>cases p.On <;> rfl
  | false=>rfl
 ·have h2:(presCheckL p != 0)=true:=by simpa using h
  rw [h2,if_pos h];rfl
def sayR (x:BookRow):StanzaStanza:=sayL x.User x.Res x.P
def snap0:SnapState:=⟨false,false,⟨#[]⟩,0⟩
def doneS:StanzaStanza:=⟨37,⟨#[]⟩,⟨#[]⟩,⟨#[]⟩,0,0,0,0⟩
def snapS (n:Int):StanzaStanza:=⟨36,⟨#[]⟩,⟨#[]⟩,⟨#[]⟩,0,0,0,n⟩
theorem snapCheck_on (a:ByteArray) (t:Int) (h0:0≤t) (h1:t≤1099511627776):p_snap_Check ⟨true,true,a,t⟩=some 0:=by
 have e1:decide (t < 0)=false:=by simpa using h0
 have e2:decide ((1099511627776:Int) < t)=false:=by simpa using h1
 unfold p_snap_Check
 simp [e1,e2]
theorem next_begin {e:SnapEyes} {b:BookState} (he:fewE e) (hn:b.Rows.length≤1000) (hs:smallB b.Rows) (hc:bookCheck b.Seq b.Rows=0) :
  p_snap_Next ⟨true,false,⟨#[]⟩,0⟩ e b=some (⟨true,true,⟨#[]⟩,0⟩,snapS ((viewL e b).length:Int),true):=by
 unfold p_snap_Next
 have h1:p_snap_Check ⟨true,false,⟨#[]⟩,0⟩=some 0:=by kernel_rfl
 simp only [cond_true]
 rw [h1]
 simp only [Option.bind_some,bne_self_eq_false,cond_false]
 rw [check_p b hn hs,hc]
 simp only [Option.bind_some,bne_self_eq_false,cond_false]
 rw [count_p he hn hs]
 rfl
end Go.Proofs.YthnihifblmnkdaaGreat

namespace Go.Proofs.YthnihifblmnkdaaGreat
open Go.RowKit
theorem rpresCheck_p (x:PresPres):p_ref23_Check x=some (presCheckL x):=by
 unfold p_ref23_Check presCheckL
 by_cases h1:x.Show < 0
 ·rw [decide_eq_true h1,if_pos (by omega)];rfl
 rw [decide_eq_false h1]
 by_cases h2:4 < x.Show
 ·rw [decide_eq_true h2,if_pos (by omega)];rfl
 rw [decide_eq_false h2]
 by_cases h3:x.Prio < -128
 ·rw [decide_eq_true h3,if_pos (by omega)];rfl
 rw [decide_eq_false h3]
 by_cases h4:127 < x.Prio
 ·rw [decide_eq_true h4,if_pos (by omega)];rfl
 rw [decide_eq_false h4]
 by_cases h5:x.Seq < 0
 ·rw [decide_eq_true h5,if_pos (by omega)];rfl
 rw [decide_eq_false h5]
 by_cases h6:1099511627776 < x.Seq
 ·rw [decide_eq_true h6,if_pos (by omega)];rfl
 rw [decide_eq_false h6,if_neg (by omega)]
 cases ho:x.On with
 | true=>simp
 | false =>
  by_cases h7:x.Show=0
  ·by_cases h8:x.Prio=0
   ·simp [h7,h8]
   ·have:(x.Prio != 0)=true:=by simpa using h8
    simp [h7,h8,this]
  ·have:(x.Show != 0)=true:=by simpa using h7
   simp [h7,this]
instance:Inhabited MailEntry:=⟨⟨⟨#[]⟩,⟨false,0,0,0⟩⟩⟩
def keyM (x:MailEntry):Bool:=(splitE x.Key).2.2 == 0
def smM (l:List MailEntry):Prop:=l.length≤1000∧∀ x ∈ l,x.Key.size≤100000
def offM (l:List MailEntry):Nat:=(l.filter fun x=>!x.P.On).length
def fndM (k:ByteArray):List MailEntry→Nat→Int
 | [],_=>-1
 | x :: t,i=>if (x.Key.toList == k.toList)=true then (i:Int) else fndM k t (i + 1)
def preE:List MailEntry→Int
 | []=>0
 | x :: t=>if presCheckL x.P≠0 then presCheckL x.P else preE t
def ordP (l:List MailEntry):Nat→Nat→Bool
 | 0,_=>true
 | n + 1,k=>!((l.getD k default).P.On != decide ((offM l:Int)≤(k:Int))) && !(fndM (l.getD k default).Key l 0 != (k:Int)) && ordP l n (k + 1)
def ordR (l:List MailEntry):Nat→Nat→Bool
 | 0,_=>true
 | n + 1,k=>!(decide (0 < k) && (l.getD (k - 1) default).P.On && !(l.getD k default).P.On) && !(fndM (l.getD k default).Key l 0 != (k:Int)) && ordR l n (k + 1)
theorem mkey_p {x:MailEntry} (h:x.Key.size≤100000):p_mail_key x.Key=some (keyM x)∧p_ref25_key x.Key=some (keyM x):=by
 unfold p_mail_key p_ref25_key keyM
 rw [split_p h,rsplit_p h];exact ⟨rfl,rfl⟩
theorem moff_l (l:List MailEntry) (hn:l.length≤1000):∀ (n k F a:Nat),k + n=l.length→n < F→a≤k→p_mail_Off_l1 l (l.length:Int) F (a:Int) (k:Int)=some (((a + offM (l.drop k):Nat):Int),(l.length:Int))
 | 0,k,F + 1,a,hk,hF,ha=>by
  rw [p_mail_Off_l1,lt_ff (by omega),show k=l.length by omega,List.drop_length];rfl
 | n + 1,k,F + 1,a,hk,hF,ha=>by
  have hlt:k < l.length:=by omega
  rw [p_mail_Off_l1,lt_tt hlt,cond_true,at_lt hlt,Option.bind_some,w64_succ (by omega),w64_succ (by omega),moff_l l hn n (k + 1) F a (by omega) (by omega) (by omega),moff_l l hn n (k + 1) F (a + 1) (by omega) (by omega) (by omega),drop_at hlt]
  unfold offM
  rw [List.filter_cons]
  cases l[k].P.On with
  | true=>rfl
  | false=>simp;omega
theorem moff_p (l:List MailEntry) (hn:l.length≤1000):p_mail_Off l=some ((offM l:Nat):Int):=by
 have e:p_mail_Off_l1 l (l.length:Int) fuel (0:Int) (0:Int)=_:=moff_l l hn l.length 0 fuel 0 (by omega) (by have:=fuel_pos;omega) (Nat.le_refl _)
 unfold p_mail_Off
 rw [e,List.drop_zero,Nat.zero_add];rfl
theorem fndM_bd (k:ByteArray):∀ (l:List MailEntry) (i:Nat),fndM k l i=-1∨((i:Int)≤fndM k l i∧fndM k l i < i + l.length)
 | [],i=>.inl rfl
 | x :: t,i=>by
  rw [fndM]
  cases (x.Key.toList == k.toList) with
  | true=>right;simp;omega
  | false =>
   rw [if_neg (by simp)]
   rcases fndM_bd k t (i + 1) with h | h
   ·exact .inl h
   ·right;simp;omega
theorem mfind_l (l:List MailEntry) (key:ByteArray) (hn:l.length≤1000):∀ (n k F:Nat),k + n=l.length→n < F→∃ i,p_mail_Find_l1 key l (l.length:Int) F (-1:Int) (k:Int)=some (fndM key (l.drop k) k,i)∧p_ref25_Find_l1 l key F (k:Int)=some (if fndM key (l.drop k) k < 0 then .inr (l.length:Int) else .inl (fndM key (l.drop k) k))
 | 0,k,F + 1,hk,hF=>by
  rw [p_mail_Find_l1,p_ref25_Find_l1,lt_ff (by omega),show k=l.length by omega,List.drop_length];exact ⟨_,rfl,rfl⟩
 | n + 1,k,F + 1,hk,hF=>by
  have hlt:k < l.length:=by omega
  obtain ⟨i,h1,h2⟩:=mfind_l l key hn n (k + 1) F (by omega) (by omega)
  rw [p_mail_Find_l1,p_ref25_Find_l1,lt_tt hlt,cond_true,cond_true,at_lt hlt,Option.bind_some,Option.bind_some,w64_succ (by omega),h1,h2,drop_at hlt,fndM]
  cases (l[k].Key.toList == key.toList) with
  | true =>
   simp only [cond_true,if_true]
   rw [if_neg (show ¬ ((k:Int) < 0) by omega)]
   exact ⟨_,rfl,rfl⟩
  | false=>exact ⟨i,rfl,rfl⟩
theorem mfind_p (l:List MailEntry) (key:ByteArray) (hn:l.length≤1000):p_mail_Find l key=some (fndM key l 0)∧p_ref25_Find l key=some (fndM key l 0):=by
 obtain ⟨i,h1,h2⟩:=mfind_l l key hn l.length 0 fuel (by omega) (by have:=fuel_pos;omega)
 have h1' : p_mail_Find_l1 key l (l.length:Int) fuel (-1:Int) (0:Int)=_:=h1
 have h2' : p_ref25_Find_l1 l key fuel (0:Int)=_:=h2
 unfold p_mail_Find p_ref25_Find
 rw [h1',h2',List.drop_zero]
 refine ⟨rfl,?_⟩
 rcases fndM_bd key l 0 with h | h
 ·rw [h];rfl
 ·rw [if_neg (by omega)];rfl
theorem gD {l:List MailEntry} {k:Nat} (h:k < l.length):l.getD k default=l[k]:=by rw [List.getD_eq_getElem?_getD,List.getElem?_eq_getElem h,Option.getD_some]
theorem mord_l (l:List MailEntry) (hn:l.length≤1000):∀ (n k F:Nat),k + n=l.length→n < F→p_mail_State_ordered_l1 l ((offM l:Nat):Int) l (l.length:Int) F (k:Int)=some (if ordP l n k=true then .inr (l.length:Int) else .inl false)
 | 0,k,F + 1,hk,hF=>by
  rw [p_mail_State_ordered_l1,lt_ff (by omega),show k=l.length by omega];rfl
 | n + 1,k,F + 1,hk,hF=>by
  have hlt:k < l.length:=by omega
  rw [p_mail_State_ordered_l1,lt_tt hlt,cond_true,at_lt hlt,Option.bind_some,(mfind_p l _ hn).1,Option.bind_some,w64_succ (by omega),mord_l l hn n (k + 1) F (by omega) (by omega),ordP,gD hlt]
  cases (l[k].P.On != decide ((offM l:Int)≤(k:Int))) with
  | true=>rfl
  | false=>cases (fndM l[k].Key l 0 != (k:Int)) <;> rfl
theorem rord_l (l:List MailEntry) (hn:l.length≤1000):∀ (n k F:Nat),k + n=l.length→n < F→p_ref25_Check_l3 l F (k:Int)=some (if ordR l n k=true then .inr (l.length:Int) else .inl 10)
 | 0,k,F + 1,hk,hF=>by
  rw [p_ref25_Check_l3,lt_ff (by omega),show k=l.length by omega];rfl
 | n + 1,k,F + 1,hk,hF=>by
  have hlt:k < l.length:=by omega
  have hk1:w64 ((k:Int) - 1)=((k:Int) - 1):=w64_id (by omega)
  rw [p_ref25_Check_l3,lt_tt hlt,cond_true,at_lt hlt]
  simp only [Option.bind_some,(mfind_p l _ hn).2]
  rw [w64_succ (by omega),rord_l l hn n (k + 1) F (by omega) (by omega),ordR,gD hlt,hk1]
  by_cases h0:0 < k
  ·rw [decide_eq_true (show (0:Int) < (k:Int) by omega),decide_eq_true h0,cond_true,show (k:Int) - 1=((k - 1:Nat):Int) by omega,at_lt (show k - 1 < l.length by omega),Option.bind_some,gD (show k - 1 < l.length by omega)]
   cases l[k - 1].P.On <;> cases l[k].P.On <;> cases (fndM l[k].Key l 0 != (k:Int)) <;> rfl
  ·rw [decide_eq_false (show ¬ (0:Int) < (k:Int) by omega),decide_eq_false h0]
   cases (fndM l[k].Key l 0 != (k:Int)) <;> rfl
theorem mc1_l (l:List MailEntry) (h:smM l):∀ (n k F:Nat),k + n=l.length→n < F→p_mail_Check_l1 l (l.length:Int) F (k:Int)=some (if (l.drop k).all keyM=true then .inr (l.length:Int) else .inl 11)∧p_ref25_Check_l1 l F (k:Int)=some (if (l.drop k).all keyM=true then .inr (l.length:Int) else .inl 11)
 | 0,k,F + 1,hk,hF=>by
  rw [p_mail_Check_l1,p_ref25_Check_l1,lt_ff (by omega),show k=l.length by omega,List.drop_length];exact ⟨rfl,rfl⟩
 | n + 1,k,F + 1,hk,hF=>by
  have hlt:k < l.length:=by omega
  have hn:=h.1
  obtain ⟨i1,i2⟩:=mc1_l l h n (k + 1) F (by omega) (by omega)
  obtain ⟨k1,k2⟩:=mkey_p (h.2 _ (List.getElem_mem hlt))
  rw [p_mail_Check_l1,p_ref25_Check_l1,lt_tt hlt,cond_true,cond_true,at_lt hlt,Option.bind_some,Option.bind_some,k1,k2,Option.bind_some,Option.bind_some,w64_succ (by omega),i1,i2,drop_at hlt,List.all_cons]
  cases keyM l[k] <;> exact ⟨rfl,rfl⟩
theorem pc_p (p:PresPres):p_pres_Check p=some (presCheckL p):=presCheck_p p
theorem mc2_l (l:List MailEntry) (h:smM l):∀ (n k F:Nat),k + n=l.length→n < F→p_mail_Check_l2 l (l.length:Int) F (k:Int)=some (if preE (l.drop k)=0 then .inr (l.length:Int) else .inl (preE (l.drop k)))∧p_ref25_Check_l2 l F (k:Int)=some (if preE (l.drop k)=0 then .inr (l.length:Int) else .inl (preE (l.drop k)))
 | 0,k,F + 1,hk,hF=>by
  rw [p_mail_Check_l2,p_ref25_Check_l2,lt_ff (by omega),show k=l.length by omega,List.drop_length];exact ⟨rfl,rfl⟩
 | n + 1,k,F + 1,hk,hF=>by
  have hlt:k < l.length:=by omega
  have hn:=h.1
  obtain ⟨i1,i2⟩:=mc2_l l h n (k + 1) F (by omega) (by omega)
  rw [p_mail_Check_l2,p_ref25_Check_l2,lt_tt hlt,cond_true,cond_true,at_lt hlt]
  simp only [Option.bind_some,pc_p,rpresCheck_p]
  rw [w64_succ (by omega),i1,i2,drop_at hlt,preE]
  by_cases he:presCheckL l[k].P=0
  ·rw [he];exact ⟨rfl,rfl⟩
  ·rw [show (presCheckL l[k].P != 0)=true by simpa using he,if_pos he,if_neg he];exact ⟨rfl,rfl⟩
def chkM (l:List MailEntry) (o:Bool):Int:=if 16 < l.length then 5 else if l.all keyM=false then 11 else if preE l≠0 then preE l else if o=true then 0 else 10
theorem mcheck_p {l:List MailEntry} (h:smM l):p_mail_Check l=some (chkM l (ordP l l.length 0))∧p_ref25_Check l=some (chkM l (ordR l l.length 0)):=by
 have hn:=h.1
 have hf:=fuel_pos
 obtain ⟨a1,a2⟩:=mc1_l l h l.length 0 fuel (by omega) (by omega)
 obtain ⟨b1,b2⟩:=mc2_l l h l.length 0 fuel (by omega) (by omega)
 have a1' : p_mail_Check_l1 l (l.length:Int) fuel (0:Int)=_:=a1
 have a2' : p_ref25_Check_l1 l fuel (0:Int)=_:=a2
 have b1' : p_mail_Check_l2 l (l.length:Int) fuel (0:Int)=_:=b1
 have b2' : p_ref25_Check_l2 l fuel (0:Int)=_:=b2
 have c1:p_mail_State_ordered_l1 l ((offM l:Nat):Int) l (l.length:Int) fuel (0:Int)=_:=mord_l l hn l.length 0 fuel (by omega) (by omega)
 have c2:p_ref25_Check_l3 l fuel (0:Int)=_:=rord_l l hn l.length 0 fuel (by omega) (by omega)
 rw [List.drop_zero] at a1' a2' b1' b2'
 unfold p_mail_Check p_ref25_Check p_mail_State_ordered chkM
 by_cases h1:16 < l.length
 ·rw [if_pos h1,if_pos h1,decide_eq_true (show (16:Int) < (l.length:Int) by omega)];exact ⟨rfl,rfl⟩
 rw [if_neg h1,if_neg h1,decide_eq_false (show ¬ (16:Int) < (l.length:Int) by omega),cond_false,cond_false,a1',a2',moff_p l hn]
 cases l.all keyM with
 | false=>exact ⟨rfl,rfl⟩
 | true =>
  simp only [if_true,Option.bind_some,b1',b2',Bool.true_eq_false,if_false]
  by_cases h2:preE l=0
  ·simp only [if_pos h2,Option.bind_some,c1,c2,h2,ne_eq,not_true_eq_false,if_false]
   refine ⟨?_,?_⟩
   ·cases ordP l l.length 0 <;> rfl
   ·cases ordR l l.length 0 <;> rfl
  ·rw [if_pos (show preE l≠0 from h2)]
   simp only [if_neg h2,Option.bind_some]
   refine ⟨?_,?_⟩ <;> first | rfl | trivial | rw [if_pos (show preE l≠0 from h2)]
theorem offM_cons (x:MailEntry) (t:List MailEntry):offM (x :: t)=(if x.P.On then 0 else 1) + offM t:=by
 unfold offM
 rw [List.filter_cons]
 cases x.P.On <;> simp;omega
theorem offM_le (l:List MailEntry):offM l≤l.length:=List.length_filter_le ..
theorem offM_on {l:List MailEntry} (h:∀ x ∈ l,x.P.On=true):offM l=0:=by
 unfold offM
 rw [List.filter_eq_nil_iff.2 fun x hx=>by rw [h x hx];simp];rfl
def stepM (l:List MailEntry):Prop:=∀ k (h:k + 1 < l.length),l[k].P.On=true→l[k + 1].P.On=true
theorem stepM_on {x:MailEntry}:∀ {t:List MailEntry},stepM (x :: t)→x.P.On=true→∀ y ∈ t,y.P.On=true
 | [],_,_=>fun y hy=>by cases hy
 | z :: t,h,hx=>by
  have hz:z.P.On=true:=h 0 (by simp) hx
  have ht:stepM (z :: t):=fun k hk hh=>h (k + 1) (by simp at hk ⊢;omega) (by simpa using hh)
  intro y hy
  rcases List.mem_cons.1 hy with rfl | hy
  ·exact hz
  ·exact stepM_on ht hz y hy
theorem step_off:∀ {l:List MailEntry},stepM l→∀ k (h:k < l.length),l[k].P.On=decide (offM l≤k)
 | [],_,k,h=>by simp at h
 | x :: t,hs,k,h=>by
  rw [offM_cons]
  have ht:stepM t:=fun k hk hh=>hs (k + 1) (by simp;omega) (by simpa using hh)
  cases hx:x.P.On with
  | true =>
   have ha:=stepM_on hs hx
   rw [offM_on ha,if_pos rfl]
   cases k with
   | zero=>simpa using hx
   | succ k=>simpa using ha _ (List.getElem_mem (by simpa using h))
  | false =>
   rw [if_neg (by simp)]
   cases k with
   | zero=>simp [hx]
   | succ k =>
    have:=step_off ht k (by simpa using h)
    simp only [List.getElem_cons_succ,this]
    congr 1
    exact propext ⟨fun h=>by omega,fun h=>by omega⟩
theorem off_step {l:List MailEntry} (h:∀ k (h:k < l.length),l[k].P.On=decide (offM l≤k)):stepM l:=fun k hk hh=>by
 rw [h k (by omega)] at hh
 rw [h (k + 1) hk]
 simp only [decide_eq_true_eq] at hh ⊢
 omega
theorem ordP_iff {l:List MailEntry}:∀ {n k:Nat},k + n=l.length→(ordP l n k=true ↔ ∀ j,k≤j→(h:j < l.length)→l[j].P.On=decide (offM l≤j)∧fndM l[j].Key l 0=(j:Int))
 | 0,k,hk=>⟨fun _ j h1 h2=>by omega,fun _=>rfl⟩
 | n + 1,k,hk=>by
  have hlt:k < l.length:=by omega
  have e:(decide ((offM l:Int)≤(k:Int)))=decide (offM l≤k):=by congr 1;exact propext ⟨fun h=>by omega,fun h=>by omega⟩
  rw [ordP,gD hlt,Bool.and_eq_true,Bool.and_eq_true,ordP_iff (by omega),e]
  simp only [Bool.not_eq_true',bne_eq_false_iff_eq]
  constructor
  ·rintro ⟨⟨h1,h2⟩,h3⟩ j hj hl
   rcases Nat.lt_or_eq_of_le hj with g | rfl
   ·exact h3 j g hl
   ·exact ⟨h1,h2⟩
  ·intro h
   exact ⟨h k (Nat.le_refl _) hlt,fun j hj hl=>h j (by omega) hl⟩
theorem ordR_iff {l:List MailEntry}:∀ {n k:Nat},k + n=l.length→(ordR l n k=true ↔ ∀ j,k≤j→(h:j < l.length)→((h0:0 < j)→l[j - 1].P.On=true→l[j].P.On=true)∧fndM l[j].Key l 0=(j:Int))
 | 0,k,hk=>⟨fun _ j h1 h2=>by omega,fun _=>rfl⟩
 | n + 1,k,hk=>by
  have hlt:k < l.length:=by omega
  rw [ordR,gD hlt,gD (show k - 1 < l.length by omega),Bool.and_eq_true,Bool.and_eq_true,ordR_iff (by omega)]
  have e1:(!(decide (0 < k) && l[k - 1].P.On && !l[k].P.On))=true ↔ (0 < k→l[k - 1].P.On=true→l[k].P.On=true):=by
   by_cases h0:0 < k
   ·rw [decide_eq_true h0]
    cases l[k - 1].P.On <;> cases l[k].P.On <;> simp [h0]
   ·rw [decide_eq_false h0];simp [h0]
  rw [e1]
  simp only [Bool.not_eq_true',bne_eq_false_iff_eq]
  constructor
  ·rintro ⟨⟨h1,h2⟩,h3⟩ j hj hl
   rcases Nat.lt_or_eq_of_le hj with g | rfl
   ·exact h3 j g hl
   ·exact ⟨h1,h2⟩
  ·intro h
   exact ⟨h k (Nat.le_refl _) hlt,fun j hj hl=>h j (by omega) hl⟩
theorem ord_same (l:List MailEntry):ordP l l.length 0=ordR l l.length 0:=by
 have a:=ordP_iff (l:=l) (n:=l.length) (k:=0) (by omega)
 have b:=ordR_iff (l:=l) (n:=l.length) (k:=0) (by omega)
 rw [Bool.eq_iff_iff,a,b]
 constructor
 ·intro h j hj hl
  refine ⟨fun h0 hh=>?_,(h j hj hl).2⟩
  have:=off_step (fun k hk=>(h k (Nat.zero_le _) hk).1) (j - 1) (by omega) hh
  simpa [Nat.sub_add_cancel h0] using this
 ·intro h j hj hl
  refine ⟨step_off (fun k hk hh=>(h (k + 1) (Nat.zero_le _) hk).1 (by omega) (by simpa using hh)) j hl,(h j hj hl).2⟩
def mailC (l:List MailEntry):Int:=chkM l (ordP l l.length 0)
theorem mailC_p {l:List MailEntry} (h:smM l):p_mail_Check l=some (mailC l)∧p_ref25_Check l=some (mailC l):=by
 obtain ⟨h1,h2⟩:=mcheck_p h
 unfold mailC
 refine ⟨h1,?_⟩
 rw [ord_same];exact h2
end Go.Proofs.YthnihifblmnkdaaGreat

namespace Go.Proofs.YthnihifblmnkdaaGreat
open Go.RowKit
theorem idx_is {α:Type} {p:α→Bool} {l:List α} {m:Nat} (hm:m≤l.length) (h1:∀ i (h:i < l.length),i < m→p l[i]=false) (h2:∀ h:m < l.length,p l[m]=true):l.findIdx p=m:=by
 rcases Nat.lt_trichotomy (l.findIdx p) m with h | h | h
 ·have hx:=List.findIdx_getElem (p:=p) (xs:=l) (w:=by omega)
  rw [h1 _ (by omega) h] at hx;cases hx
 ·exact h
 ·have hml:m < l.length:=Nat.lt_of_lt_of_le h List.findIdx_le_length
  have:=List.not_of_lt_findIdx h
  rw [h2 hml] at this;simp at this
theorem next_idx {seq:Int} {rows:List BookRow} (hc:bookCheck seq rows=0) (key:ByteArray):(rows.findIdx fun r=>decide (0 < cmpR r key))=if foundB rows key (posL rows key)=true then posL rows key + 1 else posL rows key:=by
 have hs:=ord_sorted (check_ord hc)
 have hp:=stands hs key
 have hle:=hp.le
 have at_pos:∀ h:posL rows key < rows.length,foundB rows key (posL rows key)=(cmpR rows[posL rows key] key == 0):=fun h=>by
  unfold foundB;rw [List.getElem?_eq_getElem h]
 cases hf:foundB rows key (posL rows key) with
 | true =>
  have hlt:=found_lt hf
  have e:=at_pos hlt
  rw [hf] at e
  have e0:cmpR rows[posL rows key] key=0:=by simpa using e.symm
  rw [if_pos rfl]
  refine idx_is hlt (fun i h hi=>?_) fun h=>?_
  ·rcases Nat.lt_or_ge i (posL rows key) with h1 | h1
   ·have:=hp.lt i h h1;simp;omega
   ·have:i=posL rows key:=by omega
    subst this;simp [e0]
  ·have h1:=hs (posL rows key) (posL rows key + 1) h (by omega)
   have e1:=cmp_eq0 (show Lib.compareBytes (keyR rows[posL rows key]).data.toList key.data.toList=0 from e0)
   have h2:Lib.compareBytes (keyR rows[posL rows key]).data.toList (keyR rows[posL rows key + 1]).data.toList < 0:=h1
   rw [e1] at h2
   have h3:=cmp_anti key.data.toList (keyR rows[posL rows key + 1]).data.toList
   have h4:0 < Lib.compareBytes (keyR rows[posL rows key + 1]).data.toList key.data.toList:=by omega
   exact decide_eq_true h4
 | false =>
  rw [if_neg (by simp)]
  refine idx_is hle (fun i h hi=>?_) fun h=>?_
  ·have:=hp.lt i h hi;simp;omega
  ·have h1:=hp.ge _ h (Nat.le_refl _)
   have e:=at_pos h
   rw [hf] at e
   have e0:cmpR rows[posL rows key] key≠0:=by simpa using e.symm
   simp;omega
def aftL (rows:List BookRow) (a:ByteArray):Nat:=rows.findIdx fun r=>decide (0 < cmpR r a)
theorem nxt_at {seq:Int} {rows:List BookRow} (hc:bookCheck seq rows=0) (a:ByteArray):nxtL seq rows a=rowAt rows (aftL rows a):=by
 unfold nxtL aftL
 rw [if_neg (by simpa using hc),next_idx hc a]
theorem aft_le (rows:List BookRow) (a:ByteArray):aftL rows a≤rows.length:=List.findIdx_le_length
theorem aft_lt {rows:List BookRow} {a:ByteArray} {i:Nat} (hi:i < rows.length) (h:i < aftL rows a):¬ 0 < cmpR rows[i] a:=by
 have:=List.not_of_lt_findIdx h
 simpa using this
theorem aft_ge {seq:Int} {rows:List BookRow} (hc:bookCheck seq rows=0) {a:ByteArray} {i:Nat} (hi:i < rows.length) (h:aftL rows a≤i):0 < cmpR rows[i] a:=by
 have hs:=ord_sorted (check_ord hc)
 have hj:aftL rows a < rows.length:=by omega
 have h0:0 < cmpR (rows[aftL rows a]'hj) a:=by
  have:=List.findIdx_getElem (p:=fun r:BookRow=>decide (0 < cmpR r a)) (xs:=rows) (w:=hj)
  exact of_decide_eq_true this
 rcases Nat.lt_or_ge (aftL rows a) i with h1 | h1
 ·have h2:=hs (aftL rows a) i hi h1
  have h3:Lib.compareBytes a.data.toList (keyR (rows[aftL rows a]'hj)).data.toList < 0:=by
   have:=cmp_anti (keyR (rows[aftL rows a]'hj)).data.toList a.data.toList
   have h4:0 < Lib.compareBytes (keyR (rows[aftL rows a]'hj)).data.toList a.data.toList:=h0
   omega
  have h5:Lib.compareBytes (keyR (rows[aftL rows a]'hj)).data.toList (keyR rows[i]).data.toList < 0:=h2
  have h6:=cmp_trans h3 h5
  have h7:=cmp_anti a.data.toList (keyR rows[i]).data.toList
  show 0 < Lib.compareBytes (keyR rows[i]).data.toList a.data.toList
  omega
 ·have:i=aftL rows a:=by omega
  subst this;exact h0
theorem aft_mem {seq:Int} {rows:List BookRow} (hc:bookCheck seq rows=0) {a:ByteArray} {x:BookRow} (h:x ∈ rows.drop (aftL rows a)):0 < cmpR x a:=by
 obtain ⟨i,hi,rfl⟩:=List.getElem_of_mem h
 rw [List.length_drop] at hi
 rw [List.getElem_drop]
 exact aft_ge hc (by omega) (by omega)
end Go.Proofs.YthnihifblmnkdaaGreat

namespace Go.Proofs.YthnihifblmnkdaaGreat
open Go.RowKit
theorem toListE {a:ByteArray} (h:a.toList=(⟨#[]⟩ : ByteArray).toList):a=⟨#[]⟩:=by
 rw [tl_data,tl_data] at h
 obtain ⟨d⟩:=a
 congr 1
 exact Array.toList_inj.1 h
theorem bnd_t (t:Int):(bif decide (t < (0:Int)) then some (8:Int) else bif decide ((1099511627776:Int) < t) then some (8:Int) else some (0:Int))=some (if t < 0 then 8 else if 1099511627776 < t then 8 else 0):=by
 by_cases h:t < 0
 ·rw [decide_eq_true h,if_pos h];rfl
 ·rw [decide_eq_false h,if_neg h,cond_false]
  by_cases g:(1099511627776:Int) < t
  ·rw [decide_eq_true g,if_pos g];rfl
  ·rw [decide_eq_false g,if_neg g];rfl
def snapE (s:SnapState):Int :=
 if s.On=true then (if s.Begun=true then (if s.Told < 0 then 8 else if 1099511627776 < s.Told then 8 else 0) else if (s.After.toList == (⟨#[]⟩ : ByteArray).toList)=true then (if s.Told=0 then 0 else 4) else 4)
 else if s.Begun=true then 4 else if (s.After.toList == (⟨#[]⟩ : ByteArray).toList)=true then (if s.Told=0 then 0 else 4) else 4
theorem snapC_p (s:SnapState):p_snap_Check s=some (snapE s)∧p_ref26_Check s=some (snapE s):=by
 unfold p_snap_Check p_ref26_Check snapE
 rw [bnd_t]
 have e0:((⟨#[]⟩ : ByteArray).toList == (⟨#[]⟩ : ByteArray).toList)=true:=eqT_refl _
 by_cases ht:s.Told=0
 ·cases s.On <;> cases s.Begun <;> cases (s.After.toList == (⟨#[]⟩ : ByteArray).toList) <;> simp [ht,e0]
 ·have q1:(s.Told == 0)=false:=by simpa using ht
  have q2:(s.Told != 0)=true:=by simpa using ht
  cases s.On <;> cases s.Begun <;> cases (s.After.toList == (⟨#[]⟩ : ByteArray).toList) <;> simp [ht,q1,q2,e0]
theorem snapE_on {s:SnapState} (h:snapE s=0) (ho:s.On=true):s=⟨true,true,s.After,s.Told⟩∧0≤s.Told∧s.Told≤1099511627776∨s=⟨true,false,⟨#[]⟩,0⟩:=by
 obtain ⟨on,bg,a,t⟩:=s
 simp only at ho
 subst ho
 cases bg with
 | true =>
  left
  unfold snapE at h
  simp only [if_true] at h
  by_cases h1:t < 0
  ·rw [if_pos h1] at h;omega
  rw [if_neg h1] at h
  by_cases h2:(1099511627776:Int) < t
  ·rw [if_pos h2] at h;omega
  exact ⟨rfl,by simp;omega,by simp;omega⟩
 | false =>
  right
  unfold snapE at h
  simp only [if_true,Bool.false_eq_true,if_false] at h
  split at h
  ·rename_i h1
   split at h
   ·rename_i h2
    have ha:a=⟨#[]⟩:=toListE (by simpa using h1)
    rw [ha,h2]
   ·omega
  ·omega
def tnx (t:Int):Int:=if 1099511627776 < t + 1 then 1099511627776 else t + 1
theorem tnx_bd {t:Int} (h0:0≤t) (h1:t≤1099511627776):0≤tnx t∧tnx t≤1099511627776:=by unfold tnx;split <;> omega
theorem tnx_p {t:Int} (h0:0≤t) (h1:t≤1099511627776):(if (1099511627776:Int) < w64 (t + 1) then (1099511627776:Int) else w64 (t + 1))=tnx t∧(if w64 (t + 1) < (1099511627776:Int) then w64 (t + 1) else (1099511627776:Int))=tnx t:=by
 rw [w64_id (by omega)]
 unfold tnx
 constructor
 ·rfl
 ·by_cases h:t + 1 < 1099511627776
  ·rw [if_pos h,if_neg (by omega)]
  ·rw [if_neg h]
   by_cases g:(1099511627776:Int) < t + 1
   ·rw [if_pos g]
   ·rw [if_neg g];omega
theorem next_rowT {e:SnapEyes} {b:BookState} {a:ByteArray} {t:Int} {j:Nat} (he:fewE e) (hn:b.Rows.length≤1000) (hs:smallB b.Rows) (hc:bookCheck b.Seq b.Rows=0) (h0:0≤t) (h1:t≤1099511627776) (hj:j≤b.Rows.length) (hk:nxtL b.Seq b.Rows a=rowAt b.Rows j) :
  p_snap_Next ⟨true,true,a,t⟩ e b=some (match (b.Rows.drop j).filter (seesL e) with
   | []=>(snap0,doneS,true)
   | x :: _=>(⟨true,true,keyR x,tnx t⟩,sayR x,true)):=by
 unfold p_snap_Next
 simp only [cond_true]
 rw [snapCheck_on a t h0 (by omega)]
 simp only [Option.bind_some,bne_self_eq_false,cond_false]
 rw [check_p b hn hs,hc]
 simp only [Option.bind_some,bne_self_eq_false,cond_false]
 rw [items_p he hn hs hc hj hk]
 simp only [Option.bind_some]
 cases hf:(b.Rows.drop j).filter (seesL e) with
 | nil=>rfl
 | cons x r =>
  have hx:smallR x:=hs x (List.mem_of_mem_drop (List.mem_filter.1 (by rw [hf];exact List.mem_cons_self)).1)
  simp only [List.map_cons,itemS]
  rw [say_p _ hx.1 hx.2,(tnx_p h0 h1).1]
  rfl
end Go.Proofs.YthnihifblmnkdaaGreat

namespace Go.Proofs.YthnihifblmnkdaaGreat
open Go.RowKit
theorem fndM_sh (k:ByteArray):∀ (l:List MailEntry) (i:Nat),fndM k l (i + 1)=if fndM k l i < 0 then -1 else fndM k l i + 1
 | [],i=>rfl
 | x :: t,i=>by
  rw [fndM,fndM]
  cases (x.Key.toList == k.toList) with
  | true=>simp only [if_true];rw [if_neg (by omega)];omega
  | false=>simp only [Bool.false_eq_true,if_false];exact fndM_sh k t (i + 1)
theorem mailC_0 {l:List MailEntry}:mailC l=0 ↔ l.length≤16∧l.all keyM=true∧preE l=0∧ordR l l.length 0=true:=by
 unfold mailC chkM
 rw [ord_same]
 by_cases h1:16 < l.length
 ·rw [if_pos h1];exact ⟨fun h=>by omega,fun h=>by omega⟩
 rw [if_neg h1]
 cases h2:l.all keyM with
 | false=>rw [if_pos rfl];exact ⟨fun h=>by omega,fun h=>by cases h.2.1⟩
 | true =>
  rw [if_neg (by simp)]
  by_cases h3:preE l=0
  ·rw [if_neg (by simpa using h3)]
   cases ordR l l.length 0 with
   | true=>exact ⟨fun _=>⟨by omega,rfl,h3,rfl⟩,fun _=>rfl⟩
   | false=>rw [if_neg (by simp)];exact ⟨fun h=>by omega,fun h=>by cases h.2.2.2⟩
  ·rw [if_pos h3];exact ⟨fun h=>absurd h h3,fun h=>absurd h.2.2.1 h3⟩
theorem mailC_tail {x:MailEntry} {r:List MailEntry} (h:mailC (x :: r)=0):mailC r=0:=by
 obtain ⟨h1,h2,h3,h4⟩:=mailC_0.1 h
 simp only [List.length_cons] at h1
 rw [List.all_cons,Bool.and_eq_true] at h2
 have h3' : preE r=0:=by
  rw [preE] at h3
  by_cases hp:presCheckL x.P=0
  ·rwa [if_neg (by simpa using hp)] at h3
  ·rw [if_pos hp] at h3;exact absurd h3 hp
 refine mailC_0.2 ⟨by omega,h2.2,h3',(ordR_iff (by omega)).2 fun j _ hl=>?_⟩
 have g:=(ordR_iff (l:=x :: r) (n:=(x :: r).length) (k:=0) (by omega)).1 h4 (j + 1) (by omega) (by simp;omega)
 simp only [List.getElem_cons_succ] at g
 refine ⟨fun h0 hh=>g.1 (by omega) ?_,?_⟩
 ·obtain ⟨m,rfl⟩ : ∃ m,j=m + 1:=⟨j - 1,by omega⟩
  simpa using hh
 ·have e:=g.2
  rw [fndM] at e
  split at e
  ·simp at e;omega
  ·rw [fndM_sh] at e
   split at e
   ·simp at e;omega
   ·simp at e;omega
def outC (s:Ref27State):Int:=if mailC s.Mail≠0 then mailC s.Mail else if snapE s.Snap≠0 then snapE s.Snap else if (0≤s.Sent∧s.Sent≤1099511627776)∧0≤s.Lost∧s.Lost≤1099511627776 then 0 else 8
theorem outC_p {s:Ref27State} (h:smM s.Mail):p_outq_Check s=some (outC s)∧p_ref27_Check s=some (outC s):=by
 obtain ⟨m1,m2⟩:=mailC_p h
 obtain ⟨s1,s2⟩:=snapC_p s.Snap
 unfold p_outq_Check p_ref27_Check p_outq_in outC
 rw [m1,m2,Option.bind_some,Option.bind_some,s1,s2]
 by_cases h1:mailC s.Mail=0
 ·rw [h1]
  simp only [bne_self_eq_false,cond_false,Option.bind_some,ne_eq,not_true_eq_false,if_false]
  by_cases h2:snapE s.Snap=0
  ·rw [h2]
   simp only [bne_self_eq_false,cond_false,Option.bind_some,ne_eq,not_true_eq_false,if_false]
   by_cases a:0≤s.Sent <;> by_cases b:s.Sent≤1099511627776 <;> by_cases c:0≤s.Lost <;> by_cases d:s.Lost≤1099511627776 <;>
    simp [a,b,c,d,Int.not_lt.2,Int.not_le.1,show (s.Sent < 0)=¬ (0≤s.Sent) by simp,show ((1099511627776:Int) < s.Sent)=¬ (s.Sent≤1099511627776) by simp,show (s.Lost < 0)=¬ (0≤s.Lost) by simp,show ((1099511627776:Int) < s.Lost)=¬ (s.Lost≤1099511627776) by simp]
  ·have q:(snapE s.Snap != 0)=true:=by simpa using h2
   simp only [q,cond_true,ne_eq,h2,not_false_eq_true,if_true,Option.bind_some]
   exact ⟨trivial,trivial⟩
 ·have q:(mailC s.Mail != 0)=true:=by simpa using h1
  simp only [q,cond_true,ne_eq,h1,not_false_eq_true,if_true,Option.bind_some]
  exact ⟨trivial,trivial⟩
structure OkT (T:OutqTeller):Prop where
 sm:smM T.st.Mail
 mail:mailC T.st.Mail=0
 snap:snapE T.st.Snap=0
 sent:0≤T.counter.sent∧T.counter.sent≤1099511627776
 lost:0≤T.st.Lost∧T.st.Lost≤1099511627776
 eyes:fewE T.eyes
 rows:T.book.Rows.length≤1000
 small:smallB T.book.Rows
def refOf (T:OutqTeller):Ref27State:=⟨T.st.Mail,T.st.Snap,T.counter.sent,T.st.Lost⟩
theorem OkT.chk {T:OutqTeller} (h:OkT T):p_ref27_Check (refOf T)=some 0:=by
 rw [(outC_p (s:=refOf T) h.sm).2]
 unfold outC refOf
 simp only [h.mail,h.snap,ne_eq,not_true_eq_false,if_false]
 rw [if_pos ⟨h.sent,h.lost⟩]
theorem split_szs {k:ByteArray} (h:k.size≤100000):(splitE k).1.size≤100000∧(splitE k).2.1.size≤100000:=by
 have h1:=front_sz k
 have h2:=back_sz k
 have e:(⟨#[]⟩ : ByteArray).size=0:=rfl
 unfold splitE
 split
 ·split
  ·split
   ·exact ⟨by simp only;omega,by simp only;omega⟩
   ·exact ⟨by simp only;omega,by simp only;omega⟩
  ·exact ⟨by simp only;omega,by simp only;omega⟩
 ·exact ⟨by simp only;omega,by simp only;omega⟩
end Go.Proofs.YthnihifblmnkdaaGreat

