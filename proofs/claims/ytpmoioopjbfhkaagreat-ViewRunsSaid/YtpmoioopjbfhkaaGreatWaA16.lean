/- A part of the proof: 1 texts joined. -/
import Derived.Test.YtpmoioopjbfhkaaGreatWaA14
import Derived.Test.YtpmoioopjbfhkaaGreatWaA12
import Derived.KernelRfl
import Derived.Test.YtpmoioopjbfhkaaGreatWaA15
set_option linter.all false
/- Plain laws, joined. -/
namespace Go.Proofs.YtpmoioopjbfhkaaGreat
open Go.RowKit
def presCheckL (p:PresPres):Int :=
 if p.Show < 0∨4 < p.Show∨p.Prio < -128∨127 < p.Prio∨p.Seq < 0∨1099511627776 < p.Seq then 8
 else if p.On=false∧(p.Show≠0∨p.Prio≠0) then 4 else 0
def namedL (u r:ByteArray):Bool:=decide (resL r.data.toList=0) && isBareL u.data.toList
def keyL (u r:ByteArray):ByteArray:=if namedL u r=true then u++⟨#[32]⟩++r else ⟨#[]⟩
theorem cat_sz (u r:ByteArray) (hu:u.size≤100000) (hr:r.size≤100000):u.size + (⟨#[32]⟩ : ByteArray).size≤4611686018427387904∧(u++(⟨#[32]⟩ : ByteArray)).size + r.size≤4611686018427387904:=by
 rw [ByteArray.size_append]
 have:(⟨#[32]⟩ : ByteArray).size=1:=rfl
 omega
instance:Inhabited BookRow:=⟨⟨⟨#[]⟩,⟨#[]⟩,⟨false,0,0,0⟩⟩⟩
instance:Inhabited PresPres:=⟨⟨false,0,0,0⟩⟩
def keyR (r:BookRow):ByteArray:=keyL r.User r.Res
def smallR (r:BookRow):Prop:=r.User.size≤100000∧r.Res.size≤100000
def manyL (rows:List BookRow) (u:ByteArray):Nat:=rows.countP fun r=>r.User.toList == u.toList
def smallB (rows:List BookRow):Prop:=∀ r ∈ rows,smallR r
def cmpR (r:BookRow) (k:ByteArray):Int:=Lib.compareBytes (keyR r).data.toList k.data.toList
structure StandsAt (rows:List BookRow) (k:ByteArray) (pos:Nat):Prop where
 le:pos≤rows.length
 lt:∀ i (h:i < rows.length),i < pos→cmpR rows[i] k < 0
 ge:∀ i (h:i < rows.length),pos≤i→0≤cmpR rows[i] k
end Go.Proofs.YtpmoioopjbfhkaaGreat

namespace Go.Proofs.YtpmoioopjbfhkaaGreat
open Go.RowKit
def sortedR (rows:List BookRow):Prop:=∀ i j (hj:j < rows.length) (hi:i < j),cmpR rows[i] (keyR rows[j]) < 0
end Go.Proofs.YtpmoioopjbfhkaaGreat

namespace Go.Proofs.YtpmoioopjbfhkaaGreat
open Go.RowKit
structure Good (seq:Int) (rows:List BookRow):Prop where
 len:rows.length≤16
 seq0:0≤seq
 seqM:seq≤1099511627776
 key:∀ r ∈ rows,((keyR r).toList == (⟨#[]⟩ : ByteArray).toList)=false
 pres:∀ r ∈ rows,presCheckL r.P=0∧r.P.On=true
 rng:∀ r ∈ rows,1≤r.P.Seq∧r.P.Seq≤seq
 ord:rows.Pairwise fun a b=>cmpR a (keyR b) < 0
 diff:rows.Pairwise fun a b=>a.P.Seq≠b.P.Seq
 many:∀ r ∈ rows,manyL rows r.User≤3
structure Cut3 (K:ByteArray) (A M B:List BookRow):Prop where
 a:∀ x ∈ A,cmpR x K < 0
 m:∀ x ∈ M,cmpR x K=0
 b:∀ x ∈ B,0 < cmpR x K
end Go.Proofs.YtpmoioopjbfhkaaGreat

namespace Go.Proofs.YtpmoioopjbfhkaaGreat
open Go.RowKit
structure Fam where
 n:Nat
 u:Nat→ByteArray
 r:Nat→ByteArray
 ok:∀ m,m < n→((keyL (u m) (r m)).toList == (⟨#[]⟩ : ByteArray).toList)=false∧(u m).size≤100∧(r m).size≤100
 mono:∀ i j,i < j→j < n→Lib.compareBytes (keyL (u i) (r i)).data.toList (keyL (u j) (r j)).data.toList < 0
def Fam.key (F:Fam) (m:Nat):ByteArray:=keyL (F.u m) (F.r m)
def preT (has:List PresPres) (m:Nat):PresPres:=has.getD m ⟨false,0,0,0⟩
def onF (has:List PresPres) (m:Nat):Bool:=(preT has m).On
def rowT (F:Fam) (has:List PresPres) (m:Nat):BookRow:=⟨F.u m,F.r m,preT has m⟩
def tabA (F:Fam) (has:List PresPres) (l:List Nat):List BookRow:=(l.filter (onF has)).map (rowT F has)
def tabR (F:Fam) (has:List PresPres):List BookRow:=tabA F has (List.range F.n)
structure TabOK (F:Fam) (seq:Int) (has:List PresPres):Prop where
 len:has.length=F.n
 seq0:0≤seq
 pres:∀ m,m < F.n→onF has m=true→presCheckL (preT has m)=0
 rng:∀ m,m < F.n→onF has m=true→1≤(preT has m).Seq∧(preT has m).Seq≤seq
 diff:∀ i j,i < j→j < F.n→onF has i=true→onF has j=true→(preT has i).Seq≠(preT has j).Seq
 cnt:(tabR F has).length≤16
 many:∀ m,m < F.n→onF has m=true→manyL (tabR F has) (F.u m)≤3
end Go.Proofs.YtpmoioopjbfhkaaGreat

namespace Go.Proofs.YtpmoioopjbfhkaaGreat
open Go.RowKit
end Go.Proofs.YtpmoioopjbfhkaaGreat

namespace Go.Proofs.YtpmoioopjbfhkaaGreat
open Go.RowKit
theorem named_p {u r:ByteArray} (hu:u.size≤100000) (hr:r.size≤100000):p_pres_named u r=some (namedL u r):=by
 unfold p_pres_named p_addr_Resource p_addr_IsBare namedL
 rw [if_pos hr,if_pos hu]
 by_cases h:resL r.data.toList=0
 ·simp [h]
 ·have e:(resL r.data.toList == 0)=false:=by simpa using h
  simp [h,e]
theorem key_p {u r:ByteArray} (hu:u.size≤100000) (hr:r.size≤100000):p_pres_Key u r=some (keyL u r):=by
 unfold p_pres_Key cat? keyL
 rw [named_p hu hr]
 obtain ⟨h1,h2⟩:=cat_sz u r hu hr
 cases namedL u r
 ·rfl
 ·simp only [Option.bind_some,cond_true,if_pos h1,if_pos h2,if_true]
theorem in_p (n a b:Int):p_pres_in n a b=some (decide (a≤n) && decide (n≤b)):=by
 unfold p_pres_in
 cases decide (a≤n) <;> rfl
theorem presCheck_p (x:PresPres):p_pres_Check x=some (presCheckL x):=by
 unfold p_pres_Check presCheckL
 simp only [in_p,Option.bind_some]
 cases h1:(decide (0≤x.Show) && decide (x.Show≤4)) with
 | false =>
  have:x.Show < 0∨4 < x.Show:=by simp at h1;omega
  rw [if_pos (by omega)];rfl
 | true =>
  cases h2:(decide (-128≤x.Prio) && decide (x.Prio≤127)) with
  | false =>
   have:x.Prio < -128∨127 < x.Prio:=by simp at h2;omega
   rw [if_pos (by omega)];rfl
  | true =>
   cases h3:(decide (0≤x.Seq) && decide (x.Seq≤1099511627776)) with
   | false =>
    have:x.Seq < 0∨1099511627776 < x.Seq:=by simp at h3;omega
    rw [if_pos (by omega)];rfl
   | true =>
    simp at h1 h2 h3
    rw [if_neg (by omega)]
    cases ho:x.On with
    | true=>simp
    | false =>
     by_cases hs:x.Show=0 <;> by_cases hq:x.Prio=0
     ·simp [hs,hq]
     ·have e:(x.Prio == 0)=false:=by simpa using hq
      simp [hs,hq,e]
     ·have e:(x.Show == 0)=false:=by simpa using hs
      simp [hs,hq,e]
     ·have e:(x.Show == 0)=false:=by simpa using hs
      simp [hs,hq,e]
end Go.Proofs.YtpmoioopjbfhkaaGreat

namespace Go.Proofs.YtpmoioopjbfhkaaGreat
open Go.RowKit
end Go.Proofs.YtpmoioopjbfhkaaGreat

namespace Go.Proofs.YtpmoioopjbfhkaaGreat
open Go.RowKit
end Go.Proofs.YtpmoioopjbfhkaaGreat

namespace Go.Proofs.YtpmoioopjbfhkaaGreat
open Go.RowKit
def cmpB (a b:ByteArray):Int:=Lib.compareBytes a.data.toList b.data.toList
theorem cmpB_self (a:ByteArray):cmpB a a=0:=cmp_refl _
theorem cmpB_eq {a b:ByteArray} (h:cmpB a b=0):a=b:=by
 have h2:a.data.toList=b.data.toList:=cmp_eq0 h
 exact eqT_iff.1 (by rw [tl_data,tl_data,h2];simp)
theorem cmpB_anti (a b:ByteArray):cmpB b a=- cmpB a b:=cmp_anti _ _
theorem cmpB_trans {a b c:ByteArray} (h:cmpB a b < 0) (h2:cmpB b c < 0):cmpB a c < 0:=cmp_trans h h2
section
variable {α : Type} (nm : α → ByteArray)
def Srt (l:List α):Prop:=l.Pairwise fun x y=>cmpB (nm x) (nm y) < 0
def posK (l:List α) (k:ByteArray):Nat:=l.findIdx fun x=>decide (0≤cmpB (nm x) k)
def hasK (l:List α) (k:ByteArray):Bool:=match l[posK nm l k]? with
 | some x=>cmpB (nm x) k == 0
 | none=>false
def inK (l:List α) (x:α):List α :=
 if hasK nm l (nm x)=true then l.set (posK nm l (nm x)) x else if l.length < 64 then l.take (posK nm l (nm x))++x :: l.drop (posK nm l (nm x)) else l
variable {nm}
theorem srt_at {l:List α} (hs:Srt nm l) {i j:Nat} (hj:j < l.length) (hi:i < j):cmpB (nm l[i]) (nm l[j]) < 0:=List.pairwise_iff_getElem.1 hs i j (by omega) hj hi
theorem pos_le (l:List α) (k:ByteArray):posK nm l k≤l.length:=List.findIdx_le_length
theorem pos_lt {l:List α} {k:ByteArray} {i:Nat} (h:i < l.length) (hi:i < posK nm l k):cmpB (nm l[i]) k < 0:=by
 have:=List.not_of_lt_findIdx hi
 simp at this;omega
theorem pos_ge {l:List α} (hs:Srt nm l) {k:ByteArray} {i:Nat} (h:i < l.length) (hi:posK nm l k≤i):0≤cmpB (nm l[i]) k:=by
 have hj:posK nm l k < l.length:=by omega
 have h0:0≤cmpB (nm (l[posK nm l k]'hj)) k:=by
  have:=List.findIdx_getElem (p:=fun x:α=>decide (0≤cmpB (nm x) k)) (xs:=l) (w:=hj)
  exact of_decide_eq_true this
 rcases Nat.lt_or_ge (posK nm l k) i with h1 | h1
 ·have h2:=srt_at hs h h1
  rcases Int.lt_or_le (cmpB (nm l[i]) k) 0 with h3 | h3
  ·have:=cmpB_trans h2 h3;omega
  ·exact h3
 ·have:i=posK nm l k:=by omega
  subst this;exact h0
theorem has_yes {l:List α} {k:ByteArray} (h:hasK nm l k=true):∃ hj:posK nm l k < l.length,nm l[posK nm l k]=k:=by
 unfold hasK at h
 rcases Nat.lt_or_ge (posK nm l k) l.length with hj | hj
 ·rw [List.getElem?_eq_getElem hj] at h
  exact ⟨hj,cmpB_eq (by simpa using h)⟩
 ·rw [List.getElem?_eq_none hj] at h;cases h
theorem has_no {l:List α} (hs:Srt nm l) {k:ByteArray} (h:hasK nm l k=false) {i:Nat} (hi:i < l.length) (h1:posK nm l k≤i):0 < cmpB (nm l[i]) k:=by
 have hj:posK nm l k < l.length:=by omega
 unfold hasK at h
 rw [List.getElem?_eq_getElem hj] at h
 have h0:cmpB (nm l[posK nm l k]) k≠0:=by simpa using h
 have h2:=pos_ge hs hj (Nat.le_refl _)
 rcases Nat.lt_or_ge (posK nm l k) i with h3 | h3
 ·have h4:=srt_at hs hi h3
  have h5:=cmpB_anti (nm l[posK nm l k]) k
  have h6:cmpB k (nm l[posK nm l k]) < 0:=by omega
  have h7:=cmpB_trans h6 h4
  have h8:=cmpB_anti k (nm l[i])
  omega
 ·have:i=posK nm l k:=by omega
  subst this;omega
theorem put_cut {l:List α} (hs:Srt nm l) (x:α) (hr:l.length < 64):∃ A C,inK nm l x=A++x :: C∧(∀ a ∈ A,cmpB (nm a) (nm x) < 0)∧(∀ c ∈ C,cmpB (nm x) (nm c) < 0)∧(A++C).Sublist l∧(∀ y ∈ l,nm y≠nm x→y ∈ A∨y ∈ C):=by
 have hA:∀ a ∈ l.take (posK nm l (nm x)),cmpB (nm a) (nm x) < 0:=fun a ha=>by
  obtain ⟨i,hi,rfl⟩:=List.getElem_of_mem ha
  rw [List.getElem_take]
  rw [List.length_take] at hi
  exact pos_lt _ (by omega)
 have hsplit:∀ y ∈ l,y ∈ l.take (posK nm l (nm x))∨y ∈ l.drop (posK nm l (nm x)):=fun y hy=>by
  rw [← List.take_append_drop (posK nm l (nm x)) l] at hy
  exact List.mem_append.1 hy
 cases h:hasK nm l (nm x) with
 | true =>
  obtain ⟨hj,hk⟩:=has_yes h
  refine ⟨l.take (posK nm l (nm x)),l.drop (posK nm l (nm x) + 1),?_,hA,fun c hc=>?_,?_,fun y hy hn=>?_⟩
  ·unfold inK;rw [if_pos h,List.set_eq_take_append_cons_drop,if_pos hj]
  ·obtain ⟨i,hi,rfl⟩:=List.getElem_of_mem hc
   rw [List.length_drop] at hi
   rw [List.getElem_drop]
   have:=srt_at hs (show posK nm l (nm x) + 1 + i < l.length by omega) (show posK nm l (nm x) < posK nm l (nm x) + 1 + i by omega)
   rw [hk] at this;exact this
  ·have e:=List.take_append_drop (posK nm l (nm x)) l
   rw [drop_at hj] at e
   conv=>rhs;rw [← e]
   exact List.Sublist.append (List.Sublist.refl _) (List.sublist_cons_self _ _)
  ·rcases hsplit y hy with h1 | h1
   ·exact .inl h1
   ·rw [drop_at hj] at h1
    rcases List.mem_cons.1 h1 with h2 | h2
    ·subst h2;exact absurd hk hn
    ·exact .inr h2
 | false =>
  refine ⟨l.take (posK nm l (nm x)),l.drop (posK nm l (nm x)),?_,hA,fun c hc=>?_,?_,fun y hy _=>hsplit y hy⟩
  ·unfold inK;rw [if_neg (by simp [h]),if_pos hr]
  ·obtain ⟨i,hi,rfl⟩:=List.getElem_of_mem hc
   rw [List.length_drop] at hi
   rw [List.getElem_drop]
   have:=has_no hs h (show posK nm l (nm x) + i < l.length by omega) (by omega)
   have h2:=cmpB_anti (nm l[posK nm l (nm x) + i]) (nm x)
   omega
  ·rw [List.take_append_drop]
   exact List.Sublist.refl _
theorem put_srt {l:List α} (hs:Srt nm l) (x:α) (hr:l.length < 64):Srt nm (inK nm l x):=by
 obtain ⟨A,C,e,h1,h2,h3,_⟩:=put_cut hs x hr
 have h4:=List.Pairwise.sublist h3 hs
 rw [List.pairwise_append] at h4
 unfold Srt
 rw [e,List.pairwise_append,List.pairwise_cons]
 refine ⟨h4.1,⟨h2,h4.2.1⟩,fun a ha b hb=>?_⟩
 rcases List.mem_cons.1 hb with h5 | h5
 ·subst h5;exact h1 a ha
 ·exact h4.2.2 a ha b h5
theorem put_mem {l:List α} (hs:Srt nm l) (x:α) (hr:l.length < 64) (y:α):y ∈ inK nm l x ↔ y=x∨(y ∈ l∧nm y≠nm x):=by
 obtain ⟨A,C,e,h1,h2,h3,h5⟩:=put_cut hs x hr
 rw [e,List.mem_append,List.mem_cons]
 constructor
 ·rintro (h | h | h)
  ·refine .inr ⟨h3.subset (List.mem_append_left _ h),fun hn=>?_⟩
   have:=h1 y h
   rw [hn,cmpB_self] at this;omega
  ·exact .inl h
  ·refine .inr ⟨h3.subset (List.mem_append_right _ h),fun hn=>?_⟩
   have:=h2 y h
   rw [hn,cmpB_self] at this;omega
 ·rintro (h | ⟨h,hn⟩)
  ·exact .inr (.inl h)
  ·rcases h5 y h hn with h6 | h6
   ·exact .inl h6
   ·exact .inr (.inr h6)
theorem put_len {l:List α} (x:α):(inK nm l x).length≤l.length + 1∧(l.length≤64→(inK nm l x).length≤64):=by
 have:=pos_le (nm:=nm) l (nm x)
 unfold inK
 split
 ·simp
 ·split
  ·simp;omega
  ·simp
theorem srt_full {l:List α} (hs:Srt nm l) (x:α):Srt nm (inK nm l x):=by
 rcases Nat.lt_or_ge l.length 64 with h | h
 ·exact put_srt hs x h
 ·cases hk:hasK nm l (nm x) with
  | false=>unfold inK;rw [if_neg (by simp [hk]),if_neg (by omega)];exact hs
  | true =>
   obtain ⟨hj,hn⟩:=has_yes hk
   unfold inK;rw [if_pos hk]
   unfold Srt
   rw [List.pairwise_iff_getElem]
   intro i j hi hj2 hij
   simp only [List.length_set] at hi hj2
   have h0:=srt_at hs hj2 hij
   rw [List.getElem_set,List.getElem_set]
   split
   ·rename_i h1
    subst h1
    split
    ·omega
    ·rw [hn] at h0;exact h0
   ·split
    ·rename_i h1
     subst h1
     rw [hn] at h0;exact h0
    ·exact h0
theorem srt_filter {l:List α} (hs:Srt nm l) (p:α→Bool):Srt nm (l.filter p):=List.Pairwise.filter _ hs
theorem srt_ext:∀ {a b:List α},Srt nm a→Srt nm b→(∀ x,x ∈ a ↔ x ∈ b)→a=b
 | [],b,_,_,h=>by
  cases b with
  | nil=>rfl
  | cons y b=>have:=(h y).2 List.mem_cons_self;cases this
 | x :: a,[],_,_,h=>by have:=(h x).1 List.mem_cons_self;cases this
 | x :: a,y :: b,ha,hb,h=>by
  have ha':=List.pairwise_cons.1 ha
  have hb':=List.pairwise_cons.1 hb
  have hxy:x=y:=by
   rcases List.mem_cons.1 ((h x).1 List.mem_cons_self) with h1 | h1
   ·exact h1
   rcases List.mem_cons.1 ((h y).2 List.mem_cons_self) with h2 | h2
   ·exact h2.symm
   have h3:=ha'.1 y h2
   have h4:=hb'.1 x h1
   have h5:=cmpB_anti (nm x) (nm y)
   omega
  subst hxy
  congr 1
  refine srt_ext ha'.2 hb'.2 fun z=>⟨fun hz=>?_,fun hz=>?_⟩
  ·rcases List.mem_cons.1 ((h z).1 (List.mem_cons_of_mem _ hz)) with h1 | h1
   ·subst h1;have:=ha'.1 z hz;rw [cmpB_self] at this;omega
   ·exact h1
  ·rcases List.mem_cons.1 ((h z).2 (List.mem_cons_of_mem _ hz)) with h1 | h1
   ·subst h1;have:=hb'.1 z hz;rw [cmpB_self] at this;omega
   ·exact h1
theorem srt_inj {l:List α} (hs:Srt nm l) {x y:α} (hx:x ∈ l) (hy:y ∈ l) (h:nm x=nm y):x=y:=by
 obtain ⟨i,hi,rfl⟩:=List.getElem_of_mem hx
 obtain ⟨j,hj,rfl⟩:=List.getElem_of_mem hy
 rcases Nat.lt_trichotomy i j with h1 | h1 | h1
 ·have:=srt_at hs hj h1;rw [h,cmpB_self] at this;omega
 ·subst h1;rfl
 ·have:=srt_at hs hi h1;rw [h,cmpB_self] at this;omega
end
theorem clone_p {α:Type} {l:List α} (h:l.length≤1000):clone? l=some l:=by unfold clone?;rw [if_pos (by omega)]
theorem delF_p {α:Type} {f:α→Option Bool} {p:α→Bool} {l:List α} (hl:l.length≤1000) (h:∀ x ∈ l,f x=some (p x)):delF? f l=some (l.filter fun x=>!p x):=by
 unfold delF?
 rw [if_pos ⟨by omega,List.all_eq_true.2 fun x hx=>by rw [h x hx];rfl⟩]
 congr 1
 refine List.filter_congr fun x hx=>?_
 rw [h x hx];rfl
theorem insAt_p {α:Type} {l:List α} {i:Nat} (x:α) (hl:l.length≤1000) (hi:i≤l.length):insAt? l (i:Int) x=some (l.take i++x :: l.drop i):=by
 unfold insAt?
 rw [if_pos ⟨by omega,by omega,by omega⟩,Int.toNat_natCast]
end Go.Proofs.YtpmoioopjbfhkaaGreat

namespace Go.Proofs.YtpmoioopjbfhkaaGreat
open Go.RowKit
def idB (s:ByteArray):ByteArray:=s
theorem cmp_view_Row (x:MailEntry) (k:ByteArray):p_view_find_view_Row__1 x k (fun x0=>p_view_Row_key x0)=some (cmpB (MailEntry.Key x) k):=rfl
theorem search_view_Row {l:List MailEntry} {key:ByteArray} (hn:l.length≤1000) (hs:Srt MailEntry.Key l):∀ (d i j F:Nat),i + d=j→j≤l.length→i≤posK MailEntry.Key l key→posK MailEntry.Key l key≤j→d < F →
  p_slices_BinarySearchFunc_view_Row_l1 (fun x0 x1=>p_view_find_view_Row__1 x0 x1 (fun x0=>p_view_Row_key x0)) l key F i j=some ((posK MailEntry.Key l key:Int),(posK MailEntry.Key l key:Int)):=by
 intro d
 induction d using Nat.strongRecOn with
 | ind d ih =>
  intro i j F hd hj h1 h2 hF
  obtain ⟨F,rfl⟩ : ∃ G,F=G + 1:=⟨F - 1,by omega⟩
  rw [p_slices_BinarySearchFunc_view_Row_l1]
  rcases Nat.lt_or_ge i j with hij | hij
  ·rw [lt_tt hij,half_p (by omega),w64_succ (show (i + j) / 2≤1000000 by omega)]
   have hm:(i + j) / 2 < l.length:=by omega
   simp only [cond_true,at_lt hm,Option.bind_some,cmp_view_Row]
   rcases Nat.lt_or_ge ((i + j) / 2) (posK MailEntry.Key l key) with hlt | hge
   ·rw [decide_eq_true (pos_lt (nm:=MailEntry.Key) hm hlt),cond_true]
    exact ih (j - ((i + j) / 2 + 1)) (by omega) _ _ F (by omega) hj (by omega) h2 (by omega)
   ·have:=pos_ge hs hm hge
    rw [decide_eq_false (by omega),cond_false]
    exact ih ((i + j) / 2 - i) (by omega) _ _ F (by omega) (by omega) h1 hge (by omega)
  ·rw [lt_ff hij]
   have e1:i=posK MailEntry.Key l key:=by omega
   have e2:j=posK MailEntry.Key l key:=by omega
   rw [e1,e2];rfl
theorem find_view_Row {l:List MailEntry} {key:ByteArray} (hn:l.length≤1000) (hs:Srt MailEntry.Key l):p_view_find_view_Row_ l key (fun x0=>p_view_Row_key x0)=some ((posK MailEntry.Key l key:Int),hasK MailEntry.Key l key):=by
 have hl:=search_view_Row (key:=key) hn hs l.length 0 l.length fuel (by omega) (Nat.le_refl _) (Nat.zero_le _) (pos_le _ _) (by have:=fuel_pos;omega)
 unfold p_view_find_view_Row_ p_slices_BinarySearchFunc_view_Row
 rw [show ((0:Int))=((0:Nat):Int) from rfl,hl]
 simp only [Option.bind_some]
 unfold hasK
 rcases Nat.lt_or_ge (posK MailEntry.Key l key) l.length with h | h
 ·rw [lt_tt h,at_lt h,List.getElem?_eq_getElem h]
  simp only [cond_true,Option.bind_some,cmp_view_Row];rfl
 ·rw [lt_ff h,List.getElem?_eq_none h];rfl
theorem put_view_Row {l:List MailEntry} (hn:l.length≤1000) (hs:Srt MailEntry.Key l) (x:MailEntry):p_view_put_view_Row_ l x (fun x0=>p_view_Row_key x0)=some (inK MailEntry.Key l x):=by
 have hx:(fun x0=>p_view_Row_key x0) x=some (MailEntry.Key x):=rfl
 unfold p_view_put_view_Row_ inK
 rw [hx]
 simp only [Option.bind_some]
 rw [find_view_Row hn hs,clone_p hn]
 simp only [Option.bind_some]
 cases h:hasK MailEntry.Key l (MailEntry.Key x) with
 | true =>
  obtain ⟨hj,_⟩:=has_yes h
  rw [if_pos rfl,at_lt hj]
  simp only [cond_true,Option.bind_some,Int.toNat_natCast]
 | false =>
  rw [if_neg (by simp)]
  simp only [cond_false]
  by_cases h64:l.length < 64
  ·rw [if_pos h64,decide_eq_true (show (l.length:Int) < 64 by omega),insAt_p x hn (pos_le _ _)];rfl
  ·rw [if_neg h64,decide_eq_false (show ¬ (l.length:Int) < 64 by omega)];rfl
theorem rise_view_Row_l {l:List MailEntry} (hn:l.length≤1000) (hs:Srt MailEntry.Key l):∀ (n k F:Nat),k + n=l.length→n < F→1≤k→p_view_rise_view_Row__l1 (fun x0=>p_view_Row_key x0) l F k=some (.inr (l.length:Int))
 | 0,k,F + 1,hk,hF,h1=>by
  have:k=l.length:=by omega
  rw [p_view_rise_view_Row__l1,lt_ff (by omega),this];rfl
 | n + 1,k,F + 1,hk,hF,h1=>by
  have hlt:k < l.length:=by omega
  have hw:w64 ((k:Int) - 1)=((k - 1:Nat):Int):=by rw [w64_id (by omega)];omega
  have h2:k - 1 < l.length:=by omega
  have h3:=srt_at hs hlt (show k - 1 < k by omega)
  have hf:∀ y:MailEntry,p_view_Row_key y=some (MailEntry.Key y):=fun _=>rfl
  rw [p_view_rise_view_Row__l1,lt_tt hlt,hw,at_lt hlt,at_lt h2]
  simp only [cond_true,Option.bind_some,hf]
  rw [cmp_less,tl_data,tl_data,decide_eq_true (show Lib.compareBytes _ _ < 0 from h3),cond_true,w64_succ (by omega)]
  exact rise_view_Row_l hn hs n (k + 1) F (by omega) (by omega) (by omega)
theorem rise_view_Row {l:List MailEntry} (hn:l.length≤1000) (hs:Srt MailEntry.Key l):p_view_rise_view_Row_ l (fun x0=>p_view_Row_key x0)=some true:=by
 unfold p_view_rise_view_Row_
 rcases Nat.eq_zero_or_pos l.length with h | h
 ·obtain ⟨F,hF⟩ : ∃ F,fuel=F + 1:=⟨fuel - 1,by have:=fuel_pos;omega⟩
  rw [hF,p_view_rise_view_Row__l1,decide_eq_false (show ¬ (1:Int) < (l.length:Int) by omega)];rfl
 ·have:=rise_view_Row_l hn hs (l.length - 1) 1 fuel (by omega) (by have:=fuel_pos;omega) (Nat.le_refl _)
  rw [show ((1:Nat):Int)=1 from rfl] at this
  rw [this];rfl
theorem cut_view_Row {l:List MailEntry} (hn:l.length≤1000) (k:ByteArray):p_view_cut_view_Row_ l k (fun x0=>p_view_Row_key x0)=some (l.filter fun x=>!((MailEntry.Key x).toList == k.toList)):=by
 unfold p_view_cut_view_Row_
 rw [clone_p hn]
 simp only [Option.bind_some]
 rw [delF_p (f:=fun x0=>p_view_cut_view_Row__1 x0 (fun x0=>p_view_Row_key x0) k) (p:=fun x=>(MailEntry.Key x).toList == k.toList) hn fun x _=>rfl];rfl
theorem cmp_view_Contact (x:Ref35Contact) (k:ByteArray):p_view_find_view_Contact__1 x k (fun x0=>p_view_Contact_user x0)=some (cmpB (Ref35Contact.User x) k):=rfl
theorem search_view_Contact {l:List Ref35Contact} {key:ByteArray} (hn:l.length≤1000) (hs:Srt Ref35Contact.User l):∀ (d i j F:Nat),i + d=j→j≤l.length→i≤posK Ref35Contact.User l key→posK Ref35Contact.User l key≤j→d < F →
  p_slices_BinarySearchFunc_view_Contact_l1 (fun x0 x1=>p_view_find_view_Contact__1 x0 x1 (fun x0=>p_view_Contact_user x0)) l key F i j=some ((posK Ref35Contact.User l key:Int),(posK Ref35Contact.User l key:Int)):=by
 intro d
 induction d using Nat.strongRecOn with
 | ind d ih =>
  intro i j F hd hj h1 h2 hF
  obtain ⟨F,rfl⟩ : ∃ G,F=G + 1:=⟨F - 1,by omega⟩
  rw [p_slices_BinarySearchFunc_view_Contact_l1]
  rcases Nat.lt_or_ge i j with hij | hij
  ·rw [lt_tt hij,half_p (by omega),w64_succ (show (i + j) / 2≤1000000 by omega)]
   have hm:(i + j) / 2 < l.length:=by omega
   simp only [cond_true,at_lt hm,Option.bind_some,cmp_view_Contact]
   rcases Nat.lt_or_ge ((i + j) / 2) (posK Ref35Contact.User l key) with hlt | hge
   ·rw [decide_eq_true (pos_lt (nm:=Ref35Contact.User) hm hlt),cond_true]
    exact ih (j - ((i + j) / 2 + 1)) (by omega) _ _ F (by omega) hj (by omega) h2 (by omega)
   ·have:=pos_ge hs hm hge
    rw [decide_eq_false (by omega),cond_false]
    exact ih ((i + j) / 2 - i) (by omega) _ _ F (by omega) (by omega) h1 hge (by omega)
  ·rw [lt_ff hij]
   have e1:i=posK Ref35Contact.User l key:=by omega
   have e2:j=posK Ref35Contact.User l key:=by omega
   rw [e1,e2];rfl
theorem find_view_Contact {l:List Ref35Contact} {key:ByteArray} (hn:l.length≤1000) (hs:Srt Ref35Contact.User l):p_view_find_view_Contact_ l key (fun x0=>p_view_Contact_user x0)=some ((posK Ref35Contact.User l key:Int),hasK Ref35Contact.User l key):=by
 have hl:=search_view_Contact (key:=key) hn hs l.length 0 l.length fuel (by omega) (Nat.le_refl _) (Nat.zero_le _) (pos_le _ _) (by have:=fuel_pos;omega)
 unfold p_view_find_view_Contact_ p_slices_BinarySearchFunc_view_Contact
 rw [show ((0:Int))=((0:Nat):Int) from rfl,hl]
 simp only [Option.bind_some]
 unfold hasK
 rcases Nat.lt_or_ge (posK Ref35Contact.User l key) l.length with h | h
 ·rw [lt_tt h,at_lt h,List.getElem?_eq_getElem h]
  simp only [cond_true,Option.bind_some,cmp_view_Contact];rfl
 ·rw [lt_ff h,List.getElem?_eq_none h];rfl
theorem put_view_Contact {l:List Ref35Contact} (hn:l.length≤1000) (hs:Srt Ref35Contact.User l) (x:Ref35Contact):p_view_put_view_Contact_ l x (fun x0=>p_view_Contact_user x0)=some (inK Ref35Contact.User l x):=by
 have hx:(fun x0=>p_view_Contact_user x0) x=some (Ref35Contact.User x):=rfl
 unfold p_view_put_view_Contact_ inK
 rw [hx]
 simp only [Option.bind_some]
 rw [find_view_Contact hn hs,clone_p hn]
 simp only [Option.bind_some]
 cases h:hasK Ref35Contact.User l (Ref35Contact.User x) with
 | true =>
  obtain ⟨hj,_⟩:=has_yes h
  rw [if_pos rfl,at_lt hj]
  simp only [cond_true,Option.bind_some,Int.toNat_natCast]
 | false =>
  rw [if_neg (by simp)]
  simp only [cond_false]
  by_cases h64:l.length < 64
  ·rw [if_pos h64,decide_eq_true (show (l.length:Int) < 64 by omega),insAt_p x hn (pos_le _ _)];rfl
  ·rw [if_neg h64,decide_eq_false (show ¬ (l.length:Int) < 64 by omega)];rfl
theorem rise_view_Contact_l {l:List Ref35Contact} (hn:l.length≤1000) (hs:Srt Ref35Contact.User l):∀ (n k F:Nat),k + n=l.length→n < F→1≤k→p_view_rise_view_Contact__l1 (fun x0=>p_view_Contact_user x0) l F k=some (.inr (l.length:Int))
 | 0,k,F + 1,hk,hF,h1=>by
  have:k=l.length:=by omega
  rw [p_view_rise_view_Contact__l1,lt_ff (by omega),this];rfl
 | n + 1,k,F + 1,hk,hF,h1=>by
  have hlt:k < l.length:=by omega
  have hw:w64 ((k:Int) - 1)=((k - 1:Nat):Int):=by rw [w64_id (by omega)];omega
  have h2:k - 1 < l.length:=by omega
  have h3:=srt_at hs hlt (show k - 1 < k by omega)
  have hf:∀ y:Ref35Contact,p_view_Contact_user y=some (Ref35Contact.User y):=fun _=>rfl
  rw [p_view_rise_view_Contact__l1,lt_tt hlt,hw,at_lt hlt,at_lt h2]
  simp only [cond_true,Option.bind_some,hf]
  rw [cmp_less,tl_data,tl_data,decide_eq_true (show Lib.compareBytes _ _ < 0 from h3),cond_true,w64_succ (by omega)]
  exact rise_view_Contact_l hn hs n (k + 1) F (by omega) (by omega) (by omega)
theorem rise_view_Contact {l:List Ref35Contact} (hn:l.length≤1000) (hs:Srt Ref35Contact.User l):p_view_rise_view_Contact_ l (fun x0=>p_view_Contact_user x0)=some true:=by
 unfold p_view_rise_view_Contact_
 rcases Nat.eq_zero_or_pos l.length with h | h
 ·obtain ⟨F,hF⟩ : ∃ F,fuel=F + 1:=⟨fuel - 1,by have:=fuel_pos;omega⟩
  rw [hF,p_view_rise_view_Contact__l1,decide_eq_false (show ¬ (1:Int) < (l.length:Int) by omega)];rfl
 ·have:=rise_view_Contact_l hn hs (l.length - 1) 1 fuel (by omega) (by have:=fuel_pos;omega) (Nat.le_refl _)
  rw [show ((1:Nat):Int)=1 from rfl] at this
  rw [this];rfl
theorem cut_view_Contact {l:List Ref35Contact} (hn:l.length≤1000) (k:ByteArray):p_view_cut_view_Contact_ l k (fun x0=>p_view_Contact_user x0)=some (l.filter fun x=>!((Ref35Contact.User x).toList == k.toList)):=by
 unfold p_view_cut_view_Contact_
 rw [clone_p hn]
 simp only [Option.bind_some]
 rw [delF_p (f:=fun x0=>p_view_cut_view_Contact__1 x0 (fun x0=>p_view_Contact_user x0) k) (p:=fun x=>(Ref35Contact.User x).toList == k.toList) hn fun x _=>rfl];rfl
theorem cmp_string (x:ByteArray) (k:ByteArray):p_view_find_string__1 x k (fun x0=>p_view_itself x0)=some (cmpB (idB x) k):=rfl
theorem search_string {l:List ByteArray} {key:ByteArray} (hn:l.length≤1000) (hs:Srt idB l):∀ (d i j F:Nat),i + d=j→j≤l.length→i≤posK idB l key→posK idB l key≤j→d < F →
  p_slices_BinarySearchFunc_string_l1 (fun x0 x1=>p_view_find_string__1 x0 x1 (fun x0=>p_view_itself x0)) l key F i j=some ((posK idB l key:Int),(posK idB l key:Int)):=by
 intro d
 induction d using Nat.strongRecOn with
 | ind d ih =>
  intro i j F hd hj h1 h2 hF
  obtain ⟨F,rfl⟩ : ∃ G,F=G + 1:=⟨F - 1,by omega⟩
  rw [p_slices_BinarySearchFunc_string_l1]
  rcases Nat.lt_or_ge i j with hij | hij
  ·rw [lt_tt hij,half_p (by omega),w64_succ (show (i + j) / 2≤1000000 by omega)]
   have hm:(i + j) / 2 < l.length:=by omega
   simp only [cond_true,at_lt hm,Option.bind_some,cmp_string]
   rcases Nat.lt_or_ge ((i + j) / 2) (posK idB l key) with hlt | hge
   ·rw [decide_eq_true (pos_lt (nm:=idB) hm hlt),cond_true]
    exact ih (j - ((i + j) / 2 + 1)) (by omega) _ _ F (by omega) hj (by omega) h2 (by omega)
   ·have:=pos_ge hs hm hge
    rw [decide_eq_false (by omega),cond_false]
    exact ih ((i + j) / 2 - i) (by omega) _ _ F (by omega) (by omega) h1 hge (by omega)
  ·rw [lt_ff hij]
   have e1:i=posK idB l key:=by omega
   have e2:j=posK idB l key:=by omega
   rw [e1,e2];rfl
theorem find_string {l:List ByteArray} {key:ByteArray} (hn:l.length≤1000) (hs:Srt idB l):p_view_find_string_ l key (fun x0=>p_view_itself x0)=some ((posK idB l key:Int),hasK idB l key):=by
 have hl:=search_string (key:=key) hn hs l.length 0 l.length fuel (by omega) (Nat.le_refl _) (Nat.zero_le _) (pos_le _ _) (by have:=fuel_pos;omega)
 unfold p_view_find_string_ p_slices_BinarySearchFunc_string
 rw [show ((0:Int))=((0:Nat):Int) from rfl,hl]
 simp only [Option.bind_some]
 unfold hasK
 rcases Nat.lt_or_ge (posK idB l key) l.length with h | h
 ·rw [lt_tt h,at_lt h,List.getElem?_eq_getElem h]
  simp only [cond_true,Option.bind_some,cmp_string];rfl
 ·rw [lt_ff h,List.getElem?_eq_none h];rfl
theorem put_string {l:List ByteArray} (hn:l.length≤1000) (hs:Srt idB l) (x:ByteArray):p_view_put_string_ l x (fun x0=>p_view_itself x0)=some (inK idB l x):=by
 have hx:(fun x0=>p_view_itself x0) x=some (idB x):=rfl
 unfold p_view_put_string_ inK
 rw [hx]
 simp only [Option.bind_some]
 rw [find_string hn hs,clone_p hn]
 simp only [Option.bind_some]
 cases h:hasK idB l (idB x) with
 | true =>
  obtain ⟨hj,_⟩:=has_yes h
  rw [if_pos rfl,at_lt hj]
  simp only [cond_true,Option.bind_some,Int.toNat_natCast]
 | false =>
  rw [if_neg (by simp)]
  simp only [cond_false]
  by_cases h64:l.length < 64
  ·rw [if_pos h64,decide_eq_true (show (l.length:Int) < 64 by omega),insAt_p x hn (pos_le _ _)];rfl
  ·rw [if_neg h64,decide_eq_false (show ¬ (l.length:Int) < 64 by omega)];rfl
theorem rise_string_l {l:List ByteArray} (hn:l.length≤1000) (hs:Srt idB l):∀ (n k F:Nat),k + n=l.length→n < F→1≤k→p_view_rise_string__l1 (fun x0=>p_view_itself x0) l F k=some (.inr (l.length:Int))
 | 0,k,F + 1,hk,hF,h1=>by
  have:k=l.length:=by omega
  rw [p_view_rise_string__l1,lt_ff (by omega),this];rfl
 | n + 1,k,F + 1,hk,hF,h1=>by
  have hlt:k < l.length:=by omega
  have hw:w64 ((k:Int) - 1)=((k - 1:Nat):Int):=by rw [w64_id (by omega)];omega
  have h2:k - 1 < l.length:=by omega
  have h3:=srt_at hs hlt (show k - 1 < k by omega)
  have hf:∀ y:ByteArray,p_view_itself y=some (idB y):=fun _=>rfl
  rw [p_view_rise_string__l1,lt_tt hlt,hw,at_lt hlt,at_lt h2]
  simp only [cond_true,Option.bind_some,hf]
  rw [cmp_less,tl_data,tl_data,decide_eq_true (show Lib.compareBytes _ _ < 0 from h3),cond_true,w64_succ (by omega)]
  exact rise_string_l hn hs n (k + 1) F (by omega) (by omega) (by omega)
theorem rise_string {l:List ByteArray} (hn:l.length≤1000) (hs:Srt idB l):p_view_rise_string_ l (fun x0=>p_view_itself x0)=some true:=by
 unfold p_view_rise_string_
 rcases Nat.eq_zero_or_pos l.length with h | h
 ·obtain ⟨F,hF⟩ : ∃ F,fuel=F + 1:=⟨fuel - 1,by have:=fuel_pos;omega⟩
  rw [hF,p_view_rise_string__l1,decide_eq_false (show ¬ (1:Int) < (l.length:Int) by omega)];rfl
 ·have:=rise_string_l hn hs (l.length - 1) 1 fuel (by omega) (by have:=fuel_pos;omega) (Nat.le_refl _)
  rw [show ((1:Nat):Int)=1 from rfl] at this
  rw [this];rfl
end Go.Proofs.YtpmoioopjbfhkaaGreat

namespace Go.Proofs.YtpmoioopjbfhkaaGreat
open Go.RowKit
structure GoodV (n:Nat) (st:Ref35State):Prop where
 rs:Srt MailEntry.Key st.Rows
 ls:Srt MailEntry.Key st.Last
 ss:Srt idB st.Seen
 cs:Srt Ref35Contact.User st.List
 rn:st.Rows.length≤n
 ln:st.Last.length≤n
 sn:st.Seen.length≤n
 cn:st.List.length≤64
 an:st.Anew=false→st.Seen=[]
 o0:0≤st.Odd∧st.Odd≤1099511627776
 t0:0≤st.Told∧st.Told≤1099511627776
theorem vcheck1 {a b c d:Int} (ha:a≤64) (hb:b≤64) (hc:c≤64) (hd:d≤64):p_view_Check_l1 ⟨a,b,c,d⟩ fuel 0=some (.inr 4):=by
 obtain ⟨F,hF⟩ : ∃ F,fuel=F + 5:=⟨fuel - 5,by have:=fuel_pos;omega⟩
 rw [hF]
 have w0:w64 ((0:Int) + 1)=1:=by kernel_rfl
 have w1:w64 ((1:Int) + 1)=2:=by kernel_rfl
 have w2:w64 ((2:Int) + 1)=3:=by kernel_rfl
 have w3:w64 ((3:Int) + 1)=4:=by kernel_rfl
 have e0:at? [a,b,c,d] 0=some a:=rfl
 have e1:at? [a,b,c,d] 1=some b:=rfl
 have e2:at? [a,b,c,d] 2=some c:=rfl
 have e3:at? [a,b,c,d] 3=some d:=rfl
 have d0:decide ((0:Int) < 4)=true:=rfl
 have d1:decide ((1:Int) < 4)=true:=rfl
 have d2:decide ((2:Int) < 4)=true:=rfl
 have d3:decide ((3:Int) < 4)=true:=rfl
 have d4:decide ((4:Int) < 4)=false:=rfl
 rw [p_view_Check_l1];simp only [d0,e0,cond_true,Option.bind_some]
 rw [decide_eq_false (show ¬ (64:Int) < a by omega)];simp only [cond_false,w0]
 rw [p_view_Check_l1];simp only [d1,e1,cond_true,Option.bind_some]
 rw [decide_eq_false (show ¬ (64:Int) < b by omega)];simp only [cond_false,w1]
 rw [p_view_Check_l1];simp only [d2,e2,cond_true,Option.bind_some]
 rw [decide_eq_false (show ¬ (64:Int) < c by omega)];simp only [cond_false,w2]
 rw [p_view_Check_l1];simp only [d3,e3,cond_true,Option.bind_some]
 rw [decide_eq_false (show ¬ (64:Int) < d by omega)];simp only [cond_false,w3]
 rw [p_view_Check_l1];simp only [d4,cond_false]
theorem vcheck2:p_view_Check_l2 ⟨true,true,true,true⟩ fuel 0=some (.inr 4):=by kernel_rfl
theorem vcheck_p {n:Nat} {st:Ref35State} (h:GoodV n st) (hn:n≤64):p_view_Check st=some 0:=by
 have h1:=h.rn;have h2:=h.ln;have h3:=h.sn;have h4:=h.cn
 have o:=h.o0;have t:=h.t0
 unfold p_view_Check
 rw [vcheck1 (by omega) (by omega) (by omega) (by omega)]
 simp only [Option.bind_some]
 rw [rise_view_Row (by omega) h.rs,rise_view_Row (by omega) h.ls,rise_string (by omega) h.ss,rise_view_Contact (by omega) h.cs]
 simp only [Option.bind_some]
 rw [vcheck2]
 simp only [Option.bind_some]
 rw [decide_eq_false (show ¬ st.Odd < 0 by omega),decide_eq_false (show ¬ (1099511627776:Int) < st.Odd by omega),decide_eq_false (show ¬ st.Told < 0 by omega),decide_eq_false (show ¬ (1099511627776:Int) < st.Told by omega)]
 simp only [cond_false]
 cases ha:st.Anew with
 | true=>cases decide ((0:Int) < (st.Seen.length:Int)) <;> rfl
 | false=>rw [h.an ha];rfl
def upV (x:Int):Int:=if (1099511627776:Int) < w64 (x + (1:Int)) then (1099511627776:Int) else w64 (x + (1:Int))
theorem upV_ok {x:Int} (h:0≤x∧x≤1099511627776):x≤upV x∧upV x≤1099511627776:=by
 unfold upV
 rw [w64_id (by omega)]
 split <;> omega
def upT (st:Ref35State):Ref35State:=⟨st.Rows,st.Last,st.Anew,st.Seen,st.List,st.Odd,upV st.Told⟩
theorem GoodV.up {n:Nat} {st:Ref35State} (h:GoodV n st):GoodV n (upT st):=by
 have:=upV_ok h.t0;have:=h.t0
 exact ⟨h.rs,h.ls,h.ss,h.cs,h.rn,h.ln,h.sn,h.cn,h.an,h.o0,by show 0≤upV st.Told∧upV st.Told≤_;omega⟩
theorem GoodV.more {n m:Nat} {st:Ref35State} (h:GoodV n st) (hm:n≤m):GoodV m st :=
 ⟨h.rs,h.ls,h.ss,h.cs,Nat.le_trans h.rn hm,Nat.le_trans h.ln hm,Nat.le_trans h.sn hm,h.cn,h.an,h.o0,h.t0⟩
def doneV (st:Ref35State):Ref35State:=if st.Anew=true then ⟨st.Rows.filter fun x=>hasK idB st.Seen x.Key,st.Last,false,[],st.List,st.Odd,st.Told⟩ else st
theorem done_p {n:Nat} {st:Ref35State} (h:GoodV n st) (hn:n≤64):p_view_State_done st=some (doneV st):=by
 have h1:=h.rn;have h3:=h.sn
 unfold p_view_State_done doneV
 cases ha:st.Anew with
 | false=>rw [if_neg (by simp)];rfl
 | true =>
  rw [if_pos rfl,clone_p (by omega)]
  simp only [cond_true,Option.bind_some]
  rw [delF_p (f:=fun x0=>p_view_State_done_1 x0 st) (p:=fun x=>!hasK idB st.Seen x.Key) (by omega) fun x _=>by
   show p_view_State_done_1 x st=_
   unfold p_view_State_done_1
   rw [find_string (by omega) h.ss];rfl]
  simp only [Option.bind_some,Bool.not_not]
theorem GoodV.done {n:Nat} {st:Ref35State} (h:GoodV n st):GoodV n (doneV st):=by
 unfold doneV
 split
 ·exact ⟨srt_filter h.rs _,h.ls,List.Pairwise.nil,h.cs,Nat.le_trans (List.length_filter_le _ _) h.rn,h.ln,Nat.zero_le _,h.cn,fun _=>rfl,h.o0,h.t0⟩
 ·exact h
def oddV (st:Ref35State) (k:ByteArray) (p:PresPres):Int :=
 if hasK MailEntry.Key st.Last k=true then match st.Last[posK MailEntry.Key st.Last k]? with
  | some y=>if p.Seq < y.P.Seq∨(y.P.Seq=p.Seq∧st.Anew=false) then upV st.Odd else st.Odd
  | none=>st.Odd
 else st.Odd
def rowV (st:Ref35State) (k:ByteArray) (p:PresPres):Ref35State :=
 ⟨if p.On=true then inK MailEntry.Key st.Rows ⟨k,p⟩ else st.Rows.filter fun x=>!(x.Key.toList == k.toList),inK MailEntry.Key st.Last ⟨k,p⟩,st.Anew,if st.Anew=true then inK idB st.Seen k else st.Seen,st.List,oddV st k p,st.Told⟩
theorem row_p {n:Nat} {st:Ref35State} (h:GoodV n st) (hn:n≤64) {s:StanzaStanza} {u r:ByteArray} {p:PresPres} (ho:p_pres_Of s=some (u,r,p,0)) (hu:u.size≤100000) (hr:r.size≤100000) :
  p_view_State_row st s=some (rowV st (keyL u r) p):=by
 have h1:=h.rn;have h2:=h.ln;have h3:=h.sn
 unfold p_view_State_row
 rw [ho]
 simp only [Option.bind_some,bne_self_eq_false,cond_false]
 rw [key_p hu hr]
 simp only [Option.bind_some]
 generalize keyL u r=k
 rw [find_view_Row (by omega) h.ls]
 have e1:=put_view_Row (show st.Last.length≤1000 by omega) h.ls ⟨k,p⟩
 have e2:=put_view_Row (show st.Rows.length≤1000 by omega) h.rs ⟨k,p⟩
 have e3:=cut_view_Row (show st.Rows.length≤1000 by omega) k
 have e4:=put_string (show st.Seen.length≤1000 by omega) h.ss k
 simp only [e1,e2,e3,e4,Option.bind_some]
 unfold rowV oddV
 cases hk:hasK MailEntry.Key st.Last k with
 | false=>cases p.On <;> cases st.Anew <;> simp
 | true =>
  obtain ⟨hj,_⟩:=has_yes hk
  rw [at_lt hj,List.getElem?_eq_getElem hj]
  generalize st.Last[posK MailEntry.Key st.Last k]=y
  simp only [cond_true,Option.bind_some,p_pres_Newer]
  by_cases q1:p.Seq < y.P.Seq
  ·rw [decide_eq_true q1]
   cases p.On <;> cases st.Anew <;> simp [q1,upV]
  ·rw [decide_eq_false q1]
   by_cases q2:y.P.Seq=p.Seq
   ·have hq:(y.P.Seq == p.Seq)=true:=by simpa using q2
    rw [hq]
    cases p.On <;> cases st.Anew <;> simp [q2,upV]
   ·have hq:(y.P.Seq == p.Seq)=false:=by simpa using q2
    rw [hq]
    cases p.On <;> cases st.Anew <;> simp [q1,q2]
theorem odd_ok {n:Nat} {st:Ref35State} (h:GoodV n st) (k:ByteArray) (p:PresPres):st.Odd≤oddV st k p∧oddV st k p≤1099511627776:=by
 have:=upV_ok h.o0;have:=h.o0
 unfold oddV
 split
 ·split
  ·split <;> omega
  ·omega
 ·omega
theorem GoodV.row {n:Nat} {st:Ref35State} (h:GoodV n st) (k:ByteArray) (p:PresPres):GoodV (n + 1) (rowV st k p):=by
 have h1:=h.rn;have h2:=h.ln;have h3:=h.sn
 have ho:=odd_ok h k p;have:=h.o0
 have q:=put_len (nm:=MailEntry.Key) (l:=st.Last) ⟨k,p⟩
 refine ⟨?_,srt_full h.ls _,?_,h.cs,?_,by show (inK MailEntry.Key st.Last ⟨k,p⟩).length≤n + 1;omega,?_,h.cn,fun ha=>?_,by show 0≤oddV st k p∧oddV st k p≤_;omega,h.t0⟩
 ·show Srt MailEntry.Key (if p.On=true then _ else _)
  split
  ·exact srt_full h.rs _
  ·exact srt_filter h.rs _
 ·show Srt idB (if st.Anew=true then _ else _)
  split
  ·exact srt_full h.ss _
  ·exact h.ss
 ·show (if p.On=true then inK MailEntry.Key st.Rows ⟨k,p⟩ else st.Rows.filter fun x=>!(x.Key.toList == k.toList)).length≤n + 1
  split
  ·have q:=put_len (nm:=MailEntry.Key) (l:=st.Rows) ⟨k,p⟩;omega
  ·have:=List.length_filter_le (fun x:MailEntry=>!(x.Key.toList == k.toList)) st.Rows;omega
 ·show (if st.Anew=true then inK idB st.Seen k else st.Seen).length≤n + 1
  split
  ·have q:=put_len (nm:=idB) (l:=st.Seen) k;omega
  ·omega
 ·have ha' : st.Anew=false:=ha
  show (if st.Anew=true then inK idB st.Seen k else st.Seen)=[]
  rw [if_neg (by simp [ha']),h.an ha']
theorem tell_0 {n : Nat} {st : Ref35State} (h : GoodV n st) (hn : n ≤ 64) (s : StanzaStanza) : p_view_Tell st s =
    (bif s.Kind == 36 then some ⟨st.Rows, st.Last, true, [], st.List, st.Odd, upV st.Told⟩ else
     bif s.Kind == 37 then some (doneV (upT st)) else
     bif s.Kind == 34 then p_view_State_row (upT st) s else
     bif s.Kind == 35 then p_view_State_row (upT st) s else
     bif s.Kind == 38 then some ⟨st.Rows, st.Last, st.Anew, st.Seen, inK Ref35Contact.User st.List ⟨s.User, s.Name, s.Show, s.N⟩, st.Odd, upV st.Told⟩ else
     bif s.Kind == 39 then some ⟨st.Rows, st.Last, st.Anew, st.Seen, st.List.filter fun x => !(x.User.toList == s.User.toList), st.Odd, upV st.Told⟩ else some (upT st)) := by
  have h4 := h.cn
  unfold p_view_Tell
  rw [vcheck_p h hn]
  simp only [Option.bind_some, bne_self_eq_false, cond_false]
  rw [put_view_Contact (by omega) h.cs, cut_view_Contact (by omega)]
  have hd := done_p h.up hn
  unfold upT upV at hd
  rw [hd]
  unfold upT upV
  simp only [Option.bind_some]
  cases s.Kind == 36 <;> cases s.Kind == 37 <;> cases s.Kind == 34 <;> cases s.Kind == 35 <;> cases s.Kind == 38 <;> cases s.Kind == 39 <;> simp
end Go.Proofs.YtpmoioopjbfhkaaGreat

namespace Go.Proofs.YtpmoioopjbfhkaaGreat
open Go.RowKit
theorem rnamed_p {u r:ByteArray} (hu:u.size≤100000) (hr:r.size≤100000):p_ref23_named u r=some (namedL u r):=by
 unfold p_ref23_named p_ref09_Resource p_ref09_IsBare namedL
 rw [if_pos hr,if_pos hu]
 by_cases h:resL r.data.toList=0
 ·cases isBareL u.data.toList <;> simp [h]
 ·have e:(resL r.data.toList == 0)=false:=by simpa using h
  cases isBareL u.data.toList <;> simp [h,e]
theorem rkey_p {u r:ByteArray} (hu:u.size≤100000) (hr:r.size≤100000):p_ref23_Key u r=some (keyL u r):=by
 unfold p_ref23_Key cat? keyL
 rw [rnamed_p hu hr]
 obtain ⟨h1,h2⟩:=cat_sz u r hu hr
 cases namedL u r
 ·rfl
 ·simp only [Option.bind_some,cond_true,if_pos h1,if_pos h2,if_true]
theorem rpresCheck_p (x:PresPres):p_ref23_Check x=some (presCheckL x):=by
 unfold p_ref23_Check presCheckL
 by_cases h1:x.Show < 0
 ·rw [decide_eq_true h1,if_pos (by omega)];rfl
 rw [decide_eq_false h1]
 by_cases h2:4 < x.Show
 ·rw [decide_eq_true h2,if_pos (by omega)];rfl
 rw [decide_eq_false h2]
 by_cases h3:x.Prio < -128
 ·rw [decide_eq_true h3,if_pos (by omega)];rfl
 rw [decide_eq_false h3]
 by_cases h4:127 < x.Prio
 ·rw [decide_eq_true h4,if_pos (by omega)];rfl
 rw [decide_eq_false h4]
 by_cases h5:x.Seq < 0
 ·rw [decide_eq_true h5,if_pos (by omega)];rfl
 rw [decide_eq_false h5]
 by_cases h6:1099511627776 < x.Seq
 ·rw [decide_eq_true h6,if_pos (by omega)];rfl
 rw [decide_eq_false h6,if_neg (by omega)]
 cases ho:x.On with
 | true=>simp
 | false =>
  by_cases h7:x.Show=0
  ·by_cases h8:x.Prio=0
   ·simp [h7,h8]
   ·have:(x.Prio != 0)=true:=by simpa using h8
    simp [h7,h8,this]
  ·have:(x.Show != 0)=true:=by simpa using h7
   simp [h7,this]
end Go.Proofs.YtpmoioopjbfhkaaGreat

namespace Go.Proofs.YtpmoioopjbfhkaaGreat
open Go.RowKit
theorem aw35:p_law35_awake=some true:=by kernel_rfl
theorem of_any (s:StanzaStanza) (hk:s.Kind=34∨s.Kind=35) (hu:s.User.size≤100) (hr:s.Res.size≤100) (hm:s.Name.size≤100):∃ u r p e,p_pres_Of s=some (u,r,p,e)∧(e=0→u=s.User∧r=s.Res):=by
 obtain ⟨c,hc⟩ : ∃ c,p_stanza_Check s=some c:=⟨_,if_pos ⟨by omega,by omega,by omega,by omega⟩⟩
 unfold p_pres_Of
 rcases hk with hk | hk
 ·have k1:(s.Kind != 34)=false:=by rw [hk];rfl
  rw [k1,hc]
  simp only [cond_false,Option.bind_some]
  by_cases h0:c=0
  ·rw [h0,presCheck_p]
   simp only [bne_self_eq_false,cond_false,Option.bind_some]
   by_cases h1:presCheckL ⟨s.Kind == 34,s.Show,s.Prio,s.N⟩=0
   ·rw [h1];exact ⟨_,_,_,_,rfl,fun _=>⟨rfl,rfl⟩⟩
   ·have h2:(presCheckL ⟨s.Kind == 34,s.Show,s.Prio,s.N⟩ != 0)=true:=by simpa using h1
    rw [h2];exact ⟨_,_,_,_,rfl,fun h=>absurd h h1⟩
  ·have h2:(c != 0)=true:=by simpa using h0
   rw [h2];exact ⟨_,_,_,_,rfl,fun h=>absurd h h0⟩
 ·have k1:(s.Kind != 34)=true:=by rw [hk];rfl
  have k2:(s.Kind != 35)=false:=by rw [hk];rfl
  rw [k1,k2,hc]
  simp only [cond_false,cond_true,Option.bind_some]
  by_cases h0:c=0
  ·rw [h0,presCheck_p]
   simp only [bne_self_eq_false,cond_false,Option.bind_some]
   by_cases h1:presCheckL ⟨s.Kind == 34,s.Show,s.Prio,s.N⟩=0
   ·rw [h1];exact ⟨_,_,_,_,rfl,fun _=>⟨rfl,rfl⟩⟩
   ·have h2:(presCheckL ⟨s.Kind == 34,s.Show,s.Prio,s.N⟩ != 0)=true:=by simpa using h1
    rw [h2];exact ⟨_,_,_,_,rfl,fun h=>absurd h h1⟩
  ·have h2:(c != 0)=true:=by simpa using h0
   rw [h2];exact ⟨_,_,_,_,rfl,fun h=>absurd h h0⟩
theorem row_bad {st:Ref35State} {s:StanzaStanza} {u r:ByteArray} {p:PresPres} {e:Int} (ho:p_pres_Of s=some (u,r,p,e)) (he:e≠0):p_view_State_row st s=some st:=by
 have h2:(e != 0)=true:=by simpa using he
 unfold p_view_State_row
 rw [ho]
 simp only [Option.bind_some,h2,cond_true]
theorem row_any {n:Nat} {st:Ref35State} (h:GoodV n st) (hn:n≤64) (s:StanzaStanza) (hk:s.Kind=34∨s.Kind=35) (hu:s.User.size≤100) (hr:s.Res.size≤100) (hm:s.Name.size≤100) :
  ∃ st',p_view_State_row st s=some st'∧GoodV (n + 1) st'∧st'.Told=st.Told∧st.Odd≤st'.Odd:=by
 obtain ⟨u,r,p,e,ho,he⟩:=of_any s hk hu hr hm
 by_cases h0:e=0
 ·subst h0
  obtain ⟨rfl,rfl⟩:=he rfl
  exact ⟨_,row_p h hn ho (by omega) (by omega),h.row _ _,rfl,(odd_ok h _ _).1⟩
 ·exact ⟨_,row_bad ho h0,h.more (Nat.le_succ n),rfl,Int.le_refl _⟩
theorem tell_any {n:Nat} {st:Ref35State} (h:GoodV n st) (hn:n≤64) (s:StanzaStanza) (hu:s.User.size≤100) (hr:s.Res.size≤100) (hm:s.Name.size≤100) :
  ∃ st',p_view_Tell st s=some st'∧GoodV (n + 1) st'∧st.Told≤st'.Told∧st.Odd≤st'.Odd:=by
 have ut:=upV_ok h.t0
 have g:=h.up.more (Nat.le_succ n)
 rw [tell_0 h hn]
 cases k36:s.Kind == 36 with
 | true=>exact ⟨_,rfl,⟨g.rs,g.ls,List.Pairwise.nil,g.cs,g.rn,g.ln,Nat.zero_le _,g.cn,fun _=>rfl,g.o0,g.t0⟩,ut.1,Int.le_refl _⟩
 | false =>
 cases k37:s.Kind == 37 with
 | true =>
  refine ⟨_,rfl,g.done,?_,?_⟩
  ·have:(doneV (upT st)).Told=upV st.Told:=by unfold doneV;split <;> rfl
   rw [this];exact ut.1
  ·have:(doneV (upT st)).Odd=st.Odd:=by unfold doneV;split <;> rfl
   rw [this];exact Int.le_refl _
 | false =>
 cases k34:s.Kind == 34 with
 | true =>
  obtain ⟨st',e,g2,t2,o2⟩:=row_any h.up hn s (.inl (by simpa using k34)) hu hr hm
  exact ⟨st',e,g2,by rw [t2];exact ut.1,o2⟩
 | false =>
 cases k35:s.Kind == 35 with
 | true =>
  obtain ⟨st',e,g2,t2,o2⟩:=row_any h.up hn s (.inr (by simpa using k35)) hu hr hm
  exact ⟨st',e,g2,by rw [t2];exact ut.1,o2⟩
 | false =>
 cases k38:s.Kind == 38 with
 | true=>exact ⟨_,rfl,⟨g.rs,g.ls,g.ss,srt_full g.cs _,g.rn,g.ln,g.sn,(put_len _).2 g.cn,g.an,g.o0,g.t0⟩,ut.1,Int.le_refl _⟩
 | false =>
 cases k39:s.Kind == 39 with
 | true=>exact ⟨_,rfl,⟨g.rs,g.ls,g.ss,srt_filter g.cs _,g.rn,g.ln,g.sn,Nat.le_trans (List.length_filter_le _ _) g.cn,g.an,g.o0,g.t0⟩,ut.1,Int.le_refl _⟩
 | false=>exact ⟨_,rfl,g,ut.1,Int.le_refl _⟩
end Go.Proofs.YtpmoioopjbfhkaaGreat

namespace Go.Proofs.YtpmoioopjbfhkaaGreat
open Go.RowKit
def ent (x:BookRow):MailEntry:=⟨keyR x,x.P⟩
structure RowsOK (rows:List BookRow):Prop where
 small:smallB rows
 chk:∀ x ∈ rows,presCheckL x.P=0∧x.P.On=true∧namedL x.User x.Res=true
 ord:sortedR rows
 len:rows.length≤16
theorem has_iff {α:Type} {nm:α→ByteArray} {l:List α} (hs:Srt nm l) (k:ByteArray):hasK nm l k=true ↔ ∃ y ∈ l,nm y=k:=by
 constructor
 ·intro h
  obtain ⟨hj,hk⟩:=has_yes h
  exact ⟨_,List.getElem_mem hj,hk⟩
 ·rintro ⟨y,hy,hk⟩
  cases h:hasK nm l k with
  | true=>rfl
  | false =>
   obtain ⟨i,hi,rfl⟩:=List.getElem_of_mem hy
   rcases Nat.lt_or_ge i (posK nm l k) with h1 | h1
   ·have:=pos_lt hi h1;rw [hk,cmpB_self] at this;omega
   ·have:=has_no hs h hi h1;rw [hk,cmpB_self] at this;omega
structure SnapV (rows:List BookRow) (n j:Nat) (st0 st:Ref35State):Prop where
 good:GoodV (n + j) st
 anew:st.Anew=true
 seen:∀ k,k ∈ st.Seen ↔ ∃ x ∈ rows.take j,k=keyR x
 rws:∀ x ∈ rows.take j,ent x ∈ st.Rows
 last:(∀ y ∈ st0.Last,∃ x ∈ rows,y=ent x)→(∀ y ∈ st.Last,∃ x ∈ rows,y=ent x)∧st.Odd=st0.Odd
def anewV (st:Ref35State):Ref35State:=⟨st.Rows,st.Last,true,[],st.List,st.Odd,upV st.Told⟩
theorem GoodV.anew {n:Nat} {st:Ref35State} (h:GoodV n st):GoodV n (anewV st):=by
 have g:=h.up
 exact ⟨g.rs,g.ls,List.Pairwise.nil,g.cs,g.rn,g.ln,Nat.zero_le _,g.cn,fun _=>rfl,g.o0,g.t0⟩
theorem good_0:GoodV 0 ⟨[],[],false,[],[],0,0⟩:=⟨List.Pairwise.nil,List.Pairwise.nil,List.Pairwise.nil,List.Pairwise.nil,Nat.zero_le _,Nat.zero_le _,Nat.zero_le _,Nat.zero_le _,fun _=>rfl,by decide,by decide⟩
end Go.Proofs.YtpmoioopjbfhkaaGreat

namespace Go.Proofs.YtpmoioopjbfhkaaGreat
open Go.RowKit
theorem rising_l {l:List MailEntry} (hn:l.length≤1000) (hs:Srt MailEntry.Key l):∀ (n k F:Nat),k + n=l.length→n < F→1≤k→p_ref35_rising_l1 l F k=some (.inr (l.length:Int))
 | 0,k,F + 1,hk,hF,h1=>by
  have:k=l.length:=by omega
  rw [p_ref35_rising_l1,lt_ff (by omega),this];rfl
 | n + 1,k,F + 1,hk,hF,h1=>by
  have hlt:k < l.length:=by omega
  have hw:w64 ((k:Int) - 1)=((k - 1:Nat):Int):=by rw [w64_id (by omega)];omega
  have h2:k - 1 < l.length:=by omega
  have h3:=srt_at hs hlt (show k - 1 < k by omega)
  rw [p_ref35_rising_l1,lt_tt hlt,hw,at_lt hlt,at_lt h2]
  simp only [cond_true,Option.bind_some]
  rw [cmp_less,tl_data,tl_data,decide_eq_true (show Lib.compareBytes _ _ < 0 from h3),cond_true,w64_succ (by omega)]
  exact rising_l hn hs n (k + 1) F (by omega) (by omega) (by omega)
theorem rising_p {l:List MailEntry} (hn:l.length≤1000) (hs:Srt MailEntry.Key l):p_ref35_rising l=some true:=by
 unfold p_ref35_rising
 rcases Nat.eq_zero_or_pos l.length with h | h
 ·obtain ⟨F,hF⟩ : ∃ F,fuel=F + 1:=⟨fuel - 1,by have:=fuel_pos;omega⟩
  rw [hF,p_ref35_rising_l1,decide_eq_false (show ¬ (1:Int) < (l.length:Int) by omega)];rfl
 ·have:=rising_l hn hs (l.length - 1) 1 fuel (by omega) (by have:=fuel_pos;omega) (Nat.le_refl _)
  rw [show ((1:Nat):Int)=1 from rfl] at this
  rw [this];rfl
theorem rc1_l {st:Ref35State} (hn:st.Seen.length≤1000) (hs:Srt idB st.Seen):∀ (n k F:Nat),k + n=st.Seen.length→n < F→1≤k→∃ z,p_ref35_Check_l1 st F true k=some (true,z)
 | 0,k,F + 1,hk,hF,h1=>by
  rw [p_ref35_Check_l1,lt_ff (by omega)];exact ⟨_,rfl⟩
 | n + 1,k,F + 1,hk,hF,h1=>by
  have hlt:k < st.Seen.length:=by omega
  have hw:w64 ((k:Int) - 1)=((k - 1:Nat):Int):=by rw [w64_id (by omega)];omega
  have h2:k - 1 < st.Seen.length:=by omega
  have h3:Lib.compareBytes st.Seen[k - 1].data.toList st.Seen[k].data.toList < 0:=srt_at hs hlt (show k - 1 < k by omega)
  rw [p_ref35_Check_l1,lt_tt hlt,hw,at_lt hlt,at_lt h2]
  simp only [cond_true,Option.bind_some]
  rw [cmp_less,tl_data,tl_data,decide_eq_true h3,w64_succ (by omega)]
  exact rc1_l hn hs n (k + 1) F (by omega) (by omega) (by omega)
theorem rc2_l {st:Ref35State} (hn:st.List.length≤1000) (hs:Srt Ref35Contact.User st.List):∀ (n k F:Nat),k + n=st.List.length→n < F→1≤k→∃ z,p_ref35_Check_l2 st F true k=some (true,z)
 | 0,k,F + 1,hk,hF,h1=>by
  rw [p_ref35_Check_l2,lt_ff (by omega)];exact ⟨_,rfl⟩
 | n + 1,k,F + 1,hk,hF,h1=>by
  have hlt:k < st.List.length:=by omega
  have hw:w64 ((k:Int) - 1)=((k - 1:Nat):Int):=by rw [w64_id (by omega)];omega
  have h2:k - 1 < st.List.length:=by omega
  have h3:=srt_at hs hlt (show k - 1 < k by omega)
  rw [p_ref35_Check_l2,lt_tt hlt,hw,at_lt hlt,at_lt h2]
  simp only [cond_true,Option.bind_some]
  rw [cmp_less,tl_data,tl_data,decide_eq_true (show Lib.compareBytes _ _ < 0 from h3),w64_succ (by omega)]
  exact rc2_l hn hs n (k + 1) F (by omega) (by omega) (by omega)
theorem rcheck35_p {n:Nat} {st:Ref35State} (h:GoodV n st) (hn:n≤64):p_ref35_Check st=some 0:=by
 have h1:=h.rn;have h2:=h.ln;have h3:=h.sn;have h4:=h.cn
 have o:=h.o0;have t:=h.t0
 obtain ⟨F,hF⟩ : ∃ F,fuel=F + 1:=⟨fuel - 1,by have:=fuel_pos;omega⟩
 have z1:((1:Nat):Int)=1:=rfl
 have e1:∃ z,p_ref35_Check_l1 st fuel true 1=some (true,z):=by
  rcases Nat.eq_zero_or_pos st.Seen.length with h | hp
  ·rw [hF,p_ref35_Check_l1,decide_eq_false (show ¬ (1:Int) < (st.Seen.length:Int) by omega)];exact ⟨_,rfl⟩
  ·exact rc1_l (by omega) h.ss (st.Seen.length - 1) 1 fuel (by omega) (by have:=fuel_pos;omega) (Nat.le_refl _)
 have e2:∃ z,p_ref35_Check_l2 st fuel true 1=some (true,z):=by
  rcases Nat.eq_zero_or_pos st.List.length with h | hp
  ·rw [hF,p_ref35_Check_l2,decide_eq_false (show ¬ (1:Int) < (st.List.length:Int) by omega)];exact ⟨_,rfl⟩
  ·exact rc2_l (by omega) h.cs (st.List.length - 1) 1 fuel (by omega) (by have:=fuel_pos;omega) (Nat.le_refl _)
 obtain ⟨a1,e1⟩:=e1
 obtain ⟨a2,e2⟩:=e2
 unfold p_ref35_Check
 rw [decide_eq_false (show ¬ (64:Int) < (st.Rows.length:Int) by omega),decide_eq_false (show ¬ (64:Int) < (st.Last.length:Int) by omega),decide_eq_false (show ¬ (64:Int) < (st.Seen.length:Int) by omega),decide_eq_false (show ¬ (64:Int) < (st.List.length:Int) by omega)]
 simp only [cond_false]
 rw [rising_p (by omega) h.rs,rising_p (by omega) h.ls]
 simp only [Option.bind_some,cond_true]
 rw [e1]
 simp only [Option.bind_some]
 rw [e2]
 simp only [Option.bind_some,cond_true]
 rw [decide_eq_false (show ¬ st.Odd < 0 by omega),decide_eq_false (show ¬ (1099511627776:Int) < st.Odd by omega),decide_eq_false (show ¬ st.Told < 0 by omega),decide_eq_false (show ¬ (1099511627776:Int) < st.Told by omega)]
 cases ha:st.Anew with
 | true=>rfl
 | false=>rw [h.an ha];rfl
theorem seen_l {st:Ref35State} (hn:st.Seen.length≤1000) (s:ByteArray):∀ (n k F:Nat),k + n=st.Seen.length→n < F →
  p_ref35_seen_l1 s st F k=some (if ((st.Seen.drop k).any fun y=>y.toList == s.toList)=true then .inl true else .inr (st.Seen.length:Int))
 | 0,k,F + 1,hk,hF=>by
  have e:st.Seen.drop k=[]:=List.drop_of_length_le (by omega)
  have:k=st.Seen.length:=by omega
  rw [p_ref35_seen_l1,lt_ff (by omega),e,this];rfl
 | n + 1,k,F + 1,hk,hF=>by
  have hlt:k < st.Seen.length:=by omega
  rw [p_ref35_seen_l1,lt_tt hlt,at_lt hlt,drop_at hlt,List.any_cons]
  simp only [cond_true,Option.bind_some]
  cases h:st.Seen[k].toList == s.toList with
  | true=>rfl
  | false =>
   simp only [cond_false,Bool.false_or]
   rw [w64_succ (by omega),seen_l hn s n (k + 1) F (by omega) (by omega)]
theorem any_has {α:Type} {nm:α→ByteArray} {l:List α} (hs:Srt nm l) (k:ByteArray):(l.any fun y=>(nm y).toList == k.toList)=hasK nm l k:=by
 rw [Bool.eq_iff_iff,has_iff hs,List.any_eq_true]
 constructor
 ·rintro ⟨y,hy,h⟩;exact ⟨y,hy,eqT_iff.1 h⟩
 ·rintro ⟨y,hy,h⟩;exact ⟨y,hy,by rw [h];exact eqT_refl _⟩
theorem seen_p {st:Ref35State} (hn:st.Seen.length≤1000) (hs:Srt idB st.Seen) (s:ByteArray):p_ref35_seen st s=some (hasK idB st.Seen s):=by
 unfold p_ref35_seen
 have:=seen_l hn s st.Seen.length 0 fuel (by omega) (by have:=fuel_pos;omega)
 have z0:((0:Nat):Int)=0:=rfl
 rw [z0,List.drop_zero] at this
 rw [this]
 have e:(st.Seen.any fun y=>y.toList == s.toList)=hasK idB st.Seen s:=any_has hs s
 rw [e]
 cases hasK idB st.Seen s <;> rfl
theorem rdone_l {st:Ref35State} (hn:st.Rows.length≤1000) (hm:st.Seen.length≤1000) (hs:Srt idB st.Seen):∀ (n k F:Nat) (acc:List MailEntry),k + n=st.Rows.length→n < F→acc.length≤k →
  p_ref35_done_l1 st F acc k=some (acc++(st.Rows.drop k).filter (fun x=>hasK idB st.Seen x.Key),(st.Rows.length:Int))
 | 0,k,F + 1,acc,hk,hF,ha=>by
  have e0:st.Rows.drop k=[]:=List.drop_of_length_le (by omega)
  have:k=st.Rows.length:=by omega
  rw [p_ref35_done_l1,lt_ff (by omega),e0,this];simp
 | n + 1,k,F + 1,acc,hk,hF,ha=>by
  have hlt:k < st.Rows.length:=by omega
  rw [p_ref35_done_l1,lt_tt hlt,at_lt hlt,drop_at hlt]
  simp only [cond_true,Option.bind_some]
  rw [seen_p hm hs]
  simp only [Option.bind_some]
  cases hv:hasK idB st.Seen st.Rows[k].Key with
  | true =>
   simp only [cond_true]
   rw [app_ok (by simp;omega),w64_succ (by omega)]
   simp only [Option.bind_some]
   rw [rdone_l hn hm hs n (k + 1) F _ (by omega) (by omega) (by simp;omega),List.filter_cons_of_pos (by simp [hv])]
   simp
  | false =>
   simp only [cond_false]
   rw [w64_succ (by omega),rdone_l hn hm hs n (k + 1) F _ (by omega) (by omega) (by omega),List.filter_cons_of_neg (by simp [hv])]
theorem rdone_p {n:Nat} {st:Ref35State} (h:GoodV n st) (hn:n≤64):p_ref35_done st=some (doneV st):=by
 have h1:=h.rn;have h3:=h.sn
 unfold p_ref35_done doneV
 cases ha:st.Anew with
 | false=>rw [if_neg (by simp)];rfl
 | true =>
  have:=rdone_l (st:=st) (by omega) (by omega) h.ss st.Rows.length 0 fuel [] (by omega) (by have:=fuel_pos;omega) (Nat.zero_le _)
  have z0:((0:Nat):Int)=0:=rfl
  rw [z0,List.drop_zero] at this
  rw [if_pos rfl,this];rfl
theorem without_l {l:List MailEntry} (hn:l.length≤1000) (s:ByteArray):∀ (n k F:Nat) (acc:List MailEntry),k + n=l.length→n < F→acc.length≤k →
  p_ref35_without_l1 l s F acc k=some (acc++(l.drop k).filter (fun x=>!(x.Key.toList == s.toList)),(l.length:Int))
 | 0,k,F + 1,acc,hk,hF,ha=>by
  have e0:l.drop k=[]:=List.drop_of_length_le (by omega)
  have:k=l.length:=by omega
  rw [p_ref35_without_l1,lt_ff (by omega),e0,this];simp
 | n + 1,k,F + 1,acc,hk,hF,ha=>by
  have hlt:k < l.length:=by omega
  rw [p_ref35_without_l1,lt_tt hlt,at_lt hlt,drop_at hlt]
  simp only [cond_true,Option.bind_some]
  cases hv:l[k].Key.toList == s.toList with
  | true =>
   simp only [cond_true]
   rw [w64_succ (by omega),without_l hn s n (k + 1) F _ (by omega) (by omega) (by omega),List.filter_cons_of_neg (by simp [hv])]
  | false =>
   simp only [cond_false]
   rw [app_ok (by simp;omega),w64_succ (by omega)]
   simp only [Option.bind_some]
   rw [without_l hn s n (k + 1) F _ (by omega) (by omega) (by simp;omega),List.filter_cons_of_pos (by simp [hv])]
   simp
theorem without_p {l:List MailEntry} (hn:l.length≤1000) (s:ByteArray):p_ref35_without l s=some (l.filter fun x=>!(x.Key.toList == s.toList)):=by
 unfold p_ref35_without
 have:=without_l hn s l.length 0 fuel [] (by omega) (by have:=fuel_pos;omega) (Nat.zero_le _)
 have z0:((0:Nat):Int)=0:=rfl
 rw [z0,List.drop_zero] at this
 rw [this];rfl
theorem find35_l {l:List MailEntry} (hn:l.length≤1000) (s:ByteArray):∀ (n k F:Nat),k + n=l.length→n < F →
  p_ref35_find_l1 l s F k=some (match (l.drop k).find? (fun x=>x.Key.toList == s.toList) with | some x=>.inl (x.P,true) | none=>.inr (l.length:Int))
 | 0,k,F + 1,hk,hF=>by
  have e:l.drop k=[]:=List.drop_of_length_le (by omega)
  have:k=l.length:=by omega
  rw [p_ref35_find_l1,lt_ff (by omega),e,this];rfl
 | n + 1,k,F + 1,hk,hF=>by
  have hlt:k < l.length:=by omega
  rw [p_ref35_find_l1,lt_tt hlt,at_lt hlt,drop_at hlt]
  simp only [cond_true,Option.bind_some]
  cases h:l[k].Key.toList == s.toList with
  | true=>rw [List.find?_cons_of_pos (by simp [h])];rfl
  | false =>
   rw [List.find?_cons_of_neg (by simp [h])]
   simp only [cond_false]
   rw [w64_succ (by omega),find35_l hn s n (k + 1) F (by omega) (by omega)]
def findP (l:List MailEntry) (s:ByteArray):PresPres × Bool:=match l.find? (fun x=>x.Key.toList == s.toList) with
 | some x=>(x.P,true)
 | none=>(⟨false,0,0,0⟩,false)
theorem find35_p {l:List MailEntry} (hn:l.length≤1000) (s:ByteArray):p_ref35_find l s=some (findP l s):=by
 unfold p_ref35_find findP
 have:=find35_l hn s l.length 0 fuel (by omega) (by have:=fuel_pos;omega)
 have z0:((0:Nat):Int)=0:=rfl
 rw [z0,List.drop_zero] at this
 rw [this]
 cases l.find? (fun x=>x.Key.toList == s.toList) <;> rfl
theorem findP_has {l:List MailEntry} (hs:Srt MailEntry.Key l) (s:ByteArray):(findP l s).2=hasK MailEntry.Key l s∧(∀ hj:posK MailEntry.Key l s < l.length,hasK MailEntry.Key l s=true→(findP l s).1=l[posK MailEntry.Key l s].P):=by
 unfold findP
 cases hf:l.find? (fun x=>x.Key.toList == s.toList) with
 | none =>
  have h0:hasK MailEntry.Key l s=false:=by
   cases h:hasK MailEntry.Key l s with
   | false=>rfl
   | true =>
    obtain ⟨y,hy,hk⟩:=(has_iff hs s).1 h
    have:=List.find?_eq_none.1 hf y hy
    rw [hk] at this;simp at this
  exact ⟨h0.symm,fun _ h=>by rw [h0] at h;cases h⟩
 | some x =>
  have hx:=List.mem_of_find?_eq_some hf
  have hk:x.Key=s:=eqT_iff.1 (List.find?_some (p:=fun x:MailEntry=>x.Key.toList == s.toList) hf)
  have h1:hasK MailEntry.Key l s=true:=(has_iff hs s).2 ⟨x,hx,hk⟩
  refine ⟨h1.symm,fun hj h=>?_⟩
  obtain ⟨_,hk2⟩:=has_yes h
  have:=srt_inj hs hx (List.getElem_mem hj) (hk.trans hk2.symm)
  rw [← this]
theorem put_out {α:Type} {nm:α→ByteArray} {l:List α} (hs:Srt nm l) (x:α) (hr:l.length < 64) :
  inK nm (l.filter fun y=>!((nm y).toList == (nm x).toList)) x=inK nm l x:=by
 have hf:=srt_filter hs (fun y=>!((nm y).toList == (nm x).toList))
 have hl:=List.length_filter_le (fun y=>!((nm y).toList == (nm x).toList)) l
 refine srt_ext (nm:=nm) (put_srt hf x (by omega)) (put_srt hs x hr) fun y=>?_
 rw [put_mem hf x (by omega),put_mem hs x hr,List.mem_filter]
 constructor
 ·rintro (h | ⟨h,h2⟩)
  ·exact .inl h
  ·exact .inr ⟨h.1,h2⟩
 ·rintro (h | ⟨h,h2⟩)
  ·exact .inl h
  ·refine .inr ⟨⟨h,?_⟩,h2⟩
   cases he:(nm y).toList == (nm x).toList with
   | false=>rfl
   | true=>exact absurd (eqT_iff.1 he) h2
theorem no_has {α:Type} {nm:α→ByteArray} {l:List α} (hs:Srt nm l) (k:ByteArray):hasK nm (l.filter fun y=>!((nm y).toList == k.toList)) k=false:=by
 cases h:hasK nm (l.filter fun y=>!((nm y).toList == k.toList)) k with
 | false=>rfl
 | true =>
  obtain ⟨y,hy,hk⟩:=(has_iff (srt_filter hs _) k).1 h
  have:=(List.mem_filter.1 hy).2
  rw [hk] at this;simp at this
end Go.Proofs.YtpmoioopjbfhkaaGreat

namespace Go.Proofs.YtpmoioopjbfhkaaGreat
open Go.RowKit
theorem in_no {α:Type} {nm:α→ByteArray} {l:List α} {x:α} (h:hasK nm l (nm x)=false) (hr:l.length < 64):inK nm l x=l.take (posK nm l (nm x))++x :: l.drop (posK nm l (nm x)):=by
 unfold inK;rw [if_neg (by simp [h]),if_pos hr]
theorem with_l {l:List MailEntry} (hn:l.length≤1000) (hs:Srt MailEntry.Key l) (x:MailEntry):∀ (n k F:Nat),k + n=l.length→n < F→k≤posK MailEntry.Key l x.Key→p_ref35_with_l1 l x F k=some (posK MailEntry.Key l x.Key:Int)
 | 0,k,F + 1,hk,hF,h1=>by
  have:=pos_le (nm:=MailEntry.Key) l x.Key
  have e:posK MailEntry.Key l x.Key=k:=by omega
  rw [p_ref35_with_l1,lt_ff (by omega),e];rfl
 | n + 1,k,F + 1,hk,hF,h1=>by
  have hlt:k < l.length:=by omega
  rw [p_ref35_with_l1,lt_tt hlt,at_lt hlt]
  simp only [cond_true,Option.bind_some]
  rw [cmp_less,tl_data,tl_data]
  rcases Nat.lt_or_ge k (posK MailEntry.Key l x.Key) with h | h
  ·have h3:Lib.compareBytes l[k].Key.data.toList x.Key.data.toList < 0:=pos_lt (nm:=MailEntry.Key) hlt h
   rw [decide_eq_true h3,cond_true,w64_succ (by omega)]
   exact with_l hn hs x n (k + 1) F (by omega) (by omega) h
  ·have h3:0≤Lib.compareBytes l[k].Key.data.toList x.Key.data.toList:=pos_ge hs hlt h
   have e:posK MailEntry.Key l x.Key=k:=by omega
   rw [decide_eq_false (by omega),e];rfl
theorem with_p {l:List MailEntry} (hn:l.length < 64) (hs:Srt MailEntry.Key l) (x:MailEntry):p_ref35_with l x=some (inK MailEntry.Key l x):=by
 have hf:=srt_filter hs (fun y=>!(y.Key.toList == x.Key.toList))
 have hl:=List.length_filter_le (fun y:MailEntry=>!(y.Key.toList == x.Key.toList)) l
 have hno:=no_has hs x.Key
 have hput:=put_out hs x hn
 unfold p_ref35_with
 rw [find35_p (by omega),without_p (by omega)]
 simp only [Option.bind_some]
 rw [(findP_has hs x.Key).1,decide_eq_false (show ¬ (64:Int)≤(l.length:Int) by omega)]
 rw [← hput]
 generalize l.filter (fun y=>!(y.Key.toList == x.Key.toList))=g at *
 have hw:=with_l (by omega) hf x g.length 0 fuel (by omega) (by have:=fuel_pos;omega) (Nat.zero_le _)
 have z0:((0:Nat):Int)=0:=rfl
 have hp:=pos_le (nm:=MailEntry.Key) g x.Key
 rw [z0] at hw
 rw [hw]
 simp only [Option.bind_some,cond_false]
 rw [cutTo hp,cutFrom hp]
 simp only [Option.bind_some]
 rw [app_ok (by simp;omega)]
 simp only [Option.bind_some]
 rw [app_ok (by simp;omega)]
 simp only [Option.bind_some]
 rw [app_ok (by simp;omega),in_no hno (by omega)]
 simp
theorem see_l {st:Ref35State} (hn:st.Seen.length≤1000) (hs:Srt idB st.Seen) (x:ByteArray):∀ (n k F:Nat),k + n=st.Seen.length→n < F→k≤posK idB st.Seen x→p_ref35_see_l1 x st F k=some (posK idB st.Seen x:Int)
 | 0,k,F + 1,hk,hF,h1=>by
  have:=pos_le (nm:=idB) st.Seen x
  have e:posK idB st.Seen x=k:=by omega
  rw [p_ref35_see_l1,lt_ff (by omega),e];rfl
 | n + 1,k,F + 1,hk,hF,h1=>by
  have hlt:k < st.Seen.length:=by omega
  rw [p_ref35_see_l1,lt_tt hlt,at_lt hlt]
  simp only [cond_true,Option.bind_some]
  rw [cmp_less,tl_data,tl_data]
  rcases Nat.lt_or_ge k (posK idB st.Seen x) with h | h
  ·have h3:Lib.compareBytes st.Seen[k].data.toList x.data.toList < 0:=pos_lt (nm:=idB) hlt h
   rw [decide_eq_true h3,cond_true,w64_succ (by omega)]
   exact see_l hn hs x n (k + 1) F (by omega) (by omega) h
  ·have h3:0≤Lib.compareBytes st.Seen[k].data.toList x.data.toList:=pos_ge hs hlt h
   have e:posK idB st.Seen x=k:=by omega
   rw [decide_eq_false (by omega),e];rfl
theorem see_p {st:Ref35State} (hn:st.Seen.length < 64) (hs:Srt idB st.Seen) (x:ByteArray):p_ref35_see st x=some ⟨st.Rows,st.Last,st.Anew,inK idB st.Seen x,st.List,st.Odd,st.Told⟩:=by
 unfold p_ref35_see
 rw [seen_p (by omega) hs]
 simp only [Option.bind_some]
 cases h:hasK idB st.Seen x with
 | true =>
  have e:inK idB st.Seen x=st.Seen:=by
   refine srt_ext (put_srt hs x hn) hs fun y=>?_
   rw [put_mem hs x hn]
   obtain ⟨z,hz,hk⟩:=(has_iff hs x).1 h
   have hz2:z=x:=hk
   subst hz2
   constructor
   ·rintro (h1 | h1)
    ·subst h1;exact hz
    ·exact h1.1
   ·intro h1
    by_cases h2:y=z
    ·exact .inl h2
    ·exact .inr ⟨h1,h2⟩
  rw [e];rfl
 | false =>
  have hw:=see_l (by omega) hs x st.Seen.length 0 fuel (by omega) (by have:=fuel_pos;omega) (Nat.zero_le _)
  have z0:((0:Nat):Int)=0:=rfl
  have hp:=pos_le (nm:=idB) st.Seen x
  rw [z0] at hw
  rw [decide_eq_false (show ¬ (64:Int)≤(st.Seen.length:Int) by omega),hw]
  simp only [Option.bind_some,cond_false]
  rw [cutTo hp,cutFrom hp]
  simp only [Option.bind_some]
  rw [app_ok (by simp;omega)]
  simp only [Option.bind_some]
  rw [app_ok (by simp;omega)]
  simp only [Option.bind_some]
  rw [app_ok (by simp;omega),in_no (nm:=idB) (x:=x) h hn]
  simp [idB]
theorem upR (x:Int):(if w64 (x + (1:Int)) < (1099511627776:Int) then w64 (x + (1:Int)) else (1099511627776:Int))=upV x:=by
 unfold upV
 generalize w64 (x + 1)=y
 split <;> split <;> omega
theorem rOf {s:StanzaStanza} (hk:s.Kind=34∨s.Kind=35):p_ref23_Of s=p_pres_Of s:=by
 have hc:p_ref10_Check s=p_stanza_Check s:=rfl
 unfold p_ref23_Of p_pres_Of
 rw [hc]
 cases h:p_stanza_Check s with
 | none=>rcases hk with hk | hk <;> rw [hk] <;> rfl
 | some c =>
  simp only [Option.bind_some]
  rw [rpresCheck_p,presCheck_p]
  simp only [Option.bind_some]
  rcases hk with hk | hk <;> cases h1:(c != 0) <;> simp [hk,h1]
theorem row35_p {n:Nat} {st:Ref35State} (h:GoodV n st) (hn:n < 64) {s:StanzaStanza} (hk:s.Kind=34∨s.Kind=35) (hu:s.User.size≤100) (hr:s.Res.size≤100) (hm:s.Name.size≤100) :
  p_ref35_row st s=p_view_State_row st s:=by
 have h1:=h.rn;have h2:=h.ln;have h3:=h.sn
 obtain ⟨u,r,p,e,ho,he⟩:=of_any s hk hu hr hm
 by_cases h0:e=0
 ·subst h0
  obtain ⟨rfl,rfl⟩:=he rfl
  rw [row_p h (by omega) ho (by omega) (by omega)]
  unfold p_ref35_row
  rw [rOf hk,ho]
  simp only [Option.bind_some,bne_self_eq_false,cond_false]
  rw [rkey_p (by omega) (by omega)]
  simp only [Option.bind_some]
  generalize keyL s.User s.Res=k
  rw [find35_p (by omega)]
  have e1:=with_p (show st.Last.length < 64 by omega) h.ls ⟨k,p⟩
  have e2:=with_p (show st.Rows.length < 64 by omega) h.rs ⟨k,p⟩
  have e3:=without_p (show st.Rows.length≤1000 by omega) k
  have e4:∀ (R L:List MailEntry) (A:Bool) (Li:List Ref35Contact) (o t:Int),p_ref35_see ⟨R,L,A,st.Seen,Li,o,t⟩ k=some ⟨R,L,A,inK idB st.Seen k,Li,o,t⟩:=fun R L A Li o t =>
   see_p (st:=⟨R,L,A,st.Seen,Li,o,t⟩) (show st.Seen.length < 64 by omega) h.ss k
  have hfp:=findP_has h.ls k
  generalize findP st.Last k=fp at hfp
  simp only [e1,e2,e3,e4,upR,Option.bind_some]
  rw [hfp.1]
  unfold rowV oddV
  cases hkk:hasK MailEntry.Key st.Last k with
  | false=>cases p.On <;> cases st.Anew <;> simp
  | true =>
   obtain ⟨hj,_⟩:=has_yes hkk
   rw [hfp.2 hj hkk,List.getElem?_eq_getElem hj]
   generalize st.Last[posK MailEntry.Key st.Last k]=y
   simp only [cond_true]
   by_cases q1:p.Seq < y.P.Seq
   ·rw [decide_eq_true q1]
    cases p.On <;> cases st.Anew <;> simp [q1]
   ·rw [decide_eq_false q1]
    by_cases q2:y.P.Seq=p.Seq
    ·have hq:(y.P.Seq == p.Seq)=true:=by simpa using q2
     rw [hq]
     cases p.On <;> cases st.Anew <;> simp [q2]
    ·have hq:(y.P.Seq == p.Seq)=false:=by simpa using q2
     rw [hq]
     cases p.On <;> cases st.Anew <;> simp [q1,q2]
 ·rw [row_bad ho h0]
  have h2:(e != 0)=true:=by simpa using h0
  unfold p_ref35_row
  rw [rOf hk,ho]
  simp only [Option.bind_some,h2,cond_true]
theorem list1_l {st:Ref35State} {s:StanzaStanza} (hn:st.List.length≤1000):∀ (n k F:Nat) (acc:List Ref35Contact) (b:Bool),k + n=st.List.length→n < F→acc.length≤k →
  p_ref35_list_l1 st s F acc b k=some (acc++(st.List.drop k).filter (fun x=>!(x.User.toList == s.User.toList)),b || (st.List.drop k).any (fun x=>x.User.toList == s.User.toList),(st.List.length:Int))
 | 0,k,F + 1,acc,b,hk,hF,ha=>by
  have e0:st.List.drop k=[]:=List.drop_of_length_le (by omega)
  have:k=st.List.length:=by omega
  rw [p_ref35_list_l1,lt_ff (by omega),e0,this];simp
 | n + 1,k,F + 1,acc,b,hk,hF,ha=>by
  have hlt:k < st.List.length:=by omega
  rw [p_ref35_list_l1,lt_tt hlt,at_lt hlt,drop_at hlt,List.any_cons]
  simp only [cond_true,Option.bind_some]
  cases hv:st.List[k].User.toList == s.User.toList with
  | true =>
   simp only [cond_true]
   rw [w64_succ (by omega),list1_l hn n (k + 1) F _ _ (by omega) (by omega) (by omega),List.filter_cons_of_neg (by simp [hv])]
   simp
  | false =>
   simp only [cond_false]
   rw [app_ok (by simp;omega),w64_succ (by omega)]
   simp only [Option.bind_some]
   rw [list1_l hn n (k + 1) F _ _ (by omega) (by omega) (by simp;omega),List.filter_cons_of_pos (by simp [hv])]
   simp
theorem list2_l {l:List Ref35Contact} (hn:l.length≤1000) (hs:Srt Ref35Contact.User l) (s:StanzaStanza):∀ (n k F:Nat),k + n=l.length→n < F→k≤posK Ref35Contact.User l s.User→p_ref35_list_l2 l s F k=some (posK Ref35Contact.User l s.User:Int)
 | 0,k,F + 1,hk,hF,h1=>by
  have:=pos_le (nm:=Ref35Contact.User) l s.User
  have e:posK Ref35Contact.User l s.User=k:=by omega
  rw [p_ref35_list_l2,lt_ff (by omega),e];rfl
 | n + 1,k,F + 1,hk,hF,h1=>by
  have hlt:k < l.length:=by omega
  rw [p_ref35_list_l2,lt_tt hlt,at_lt hlt]
  simp only [cond_true,Option.bind_some]
  rw [cmp_less,tl_data,tl_data]
  rcases Nat.lt_or_ge k (posK Ref35Contact.User l s.User) with h | h
  ·have h3:Lib.compareBytes l[k].User.data.toList s.User.data.toList < 0:=pos_lt (nm:=Ref35Contact.User) hlt h
   rw [decide_eq_true h3,cond_true,w64_succ (by omega)]
   exact list2_l hn hs s n (k + 1) F (by omega) (by omega) h
  ·have h3:0≤Lib.compareBytes l[k].User.data.toList s.User.data.toList:=pos_ge hs hlt h
   have e:posK Ref35Contact.User l s.User=k:=by omega
   rw [decide_eq_false (by omega),e];rfl
theorem list_out {st:Ref35State} {s:StanzaStanza} (hn:st.List.length≤1000) (hk:(s.Kind == 38)=false):p_ref35_list st s=some ⟨st.Rows,st.Last,st.Anew,st.Seen,st.List.filter fun x=>!(x.User.toList == s.User.toList),st.Odd,st.Told⟩:=by
 have hl:=list1_l (s:=s) hn st.List.length 0 fuel [] false (by omega) (by have:=fuel_pos;omega) (Nat.zero_le _)
 have z0:((0:Nat):Int)=0:=rfl
 rw [z0,List.drop_zero] at hl
 unfold p_ref35_list
 rw [hl,hk];rfl
theorem list_in {st:Ref35State} {s:StanzaStanza} (hn:st.List.length < 64) (hs:Srt Ref35Contact.User st.List) (hk:(s.Kind == 38)=true) :
  p_ref35_list st s=some ⟨st.Rows,st.Last,st.Anew,st.Seen,inK Ref35Contact.User st.List ⟨s.User,s.Name,s.Show,s.N⟩,st.Odd,st.Told⟩:=by
 have hl:=list1_l (st:=st) (s:=s) (by omega) st.List.length 0 fuel [] false (by omega) (by have:=fuel_pos;omega) (Nat.zero_le _)
 have z0:((0:Nat):Int)=0:=rfl
 have hf:=srt_filter hs (fun y=>!(y.User.toList == s.User.toList))
 have hle:=List.length_filter_le (fun y:Ref35Contact=>!(y.User.toList == s.User.toList)) st.List
 have hno:=no_has hs s.User
 have hput:=put_out hs ⟨s.User,s.Name,s.Show,s.N⟩ hn
 rw [z0,List.drop_zero] at hl
 unfold p_ref35_list
 rw [hl,hk,← hput]
 simp only [Option.bind_some,cond_true,List.nil_append]
 generalize st.List.filter (fun y=>!(y.User.toList == s.User.toList))=g at *
 have hw:=list2_l (by omega) hf s g.length 0 fuel (by omega) (by have:=fuel_pos;omega) (Nat.zero_le _)
 have hp:=pos_le (nm:=Ref35Contact.User) g s.User
 rw [z0] at hw
 rw [hw,decide_eq_true (show (st.List.length:Int) < 64 by omega)]
 simp only [Option.bind_some,cond_true]
 rw [cutTo hp,cutFrom hp]
 simp only [Option.bind_some]
 rw [app_ok (by simp;omega)]
 simp only [Option.bind_some]
 rw [app_ok (by simp;omega)]
 simp only [Option.bind_some]
 rw [app_ok (by simp;omega),in_no (nm:=Ref35Contact.User) (x:=⟨s.User,s.Name,s.Show,s.N⟩) hno (by omega)]
 cases false || st.List.any (fun x=>x.User.toList == s.User.toList) <;> simp
end Go.Proofs.YtpmoioopjbfhkaaGreat

namespace Go.Proofs.YtpmoioopjbfhkaaGreat
open Go.RowKit
theorem tell35_p {n:Nat} {st:Ref35State} (h:GoodV n st) (hl:st.List.length < 64) (hn:n < 64) (s:StanzaStanza) (hu:s.User.size≤100) (hr:s.Res.size≤100) (hm:s.Name.size≤100):p_ref35_Tell st s=p_view_Tell st s:=by
 rw [tell_0 h (by omega)]
 unfold p_ref35_Tell
 rw [rcheck35_p h (by omega)]
 simp only [Option.bind_some,bne_self_eq_false,cond_false,upR]
 have hd:=rdone_p h.up (show n≤64 by omega)
 have e:(⟨st.Rows,st.Last,st.Anew,st.Seen,st.List,st.Odd,upV st.Told⟩ : Ref35State)=upT st:=rfl
 rw [e,hd]
 cases k36:s.Kind == 36 with
 | true=>rfl
 | false =>
 cases k37:s.Kind == 37 with
 | true=>rfl
 | false =>
 cases k34:s.Kind == 34 with
 | true =>
  simp only [cond_true,cond_false]
  rw [row35_p h.up hn (.inl (by simpa using k34)) hu hr hm]
  cases p_view_State_row (upT st) s <;> rfl
 | false =>
 cases k35:s.Kind == 35 with
 | true =>
  simp only [cond_true,cond_false]
  rw [row35_p h.up hn (.inr (by simpa using k35)) hu hr hm]
  cases p_view_State_row (upT st) s <;> rfl
 | false =>
 cases k38:s.Kind == 38 with
 | true =>
  simp only [cond_true,cond_false]
  rw [list_in (st:=upT st) (s:=s) hl h.cs k38];rfl
 | false =>
 cases k39:s.Kind == 39 with
 | true =>
  simp only [cond_true,cond_false]
  rw [list_out (st:=upT st) (s:=s) (by show st.List.length≤1000;omega) k38];rfl
 | false=>rfl
theorem row_list {n:Nat} {st st' : Ref35State} (h:GoodV n st) (hn:n≤64) {s:StanzaStanza} (hk:s.Kind=34∨s.Kind=35) (hu:s.User.size≤100) (hr:s.Res.size≤100) (hm:s.Name.size≤100) (e:p_view_State_row st s=some st'):st'.List=st.List:=by
 obtain ⟨u,r,p,c,ho,he⟩:=of_any s hk hu hr hm
 by_cases h0:c=0
 ·subst h0
  obtain ⟨rfl,rfl⟩:=he rfl
  rw [row_p h hn ho (by omega) (by omega)] at e
  injection e with e
  subst e;rfl
 ·rw [row_bad ho h0] at e
  injection e with e
  subst e;rfl
theorem tell_list {n:Nat} {st st' : Ref35State} (h:GoodV n st) (hn:n≤64) {s:StanzaStanza} (hu:s.User.size≤100) (hr:s.Res.size≤100) (hm:s.Name.size≤100) (e:p_view_Tell st s=some st'):st'.List.length≤st.List.length + 1:=by
 rw [tell_0 h hn] at e
 cases k36:s.Kind == 36 with
 | true=>rw [k36] at e;injection e with e;subst e;exact Nat.le_succ _
 | false =>
 cases k37:s.Kind == 37 with
 | true =>
  rw [k36,k37] at e;injection e with e;subst e
  have:(doneV (upT st)).List=st.List:=by unfold doneV;split <;> rfl
  rw [this];exact Nat.le_succ _
 | false =>
 cases k34:s.Kind == 34 with
 | true =>
  rw [k36,k37,k34] at e
  rw [row_list h.up hn (.inl (by simpa using k34)) hu hr hm e];exact Nat.le_succ _
 | false =>
 cases k35:s.Kind == 35 with
 | true =>
  rw [k36,k37,k34,k35] at e
  rw [row_list h.up hn (.inr (by simpa using k35)) hu hr hm e];exact Nat.le_succ _
 | false =>
 cases k38:s.Kind == 38 with
 | true =>
  rw [k36,k37,k34,k35,k38] at e;injection e with e;subst e
  exact (put_len _).1
 | false =>
 cases k39:s.Kind == 39 with
 | true =>
  rw [k36,k37,k34,k35,k38,k39] at e;injection e with e;subst e
  exact Nat.le_trans (List.length_filter_le _ _) (Nat.le_succ _)
 | false=>rw [k36,k37,k34,k35,k38,k39] at e;injection e with e;subst e;exact Nat.le_succ _
def lightS (s:StanzaStanza):Prop:=s.User.size≤100∧s.Res.size≤100∧s.Name.size≤100
theorem run_l {l:List StanzaStanza} (hl:l.length≤60) (hs:∀ s ∈ l,lightS s):∀ (m k F G:Nat) (st:Ref35State),k + m=l.length→m < F→m < G→GoodV k st→st.List.length≤k →
  ∃ st',p_view_Run_l1 l (l.length:Int) F k st=some ((l.length:Int),st')∧p_ref35_Run_l1 l G k st=some ((l.length:Int),st')∧GoodV l.length st'∧st'.List.length≤l.length
 | 0,k,F + 1,G + 1,st,hk,hF,hG,h,hc=>by
  have:k=l.length:=by omega
  subst this
  rw [p_view_Run_l1,p_ref35_Run_l1,lt_ff (Nat.le_refl _)]
  exact ⟨st,rfl,rfl,h,hc⟩
 | m + 1,k,F + 1,G + 1,st,hk,hF,hG,h,hc=>by
  have hlt:k < l.length:=by omega
  obtain ⟨q1,q2,q3⟩:=hs _ (List.getElem_mem hlt)
  obtain ⟨st2,e,g,_,_⟩:=tell_any h (by omega) l[k] q1 q2 q3
  have hc2:=tell_list h (by omega) q1 q2 q3 e
  rw [p_view_Run_l1,p_ref35_Run_l1,lt_tt hlt,at_lt hlt]
  simp only [cond_true,Option.bind_some]
  rw [tell35_p h (by omega) (by omega) l[k] q1 q2 q3,e]
  simp only [Option.bind_some]
  rw [w64_succ (by omega)]
  exact run_l hl hs m (k + 1) F G st2 (by omega) (by omega) (by omega) g (by omega)
theorem theirs_l (l:List MailEntry) (hn:l.length≤1000):∀ (n k F:Nat) (acc:List MailEntry),k + n=l.length→n < F→acc.length=k →
  p_law35_theirs_l1 l F acc k=some (acc++l.drop k,(l.length:Int))
 | 0,k,F + 1,acc,hk,hF,ha=>by
  have e:l.drop k=[]:=List.drop_of_length_le (by omega)
  have:k=l.length:=by omega
  rw [p_law35_theirs_l1,lt_ff (by omega),e,this];simp
 | n + 1,k,F + 1,acc,hk,hF,ha=>by
  have hlt:k < l.length:=by omega
  rw [p_law35_theirs_l1,lt_tt hlt,at_lt hlt,drop_at hlt]
  simp only [cond_true,Option.bind_some]
  rw [app_ok (by simp;omega),w64_succ (by omega)]
  simp only [Option.bind_some]
  rw [theirs_l l hn n (k + 1) F _ (by omega) (by omega) (by simp;omega)]
  simp only [List.append_assoc];rfl
theorem theirs_p (l:List MailEntry) (hn:l.length≤1000):p_law35_theirs l=some l:=by
 unfold p_law35_theirs
 have:=theirs_l l hn l.length 0 fuel [] (by omega) (by have:=fuel_pos;omega) rfl
 have z0:((0:Nat):Int)=0:=rfl
 rw [z0,List.drop_zero] at this
 rw [this];rfl
theorem backV_l (st:Ref35State) (hn:st.List.length≤1000):∀ (n k F:Nat) (acc:Ref35State),k + n=st.List.length→n < F→acc.List.length=k →
  p_law35_back_l1 st F k acc=some ((st.List.length:Int),⟨acc.Rows,acc.Last,acc.Anew,acc.Seen,acc.List++st.List.drop k,acc.Odd,acc.Told⟩)
 | 0,k,F + 1,acc,hk,hF,ha=>by
  have e:st.List.drop k=[]:=List.drop_of_length_le (by omega)
  have:k=st.List.length:=by omega
  rw [p_law35_back_l1,lt_ff (by omega),e,this];simp
 | n + 1,k,F + 1,acc,hk,hF,ha=>by
  have hlt:k < st.List.length:=by omega
  rw [p_law35_back_l1,lt_tt hlt,at_lt hlt,drop_at hlt]
  simp only [cond_true,Option.bind_some]
  rw [app_ok (by simp;omega),w64_succ (by omega)]
  simp only [Option.bind_some]
  rw [backV_l st hn n (k + 1) F _ (by omega) (by omega) (by simp;omega)]
  simp only [List.append_assoc];rfl
theorem backV_p (st:Ref35State) (h1:st.Rows.length≤1000) (h2:st.Last.length≤1000) (hn:st.List.length≤1000):p_law35_back st=some st:=by
 unfold p_law35_back
 rw [theirs_p _ h1,theirs_p _ h2]
 simp only [Option.bind_some]
 have:=backV_l st hn st.List.length 0 fuel ⟨st.Rows,st.Last,st.Anew,st.Seen,[],st.Odd,st.Told⟩ (by omega) (by have:=fuel_pos;omega) rfl
 have z0:((0:Nat):Int)=0:=rfl
 rw [z0,List.drop_zero] at this
 rw [this];rfl
theorem sameR_l (l:List MailEntry) (hn:l.length≤1000):∀ (n k F:Nat),k + n=l.length→n < F→p_ref35_sameRows_l1 l l F k=some (.inr (l.length:Int))
 | 0,k,F + 1,hk,hF=>by
  have:k=l.length:=by omega
  rw [p_ref35_sameRows_l1,lt_ff (by omega),this];rfl
 | n + 1,k,F + 1,hk,hF=>by
  have hlt:k < l.length:=by omega
  rw [p_ref35_sameRows_l1,lt_tt hlt,at_lt hlt]
  simp only [cond_true,Option.bind_some,beq_self_eq_true,Bool.and_self]
  rw [w64_succ (by omega)]
  exact sameR_l l hn n (k + 1) F (by omega) (by omega)
theorem sameR_p (l:List MailEntry) (hn:l.length≤1000):p_ref35_sameRows l l=some true:=by
 unfold p_ref35_sameRows
 have:=sameR_l l hn l.length 0 fuel (by omega) (by have:=fuel_pos;omega)
 have z0:((0:Nat):Int)=0:=rfl
 rw [z0] at this
 simp [this]
theorem textsV_l (l:List ByteArray) (hn:l.length≤1000):∀ (n k F:Nat),k + n=l.length→n < F→p_ref01_SameTexts_l1 l l F k=some (.inr (l.length:Int))
 | 0,k,F + 1,hk,hF=>by
  have:k=l.length:=by omega
  rw [p_ref01_SameTexts_l1,lt_ff (by omega),this];rfl
 | n + 1,k,F + 1,hk,hF=>by
  have hlt:k < l.length:=by omega
  rw [p_ref01_SameTexts_l1,lt_tt hlt,at_lt hlt]
  simp only [cond_true,Option.bind_some,beq_self_eq_true]
  rw [w64_succ (by omega)]
  exact textsV_l l hn n (k + 1) F (by omega) (by omega)
theorem textsV_p (l:List ByteArray) (hn:l.length≤1000):p_ref01_SameTexts l l=some true:=by
 unfold p_ref01_SameTexts
 have:=textsV_l l hn l.length 0 fuel (by omega) (by have:=fuel_pos;omega)
 have z0:((0:Nat):Int)=0:=rfl
 rw [z0] at this
 simp [this]
theorem same35_l (st:Ref35State) (hn:st.List.length≤1000):∀ (n k F:Nat),k + n=st.List.length→n < F→p_ref35_Same_l1 st st F k=some (.inr (st.List.length:Int))
 | 0,k,F + 1,hk,hF=>by
  have:k=st.List.length:=by omega
  rw [p_ref35_Same_l1,lt_ff (by omega),this];rfl
 | n + 1,k,F + 1,hk,hF=>by
  have hlt:k < st.List.length:=by omega
  rw [p_ref35_Same_l1,lt_tt hlt,at_lt hlt]
  simp only [cond_true,Option.bind_some,beq_self_eq_true,Bool.and_self]
  rw [w64_succ (by omega)]
  exact same35_l st hn n (k + 1) F (by omega) (by omega)
theorem same35_p (st:Ref35State) (h1:st.Rows.length≤1000) (h2:st.Last.length≤1000) (h3:st.Seen.length≤1000) (hn:st.List.length≤1000):p_ref35_Same st st=some true:=by
 unfold p_ref35_Same
 have:=same35_l st hn st.List.length 0 fuel (by omega) (by have:=fuel_pos;omega)
 have z0:((0:Nat):Int)=0:=rfl
 rw [z0] at this
 simp only [bne_self_eq_false,cond_false]
 rw [this]
 simp only [Option.bind_some]
 rw [sameR_p _ h1,sameR_p _ h2,textsV_p _ h3];rfl
theorem lawl_l (l:List StanzaStanza) (hn:l.length≤60):∀ (n k F:Nat) (acc:List StanzaStanza),k + n=l.length→n < F→acc=l.take k→(∀ s ∈ l.take k,lightS s) →
  p_law35_ViewRuns_l1 l F acc k=some (.inl true)∨(p_law35_ViewRuns_l1 l F acc k=some (.inr (l,(l.length:Int)))∧∀ s ∈ l,lightS s)
 | 0,k,F + 1,acc,hk,hF,ha,hs=>by
  have e:k=l.length:=by omega
  subst e
  rw [List.take_length] at ha hs
  subst ha
  rw [p_law35_ViewRuns_l1,lt_ff (Nat.le_refl _)]
  exact .inr ⟨rfl,hs⟩
 | n + 1,k,F + 1,acc,hk,hF,ha,hs=>by
  have hlt:k < l.length:=by omega
  rw [p_law35_ViewRuns_l1,lt_tt hlt,at_lt hlt]
  simp only [cond_true,Option.bind_some]
  unfold p_ref10_Light
  by_cases q1:l[k].User.size≤100
  ·rw [decide_eq_true (show (l[k].User.size:Int)≤100 by omega)]
   by_cases q2:l[k].Res.size≤100
   ·rw [decide_eq_true (show (l[k].Res.size:Int)≤100 by omega)]
    by_cases q3:l[k].Name.size≤100
    ·rw [decide_eq_true (show (l[k].Name.size:Int)≤100 by omega)]
     simp only [cond_true,Option.bind_some]
     have ht:l.take (k + 1)=l.take k++[l[k]]:=by rw [List.take_add_one,List.getElem?_eq_getElem hlt];rfl
     rw [app_ok (by rw [ha];simp;omega),w64_succ (by omega)]
     simp only [Option.bind_some]
     refine lawl_l l hn n (k + 1) F _ (by omega) (by omega) (by rw [ha,ht]) fun s hm=>?_
     rw [ht,List.mem_append,List.mem_singleton] at hm
     rcases hm with hm | hm
     ·exact hs s hm
     ·subst hm;exact ⟨q1,q2,q3⟩
    ·left;rw [decide_eq_false (show ¬ (l[k].Name.size:Int)≤100 by omega),aw35];rfl
   ·left;rw [decide_eq_false (show ¬ (l[k].Res.size:Int)≤100 by omega),aw35];rfl
  ·left;rw [decide_eq_false (show ¬ (l[k].User.size:Int)≤100 by omega),aw35];rfl
theorem viewRuns_pure (l:List StanzaStanza):p_law35_ViewRuns l=some true:=by
 unfold p_law35_ViewRuns
 by_cases h60:60 < l.length
 ·rw [decide_eq_true (show (60:Int) < (l.length:Int) by omega),aw35];rfl
 rw [decide_eq_false (show ¬ (60:Int) < (l.length:Int) by omega)]
 simp only [cond_false]
 have z0:((0:Nat):Int)=0:=rfl
 have h1:=lawl_l l (by omega) l.length 0 fuel [] (by omega) (by have:=fuel_pos;omega) rfl (fun s hs=>by simp at hs)
 rw [z0] at h1
 rcases h1 with h1 | ⟨h1,hs⟩
 ·rw [h1];rfl
 rw [h1]
 simp only [Option.bind_some]
 obtain ⟨st,e1,e2,g,gc⟩:=run_l (by omega) hs l.length 0 fuel fuel ⟨[],[],false,[],[],0,0⟩ (by omega) (by have:=fuel_pos;omega) (by have:=fuel_pos;omega) good_0 (Nat.zero_le _)
 rw [z0] at e1 e2
 have q1:=g.rn;have q2:=g.ln;have q3:=g.sn
 unfold p_view_Run p_ref35_Run
 rw [e1]
 simp only [Option.bind_some]
 rw [backV_p st (by omega) (by omega) (by omega),e2]
 simp only [Option.bind_some]
 rw [same35_p st (by omega) (by omega) (by omega) (by omega),aw35]
 rfl
end Go.Proofs.YtpmoioopjbfhkaaGreat


