/- A part of the proof: 9 texts joined. -/
import Derived.Test.YthnihifblmnkdaaGreatPdA18
import Derived.KernelRfl
import Derived.Test.YthnihifblmnkdaaGreatPdA17
set_option linter.all false
namespace Go.Proofs.YthnihifblmnkdaaGreat
open Go.RowKit
theorem fndM_spec (k:ByteArray):∀ (l:List MailEntry) (i:Nat),(fndM k l i=-1∧∀ x ∈ l,x.Key≠k)∨∃ p y q,l=p++y :: q∧y.Key=k∧(∀ x ∈ p,x.Key≠k)∧fndM k l i=((i + p.length:Nat):Int)
 | [],i=>.inl ⟨rfl,(fun _ h=>by cases h)⟩
 | x :: t,i=>by
  rw [fndM]
  by_cases hx:(x.Key.toList == k.toList)=true
  ·rw [if_pos hx]
   exact .inr ⟨[],x,t,rfl,eqT_iff.1 hx,(fun _ h=>by cases h),by simp⟩
  ·rw [if_neg hx]
   have hn:x.Key≠k:=fun e=>hx (eqT_iff.2 e)
   rcases fndM_spec k t (i + 1) with ⟨h1,h2⟩ | ⟨p,y,q,rfl,h2,h3,h4⟩
   ·exact .inl ⟨h1,fun y hy=>by rcases List.mem_cons.1 hy with rfl | hy <;> first | exact hn | exact h2 _ hy⟩
   ·refine .inr ⟨x :: p,y,q,rfl,h2,fun z hz=>?_,?_⟩
    ·rcases List.mem_cons.1 hz with rfl | hz <;> first | exact hn | exact h3 _ hz
    ·rw [h4,List.length_cons];congr 1;omega
def srtM (l:List MailEntry):Prop:=l.Pairwise fun x y=>x.P.On=true→y.P.On=true
def disM (l:List MailEntry):Prop:=l.Pairwise fun x y=>x.Key≠y.Key
theorem srt_of:∀ {l:List MailEntry},stepM l→srtM l
 | [],_=>.nil
 | x :: t,h=>.cons (fun y hy hx=>stepM_on h hx y hy) (srt_of fun k hk hh=>h (k + 1) (by simp;omega) (by simpa using hh))
theorem srt_split:∀ {l:List MailEntry},srtM l→l.filter (fun x=>!x.P.On)++l.filter (fun x=>x.P.On)=l
 | [],_=>rfl
 | x :: t,h=>by
  obtain ⟨h1,h2⟩:=List.pairwise_cons.1 h
  have ih:=srt_split h2
  cases hx:x.P.On with
  | true =>
   have e1:t.filter (fun x=>!x.P.On)=[]:=List.filter_eq_nil_iff.2 fun y hy=>by rw [h1 y hy hx];simp
   rw [e1,List.nil_append] at ih
   rw [List.filter_cons,List.filter_cons,hx,e1,ih];rfl
  | false =>
   rw [List.filter_cons,List.filter_cons,hx]
   simp only [Bool.not_false,if_true,Bool.false_eq_true,if_false,List.cons_append,ih]
theorem ok_of {l:List MailEntry} (h:mailC l=0):l.length≤16∧srtM l∧disM l:=by
 unfold mailC chkM at h
 by_cases h1:16 < l.length
 ·rw [if_pos h1] at h;omega
 rw [if_neg h1] at h
 by_cases h2:l.all keyM=false
 ·rw [if_pos h2] at h;omega
 rw [if_neg h2] at h
 by_cases h3:preE l≠0
 ·rw [if_pos h3] at h;exact absurd h h3
 rw [if_neg h3] at h
 have h4:ordP l l.length 0=true:=by
  cases q:ordP l l.length 0 with
  | true=>rfl
  | false=>rw [q] at h;simp at h
 have h5:=(ordP_iff (by omega)).1 h4
 refine ⟨by omega,srt_of (off_step fun k hk=>(h5 k (Nat.zero_le _) hk).1),List.pairwise_iff_getElem.2 fun i j hi hj hij e=>?_⟩
 have a:=(h5 i (Nat.zero_le _) hi).2
 have b:=(h5 j (Nat.zero_le _) hj).2
 rw [e] at a
 rw [a] at b
 omega
def kndM (st:List MailEntry) (on:Bool) (k:ByteArray):List MailEntry:=st.filter fun x=>x.P.On == on && !(x.Key.toList == k.toList)
theorem knd_no {st:List MailEntry} {k:ByteArray} (h:∀ x ∈ st,x.Key≠k) (on:Bool):kndM st on k=st.filter fun x=>x.P.On == on :=
 List.filter_congr fun x hx=>by
  rw [show (x.Key.toList == k.toList)=false by rw [← Bool.not_eq_true];exact fun e=>h x hx (eqT_iff.1 e)];simp
theorem knd_mid {l r:List MailEntry} {y:MailEntry} {k:ByteArray} (hy:y.Key=k) (h1:∀ x ∈ l,x.Key≠k) (h2:∀ x ∈ r,x.Key≠k) (on:Bool):kndM (l++y :: r) on k=(l++r).filter fun x=>x.P.On == on:=by
 have e:kndM (l++y :: r) on k=kndM l on k++kndM r on k:=by
  unfold kndM
  rw [List.filter_append,List.filter_cons,show (y.Key.toList == k.toList)=true from eqT_iff.2 hy];simp
 rw [e,knd_no h1,knd_no h2,List.filter_append]
theorem ofalse (l:List MailEntry):(l.filter fun x=>x.P.On == false)=l.filter fun x=>!x.P.On:=List.filter_congr fun x _=>by cases x.P.On <;> rfl
theorem otrue (l:List MailEntry):(l.filter fun x=>x.P.On == true)=l.filter fun x=>x.P.On:=List.filter_congr fun x _=>by cases x.P.On <;> rfl
theorem take_two {α:Type} {a b l:List α} (h:a++b=l):l.take a.length=a∧l.drop a.length=b:=by subst h;simp
theorem ins_two {l:List MailEntry} (h:srtM l) (hn:l.length≤1000) (x:MailEntry) :
  insAt? l (l.length:Int) x=some (l.filter (fun x=>x.P.On == false)++(l.filter (fun x=>x.P.On == true)++[x]))∧insAt? l ((offM l:Nat):Int) x=some ((l.filter (fun x=>x.P.On == false)++[x])++l.filter (fun x=>x.P.On == true)):=by
 have hs:=srt_split h
 rw [ofalse,otrue]
 have hl:=offM_le l
 unfold insAt?
 refine ⟨?_,?_⟩
 ·rw [if_pos (by omega),← List.append_assoc,hs];simp
 ·rw [if_pos (by omega)]
  have e:l.take (offM l)=l.filter fun x=>!x.P.On:=(take_two hs).1
  have e2:l.drop (offM l)=l.filter fun x=>x.P.On:=(take_two hs).2
  rw [Int.toNat_natCast,e,e2];simp
theorem srt_cut {l r:List MailEntry} {y:MailEntry} (h:srtM (l++y :: r)):srtM (l++r) :=
 h.sublist (List.Sublist.append (List.Sublist.refl _) (List.sublist_cons_self _ _))
theorem dis_mid {l r:List MailEntry} {y:MailEntry} (h:disM (l++y :: r)):∀ x ∈ r,x.Key≠y.Key:=fun x hx =>
 Ne.symm ((List.pairwise_cons.1 (List.pairwise_append.1 h).2.1).1 x hx)
theorem mclone {l:List MailEntry} (h:l.length≤1000):clone? l=some l:=by unfold clone?;rw [if_pos (by omega)]
theorem mdel {l r:List MailEntry} {y:MailEntry} {n m:Int} (hn:n=(l.length:Int)) (hm:m=n + 1) (h:(l++y :: r).length≤1000):del? (l++y :: r) n m=some (l++r):=by
 subst hn hm
 unfold del?
 rw [List.length_append,List.length_cons] at h
 rw [if_pos (by rw [List.length_append,List.length_cons];omega)]
 rw [show ((l.length:Int) + 1).toNat=l.length + 1 by omega,Int.toNat_natCast,List.take_left' rfl,show l++y :: r=(l++[y])++r by simp,List.drop_left' (by simp)]
theorem mat {l r:List MailEntry} {y:MailEntry} {n:Int} (hn:n=(l.length:Int)):at? (l++y :: r) n=some y:=by
 subst hn
 rw [at_nat,List.getElem?_append_right (Nat.le_refl _)];simp
end Go.Proofs.YthnihifblmnkdaaGreat

namespace Go.Proofs.YthnihifblmnkdaaGreat
open Go.RowKit
end Go.Proofs.YthnihifblmnkdaaGreat

namespace Go.Proofs.YthnihifblmnkdaaGreat
open Go.RowKit
theorem kind_l (z:List MailEntry) (on:Bool) (k:ByteArray) (hn:z.length≤1000):∀ (n j F:Nat) (acc:List MailEntry),j + n=z.length→n < F→acc.length≤j→p_ref25_kind_l1 z on k F acc (j:Int)=some (acc++kndM (z.drop j) on k,(z.length:Int))
 | 0,j,F + 1,acc,hj,hF,ha=>by
  rw [p_ref25_kind_l1,lt_ff (by omega),show j=z.length by omega,List.drop_length];simp [kndM]
 | n + 1,j,F + 1,acc,hj,hF,ha=>by
  have hlt:j < z.length:=by omega
  have i1:=kind_l z on k hn n (j + 1) F acc (by omega) (by omega) (by omega)
  have i2:=kind_l z on k hn n (j + 1) F (acc++[z[j]]) (by omega) (by omega) (by simp;omega)
  rw [p_ref25_kind_l1,lt_tt hlt,cond_true,at_lt hlt]
  simp only [Option.bind_some]
  rw [app_ok (by simp;omega),w64_succ (by omega),i1,Option.bind_some,i2,drop_at hlt]
  unfold kndM
  rw [List.filter_cons]
  cases (z[j].P.On == on) <;> cases (z[j].Key.toList == k.toList) <;> simp
theorem kind_p {z:List MailEntry} (hn:z.length≤1000) (on:Bool) (k:ByteArray):p_ref25_kind z on k=some (kndM z on k):=by
 have e:p_ref25_kind_l1 z on k fuel [] (0:Int)=_:=kind_l z on k hn z.length 0 fuel [] (by omega) (by have:=fuel_pos;omega) (Nat.le_refl _)
 unfold p_ref25_kind
 rw [e,List.drop_zero,List.nil_append];rfl
theorem newer_pr (p q:PresPres):p_pres_Newer p q=some (decide (q.Seq < p.Seq))∧p_ref23_Newer p q=some (decide (q.Seq < p.Seq)):=⟨rfl,rfl⟩
theorem put_tail {l:List MailEntry} {fo fn:List MailEntry} (h:srtM l) (hn:l.length≤1000) (h1:fo=l.filter (fun x=>x.P.On == false)) (h2:fn=l.filter (fun x=>x.P.On == true)) (k:ByteArray) (p:PresPres):∃ x:List MailEntry × Int,
  (bif p.On then (insAt? l (l.length:Int) (MailEntry.mk k p)).bind fun v=>some (v,(0:Int)) else (p_mail_Off l).bind fun o=>(insAt? l o (MailEntry.mk k p)).bind fun v=>some (v,(0:Int)))=some x ∧
  (bif p.On then (app? fn [MailEntry.mk k p]).bind fun a=>(app? fo a).bind fun b=>some (b,(0:Int)) else (app? fo [MailEntry.mk k p]).bind fun a=>(app? a fn).bind fun b=>some (b,(0:Int)))=some x∧x.1.length≤l.length + 1:=by
 obtain ⟨i1,i2⟩:=ins_two h hn (MailEntry.mk k p)
 have l1:fo.length + fn.length=l.length:=by
  have:=congrArg List.length (srt_split h)
  rw [List.length_append] at this
  rw [h1,h2,ofalse,otrue];exact this
 rw [← h1,← h2] at i1 i2
 rw [moff_p l hn]
 cases p.On with
 | true =>
  simp only [cond_true,i1,Option.bind_some]
  rw [app_ok (by simp;omega),Option.bind_some,app_ok (by simp;omega)]
  exact ⟨_,rfl,rfl,by simp;omega⟩
 | false =>
  simp only [cond_false,i2,Option.bind_some]
  rw [app_ok (by simp;omega),Option.bind_some,app_ok (by simp;omega)]
  exact ⟨_,rfl,rfl,by simp;omega⟩
theorem put_p {st:List MailEntry} {k:ByteArray} (p:PresPres) (h:smM st) (hk:k.size≤100000):∃ x,p_mail_Put st k p=some x∧p_ref25_Put st k p=some x∧x.1.length≤1000:=by
 obtain ⟨c1,c2⟩:=mailC_p h
 have hn:=h.1
 unfold p_mail_Put p_ref25_Put
 rw [mclone hn,c1,c2]
 simp only [Option.bind_some]
 by_cases hc:mailC st=0
 rotate_left
 ·have q:(mailC st != 0)=true:=by simpa using hc
  rw [q];exact ⟨_,rfl,rfl,hn⟩
 obtain ⟨o1,o2,o3⟩:=ok_of hc
 obtain ⟨k1,k2⟩:=mkey_p (x:=MailEntry.mk k p) hk
 rw [hc,show p_mail_key k=_ from k1,show p_ref25_key k=_ from k2]
 simp only [bne_self_eq_false,cond_false,Option.bind_some]
 cases keyM (MailEntry.mk k p) with
 | false=>exact ⟨_,rfl,rfl,hn⟩
 | true =>
  rw [pc_p,rpresCheck_p]
  simp only [cond_true,Option.bind_some]
  by_cases hp:presCheckL p=0
  rotate_left
  ·have q:(presCheckL p != 0)=true:=by simpa using hp
   rw [q];exact ⟨_,rfl,rfl,hn⟩
  rw [hp,(mfind_p st k hn).1,(mfind_p st k hn).2,kind_p hn,kind_p hn]
  simp only [bne_self_eq_false,cond_false,Option.bind_some]
  rcases fndM_spec k st 0 with ⟨h1,h2⟩ | ⟨a,y,b,rfl,h2,h3,h4⟩
  ·rw [h1,show ((-1:Int) == -1)=true from rfl,show decide ((0:Int)≤-1)=false from rfl,show decide ((-1:Int) < 0)=true from rfl]
   simp only [cond_true,cond_false]
   by_cases hl:st.length=16
   ·rw [hl];exact ⟨_,rfl,rfl,hn⟩
   ·rw [show ((st.length:Int) == (16:Int))=false by simp;omega,show decide ((16:Int)≤(st.length:Int))=false from decide_eq_false (by omega)]
    simp only [cond_false]
    obtain ⟨x,x1,x2,x3⟩:=put_tail o2 hn (knd_no h2 false) (knd_no h2 true) k p
    exact ⟨x,x1,x2,by omega⟩
  ·have e0:fndM k (a++y :: b) 0=(a.length:Int):=h4.trans (by rw [Nat.zero_add])
   have hlen:(a++y :: b).length=a.length + b.length + 1:=by rw [List.length_append,List.length_cons];omega
   rw [e0,show ((a.length:Int) == -1)=false from beq_eq_false_iff_ne.2 (by omega),show decide ((0:Int)≤(a.length:Int))=true from decide_eq_true (by omega),show decide ((a.length:Int) < 0)=false from decide_eq_false (by omega),mat rfl]
   simp only [cond_true,cond_false,Option.bind_some,(newer_pr _ _).1,(newer_pr _ _).2]
   cases decide (y.P.Seq < p.Seq) with
   | false=>exact ⟨_,rfl,rfl,hn⟩
   | true =>
    simp only [cond_true]
    rw [show (p.On == y.P.On)=(y.P.On == p.On) by cases p.On <;> cases y.P.On <;> rfl,app_ok (by simp at hn ⊢;omega),List.nil_append]
    cases (y.P.On == p.On) with
    | true =>
     simp only [cond_true,Option.bind_some,mat rfl]
     exact ⟨_,rfl,rfl,by rw [List.length_set];exact hn⟩
    | false =>
     simp only [cond_false]
     rw [mdel rfl (w64_id (by omega)) hn]
     simp only [Option.bind_some]
     have h5:∀ x ∈ b,x.Key≠k:=fun x hx=>by have:=dis_mid o3 x hx;rwa [h2] at this
     obtain ⟨x,x1,x2,x3⟩:=put_tail (srt_cut o2) (by rw [List.length_append];omega) (knd_mid h2 h3 h5 false) (knd_mid h2 h3 h5 true) k p
     exact ⟨x,x1,x2,by rw [List.length_append] at x3;omega⟩
theorem eqb_cmpO (a b:ByteArray):(a.toList == b.toList)=decide (Lib.compareBytes a.data.toList b.data.toList=0):=by
 rw [Bool.eq_iff_iff,decide_eq_true_eq,eqT_iff]
 constructor
 ·rintro rfl;exact cmp_refl _
 ·intro h
  have:=cmp_eq0 h
  obtain ⟨a⟩:=a;obtain ⟨b⟩:=b
  congr 1
  exact Array.toList_inj.1 this
theorem covers_p (s:SnapState) (k:ByteArray):∃ v,p_snap_Covers s k=some v∧p_ref26_Covers s k=some v:=by
 unfold p_snap_Covers p_ref26_Covers
 cases s.On with
 | false=>exact ⟨_,rfl,rfl⟩
 | true =>
  cases s.Begun with
  | false=>exact ⟨_,rfl,rfl⟩
  | true =>
   refine ⟨_,rfl,?_⟩
   simp only [cond_true]
   rw [eqb_cmpO]
   simp only [cmp_less,tl_data]
   rw [cmp_anti k.data.toList s.After.data.toList]
   generalize Lib.compareBytes k.data.toList s.After.data.toList=c
   congr 1
   rw [Bool.eq_iff_iff]
   simp only [Bool.not_eq_true',Bool.or_eq_false_iff,decide_eq_false_iff_not,decide_eq_true_eq]
   omega
end Go.Proofs.YthnihifblmnkdaaGreat

namespace Go.Proofs.YthnihifblmnkdaaGreat
open Go.RowKit
structure StF (F:Fam) (st:BookState) (has:List PresPres) (k:Nat):Prop where
 rows:st.Rows=tabR F has
 ok:TabOK F st.Seq has
 seq:st.Seq≤k
section
variable {F : Fam} {st : BookState} {has : List PresPres} {k : Nat}
theorem StF.small (h:StF F st has k):smallB st.Rows:=by rw [h.rows];exact tab_small F has
theorem StF.len (h:StF F st has k):st.Rows.length≤16:=by rw [h.rows];exact h.ok.cnt
theorem StF.check (h:StF F st has k) (hk:k < 900):bookCheck st.Seq st.Rows=0:=by rw [h.rows];exact tab_check h.ok (by have:=h.seq;omega)
theorem StF.up (h:StF F st has k):StF F st has (k + 1):=⟨h.rows,h.ok,by have:=h.seq;omega⟩
theorem StF.set (h:StF F st has k) (hk:k < 900) {m:Nat} (hm:m < F.n) {sh prio:Int} (hsh:0≤sh∧sh≤4) (hp:-128≤prio∧prio≤127) :
  ∃ q has',p_book_Set st (F.u m) (F.r m) sh prio=some q∧StF F q.1 has' (k + 1):=by
 have hs:=h.seq
 have h0:=h.ok.seq0
 have hl:=h.len
 have hu:=(F.ok m hm).2
 refine ⟨_,if onF has m=false∧(16≤st.Rows.length∨3≤manyL st.Rows (F.u m)) then has else has.set m ⟨true,sh,prio,st.Seq + 1⟩,set_p (by omega) h.small (by omega) (by omega),?_⟩
 have:=tab_set (sh:=sh) (prio:=prio) h.ok (by omega) hm (presOn _ _ _ hsh hp (by omega))
 rw [h.rows,this]
 split
 ·exact ⟨rfl,h.ok,by show st.Seq≤((k + 1:Nat):Int);omega⟩
 ·rename_i hno
  refine ⟨rfl,tab_ok_put h.ok hm (fun _=>⟨presOn _ _ _ hsh hp (by omega),rfl⟩) (fun _ ho=>?_),by show st.Seq + 1≤((k + 1:Nat):Int);omega⟩
  exact ⟨Nat.lt_of_not_le fun g=>hno ⟨ho,.inl g⟩,Nat.lt_of_not_le fun g=>hno ⟨ho,.inr g⟩⟩
theorem StF.off (h:StF F st has k) (hk:k < 900) {m:Nat} (hm:m < F.n):∃ q has',p_book_Off st (F.u m) (F.r m)=some q∧StF F q.1 has' (k + 1):=by
 have hs:=h.seq
 have hl:=h.len
 have hu:=(F.ok m hm).2
 refine ⟨_,if onF has m=false then has else has.set m ⟨false,0,0,st.Seq + 1⟩,off_p (by omega) h.small (by omega) (by omega),?_⟩
 have:=tab_off h.ok (by omega) hm
 rw [h.rows,this]
 split
 ·exact ⟨rfl,h.ok,by show st.Seq≤((k + 1:Nat):Int);omega⟩
 ·exact ⟨rfl,tab_ok_put h.ok hm (fun e=>by cases e) (fun e=>by cases e),by show st.Seq + 1≤((k + 1:Nat):Int);omega⟩
end
theorem ok8:(List.range 8).all (fun m=>!((keyL (u20 m) ⟨#[]⟩).toList == (⟨#[]⟩ : ByteArray).toList) && (decide ((u20 m).size≤100) && namedL (u20 m) ⟨#[]⟩))=true:=by kernel_rfl
theorem mono8:(List.range 8).all (fun j=>(List.range j).all fun i=>decide (Lib.compareBytes (keyL (u20 i) ⟨#[]⟩).data.toList (keyL (u20 j) ⟨#[]⟩).data.toList < 0) && Op.bytesLess (u20 i).toList (u20 j).toList)=true:=by kernel_rfl
theorem ok8_at {m:Nat} (h:m < 8):((keyL (u20 m) ⟨#[]⟩).toList == (⟨#[]⟩ : ByteArray).toList)=false∧(u20 m).size≤100∧namedL (u20 m) ⟨#[]⟩=true:=by
 have:=List.all_eq_true.1 ok8 m (List.mem_range.2 h)
 simpa using this
theorem mono8_at {i j:Nat} (h:i < j) (hj:j < 8):Lib.compareBytes (keyL (u20 i) ⟨#[]⟩).data.toList (keyL (u20 j) ⟨#[]⟩).data.toList < 0∧Op.bytesLess (u20 i).toList (u20 j).toList=true:=by
 have:=List.all_eq_true.1 (List.all_eq_true.1 mono8 j (List.mem_range.2 hj)) i (List.mem_range.2 h)
 simpa using this
def F8:Fam where
 n:=8
 u m:=u20 m
 r _:=⟨#[]⟩
 ok m hm:=⟨(ok8_at hm).1,(ok8_at hm).2.1,by decide⟩
 mono i j hij hj:=(mono8_at hij hj).1
theorem rep_pre (n m:Nat):preT (List.replicate n ⟨false,0,0,0⟩) m=⟨false,0,0,0⟩:=by
 unfold preT
 rw [List.getD_eq_getElem?_getD]
 by_cases h:m < n
 ·simp [h]
 ·simp [h]
theorem tab8_rows:tabR F8 (List.replicate 8 ⟨false,0,0,0⟩)=[]:=by
 unfold tabR tabA
 have:(List.range F8.n).filter (onF (List.replicate 8 ⟨false,0,0,0⟩))=[]:=List.filter_eq_nil_iff.2 fun m _=>by unfold onF;rw [rep_pre];simp
 rw [this];rfl
theorem tab8_0:TabOK F8 0 (List.replicate 8 ⟨false,0,0,0⟩):=by
 have hno:∀ m,onF (List.replicate 8 ⟨false,0,0,0⟩) m=false:=fun m=>by unfold onF;rw [rep_pre]
 refine ⟨by simp [F8],by omega,fun m _ h=>?_,fun m _ h=>?_,fun i j _ _ h=>?_,by rw [tab8_rows];simp,fun m _ h=>?_⟩ <;> rw [hno] at h <;> cases h
theorem St8.init:StF F8 ⟨0,[]⟩ (List.replicate 8 ⟨false,0,0,0⟩) 0:=⟨tab8_rows.symm,tab8_0,by simp⟩
end Go.Proofs.YthnihifblmnkdaaGreat

namespace Go.Proofs.YthnihifblmnkdaaGreat
open Go.RowKit
structure GoodM (l:List MailEntry):Prop where
 len:l.length≤16
 key:∀ x ∈ l,keyM x=true
 pres:∀ x ∈ l,presCheckL x.P=0
 srt:srtM l
 dis:disM l
theorem preE_0:∀ {l:List MailEntry},preE l=0 ↔ ∀ x ∈ l,presCheckL x.P=0
 | []=>⟨fun _ _ h=>(by cases h),fun _=>rfl⟩
 | x :: t=>by
  rw [preE]
  by_cases h:presCheckL x.P=0
  ·rw [if_neg (by simpa using h),preE_0]
   exact ⟨fun g y hy=>by rcases List.mem_cons.1 hy with rfl | hy <;> first | exact h | exact g _ hy,fun g y hy=>g y (List.mem_cons_of_mem _ hy)⟩
  ·rw [if_pos h]
   exact ⟨fun g=>absurd g h,fun g=>absurd (g x (List.mem_cons_self ..)) h⟩
theorem goodM_iff {l:List MailEntry}:mailC l=0 ↔ GoodM l:=by
 constructor
 ·intro h
  obtain ⟨h1,h2,h3,_⟩:=mailC_0.1 h
  obtain ⟨o1,o2,o3⟩:=ok_of h
  exact ⟨h1,List.all_eq_true.1 h2,preE_0.1 h3,o2,o3⟩
 ·intro h
  refine mailC_0.2 ⟨h.len,List.all_eq_true.2 h.key,preE_0.2 h.pres,(ordR_iff (by omega)).2 fun j _ hl=>⟨fun h0 hh=>?_,?_⟩⟩
  ·exact List.pairwise_iff_getElem.1 h.srt (j - 1) j (by omega) hl (by omega) hh
  ·rcases fndM_spec l[j].Key l 0 with ⟨_,g⟩ | ⟨p,y,q,e,g1,g2,g3⟩
   ·exact absurd rfl (g l[j] (List.getElem_mem hl))
   ·rw [g3]
    have hy:∀ hp:p.length < l.length,l[p.length]=y:=fun hp=>by simp only [e];rw [List.getElem_append_right (Nat.le_refl _)];simp
    have hpl:p.length < l.length:=by rw [e];simp
    rcases Nat.lt_trichotomy p.length j with c | c | c
    ·exact absurd (by rw [hy hpl,g1]) (List.pairwise_iff_getElem.1 h.dis p.length j hpl hl c)
    ·rw [Nat.zero_add,c]
    ·exfalso
     have hj:l[j]=p[j]:=by simp only [e];rw [List.getElem_append_left c]
     exact g2 p[j] (List.getElem_mem c) (by rw [hj])
theorem GoodM.sub {l r:List MailEntry} (h:GoodM l) (hs:r.Sublist l):GoodM r :=
 ⟨Nat.le_trans hs.length_le h.len,fun x hx=>h.key x (hs.subset hx),fun x hx=>h.pres x (hs.subset hx),h.srt.sublist hs,h.dis.sublist hs⟩
theorem pw_all {α:Type} {R:α→α→Prop}:∀ {l:List α},(∀ a ∈ l,∀ b ∈ l,R a b)→l.Pairwise R
 | [],_=>.nil
 | x :: t,h=>.cons (fun y hy=>h x (List.mem_cons_self ..) y (List.mem_cons_of_mem _ hy)) (pw_all fun a ha b hb=>h a (List.mem_cons_of_mem _ ha) b (List.mem_cons_of_mem _ hb))
theorem GoodM.nil:GoodM []:=⟨by simp,(fun _ h=>by cases h),(fun _ h=>by cases h),.nil,.nil⟩
theorem good_put {st:List MailEntry} {k:ByteArray} {p:PresPres} {x:List MailEntry × Int} (h:smM st) (hg:GoodM st) (hk:k.size≤100000) (hx:p_mail_Put st k p=some x) (h0:x.2=0):GoodM x.1∧smM x.1:=by
 obtain ⟨c1,_⟩:=mailC_p h
 have hn:=h.1
 have hc:mailC st=0:=goodM_iff.2 hg
 rw [hc] at c1
 obtain ⟨k1,_⟩:=mkey_p (x:=MailEntry.mk k p) hk
 have hkM:=k1
 unfold p_mail_Put at hx
 rw [mclone hn,c1,show p_mail_key k=_ from k1,pc_p,(mfind_p st k hn).1] at hx
 simp only [bne_self_eq_false,cond_false,Option.bind_some] at hx
 cases hkey:keyM (MailEntry.mk k p) with
 | false =>
  rw [hkey] at hx
  simp only [cond_false,Option.some.injEq] at hx
  rw [← hx] at h0;simp at h0
 | true =>
  rw [hkey] at hx
  simp only [cond_true] at hx
  by_cases hp:presCheckL p=0
  rotate_left
  ·have q:(presCheckL p != 0)=true:=by simpa using hp
   rw [q] at hx
   simp only [cond_true,Option.some.injEq] at hx
   rw [← hx] at h0;exact absurd h0 hp
  rw [hp] at hx
  simp only [bne_self_eq_false,cond_false] at hx
  -- a list of the same kind with the new one in it
  have fin:∀ (l:List MailEntry) (hl:srtM l) (hd:disM l) (hlen:l.length < 16) (hsub:∀ y ∈ l,y ∈ st) (hno:∀ y ∈ l,y.Key≠k) (z:List MailEntry × Int),
    (bif p.On then (insAt? l (l.length:Int) (MailEntry.mk k p)).bind fun v=>some (v,(0:Int)) else (p_mail_Off l).bind fun o=>(insAt? l o (MailEntry.mk k p)).bind fun v=>some (v,(0:Int)))=some z→GoodM z.1∧smM z.1:=fun l hl hd hlen hsub hno z hz=>by
   have hp1:=(ins_two hl (by omega) (MailEntry.mk k p)).1
   have hp2:=(ins_two hl (by omega) (MailEntry.mk k p)).2
   rw [moff_p l (by omega),Option.bind_some,hp1,hp2] at hz
   have hs:=srt_split hl
   rw [← ofalse,← otrue] at hs
   have perm:z.1.Perm (MailEntry.mk k p :: l):=by
    cases ho:p.On with
    | true =>
     rw [ho] at hz;simp only [cond_true,Option.bind_some,Option.some.injEq] at hz
     rw [← hz]
     show (_++(_++[_])).Perm _
     rw [← List.append_assoc,hs];exact List.perm_append_singleton _ _
    | false =>
     rw [ho] at hz;simp only [cond_false,Option.bind_some,Option.some.injEq] at hz
     rw [← hz]
     show ((_++[_])++_).Perm _
     rw [List.append_assoc,List.singleton_append]
     refine List.perm_middle.trans ?_
     rw [hs]
   have mem:∀ y ∈ z.1,y=MailEntry.mk k p∨y ∈ l:=fun y hy=>List.mem_cons.1 (perm.mem_iff.1 hy)
   have hof:∀ y ∈ l.filter (fun x=>x.P.On == false),y.P.On=false:=fun y hy=>by simpa using (List.mem_filter.1 hy).2
   have hon:∀ y ∈ l.filter (fun x=>x.P.On == true),y.P.On=true:=fun y hy=>by simpa using (List.mem_filter.1 hy).2
   have sz:z.1.length=l.length + 1:=by rw [perm.length_eq];rfl
   refine ⟨⟨by omega,fun y hy=>?_,fun y hy=>?_,?_,?_⟩,by show z.1.length≤1000;omega,fun y hy=>?_⟩
   ·rcases mem y hy with rfl | g
    ·exact hkey
    ·exact hg.key y (hsub y g)
   ·rcases mem y hy with rfl | g
    ·exact hp
    ·exact hg.pres y (hsub y g)
   ·cases ho:p.On with
    | true =>
     rw [ho] at hz;simp only [cond_true,Option.bind_some,Option.some.injEq] at hz
     rw [← hz]
     show srtM (_++(_++[_]))
     refine List.pairwise_append.2 ⟨pw_all fun a ha b _ h=>(by rw [hof a ha] at h;cases h),pw_all fun a _ b hb _=>?_,fun a ha b _ h=>by rw [hof a ha] at h;cases h⟩
     rcases List.mem_append.1 hb with hb | hb
     ·exact hon b hb
     ·rw [List.mem_singleton.1 hb];exact ho
    | false =>
     rw [ho] at hz;simp only [cond_false,Option.bind_some,Option.some.injEq] at hz
     rw [← hz]
     show srtM ((_++[_])++_)
     have hoff:∀ a ∈ l.filter (fun x=>x.P.On == false)++[MailEntry.mk k p],a.P.On=false:=fun a ha=>by
      rcases List.mem_append.1 ha with ha | ha
      ·exact hof a ha
      ·rw [List.mem_singleton.1 ha];exact ho
     exact List.pairwise_append.2 ⟨pw_all fun a ha b _ h=>(by rw [hoff a ha] at h;cases h),pw_all fun a _ b hb _=>hon b hb,fun a ha b _ h=>by rw [hoff a ha] at h;cases h⟩
   ·exact (perm.pairwise_iff (R:=fun u v:MailEntry=>u.Key≠v.Key) (fun {u v} huv=>Ne.symm huv)).2 (List.pairwise_cons.2 ⟨fun y hy=>(hno y hy).symm,hd⟩)
   ·rcases mem y hy with rfl | g
    ·exact hk
    ·exact h.2 y (hsub y g)
  rcases fndM_spec k st 0 with ⟨h1,h2⟩ | ⟨a,y,b,rfl,h2,h3,h4⟩
  ·rw [h1,show ((-1:Int) == -1)=true from rfl] at hx
   simp only [cond_true] at hx
   by_cases hl:st.length=16
   ·rw [hl] at hx
    simp only [show (((16:Nat):Int) == (16:Int))=true from rfl,cond_true,Option.some.injEq] at hx
    rw [← hx] at h0;simp at h0
   ·rw [show ((st.length:Int) == (16:Int))=false by simp;omega] at hx
    exact fin st hg.srt hg.dis (by have:=hg.len;omega) (fun _ h=>h) h2 x hx
  ·have e0:fndM k (a++y :: b) 0=(a.length:Int):=h4.trans (by rw [Nat.zero_add])
   have hlen:(a++y :: b).length=a.length + b.length + 1:=by rw [List.length_append,List.length_cons];omega
   have h16:=hg.len
   rw [e0,show ((a.length:Int) == -1)=false from beq_eq_false_iff_ne.2 (by omega),mat rfl] at hx
   simp only [cond_false,Option.bind_some,(newer_pr _ _).1] at hx
   cases hnw:decide (y.P.Seq < p.Seq) with
   | false =>
    rw [hnw] at hx
    simp only [cond_false,Option.some.injEq] at hx
    rw [← hx];exact ⟨hg,h⟩
   | true =>
    rw [hnw] at hx
    simp only [cond_true] at hx
    cases hs:(p.On == y.P.On) with
    | true =>
     rw [hs] at hx
     simp only [cond_true,mat rfl,Option.bind_some,Option.some.injEq] at hx
     have ho:p.On=y.P.On:=by simpa using hs
     have e1:x.1=a++MailEntry.mk y.Key p :: b:=by rw [← hx];show List.set _ _ _=_;simp
     have mem:∀ z ∈ x.1,z=MailEntry.mk y.Key p∨z ∈ a++y :: b:=fun z hz=>by
      rw [e1] at hz
      rcases List.mem_append.1 hz with hz | hz
      ·exact .inr (List.mem_append_left _ hz)
      ·rcases List.mem_cons.1 hz with hz | hz
       ·exact .inl hz
       ·exact .inr (List.mem_append_right _ (List.mem_cons_of_mem _ hz))
     refine ⟨⟨by rw [e1];simp;omega,fun z hz=>?_,fun z hz=>?_,?_,?_⟩,by rw [e1];show (_:List MailEntry).length≤1000;simp;omega,fun z hz=>?_⟩
     ·rcases mem z hz with rfl | g
      ·rw [h2];exact hkey
      ·exact hg.key z g
     ·rcases mem z hz with rfl | g
      ·exact hp
      ·exact hg.pres z g
     ·rw [e1]
      have g:=hg.srt
      unfold srtM at g ⊢
      rw [List.pairwise_append,List.pairwise_cons] at g ⊢
      refine ⟨g.1,⟨fun z hz hh=>g.2.1.1 z hz (by rw [← ho];exact hh),g.2.1.2⟩,fun u hu z hz=>?_⟩
      rcases List.mem_cons.1 hz with rfl | hz
      ·intro hh;show p.On=true;rw [ho];exact g.2.2 u hu y (List.mem_cons_self ..) hh
      ·exact g.2.2 u hu z (List.mem_cons_of_mem _ hz)
     ·rw [e1]
      have g:=hg.dis
      unfold disM at g ⊢
      rw [List.pairwise_append,List.pairwise_cons] at g ⊢
      refine ⟨g.1,⟨fun z hz=>g.2.1.1 z hz,g.2.1.2⟩,fun u hu z hz=>?_⟩
      rcases List.mem_cons.1 hz with rfl | hz
      ·exact g.2.2 u hu y (List.mem_cons_self ..)
      ·exact g.2.2 u hu z (List.mem_cons_of_mem _ hz)
     ·rcases mem z hz with rfl | g
      ·rw [h2];exact hk
      ·exact h.2 z g
    | false =>
     rw [hs] at hx
     simp only [cond_false] at hx
     rw [mdel rfl (w64_id (by omega)) hn] at hx
     simp only [Option.bind_some] at hx
     have h5:∀ x ∈ b,x.Key≠k:=fun x hx=>by have:=dis_mid hg.dis x hx;rwa [h2] at this
     refine fin (a++b) (srt_cut hg.srt) (hg.dis.sublist (List.Sublist.append (List.Sublist.refl _) (List.sublist_cons_self _ _))) (by rw [List.length_append];omega) (fun z hz=>?_) (fun z hz=>?_) x hx
     ·rcases List.mem_append.1 hz with hz | hz
      ·exact List.mem_append_left _ hz
      ·exact List.mem_append_right _ (List.mem_cons_of_mem _ hz)
     ·rcases List.mem_append.1 hz with hz | hz
      ·exact h3 z hz
      ·exact h5 z hz
theorem snapE_beg:snapE ⟨true,false,⟨#[]⟩,0⟩=0:=by unfold snapE;simp
theorem snapE_off:snapE ⟨false,false,⟨#[]⟩,0⟩=0:=by unfold snapE;simp
structure GoodS (s:Ref27State):Prop where
 sm:smM s.Mail
 mail:GoodM s.Mail
 snap:snapE s.Snap=0
 sent:0≤s.Sent∧s.Sent≤1099511627776
 lost:0≤s.Lost∧s.Lost≤1099511627776
theorem GoodS.chk {s:Ref27State} (h:GoodS s):p_outq_Check s=some 0:=by
 rw [(outC_p h.sm).1]
 unfold outC
 rw [if_neg (by simpa using goodM_iff.2 h.mail),if_neg (by simpa using h.snap),if_pos ⟨h.sent,h.lost⟩]
theorem good_add {s:Ref27State} {k:ByteArray} (p:PresPres) (h:GoodS s) (hk:k.size≤100000):∃ x,p_outq_Add s k p=some x∧GoodS x:=by
 obtain ⟨v,v1,_⟩:=covers_p s.Snap k
 obtain ⟨x,x1,_,_⟩:=put_p p h.sm hk
 unfold p_outq_Add
 rw [h.chk,v1,x1]
 simp only [bne_self_eq_false,cond_false,Option.bind_some]
 cases v with
 | true=>exact ⟨_,rfl,h⟩
 | false =>
  simp only [cond_false]
  cases h0:(x.2 == 0) with
  | true =>
   obtain ⟨g1,g2⟩:=good_put h.sm h.mail hk x1 (by simpa using h0)
   exact ⟨_,rfl,⟨g2,g1,h.snap,h.sent,h.lost⟩⟩
  | false =>
   cases h7:(x.2 == 7) with
   | true =>
    refine ⟨_,rfl,⟨⟨by simp [p_snap_Begin],fun y hy=>by cases hy⟩,GoodM.nil,snapE_beg,h.sent,?_⟩⟩
    have hl:=h.lost
    show 0≤(if (1099511627776:Int) < w64 (s.Lost + 1) then _ else _)∧(if (1099511627776:Int) < w64 (s.Lost + 1) then (1099511627776:Int) else w64 (s.Lost + 1))≤_
    rw [w64_id (by omega)]
    split <;> omega
   | false=>exact ⟨_,rfl,h⟩
def begS (s:Ref27State):Ref27State:=⟨[],⟨true,false,⟨#[]⟩,0⟩,s.Sent,s.Lost⟩
theorem begin_p {s:Ref27State} (h:GoodS s):p_outq_Begin s=some (begS s)∧GoodS (begS s):=by
 unfold p_outq_Begin
 rw [h.chk]
 exact ⟨rfl,⟨⟨by simp [begS],fun y hy=>by cases hy⟩,GoodM.nil,snapE_beg,h.sent,h.lost⟩⟩
def rowsB (e:SnapEyes) (b:BookState) (a:ByteArray):List BookRow:=b.Rows.filter fun x=>decide (0 < cmpR x a) && seesL e x
theorem rowsB_eq {e:SnapEyes} {b:BookState} (hc:bookCheck b.Seq b.Rows=0) (a:ByteArray):(b.Rows.drop (aftL b.Rows a)).filter (seesL e)=rowsB e b a:=by
 have e1:(b.Rows.take (aftL b.Rows a)).filter (fun x=>decide (0 < cmpR x a) && seesL e x)=[]:=List.filter_eq_nil_iff.2 fun x hx=>by
  obtain ⟨i,hi,rfl⟩:=List.getElem_of_mem hx
  rw [List.length_take] at hi
  rw [List.getElem_take,decide_eq_false (aft_lt _ (by omega))];simp
 have e2:(b.Rows.drop (aftL b.Rows a)).filter (fun x=>decide (0 < cmpR x a) && seesL e x)=(b.Rows.drop (aftL b.Rows a)).filter (seesL e):=List.filter_congr fun x hx=>by
  rw [decide_eq_true (aft_mem hc hx),Bool.true_and]
 have e3:=congrArg (List.filter (fun x=>decide (0 < cmpR x a) && seesL e x)) (List.take_append_drop (aftL b.Rows a) b.Rows)
 rw [List.filter_append,e1,e2,List.nil_append] at e3
 exact e3
theorem cmpR_tr {x y:BookRow} {a:ByteArray} (h1:0 < cmpR y (keyR x)) (h2:0 < cmpR x a):0 < cmpR y a:=by
 unfold cmpR at h1 h2 ⊢
 have e1:=cmp_anti (keyR y).data.toList (keyR x).data.toList
 have e2:=cmp_anti (keyR x).data.toList a.data.toList
 have e3:=cmp_anti (keyR y).data.toList a.data.toList
 have:=cmp_trans (a:=a.data.toList) (b:=(keyR x).data.toList) (c:=(keyR y).data.toList) (by omega) (by omega)
 omega
theorem rowsB_next {e:SnapEyes} {b:BookState} {a:ByteArray} {x:BookRow} {r:List BookRow} (hp:b.Rows.Pairwise fun x y=>cmpR x (keyR y) < 0) (h:rowsB e b a=x :: r):rowsB e b (keyR x)=r:=by
 have hx:0 < cmpR x a:=by
  have:x ∈ rowsB e b a:=by rw [h];exact List.mem_cons_self ..
  have:=(List.mem_filter.1 this).2
  simp only [Bool.and_eq_true,decide_eq_true_eq] at this
  exact this.1
 have e1:rowsB e b (keyR x)=(rowsB e b a).filter fun y=>decide (0 < cmpR y (keyR x)):=by
  unfold rowsB
  rw [List.filter_filter]
  refine List.filter_congr fun y _=>?_
  by_cases g:0 < cmpR y (keyR x)
  ·rw [decide_eq_true g,decide_eq_true (cmpR_tr g hx)];simp
  ·rw [decide_eq_false g];simp
 have hp2:(x :: r).Pairwise fun x y=>cmpR x (keyR y) < 0:=by rw [← h];exact hp.sublist List.filter_sublist
 rw [e1,h,List.filter_cons]
 have h0:¬ 0 < cmpR x (keyR x):=by unfold cmpR;rw [cmp_refl];omega
 rw [if_neg (by simpa using h0)]
 refine List.filter_eq_self.2 fun y hy=>?_
 have g:=(List.pairwise_cons.1 hp2).1 y hy
 unfold cmpR at g ⊢
 have:=cmp_anti (keyR x).data.toList (keyR y).data.toList
 simp only [decide_eq_true_eq];omega
def turnM (T:OutqTeller):Option (OutqTeller × StanzaStanza) :=
 if T.st.Snap.On=true then
  (if T.st.Snap.Begun=true then (match rowsB T.eyes T.book T.st.Snap.After with
   | []=>some (⟨⟨tnx T.counter.sent⟩,⟨T.st.Mail,snap0,T.st.Sent,T.st.Lost⟩,T.eyes,T.book⟩,doneS)
   | x :: _=>some (⟨⟨tnx T.counter.sent⟩,⟨T.st.Mail,⟨true,true,keyR x,tnx T.st.Snap.Told⟩,T.st.Sent,T.st.Lost⟩,T.eyes,T.book⟩,sayR x))
  else some (⟨⟨tnx T.counter.sent⟩,⟨T.st.Mail,⟨true,true,⟨#[]⟩,0⟩,T.st.Sent,T.st.Lost⟩,T.eyes,T.book⟩,snapS ((viewL T.eyes T.book).length:Int)))
 else match T.st.Mail with
  | []=>none
  | e :: r=>some (⟨⟨tnx T.counter.sent⟩,⟨r,T.st.Snap,T.st.Sent,T.st.Lost⟩,T.eyes,T.book⟩,sayL (splitE e.Key).1 (splitE e.Key).2.1 e.P)
theorem tnext_t {T:OutqTeller} (h:OkT T) (hc:bookCheck T.book.Seq T.book.Rows=0):p_outq_teller_next T=some (match turnM T with | some z=>(z.1,z.2,true) | none=>(T,stz0,false)):=by
 obtain ⟨t1,_⟩:=tnx_p h.sent.1 h.sent.2
 unfold p_outq_teller_next turnM p_outq_counter_told
 cases ho:T.st.Snap.On with
 | true =>
  simp only [cond_true,if_true]
  rcases snapE_on h.snap ho with ⟨g1,g2,g3⟩ | g1
  ·have hb:T.st.Snap.Begun=true:=by rw [g1]
   have n1:=next_rowT h.eyes h.rows h.small hc g2 g3 (aft_le T.book.Rows T.st.Snap.After) (nxt_at hc T.st.Snap.After)
   rw [← g1] at n1
   rw [rowsB_eq hc] at n1
   rw [n1,hb]
   cases rowsB T.eyes T.book T.st.Snap.After with
   | nil=>simp only [Option.bind_some,cond_true,if_true,t1]
   | cons x r=>simp only [Option.bind_some,cond_true,if_true,t1]
  ·have hb:T.st.Snap.Begun=false:=by rw [g1]
   rw [hb,g1,next_begin h.eyes h.rows h.small hc]
   simp only [Option.bind_some,cond_true,t1,Bool.false_eq_true,if_false]
 | false =>
  simp only [cond_false,Bool.false_eq_true,if_false]
  obtain ⟨c1,_⟩:=mailC_p h.sm
  rw [h.mail] at c1
  unfold p_mail_Take
  rw [c1]
  cases hm:T.st.Mail with
  | nil=>rfl
  | cons e r =>
   have hl:(((e :: r).length:Int) == 0)=false:=by first | (simp;done) | (simp;omega)
   have hcut:cut? (e :: r) (some (1:Int)) none=some r:=by
    have:=cutFrom (l:=e :: r) (k:=1) (by simp)
    simpa using this
   have hat:at? (e :: r) (0:Int)=some e:=rfl
   have he:e.Key.size≤100000:=h.sm.2 e (by rw [hm];exact List.mem_cons_self ..)
   obtain ⟨z1,z2⟩:=split_szs he
   simp only [cond_false,cond_true,hl,Option.bind_some,bne_self_eq_false,hcut,hat,split_p he,say_p _ z1 z2,t1]
theorem snapE_row {a:ByteArray} {t:Int} (h:0≤t∧t≤1099511627776):snapE ⟨true,true,a,t⟩=0:=by
 unfold snapE
 simp only [if_true]
 rw [if_neg (by omega),if_neg (by omega)]
theorem turn_ok {T T' : OutqTeller} {s:StanzaStanza} (h:OkT T) (ht:turnM T=some (T',s)):OkT T'∧T'.eyes=T.eyes∧T'.book=T.book:=by
 have tb:=tnx_bd h.sent.1 h.sent.2
 unfold turnM at ht
 cases ho:T.st.Snap.On with
 | true =>
  rw [ho] at ht
  simp only [if_true] at ht
  rcases snapE_on h.snap ho with ⟨g1,g2,g3⟩ | g1
  ·have hb:T.st.Snap.Begun=true:=by rw [g1]
   rw [hb] at ht
   simp only [if_true] at ht
   cases hr:rowsB T.eyes T.book T.st.Snap.After with
   | nil =>
    rw [hr] at ht
    simp only [Option.some.injEq,Prod.mk.injEq] at ht
    obtain ⟨rfl,_⟩:=ht
    exact ⟨⟨h.sm,h.mail,by show snapE snap0=0;unfold snapE snap0;simp,tb,h.lost,h.eyes,h.rows,h.small⟩,rfl,rfl⟩
   | cons x r =>
    rw [hr] at ht
    simp only [Option.some.injEq,Prod.mk.injEq] at ht
    obtain ⟨rfl,_⟩:=ht
    exact ⟨⟨h.sm,h.mail,snapE_row (tnx_bd g2 g3),tb,h.lost,h.eyes,h.rows,h.small⟩,rfl,rfl⟩
  ·have hb:T.st.Snap.Begun=false:=by rw [g1]
   rw [hb] at ht
   simp only [Bool.false_eq_true,if_false,Option.some.injEq,Prod.mk.injEq] at ht
   obtain ⟨rfl,_⟩:=ht
   exact ⟨⟨h.sm,h.mail,snapE_row ⟨by omega,by omega⟩,tb,h.lost,h.eyes,h.rows,h.small⟩,rfl,rfl⟩
 | false =>
  rw [ho] at ht
  simp only [Bool.false_eq_true,if_false] at ht
  cases hm:T.st.Mail with
  | nil=>rw [hm] at ht;cases ht
  | cons e r =>
   rw [hm] at ht
   simp only [Option.some.injEq,Prod.mk.injEq] at ht
   obtain ⟨rfl,_⟩:=ht
   have hsm:=h.sm
   have hmc:=h.mail
   rw [hm] at hsm hmc
   exact ⟨⟨⟨by show r.length≤1000;have:=hsm.1;simp at this;omega,fun y hy=>hsm.2 y (List.mem_cons_of_mem _ hy)⟩,mailC_tail hmc,h.snap,tb,h.lost,h.eyes,h.rows,h.small⟩,rfl,rfl⟩
def potT (T:OutqTeller):Nat:=(if T.st.Snap.On=true then (rowsB T.eyes T.book T.st.Snap.After).length + (if T.st.Snap.Begun=true then 1 else 2) else 0) + T.st.Mail.length
theorem turn_pot {T:OutqTeller} (h:OkT T) (hp:T.book.Rows.Pairwise fun x y=>cmpR x (keyR y) < 0):match turnM T with
  | none=>potT T=0
  | some z=>potT z.1 + 1=potT T∧(T.st.Snap.On=false→z.1.st.Snap.On=false∧∃ e,T.st.Mail=e :: z.1.st.Mail∧z.2=sayL (splitE e.Key).1 (splitE e.Key).2.1 e.P):=by
 unfold turnM potT
 cases ho:T.st.Snap.On with
 | true =>
  simp only [if_true]
  rcases snapE_on h.snap ho with ⟨g1,g2,g3⟩ | g1
  ·have hb:T.st.Snap.Begun=true:=by rw [g1]
   rw [hb]
   simp only [if_true]
   cases hr:rowsB T.eyes T.book T.st.Snap.After with
   | nil=>exact ⟨by simp [snap0];omega,fun h=>by cases h⟩
   | cons x r =>
    refine ⟨?_,fun h=>by cases h⟩
    simp only [if_true]
    rw [rowsB_next hp hr,List.length_cons];omega
  ·have hb:T.st.Snap.Begun=false:=by rw [g1]
   have ha:T.st.Snap.After=⟨#[]⟩:=by rw [g1]
   rw [hb,ha]
   simp only [Bool.false_eq_true,if_false,if_true]
   exact ⟨by omega,fun h=>by cases h⟩
 | false =>
  simp only [Bool.false_eq_true,if_false]
  cases hm:T.st.Mail with
  | nil=>simp
  | cons e r =>
   simp only [ho,Bool.false_eq_true,if_false]
   exact ⟨by simp,fun _=>⟨trivial,e,rfl,rfl⟩⟩
theorem okW0:(List.range 20).all (fun m=>!((keyL (u20 m) ⟨#[]⟩).toList == (⟨#[]⟩ : ByteArray).toList) && (decide ((u20 m).size≤100) && namedL (u20 m) ⟨#[]⟩))=true:=by kernel_rfl
theorem monoW0:(List.range 20).all (fun j=>(List.range j).all fun i=>decide (Lib.compareBytes (keyL (u20 i) ⟨#[]⟩).data.toList (keyL (u20 j) ⟨#[]⟩).data.toList < 0))=true:=by kernel_rfl
theorem okW {m:Nat} (h:m < 20):((keyL (u20 m) ⟨#[]⟩).toList == (⟨#[]⟩ : ByteArray).toList)=false∧(u20 m).size≤100∧namedL (u20 m) ⟨#[]⟩=true:=by
 have:=List.all_eq_true.1 okW0 m (List.mem_range.2 h)
 simpa using this
def FW:Fam where
 n:=20
 u m:=u20 m
 r _:=⟨#[]⟩
 ok m hm:=⟨(okW hm).1,(okW hm).2.1,by decide⟩
 mono i j hij hj:=by
  have:=List.all_eq_true.1 (List.all_eq_true.1 monoW0 j (List.mem_range.2 hj)) i (List.mem_range.2 hij)
  simpa using this
theorem tabW_rows:tabR FW (List.replicate 20 ⟨false,0,0,0⟩)=[]:=by
 unfold tabR tabA
 have:(List.range FW.n).filter (onF (List.replicate 20 ⟨false,0,0,0⟩))=[]:=List.filter_eq_nil_iff.2 fun m _=>by unfold onF;rw [rep_pre];simp
 rw [this];rfl
theorem tabW_0:TabOK FW 0 (List.replicate 20 ⟨false,0,0,0⟩):=by
 have hno:∀ m,onF (List.replicate 20 ⟨false,0,0,0⟩) m=false:=fun m=>by unfold onF;rw [rep_pre]
 refine ⟨by simp [FW],by omega,fun m _ h=>?_,fun m _ h=>?_,fun i j _ _ h=>?_,by rw [tabW_rows];simp,fun m _ h=>?_⟩ <;> rw [hno] at h <;> cases h
theorem StW.init:StF FW ⟨0,[]⟩ (List.replicate 20 ⟨false,0,0,0⟩) 0:=⟨tabW_rows.symm,tabW_0,by simp⟩
def BookStep (st:BookState) (has:List PresPres) (m:Nat) (q:BookState × PresPres × Int) (has' : List PresPres):Prop :=
 (q.2.2=0∧q.2.1.Seq=st.Seq + 1∧q.1.Seq=st.Seq + 1∧presCheckL q.2.1=0∧has'=has.set m q.2.1∧(q.2.1.On=false→q.2.1=⟨false,0,0,st.Seq + 1⟩))∨(q.2.2≠0∧has'=has∧q.1=st)
theorem bstep_set {F:Fam} {st:BookState} {has:List PresPres} {k m:Nat} (h:StF F st has k) (hk:k < 900) (hm:m < F.n) {sh prio:Int} (hsh:0≤sh∧sh≤4) (hp:-128≤prio∧prio≤127) :
  ∃ q has',p_book_Set st (F.u m) (F.r m) sh prio=some q∧StF F q.1 has' (k + 1)∧BookStep st has m q has':=by
 have hs:=h.seq
 have h0:=h.ok.seq0
 have hl:=h.len
 have hu:=(F.ok m hm).2
 refine ⟨_,if onF has m=false∧(16≤st.Rows.length∨3≤manyL st.Rows (F.u m)) then has else has.set m ⟨true,sh,prio,st.Seq + 1⟩,set_p (by omega) h.small (by omega) (by omega),?_⟩
 have:=tab_set (sh:=sh) (prio:=prio) h.ok (by omega) hm (presOn _ _ _ hsh hp (by omega))
 rw [h.rows,this]
 split
 ·exact ⟨⟨rfl,h.ok,by show st.Seq≤((k + 1:Nat):Int);omega⟩,.inr ⟨by show (7:Int)≠0;decide,rfl,by show BookState.mk _ _=st;rw [← h.rows]⟩⟩
 ·rename_i hno
  refine ⟨⟨rfl,tab_ok_put h.ok hm (fun _=>⟨presOn _ _ _ hsh hp (by omega),rfl⟩) (fun _ ho=>?_),by show st.Seq + 1≤((k + 1:Nat):Int);omega⟩,.inl ⟨rfl,rfl,rfl,presOn _ _ _ hsh hp (by omega),rfl,fun h=>by cases h⟩⟩
  exact ⟨Nat.lt_of_not_le fun g=>hno ⟨ho,.inl g⟩,Nat.lt_of_not_le fun g=>hno ⟨ho,.inr g⟩⟩
theorem bstep_off {F:Fam} {st:BookState} {has:List PresPres} {k m:Nat} (h:StF F st has k) (hk:k < 900) (hm:m < F.n):∃ q has',p_book_Off st (F.u m) (F.r m)=some q∧StF F q.1 has' (k + 1)∧BookStep st has m q has':=by
 have hs:=h.seq
 have h0:=h.ok.seq0
 have hl:=h.len
 have hu:=(F.ok m hm).2
 refine ⟨_,if onF has m=false then has else has.set m ⟨false,0,0,st.Seq + 1⟩,off_p (by omega) h.small (by omega) (by omega),?_⟩
 have:=tab_off h.ok (by omega) hm
 rw [h.rows,this]
 split
 ·exact ⟨⟨rfl,h.ok,by show st.Seq≤((k + 1:Nat):Int);omega⟩,.inr ⟨by show (6:Int)≠0;decide,rfl,by show BookState.mk _ _=st;rw [← h.rows]⟩⟩
 ·refine ⟨⟨rfl,tab_ok_put h.ok hm (fun e=>by cases e) (fun e=>by cases e),by show st.Seq + 1≤((k + 1:Nat):Int);omega⟩,.inl ⟨rfl,rfl,rfl,?_,rfl,fun _=>rfl⟩⟩
  show presCheckL ⟨false,0,0,st.Seq + 1⟩=0
  unfold presCheckL
  rw [if_neg (by simp;omega)];simp
end Go.Proofs.YthnihifblmnkdaaGreat

namespace Go.Proofs.YthnihifblmnkdaaGreat
open Go.RowKit
theorem whoW_p {w:Int} (h:0≤w∧w≤255):p_law27_who w=some (u20 (w.toNat % 20)):=by
 unfold p_law27_who
 have e:=tmod_nat h.1 20
 have e2:Int.tmod w (20:Int)=((w.toNat % 20:Nat):Int):=e
 have ht:=text1 97 (w.toNat % 20) (Int.tmod w (20:Int)) 20 e2 (by omega)
 have ht2:text? [IntKind.wrap .u8 ((97:Int) + (Int.tmod w (20:Int)))]=some ⟨#[UInt8.ofNat (97 + w.toNat % 20)]⟩:=ht
 rw [ht2]
 simp only [Option.bind_some]
 have hc:cat? (⟨#[UInt8.ofNat (97 + w.toNat % 20)]⟩ : ByteArray) ⟨#[64,120]⟩=some (u20 (w.toNat % 20)):=by
  unfold cat?
  rw [if_pos (by show 1 + 2≤_;omega)];rfl
 rw [hc];rfl
structure DeedW (d:Law27Deed):Prop where
 who:0≤d.Who∧d.Who≤255
 sh:0≤d.Show∧d.Show≤255
 tell:0≤d.Tell∧d.Tell≤255
theorem keyW_sz0:(List.range 20).all (fun m=>decide ((keyL (u20 m) ⟨#[]⟩).size=4))=true:=by kernel_rfl
theorem keyW_sz {m:Nat} (h:m < 20):(keyL (u20 m) ⟨#[]⟩).size=4:=by
 have:=List.all_eq_true.1 keyW_sz0 m (List.mem_range.2 h)
 simpa using this
theorem keyW_p {m:Nat} (h:m < 20):p_pres_Key (u20 m) ⟨#[]⟩=some (keyL (u20 m) ⟨#[]⟩):=key_p (by have:=(okW h).2.1;omega) (by decide)
theorem show27_p {d:Law27Deed} (h:DeedW d):w64 (Int.tmod d.Show (5:Int))=((d.Show.toNat % 5:Nat):Int):=by
 have e:Int.tmod d.Show (5:Int)=((d.Show.toNat % 5:Nat):Int):=tmod_nat h.sh.1 5
 rw [e,w64_id (by omega)]
theorem deed27 {d:Law27Deed} (hd:DeedW d) {b:BookState} {has:List PresPres} {k:Nat} (h:StF FW b has k) (hk:k < 900) :
  ∃ q has',(bif d.Off then (p_book_Off b (u20 (d.Who.toNat % 20)) (⟨#[]⟩ : ByteArray)).bind fun v35=>some (v35.2.2,v35.2.1,v35.1) else (p_book_Set b (u20 (d.Who.toNat % 20)) (⟨#[]⟩ : ByteArray) (w64 (Int.tmod d.Show (5:Int))) (0:Int)).bind fun v37=>some (v37.2.2,v37.2.1,v37.1))=some (q.2.2,q.2.1,q.1) ∧
   StF FW q.1 has' (k + 1)∧BookStep b has (d.Who.toNat % 20) q has':=by
 have hm:d.Who.toNat % 20 < FW.n:=by show _ < 20;omega
 cases d.Off with
 | true =>
  obtain ⟨q,has',e1,f1,f2⟩:=bstep_off h hk hm
  have e1' : p_book_Off b (u20 (d.Who.toNat % 20)) ⟨#[]⟩=some q:=e1
  exact ⟨q,has',by rw [cond_true,e1'];rfl,f1,f2⟩
 | false =>
  obtain ⟨q,has',e1,f1,f2⟩:=bstep_set (sh:=((d.Show.toNat % 5:Nat):Int)) (prio:=0) h hk hm (by omega) (by omega)
  have e1' : p_book_Set b (u20 (d.Who.toNat % 20)) ⟨#[]⟩ ((d.Show.toNat % 5:Nat):Int) 0=some q:=e1
  exact ⟨q,has',by rw [cond_false,show27_p hd,e1'];rfl,f1,f2⟩
theorem wraps_u8 {k:Nat} (h:k < 256):IntKind.wrap .u8 (k:Int)=(k:Int):=u8_in (by omega)
theorem good_rows {F:Fam} {st:BookState} {has:List PresPres} {k:Nat} (h:StF F st has k) (hk:k < 900):st.Rows.Pairwise fun x y=>cmpR x (keyR y) < 0:=by
 rw [h.rows]
 exact (tab_good h.ok (by have:=h.seq;omega)).ord
end Go.Proofs.YthnihifblmnkdaaGreat

namespace Go.Proofs.YthnihifblmnkdaaGreat
open Go.RowKit
def KM (m:Nat):ByteArray:=keyL (u20 m) ⟨#[]⟩
def zP:PresPres:=⟨false,0,0,0⟩
def shP (p:PresPres):PresPres:=if p.On=true then p else zP
def lastV (v:Law27View) (m:Nat):Int:=v.last.getD m 0
def seenV (v:Law27View) (m:Nat):Bool:=v.seen.getD m false
theorem gds {α:Type} {l:List α} {k:Nat} {x d:α} (h:k < l.length):(l.set k x).getD k d=x:=by
 rw [List.getD_eq_getElem?_getD,List.getElem?_set_self h];rfl
theorem gdn {α:Type} {l:List α} {k m:Nat} {x d:α} (h:m≠k):(l.set k x).getD m d=l.getD m d:=by
 rw [List.getD_eq_getElem?_getD,List.getD_eq_getElem?_getD,List.getElem?_set_ne (Ne.symm h)]
theorem arrG {α:Type} {l:List α} {n k:Nat} {d:α} (hl:l.length=n) (h:k < n):arr? n l (k:Int)=some (l.getD k d):=by
 unfold arr?
 rw [if_pos hl,at_lt (by omega)]
 rw [List.getD_eq_getElem?_getD,List.getElem?_eq_getElem (by omega)];rfl
theorem lenG_ok {α:Type} {l:List α} {n:Nat} (hl:l.length=n):lenG? n l=some ():=by unfold lenG?;rw [if_pos hl.symm]
theorem idx0:(List.range 20).all (fun m=>(byte? (u20 m) (0:Int) == some (((97 + m:Nat)):Int)) && ((Int.tmod (w64 (IntKind.wrap .u8 (((97 + m:Nat):Int) - (97:Int)))) (20:Int)) == (m:Int)))=true:=by kernel_rfl
theorem idx {m:Nat} (h:m < 20):byte? (u20 m) (0:Int)=some (((97 + m:Nat)):Int)∧Int.tmod (w64 (IntKind.wrap .u8 (((97 + m:Nat):Int) - (97:Int)))) (20:Int)=(m:Int):=by
 have:=List.all_eq_true.1 idx0 m (List.mem_range.2 h)
 simpa using this
theorem split20:(List.range 20).all (fun m=>((splitE (KM m)).1.toList == (u20 m).toList) && (((splitE (KM m)).2.1.toList == (⟨#[]⟩ : ByteArray).toList) && ((splitE (KM m)).2.2 == 0)))=true:=by kernel_rfl
theorem splitK {m:Nat} (h:m < 20):(splitE (KM m)).1=u20 m∧(splitE (KM m)).2.1=⟨#[]⟩∧(splitE (KM m)).2.2=0:=by
 have:=List.all_eq_true.1 split20 m (List.mem_range.2 h)
 rw [Bool.and_eq_true,Bool.and_eq_true,eqT_iff,eqT_iff,beq_iff_eq] at this
 exact this
theorem checkS_of {s:StzD} (h1:knownN s.kind.toNat=true) (h2:extraL s=false) (h3:rangeL s=true) (h4:s.name.size≤24) (h5:plainL s.name.data.toList=true) (h6:isBareL s.user.data.toList=true) (h7:resL s.res.data.toList=0):checkS s=0:=by
 unfold checkS
 rw [if_neg (by simp [h1]),if_neg (by simp [h2]),if_neg (by simp [h3]),if_neg (by omega),if_neg (by simp [h5]),if_neg (by simp [h6]),h7]
theorem named_parts {u r:ByteArray} (h:namedL u r=true):isBareL u.data.toList=true∧resL r.data.toList=0:=by
 unfold namedL at h
 simp at h
 exact ⟨h.2,h.1⟩
theorem pres_bounds {p:PresPres} (h:presCheckL p=0):(0≤p.Show∧p.Show≤4)∧(-128≤p.Prio∧p.Prio≤127)∧(0≤p.Seq∧p.Seq≤1099511627776)∧(p.On=false→p.Show=0∧p.Prio=0):=by
 obtain ⟨on,sh,prio,seq⟩:=p
 revert h
 simp only [presCheckL]
 grind
theorem stz34 {u r:ByteArray} {sh prio seq:Int} (hn:namedL u r=true) (hu:u.size≤100000) (hr:r.size≤100000) (h1:0≤sh∧sh≤4) (h2:-128≤prio∧prio≤127) (h3:0≤seq∧seq≤1099511627776) :
  p_stanza_Check ⟨34,u,r,⟨#[]⟩,sh,prio,0,seq⟩=some 0:=by
 obtain ⟨hb,hz⟩:=named_parts hn
 have em:(⟨#[]⟩ : ByteArray).toList=[]:=by simp
 have k34:hasC 34 117=true∧hasC 34 114=true∧hasC 34 115=true∧hasC 34 112=true∧hasC 34 110=true:=by decide
 unfold p_stanza_Check
 rw [if_pos ⟨⟨by show (0:Int)≤34;omega,by show (34:Int)≤255;omega⟩,hu,hr,Nat.zero_le _⟩]
 congr 1
 refine checkS_of (by show knownN 34=true;decide) ?_ ?_ (Nat.zero_le _) (by show plainL []=true;decide) hb hz
 ·have e:(stzOf ⟨34,u,r,⟨#[]⟩,sh,prio,0,seq⟩)=⟨34,u,r,⟨#[]⟩,sh,prio,0,seq⟩:=rfl
  rw [e]
  simp only [extraL,k34.1,k34.2.1,k34.2.2.1,k34.2.2.2.1,k34.2.2.2.2,em];simp
 ·have e:(stzOf ⟨34,u,r,⟨#[]⟩,sh,prio,0,seq⟩)=⟨34,u,r,⟨#[]⟩,sh,prio,0,seq⟩:=rfl
  rw [e]
  simp only [rangeL];simp;omega
theorem stz35 {u r:ByteArray} {seq:Int} (hn:namedL u r=true) (hu:u.size≤100000) (hr:r.size≤100000) (h3:0≤seq∧seq≤1099511627776) :
  p_stanza_Check ⟨35,u,r,⟨#[]⟩,0,0,0,seq⟩=some 0:=by
 obtain ⟨hb,hz⟩:=named_parts hn
 have em:(⟨#[]⟩ : ByteArray).toList=[]:=by simp
 have k35:hasC 35 117=true∧hasC 35 114=true∧hasC 35 110=true:=by decide
 unfold p_stanza_Check
 rw [if_pos ⟨⟨by show (0:Int)≤35;omega,by show (35:Int)≤255;omega⟩,hu,hr,Nat.zero_le _⟩]
 congr 1
 refine checkS_of (by show knownN 35=true;decide) ?_ ?_ (Nat.zero_le _) (by show plainL []=true;decide) hb hz
 ·have e:(stzOf ⟨35,u,r,⟨#[]⟩,0,0,0,seq⟩)=⟨35,u,r,⟨#[]⟩,0,0,0,seq⟩:=rfl
  rw [e]
  simp only [extraL,k35.1,k35.2.1,k35.2.2,em];simp
 ·have e:(stzOf ⟨35,u,r,⟨#[]⟩,0,0,0,seq⟩)=⟨35,u,r,⟨#[]⟩,0,0,0,seq⟩:=rfl
  rw [e]
  simp only [rangeL];simp;omega
theorem of_say {m:Nat} (hm:m < 20) {p:PresPres} (hp:presCheckL p=0):p_pres_Of (sayL (u20 m) ⟨#[]⟩ p)=some (u20 m,⟨#[]⟩,p,0)∧((sayL (u20 m) ⟨#[]⟩ p).Kind == (36:Int))=false∧((sayL (u20 m) ⟨#[]⟩ p).Kind == (37:Int))=false:=by
 obtain ⟨b1,b2,b3,b4⟩:=pres_bounds hp
 obtain ⟨_,hu,hn⟩:=okW hm
 obtain ⟨on,sh,prio,seq⟩:=p
 unfold sayL
 rw [if_neg (by simpa using hp),if_pos hn]
 cases on with
 | true =>
  rw [if_pos rfl]
  refine ⟨?_,rfl,rfl⟩
  have k:((34:Int) != 34)=false:=rfl
  have hp2:presCheckL ⟨(34:Int) == 34,sh,prio,seq⟩=0:=hp
  unfold p_pres_Of
  simp only [k,cond_false]
  rw [stz34 hn (by omega) (by decide) b1 b2 b3,presCheck_p,hp2]
  rfl
 | false =>
  obtain ⟨q1,q2⟩:=b4 rfl
  have q1' : sh=0:=q1
  have q2' : prio=0:=q2
  subst q1';subst q2'
  rw [if_neg (by simp)]
  refine ⟨?_,rfl,rfl⟩
  have k:((35:Int) != 34)=true:=rfl
  have k2:((35:Int) != 35)=false:=rfl
  have hp2:presCheckL ⟨(35:Int) == 34,0,0,seq⟩=0:=hp
  unfold p_pres_Of
  simp only [k,k2,cond_false,cond_true]
  rw [stz35 hn (by omega) (by decide) b3,presCheck_p,hp2]
  rfl
structure VLen (v:Law27View):Prop where
 l1:v.has.length=20
 l2:v.seen.length=20
 l3:v.last.length=20
theorem tell_say {v:Law27View} (hv:VLen v) {m:Nat} (hm:m < 20) {p:PresPres} (hp:presCheckL p=0) (hq:lastV v m < p.Seq∨lastV v m=p.Seq∧v.anew=true) :
  p_law27_view_tell v (sayL (u20 m) ⟨#[]⟩ p)=some (⟨v.has.set m (shP p),v.anew,v.seen.set m true,v.last.set m p.Seq⟩,true):=by
 obtain ⟨o1,o2,o3⟩:=of_say hm hp
 obtain ⟨i1,i2⟩:=idx hm
 have ne:((u20 m).toList == (⟨#[]⟩ : ByteArray).toList)=false:=by
  rw [← Bool.not_eq_true,eqT_iff]
  intro e
  have:=congrArg ByteArray.size e
  have h2:(u20 m).size=3:=rfl
  rw [h2] at this
  exact absurd this (by decide)
 have a1:arr? 20 v.last (m:Int)=some (lastV v m):=arrG hv.l3 hm
 have a2:arr? 20 v.seen (m:Int)=some (seenV v m):=arrG hv.l2 hm
 have a3:arr? 20 v.has (m:Int)=some (preT v.has m):=arrG hv.l1 hm
 have g1:=lenG_ok hv.l1
 have g2:=lenG_ok hv.l2
 have hlt:decide (p.Seq < lastV v m)=false:=decide_eq_false (by rcases hq with h | ⟨h,_⟩ <;> omega)
 unfold p_law27_view_tell
 rw [o2,o3,o1]
 simp only [cond_false,Option.bind_some,bne_self_eq_false,ne,i1,i2,a1,a2,a3,g1,g2,hlt,Int.toNat_natCast]
 rcases hq with h | ⟨h,ha⟩
 ·have:(p.Seq == lastV v m)=false:=by simp;omega
  rw [this]
  simp only [cond_false]
  cases ho:p.On with
  | true=>simp only [cond_true];unfold shP;rw [if_pos ho]
  | false=>simp only [cond_false];unfold shP;rw [if_neg (by simp [ho])];rfl
 ·have:(p.Seq == lastV v m)=true:=by simp;omega
  rw [this,ha]
  simp only [cond_true]
  cases ho:p.On with
  | true=>simp only [cond_true];unfold shP;rw [if_pos ho]
  | false=>simp only [cond_false];unfold shP;rw [if_neg (by simp [ho])];rfl
theorem tell_snap {v:Law27View} (hv:VLen v) (n:Int):p_law27_view_tell v (snapS n)=some (⟨v.has,true,List.replicate 20 false,v.last⟩,true):=by
 unfold p_law27_view_tell
 rw [lenG_ok hv.l1,lenG_ok hv.l2];rfl
theorem done_l : ∀ (n i F : Nat) (v : Law27View), i + n = 20 → n < F → VLen v → v.anew = true → ∃ v', p_law27_view_tell_l1 F (i : Int) v = some (((20 : Nat) : Int), v') ∧ VLen v' ∧ v'.anew = true ∧ v'.seen = v.seen ∧ v'.last = v.last ∧
      ∀ m, m < 20 → preT v'.has m = if i ≤ m ∧ seenV v m = false then zP else preT v.has m
  | 0, i, F + 1, v, hi, hF, hv, ha => by
    have : i = 20 := by omega
    subst this
    rw [p_law27_view_tell_l1]
    refine ⟨v, rfl, hv, ha, rfl, rfl, fun m hm => ?_⟩
    rw [if_neg (by omega)]
  | n + 1, i, F + 1, v, hi, hF, hv, ha => by
    have h20 : decide ((i : Int) < (20 : Int)) = true := by simp; omega
    have a2 : arr? 20 v.seen (i : Int) = some (seenV v i) := arrG hv.l2 (by omega)
    have a3 : arr? 20 v.has (i : Int) = some (preT v.has i) := arrG hv.l1 (by omega)
    rw [p_law27_view_tell_l1, h20, lenG_ok hv.l1]
    simp only [cond_true, Option.bind_some, ha, a2, a3, w64_succ (show i ≤ 1000000 by omega)]
    cases hs : seenV v i with
    | true =>
      simp only [cond_true]
      obtain ⟨v', e, r1, r2, r3, r4, r5⟩ := done_l n (i + 1) F v (by omega) (by omega) hv ha
      refine ⟨v', e, r1, r2, r3, r4, fun m hm => ?_⟩
      rw [r5 m hm]
      by_cases hmi : m = i
      · subst hmi; rw [if_neg (by omega), if_neg (by simp [hs])]
      · by_cases hc : i + 1 ≤ m ∧ seenV v m = false
        · rw [if_pos hc, if_pos ⟨by omega, hc.2⟩]
        · rw [if_neg hc, if_neg (fun g => hc ⟨by omega, g.2⟩)]
    | false =>
      simp only [cond_false]
      obtain ⟨v', e, r1, r2, r3, r4, r5⟩ := done_l n (i + 1) F ⟨v.has.set i zP, true, v.seen, v.last⟩ (by omega) (by omega) ⟨by simp [hv.l1], hv.l2, hv.l3⟩ rfl
      have e2 : p_law27_view_tell_l1 F ((i + 1 : Nat) : Int) (Law27View.mk (List.set v.has (Int.toNat (i : Int)) (PresPres.mk false (0 : Int) (0 : Int) (0 : Int))) true v.seen v.last) = _ := e
      rw [e2]
      refine ⟨v', rfl, r1, r2, r3, r4, fun m hm => ?_⟩
      rw [r5 m hm]
      by_cases hmi : m = i
      · subst hmi
        rw [if_neg (by omega), if_pos ⟨Nat.le_refl _, hs⟩]
        exact gds (by rw [hv.l1]; exact hm)
      · have e3 : preT (v.has.set i zP) m = preT v.has m := gdn hmi
        have e4 : seenV ⟨v.has.set i zP, true, v.seen, v.last⟩ m = seenV v m := rfl
        rw [e4]
        by_cases hc : i + 1 ≤ m ∧ seenV v m = false
        · rw [if_pos hc, if_pos ⟨by omega, hc.2⟩]
        · rw [if_neg hc, if_neg (fun g => hc ⟨by omega, g.2⟩)]; exact e3
theorem tell_done {v:Law27View} (hv:VLen v) (ha:v.anew=true):∃ has',p_law27_view_tell v doneS=some (⟨has',false,v.seen,v.last⟩,true)∧has'.length=20∧∀ m,m < 20→preT has' m=if seenV v m=true then preT v.has m else zP:=by
 obtain ⟨v',e,r1,r2,r3,r4,r5⟩:=done_l 20 0 fuel v rfl (by have:=fuel_pos;omega) hv ha
 have e' : p_law27_view_tell_l1 fuel (0:Int) v=some (((20:Nat):Int),v'):=e
 have k1:(doneS.Kind == (36:Int))=false:=rfl
 have k2:(doneS.Kind == (37:Int))=true:=rfl
 unfold p_law27_view_tell
 rw [k1,k2,e']
 simp only [cond_false,cond_true,Option.bind_some]
 rw [lenG_ok r1.l1,r3,r4]
 refine ⟨v'.has,rfl,r1.l1,fun m hm=>?_⟩
 rw [r5 m hm]
 cases seenV v m with
 | true=>rw [if_neg (by simp),if_pos rfl]
 | false=>rw [if_pos ⟨Nat.zero_le _,rfl⟩,if_neg (by simp)]
end Go.Proofs.YthnihifblmnkdaaGreat

namespace Go.Proofs.YthnihifblmnkdaaGreat
open Go.RowKit
def sawM (e:SnapEyes) (m:Nat):Bool:=seesL e ⟨u20 m,⟨#[]⟩,zP⟩
def aftK (a:ByteArray) (m:Nat):Prop:=0 < Lib.compareBytes (KM m).data.toList a.data.toList
theorem KM_lt {i j:Nat} (h:i < j) (hj:j < 20):Lib.compareBytes (KM i).data.toList (KM j).data.toList < 0:=FW.mono i j h hj
theorem KM_inj {i j:Nat} (hi:i < 20) (hj:j < 20) (h:KM i=KM j):i=j:=by
 rcases Nat.lt_trichotomy i j with c | c | c
 ·have:=KM_lt c hj;rw [h,cmp_refl] at this;omega
 ·exact c
 ·have:=KM_lt c hi;rw [h,cmp_refl] at this;omega
theorem aft_tr {a:ByteArray} {i j:Nat} (hi:aftK a i) (h:i < j) (hj:j < 20):aftK a j:=by
 unfold aftK at hi ⊢
 have h1:=KM_lt h hj
 have e1:=cmp_anti (KM i).data.toList a.data.toList
 have e2:=cmp_anti (KM j).data.toList a.data.toList
 have:=cmp_trans (a:=a.data.toList) (b:=(KM i).data.toList) (c:=(KM j).data.toList) (by omega) h1
 omega
theorem aft_own {i m:Nat} (hi:i < 20) (hm:m < 20):aftK (KM m) i ↔ m < i:=by
 unfold aftK
 rcases Nat.lt_trichotomy i m with c | c | c
 ·have:=KM_lt c hm;constructor <;> intro <;> omega
 ·subst c;rw [cmp_refl];constructor <;> intro <;> omega
 ·have:=KM_lt c hi
  have e:=cmp_anti (KM m).data.toList (KM i).data.toList
  constructor <;> intro <;> omega
def okV (has:List PresPres) (v:Law27View) (m:Nat):Prop:=(if seenV v m=true then preT v.has m else zP)=shP (preT has m)
structure InvW (e:SnapEyes) (has:List PresPres) (ml:List MailEntry) (sn:SnapState) (v:Law27View):Prop where
 vl:VLen v
 last:∀ m,m < 20→lastV v m≤(preT has m).Seq
 blind:∀ m,m < 20→sawM e m=false→preT v.has m=zP
 mail:∀ x ∈ ml,∃ m,m < 20∧sawM e m=true∧x=⟨KM m,preT has m⟩∧lastV v m < (preT has m).Seq
 off:sn.On=false→v.anew=false∧∀ m,m < 20→sawM e m=true→(∃ x ∈ ml,x.Key=KM m)∨preT v.has m=shP (preT has m)
 beg:sn.On=true→sn.Begun=false→ml=[]
 run:sn.On=true→sn.Begun=true→v.anew=true∧(∀ m,m < 20→aftK sn.After m→(∀ x ∈ ml,x.Key≠KM m)∧seenV v m=false) ∧
  ∀ m,m < 20→sawM e m=true→¬ aftK sn.After m→(∃ x ∈ ml,x.Key=KM m)∨okV has v m
theorem rows_first {e:SnapEyes} {b:BookState} {has:List PresPres} {a:ByteArray} (hb:b.Rows=tabR FW has) (hp:b.Rows.Pairwise fun x y=>cmpR x (keyR y) < 0) {x:BookRow} {r:List BookRow} (h:rowsB e b a=x :: r) :
  ∃ m,m < 20∧x=⟨u20 m,⟨#[]⟩,preT has m⟩∧onF has m=true∧aftK a m∧sawM e m=true∧∀ i,i < m→aftK a i→sawM e i=true→onF has i=false:=by
 have hx:x ∈ rowsB e b a:=by rw [h];exact List.mem_cons_self ..
 obtain ⟨h1,h2⟩:=List.mem_filter.1 hx
 rw [hb] at h1
 obtain ⟨m,hm,ho,rfl⟩:=mem_tabR h1
 simp only [Bool.and_eq_true,decide_eq_true_eq] at h2
 refine ⟨m,hm,rfl,ho,h2.1,h2.2,fun i hi hai hs=>?_⟩
 rw [← Bool.not_eq_true]
 intro hoi
 have hi20:i < 20:=Nat.lt_trans hi hm
 have hin:rowT FW has i ∈ rowsB e b a:=by
  refine List.mem_filter.2 ⟨?_,?_⟩
  ·rw [hb];unfold tabR tabA
   exact List.mem_map.2 ⟨i,List.mem_filter.2 ⟨List.mem_range.2 hi20,hoi⟩,rfl⟩
  ·rw [Bool.and_eq_true,decide_eq_true_eq];exact ⟨hai,hs⟩
 rw [h] at hin
 have hp2:(rowT FW has m :: r).Pairwise fun x y=>cmpR x (keyR y) < 0:=by rw [← h];exact hp.sublist List.filter_sublist
 rcases List.mem_cons.1 hin with g | g
 ·have e0:keyR (rowT FW has i)=keyR (rowT FW has m):=congrArg keyR g
  have e1:KM i=KM m:=e0
  exact absurd (KM_inj hi20 hm e1) (by omega)
 ·have g1:cmpR (rowT FW has m) (keyR (rowT FW has i)) < 0:=(List.pairwise_cons.1 hp2).1 _ g
  have em:keyR (rowT FW has m)=KM m:=rfl
  have ei:keyR (rowT FW has i)=KM i:=rfl
  unfold cmpR at g1
  rw [em,ei] at g1
  have g2:=g1
  have g3:=KM_lt hi hm
  have e1:=cmp_anti (KM m).data.toList (KM i).data.toList
  omega
theorem rows_none {e:SnapEyes} {b:BookState} {has:List PresPres} {a:ByteArray} (hb:b.Rows=tabR FW has) (h:rowsB e b a=[]) {m:Nat} (hm:m < 20) (ha:aftK a m) (hs:sawM e m=true):onF has m=false:=by
 rw [← Bool.not_eq_true]
 intro ho
 have hin:rowT FW has m ∈ rowsB e b a:=by
  refine List.mem_filter.2 ⟨?_,?_⟩
  ·rw [hb];unfold tabR tabA
   exact List.mem_map.2 ⟨m,List.mem_filter.2 ⟨List.mem_range.2 hm,ho⟩,rfl⟩
  ·rw [Bool.and_eq_true,decide_eq_true_eq];exact ⟨ha,hs⟩
 rw [h] at hin;cases hin
theorem sh_off {has:List PresPres} {m:Nat} (h:onF has m=false):shP (preT has m)=zP:=if_neg (by have:(preT has m).On=false:=h;simp [this])
theorem sh_on {p:PresPres} (h:p.On=true):shP p=p:=if_pos h
theorem turn_inv {T T' : OutqTeller} {s:StanzaStanza} {v:Law27View} {has:List PresPres} (h:OkT T) (hb:T.book.Rows=tabR FW has) (hp:T.book.Rows.Pairwise fun x y=>cmpR x (keyR y) < 0) (pc:∀ m,m < 20→presCheckL (preT has m)=0)
  (hi:InvW T.eyes has T.st.Mail T.st.Snap v) (ht:turnM T=some (T',s)):∃ v',p_law27_view_tell v s=some (v',true)∧InvW T.eyes has T'.st.Mail T'.st.Snap v':=by
 unfold turnM at ht
 cases ho:T.st.Snap.On with
 | true =>
  rw [ho] at ht
  simp only [if_true] at ht
  cases hbg:T.st.Snap.Begun with
  | true =>
   obtain ⟨r1,r2,r3⟩:=hi.run ho hbg
   rw [hbg] at ht
   simp only [if_true] at ht
   cases hr:rowsB T.eyes T.book T.st.Snap.After with
   | nil =>
    rw [hr] at ht
    simp only [Option.some.injEq,Prod.mk.injEq] at ht
    obtain ⟨rfl,rfl⟩:=ht
    obtain ⟨has',t1,t2,t3⟩:=tell_done hi.vl r1
    refine ⟨_,t1,⟨⟨t2,hi.vl.l2,hi.vl.l3⟩,hi.last,fun m hm hs=>?_,hi.mail,fun _=>⟨rfl,fun m hm hs=>?_⟩,(fun g=>by cases g),fun g=>by cases g⟩⟩
    ·show preT has' m=zP
     rw [t3 m hm,hi.blind m hm hs];split <;> rfl
    ·show _∨preT has' m=_
     rw [t3 m hm]
     by_cases ha:aftK T.st.Snap.After m
     ·right
      rw [(r2 m hm ha).2,if_neg (by simp),sh_off (rows_none hb hr hm ha hs)]
     ·exact r3 m hm hs ha
   | cons x r =>
    rw [hr] at ht
    simp only [Option.some.injEq,Prod.mk.injEq] at ht
    obtain ⟨rfl,rfl⟩:=ht
    obtain ⟨m,hm,rfl,hon,ha,hs,hfirst⟩:=rows_first hb hp hr
    have hl:=hi.last m hm
    have tl:=tell_say hi.vl hm (pc m hm) (by rcases Int.lt_or_eq_of_le hl with c | c;exact .inl c;exact .inr ⟨c,r1⟩)
    have lne:∀ i,i≠m→lastV ⟨v.has.set m (shP (preT has m)),v.anew,v.seen.set m true,v.last.set m (preT has m).Seq⟩ i=lastV v i:=fun i h=>gdn h
    have leq:lastV ⟨v.has.set m (shP (preT has m)),v.anew,v.seen.set m true,v.last.set m (preT has m).Seq⟩ m=(preT has m).Seq:=gds (by rw [hi.vl.l3];exact hm)
    have sne:∀ i,i≠m→seenV ⟨v.has.set m (shP (preT has m)),v.anew,v.seen.set m true,v.last.set m (preT has m).Seq⟩ i=seenV v i:=fun i h=>gdn h
    have seq:seenV ⟨v.has.set m (shP (preT has m)),v.anew,v.seen.set m true,v.last.set m (preT has m).Seq⟩ m=true:=gds (by rw [hi.vl.l2];exact hm)
    have hne:∀ i,i≠m→preT (v.has.set m (shP (preT has m))) i=preT v.has i:=fun i h=>gdn h
    have heq:preT (v.has.set m (shP (preT has m))) m=shP (preT has m):=gds (by rw [hi.vl.l1];exact hm)
    refine ⟨_,tl,⟨⟨by simp [hi.vl.l1],by simp [hi.vl.l2],by simp [hi.vl.l3]⟩,fun i h=>?_,fun i h hsi=>?_,fun y hy=>?_,(fun g=>by cases g),(fun _ g=>by cases g),fun _ _=>⟨r1,fun i h hai=>?_,fun i h hsi hai=>?_⟩⟩⟩
    ·by_cases c:i=m
     ·subst c;rw [leq];exact Int.le_refl _
     ·rw [lne i c];exact hi.last i h
    ·have c:i≠m:=fun c=>by rw [c,hs] at hsi;cases hsi
     show preT (v.has.set m _) i=zP
     rw [hne i c];exact hi.blind i h hsi
    ·obtain ⟨i,h,k1,k2,k3⟩:=hi.mail y hy
     have c:i≠m:=fun c=>(r2 m hm ha).1 y hy (by rw [k2,c])
     exact ⟨i,h,k1,k2,by rw [lne i c];exact k3⟩
    ·have hmi:m < i:=(aft_own h hm).1 hai
     have c:i≠m:=by omega
     obtain ⟨q1,q2⟩:=r2 i h (aft_tr ha hmi h)
     exact ⟨q1,by rw [sne i c];exact q2⟩
    ·by_cases c:i=m
     ·subst c
      right
      unfold okV
      rw [seq,if_pos rfl];exact heq
     ·have hmi:i < m:=by
       rcases Nat.lt_trichotomy i m with q | q | q
       ·exact q
       ·exact absurd q c
       ·exact absurd ((aft_own h hm).2 q) hai
      have e0:okV has ⟨v.has.set m (shP (preT has m)),v.anew,v.seen.set m true,v.last.set m (preT has m).Seq⟩ i ↔ okV has v i:=by
       unfold okV
       rw [sne i c]
       show (if _ then preT (v.has.set m _) i else _)=_ ↔ _
       rw [hne i c]
      by_cases hai2:aftK T.st.Snap.After i
      ·right
       rw [e0]
       unfold okV
       rw [(r2 i h hai2).2,if_neg (by simp),sh_off (hfirst i hmi hai2 hsi)]
      ·rw [e0];exact r3 i h hsi hai2
  | false =>
   rw [hbg] at ht
   simp only [Bool.false_eq_true,if_false,Option.some.injEq,Prod.mk.injEq] at ht
   obtain ⟨rfl,rfl⟩:=ht
   have hm0:=hi.beg ho hbg
   have s0:∀ m,seenV ⟨v.has,true,List.replicate 20 false,v.last⟩ m=false:=fun m=>by
    show (List.replicate 20 false).getD m false=false
    rw [List.getD_eq_getElem?_getD,List.getElem?_replicate];split <;> rfl
   have a0:∀ m,m < 20→aftK ⟨#[]⟩ m:=fun m hm=>by
    unfold aftK
    have h1:=(okW hm).1
    have c0:Lib.compareBytes (⟨#[]⟩ : ByteArray).data.toList (KM m).data.toList < 0:=by
     cases hk:(KM m).data.toList with
     | nil =>
      exfalso
      have:(keyL (u20 m) ⟨#[]⟩).toList=[]:=by rw [tl_data];exact hk
      rw [this] at h1;simp at h1
     | cons c t=>exact (by decide:(-1:Int) < 0)
    have e1:=cmp_anti (⟨#[]⟩ : ByteArray).data.toList (KM m).data.toList
    omega
   refine ⟨_,tell_snap hi.vl _,⟨⟨hi.vl.l1,by simp,hi.vl.l3⟩,hi.last,hi.blind,hi.mail,(fun g=>by cases g),(fun _ g=>by cases g),fun _ _=>⟨rfl,fun m hm _=>⟨fun x hx=>?_,s0 m⟩,fun m hm _ hna=>absurd (a0 m hm) hna⟩⟩⟩
   have hx' : x ∈ T.st.Mail:=hx
   rw [hm0] at hx';cases hx'
 | false =>
  obtain ⟨f1,f2⟩:=hi.off ho
  rw [ho] at ht
  simp only [Bool.false_eq_true,if_false] at ht
  cases hml:T.st.Mail with
  | nil=>rw [hml] at ht;cases ht
  | cons x r =>
   rw [hml] at ht
   simp only [Option.some.injEq,Prod.mk.injEq] at ht
   obtain ⟨rfl,rfl⟩:=ht
   have hdis:=(goodM_iff.1 h.mail).dis
   obtain ⟨m,hm,hs,rfl,hlt⟩:=hi.mail x (by rw [hml];exact List.mem_cons_self ..)
   obtain ⟨k1,k2,_⟩:=splitK hm
   have tl:=tell_say hi.vl hm (pc m hm) (.inl hlt)
   have lne:∀ i,i≠m→lastV ⟨v.has.set m (shP (preT has m)),v.anew,v.seen.set m true,v.last.set m (preT has m).Seq⟩ i=lastV v i:=fun i h=>gdn h
   have leq:lastV ⟨v.has.set m (shP (preT has m)),v.anew,v.seen.set m true,v.last.set m (preT has m).Seq⟩ m=(preT has m).Seq:=gds (by rw [hi.vl.l3];exact hm)
   have hne:∀ i,i≠m→preT (v.has.set m (shP (preT has m))) i=preT v.has i:=fun i h=>gdn h
   have heq:preT (v.has.set m (shP (preT has m))) m=shP (preT has m):=gds (by rw [hi.vl.l1];exact hm)
   rw [hml] at hdis
   rw [← k1] at tl
   have tl2:p_law27_view_tell v (sayL (splitE (KM m)).1 (splitE (KM m)).2.1 (preT has m))=some (⟨v.has.set m (shP (preT has m)),v.anew,v.seen.set m true,v.last.set m (preT has m).Seq⟩,true):=by rw [k2];exact tl
   refine ⟨_,tl2,⟨⟨by simp [hi.vl.l1],by simp [hi.vl.l2],by simp [hi.vl.l3]⟩,fun i h=>?_,fun i h hsi=>?_,fun y hy=>?_,fun _=>⟨f1,fun i h hsi=>?_⟩,fun g=>?_,fun g=>?_⟩⟩
   ·by_cases c:i=m
    ·subst c;rw [leq];exact Int.le_refl _
    ·rw [lne i c];exact hi.last i h
   ·have c:i≠m:=fun c=>by rw [c,hs] at hsi;cases hsi
    show preT (v.has.set m _) i=zP
    rw [hne i c];exact hi.blind i h hsi
   ·obtain ⟨i,h,q1,q2,q3⟩:=hi.mail y (by rw [hml];exact List.mem_cons_of_mem _ hy)
    have c:i≠m:=fun c=>(List.pairwise_cons.1 hdis).1 y hy (by rw [q2,c])
    exact ⟨i,h,q1,q2,by rw [lne i c];exact q3⟩
   ·show _∨preT (v.has.set m _) i=_
    by_cases c:i=m
    ·subst c;right;exact heq
    ·rw [hne i c]
     rcases f2 i h hsi with ⟨y,hy,hk⟩ | g
     ·left
      rw [hml] at hy
      rcases List.mem_cons.1 hy with rfl | hy
      ·exact absurd (KM_inj hm h hk).symm c
      ·exact ⟨y,hy,hk⟩
     ·exact .inr g
   ·have g' : T.st.Snap.On=true:=g
    rw [ho] at g';cases g'
   ·have g' : T.st.Snap.On=true:=g
    rw [ho] at g';cases g'
end Go.Proofs.YthnihifblmnkdaaGreat

namespace Go.Proofs.YthnihifblmnkdaaGreat
open Go.RowKit
theorem put_what {st:List MailEntry} {k:ByteArray} {p:PresPres} {x:List MailEntry × Int} (h:smM st) (hg:GoodM st) (hk:k.size≤100000) (hkey:keyM (MailEntry.mk k p)=true) (hp:presCheckL p=0) (hnew:∀ y ∈ st,y.Key=k→y.P.Seq < p.Seq) (hx:p_mail_Put st k p=some x) :
  x.2=7∨(x.2=0∧∀ y,y ∈ x.1 ↔ (y=MailEntry.mk k p∨(y ∈ st∧y.Key≠k))):=by
 obtain ⟨c1,_⟩:=mailC_p h
 have hn:=h.1
 have hc:mailC st=0:=goodM_iff.2 hg
 rw [hc] at c1
 obtain ⟨k1,_⟩:=mkey_p (x:=MailEntry.mk k p) hk
 unfold p_mail_Put at hx
 rw [mclone hn,c1,show p_mail_key k=_ from k1,pc_p,(mfind_p st k hn).1] at hx
 simp only [bne_self_eq_false,cond_false,Option.bind_some] at hx
 rw [hkey] at hx
 simp only [cond_true] at hx
 rw [hp] at hx
 simp only [bne_self_eq_false,cond_false] at hx
 have fin:∀ (l:List MailEntry) (hl:srtM l) (hlen:l.length≤16) (z:List MailEntry × Int),
   (bif p.On then (insAt? l (l.length:Int) (MailEntry.mk k p)).bind fun v=>some (v,(0:Int)) else (p_mail_Off l).bind fun o=>(insAt? l o (MailEntry.mk k p)).bind fun v=>some (v,(0:Int)))=some z→z.2=0∧z.1.Perm (MailEntry.mk k p :: l):=fun l hl hlen z hz=>by
  have hp1:=(ins_two hl (by omega) (MailEntry.mk k p)).1
  have hp2:=(ins_two hl (by omega) (MailEntry.mk k p)).2
  rw [moff_p l (by omega),Option.bind_some,hp1,hp2] at hz
  have hs:=srt_split hl
  rw [← ofalse,← otrue] at hs
  cases ho:p.On with
  | true =>
   rw [ho] at hz;simp only [cond_true,Option.bind_some,Option.some.injEq] at hz
   rw [← hz]
   refine ⟨rfl,?_⟩
   show (_++(_++[_])).Perm _
   rw [← List.append_assoc,hs];exact List.perm_append_singleton _ _
  | false =>
   rw [ho] at hz;simp only [cond_false,Option.bind_some,Option.some.injEq] at hz
   rw [← hz]
   refine ⟨rfl,?_⟩
   show ((_++[_])++_).Perm _
   rw [List.append_assoc,List.singleton_append]
   refine List.perm_middle.trans ?_
   rw [hs]
 rcases fndM_spec k st 0 with ⟨h1,h2⟩ | ⟨a,y,b,rfl,h2,h3,h4⟩
 ·rw [h1,show ((-1:Int) == -1)=true from rfl] at hx
  simp only [cond_true] at hx
  by_cases hl:st.length=16
  ·rw [hl] at hx
   simp only [show (((16:Nat):Int) == (16:Int))=true from rfl,cond_true,Option.some.injEq] at hx
   rw [← hx];exact .inl rfl
  ·rw [show ((st.length:Int) == (16:Int))=false by simp;omega] at hx
   obtain ⟨q1,q2⟩:=fin st hg.srt hg.len x hx
   refine .inr ⟨q1,fun z=>?_⟩
   rw [q2.mem_iff,List.mem_cons]
   exact ⟨fun g=>g.elim .inl fun g=>.inr ⟨g,h2 z g⟩,fun g=>g.elim .inl fun g=>.inr g.1⟩
 ·have e0:fndM k (a++y :: b) 0=(a.length:Int):=h4.trans (by rw [Nat.zero_add])
  have h16:=hg.len
  have hlen:(a++y :: b).length=a.length + b.length + 1:=by rw [List.length_append,List.length_cons];omega
  rw [e0,show ((a.length:Int) == -1)=false from beq_eq_false_iff_ne.2 (by omega),mat rfl] at hx
  simp only [cond_false,Option.bind_some,(newer_pr _ _).1] at hx
  have hnw:decide (y.P.Seq < p.Seq)=true:=decide_eq_true (hnew y (List.mem_append_right _ (List.mem_cons_self ..)) h2)
  have h5:∀ x ∈ b,x.Key≠k:=fun x hx=>by have:=dis_mid hg.dis x hx;rwa [h2] at this
  have iff0:∀ z:MailEntry,(z=MailEntry.mk k p∨z ∈ a∨z ∈ b) ↔ (z=MailEntry.mk k p∨(z ∈ a++y :: b∧z.Key≠k)):=fun z=>by
   constructor
   ·rintro (g | g | g)
    ·exact .inl g
    ·exact .inr ⟨List.mem_append_left _ g,h3 z g⟩
    ·exact .inr ⟨List.mem_append_right _ (List.mem_cons_of_mem _ g),h5 z g⟩
   ·rintro (g | ⟨g,g2⟩)
    ·exact .inl g
    ·rcases List.mem_append.1 g with g | g
     ·exact .inr (.inl g)
     ·rcases List.mem_cons.1 g with g | g
      ·rw [g] at g2;exact absurd h2 g2
      ·exact .inr (.inr g)
  rw [hnw] at hx
  simp only [cond_true] at hx
  cases hs:(p.On == y.P.On) with
  | true =>
   rw [hs] at hx
   simp only [cond_true,mat rfl,Option.bind_some,Option.some.injEq] at hx
   have e1:x.1=a++MailEntry.mk y.Key p :: b:=by rw [← hx];show List.set _ _ _=_;simp
   refine .inr ⟨by rw [← hx],fun z=>?_⟩
   rw [← iff0,e1,List.mem_append,List.mem_cons,h2]
   exact ⟨fun g=>g.elim (fun g=>.inr (.inl g)) fun g=>g.elim .inl fun g=>.inr (.inr g),fun g=>g.elim (fun g=>.inr (.inl g)) fun g=>g.elim .inl fun g=>.inr (.inr g)⟩
  | false =>
   rw [hs] at hx
   simp only [cond_false] at hx
   rw [mdel rfl (w64_id (by omega)) hn] at hx
   simp only [Option.bind_some] at hx
   obtain ⟨q1,q2⟩:=fin (a++b) (srt_cut hg.srt) (by rw [List.length_append];omega) x hx
   refine .inr ⟨q1,fun z=>?_⟩
   rw [← iff0,q2.mem_iff,List.mem_cons,List.mem_append]
theorem keyK {m:Nat} (hm:m < 20) (p:PresPres):keyM (MailEntry.mk (KM m) p)=true:=by
 unfold keyM
 rw [(splitK hm).2.2];rfl
theorem inv_begin {e:SnapEyes} {has:List PresPres} {v:Law27View} (vl:VLen v) (hl:∀ m,m < 20→lastV v m≤(preT has m).Seq) (hb:∀ m,m < 20→sawM e m=false→preT v.has m=zP):InvW e has [] ⟨true,false,⟨#[]⟩,0⟩ v :=
 ⟨vl,hl,hb,(fun x hx=>by cases hx),(fun h=>by cases h),fun _ _=>rfl,fun _ h=>by cases h⟩
structure Chg (has has' : List PresPres) (m:Nat) (p:PresPres):Prop where
 one:preT has' m=p
 rest:∀ i,i≠m→preT has' i=preT has i
 newer:(preT has m).Seq < p.Seq
theorem chg_last {has has' : List PresPres} {m:Nat} {p:PresPres} (hc:Chg has has' m p) {v:Law27View} (hl:∀ m,m < 20→lastV v m≤(preT has m).Seq):∀ i,i < 20→lastV v i≤(preT has' i).Seq:=fun i hi=>by
 have:=hl i hi
 have hn:=hc.newer
 by_cases c:i=m
 ·subst c;rw [hc.one];omega
 ·rw [hc.rest i c];exact this
theorem chg_none {e:SnapEyes} {has has' : List PresPres} {ml:List MailEntry} {sn:SnapState} {v:Law27View} {m:Nat} {p:PresPres} (hm:m < 20) (hi:InvW e has ml sn v) (hc:Chg has has' m p) (hs:sawM e m=false):InvW e has' ml sn v:=by
 have ne:∀ i,sawM e i=true→i≠m:=fun i h c=>by rw [c,hs] at h;cases h
 refine ⟨hi.vl,chg_last hc hi.last,hi.blind,fun x hx=>?_,fun ho=>?_,hi.beg,fun ho hb=>?_⟩
 ·obtain ⟨i,h1,h2,h3,h4⟩:=hi.mail x hx
  exact ⟨i,h1,h2,by rw [hc.rest i (ne i h2)];exact h3,by rw [hc.rest i (ne i h2)];exact h4⟩
 ·obtain ⟨f1,f2⟩:=hi.off ho
  exact ⟨f1,fun i h1 h2=>by rw [hc.rest i (ne i h2)];exact f2 i h1 h2⟩
 ·obtain ⟨f1,f2,f3⟩:=hi.run ho hb
  exact ⟨f1,f2,fun i h1 h2 h3=>by unfold okV;rw [hc.rest i (ne i h2)];exact f3 i h1 h2 h3⟩
theorem cov_aft (a:ByteArray) (m:Nat):(Op.bytesLess a.toList (KM m).toList=true) ↔ aftK a m:=by
 unfold aftK
 rw [cmp_less,decide_eq_true_eq,tl_data,tl_data]
 have:=cmp_anti a.data.toList (KM m).data.toList
 omega
theorem chg_put {e:SnapEyes} {has has' : List PresPres} {ml ml' : List MailEntry} {sn:SnapState} {v:Law27View} {m:Nat} {p:PresPres} (hm:m < 20) (hi:InvW e has ml sn v) (hc:Chg has has' m p) (hs:sawM e m=true)
  (hcov:¬ (sn.On=true∧(sn.Begun=false∨aftK sn.After m))) (hml:∀ y,y ∈ ml' ↔ (y=MailEntry.mk (KM m) p∨(y ∈ ml∧y.Key≠KM m))):InvW e has' ml' sn v:=by
 have new:MailEntry.mk (KM m) p ∈ ml':=(hml _).2 (.inl rfl)
 have keep:∀ i,i < 20→i≠m→(∃ x ∈ ml,x.Key=KM i)→∃ x ∈ ml',x.Key=KM i:=fun i h1 h2 ⟨x,hx,hk⟩=>⟨x,(hml x).2 (.inr ⟨hx,fun g=>h2 (KM_inj h1 hm (hk.symm.trans g))⟩),hk⟩
 refine ⟨hi.vl,chg_last hc hi.last,hi.blind,fun x hx=>?_,fun ho=>?_,fun ho hb=>absurd ⟨ho,.inl hb⟩ hcov,fun ho hb=>?_⟩
 ·rcases (hml x).1 hx with rfl | ⟨h1,h2⟩
  ·have:=hi.last m hm
   have hn:=hc.newer
   exact ⟨m,hm,hs,by rw [hc.one],by rw [hc.one];omega⟩
  ·obtain ⟨i,g1,g2,g3,g4⟩:=hi.mail x h1
   have c:i≠m:=fun c=>h2 (by rw [g3,c])
   exact ⟨i,g1,g2,by rw [hc.rest i c];exact g3,by rw [hc.rest i c];exact g4⟩
 ·obtain ⟨f1,f2⟩:=hi.off ho
  refine ⟨f1,fun i h1 h2=>?_⟩
  by_cases c:i=m
  ·subst c;exact .inl ⟨_,new,rfl⟩
  ·rw [hc.rest i c]
   rcases f2 i h1 h2 with g | g
   ·exact .inl (keep i h1 c g)
   ·exact .inr g
 ·obtain ⟨f1,f2,f3⟩:=hi.run ho hb
  have hna:¬ aftK sn.After m:=fun g=>hcov ⟨ho,.inr g⟩
  refine ⟨f1,fun i h1 h2=>⟨fun x hx hk=>?_,(f2 i h1 h2).2⟩,fun i h1 h2 h3=>?_⟩
  ·rcases (hml x).1 hx with rfl | ⟨g1,_⟩
   ·exact hna (by rw [KM_inj hm h1 hk];exact h2)
   ·exact (f2 i h1 h2).1 x g1 hk
  ·by_cases c:i=m
   ·subst c;exact .inl ⟨_,new,rfl⟩
   ·unfold okV
    rw [hc.rest i c]
    rcases f3 i h1 h2 h3 with g | g
    ·exact .inl (keep i h1 c g)
    ·exact .inr g
theorem chg_cov {e:SnapEyes} {has has' : List PresPres} {ml:List MailEntry} {sn:SnapState} {v:Law27View} {m:Nat} {p:PresPres} (hm:m < 20) (hi:InvW e has ml sn v) (hc:Chg has has' m p)
  (hcov:sn.On=true∧(sn.Begun=false∨aftK sn.After m)):InvW e has' ml sn v:=by
 have hmail:∀ x ∈ ml,∀ i,i < 20→x.Key=KM i→i≠m:=fun x hx i _ hk c=>by
  subst c
  cases hb:sn.Begun with
  | false=>rw [hi.beg hcov.1 hb] at hx;cases hx
  | true =>
   rcases hcov.2 with g | g
   ·rw [hb] at g;cases g
   ·exact ((hi.run hcov.1 hb).2.1 i hm g).1 x hx hk
 refine ⟨hi.vl,chg_last hc hi.last,hi.blind,fun x hx=>?_,fun ho=>?_,hi.beg,fun ho hb=>?_⟩
 ·obtain ⟨i,h1,h2,h3,h4⟩:=hi.mail x hx
  have c:=hmail x hx i h1 (by rw [h3])
  exact ⟨i,h1,h2,by rw [hc.rest i c];exact h3,by rw [hc.rest i c];exact h4⟩
 ·rw [hcov.1] at ho;cases ho
 ·obtain ⟨f1,f2,f3⟩:=hi.run ho hb
  refine ⟨f1,f2,fun i h1 h2 h3=>?_⟩
  have c:i≠m:=fun c=>by
   subst c
   rcases hcov.2 with g | g
   ·rw [hb] at g;cases g
   ·exact h3 g
  unfold okV
  rw [hc.rest i c];exact f3 i h1 h2 h3
theorem add_inv {e:SnapEyes} {has has' : List PresPres} {s:Ref27State} {v:Law27View} {m:Nat} {p:PresPres} (hg:GoodS s) (hm:m < 20) (hi:InvW e has s.Mail s.Snap v) (hc:Chg has has' m p) (hs:sawM e m=true) (hp:presCheckL p=0) :
  ∃ s',p_outq_Add s (KM m) p=some s'∧GoodS s'∧s'.Sent=s.Sent∧InvW e has' s'.Mail s'.Snap v:=by
 have hk:(KM m).size≤100000:=by have:=keyW_sz hm;unfold KM;omega
 obtain ⟨x,x1,x2⟩:=good_add p hg hk
 refine ⟨x,x1,x2,?_⟩
 obtain ⟨y,y1,_,_⟩:=put_p p hg.sm hk
 have hput:=put_what hg.sm hg.mail hk (keyK hm p) hp (fun y hy hyk=>by
  obtain ⟨i,g1,g2,g3,g4⟩:=hi.mail y hy
  have:i=m:=KM_inj g1 hm (by rw [← hyk,g3])
  subst this
  rw [g3];exact hc.newer) y1
 unfold p_outq_Add p_snap_Covers at x1
 rw [hg.chk,y1] at x1
 simp only [bne_self_eq_false,cond_false,Option.bind_some] at x1
 by_cases hcov:s.Snap.On=true∧(s.Snap.Begun=false∨aftK s.Snap.After m)
 ·have hb:(bif s.Snap.On then bif s.Snap.Begun then some (Op.bytesLess s.Snap.After.toList (KM m).toList) else some true else some false)=some true:=by
   rw [hcov.1]
   rcases hcov.2 with g | g
   ·rw [g];rfl
   ·rw [(cov_aft _ _).2 g];cases s.Snap.Begun <;> rfl
  rw [hb] at x1
  simp only [Option.bind_some,cond_true,Option.some.injEq] at x1
  subst x1
  exact ⟨rfl,chg_cov hm hi hc hcov⟩
 ·have hb:(bif s.Snap.On then bif s.Snap.Begun then some (Op.bytesLess s.Snap.After.toList (KM m).toList) else some true else some false)=some false:=by
   cases ho:s.Snap.On with
   | false=>rfl
   | true =>
    cases hbg:s.Snap.Begun with
    | false=>exact absurd ⟨ho,.inl hbg⟩ hcov
    | true =>
     have:Op.bytesLess s.Snap.After.toList (KM m).toList=false:=by
      rw [← Bool.not_eq_true,cov_aft];exact fun g=>hcov ⟨ho,.inr g⟩
     rw [this];rfl
  rw [hb] at x1
  simp only [Option.bind_some,cond_false] at x1
  rcases hput with h7 | ⟨h0,hmem⟩
  ·rw [h7] at x1
   simp only [show ((7:Int) == 0)=false from rfl,cond_false,beq_self_eq_true,cond_true] at x1
   unfold p_outq_State_anew p_snap_Begin at x1
   simp only [Option.bind_some,Option.some.injEq] at x1
   subst x1
   exact ⟨rfl,inv_begin hi.vl (chg_last hc hi.last) hi.blind⟩
  ·rw [h0] at x1
   simp only [beq_self_eq_true,cond_true,Option.some.injEq] at x1
   subst x1
   exact ⟨rfl,chg_put hm hi hc hs hcov hmem⟩
def tellAll:List StanzaStanza→Law27View→Option Law27View
 | [],v=>some v
 | s :: t,v=>(p_law27_view_tell v s).bind fun w=>if w.2=true then tellAll t w.1 else none
theorem flush_tell (z:Int) (hz:0≤z∧z≤1000):∀ (n F:Nat) (acc:List StanzaStanza) (T:OutqTeller),OkT T→bookCheck T.book.Seq T.book.Rows=0→(T.book.Rows.Pairwise fun x y=>cmpR x (keyR y) < 0)→acc.length + n=1000→n < F→T.counter.sent + n≤1099511627776 →
  ∃ out T',p_outq_Flush_l1 z F acc T=some (acc++out,T')∧OkT T'∧out.length≤n∧T'.counter.sent=T.counter.sent + out.length∧(potT T'=0∨z≤acc.length + out.length) ∧
   potT T' + out.length=potT T ∧
   ∀ has v,T.book.Rows=tabR FW has→(∀ m,m < 20→presCheckL (preT has m)=0)→InvW T.eyes has T.st.Mail T.st.Snap v→∃ v',tellAll out v=some v'∧InvW T.eyes has T'.st.Mail T'.st.Snap v'
 | n,F + 1,acc,T,h,hc,hp,hn,hF,hb=>by
  have tn:=tnext_t h hc
  have tp:=turn_pot h hp
  rw [p_outq_Flush_l1]
  have hmin:(if (1000:Int) < z then (1000:Int) else z)=z:=if_neg (by omega)
  rw [hmin]
  cases hd:decide ((acc.length:Int) < z) with
  | false =>
   have:=of_decide_eq_false hd
   exact ⟨[],T,by rw [List.append_nil];rfl,h,Nat.zero_le _,by simp,.inr (by simp;omega),by simp,fun has v _ _ hi=>⟨v,rfl,hi⟩⟩
  | true =>
   have hlt:=of_decide_eq_true hd
   obtain ⟨n,rfl⟩ : ∃ m,n=m + 1:=⟨n - 1,by omega⟩
   rw [cond_true,tn]
   cases ht:turnM T with
   | none =>
    rw [ht] at tp
    exact ⟨[],T,by rw [List.append_nil];rfl,h,Nat.zero_le _,by simp,.inl tp,by simp,fun has v _ _ hi=>⟨v,rfl,hi⟩⟩
   | some w =>
    rw [ht] at tp
    obtain ⟨k1,k2,k3⟩:=turn_ok (T':=w.1) (s:=w.2) h ht
    have hsent:w.1.counter.sent=T.counter.sent + 1:=by
     have e:w.1.counter.sent=tnx T.counter.sent:=by
      unfold turnM at ht
      split at ht
      ·split at ht
       ·split at ht <;> (obtain rfl:=Option.some.inj ht;rfl)
       ·obtain rfl:=Option.some.inj ht;rfl
      ·split at ht
       ·cases ht
       ·obtain rfl:=Option.some.inj ht;rfl
     rw [e];unfold tnx;rw [if_neg (by omega)]
    obtain ⟨out,T',r1,r2,r3,r4,r5,r6,r7⟩:=flush_tell z hz n F (acc++[w.2]) w.1 k1 (by rw [k3];exact hc) (by rw [k3];exact hp) (by simp;omega) (by omega) (by omega)
    simp only [Option.bind_some,cond_true]
    rw [app_ok (by simp;omega),Option.bind_some,r1]
    refine ⟨w.2 :: out,T',by rw [List.append_assoc];rfl,r2,by simp;omega,by rw [r4,hsent];simp;omega,?_,?_,fun has v hb pc hi=>?_⟩
    ·rcases r5 with g | g
     ·exact .inl g
     ·right;simp at g ⊢;omega
    ·have:=tp.1;simp;omega
    ·obtain ⟨v1,t1,t2⟩:=turn_inv (T':=w.1) (s:=w.2) h hb hp pc hi ht
     rw [← k2] at t2
     obtain ⟨v',u1,u2⟩:=r7 has v1 (by rw [k3];exact hb) pc t2
     rw [k2] at u2
     refine ⟨v',?_,u2⟩
     rw [tellAll,t1]
     show (if true=true then tellAll out v1 else none)=_
     rw [if_pos rfl,u1]
theorem view_l3 (m:List StanzaStanza) (hm:m.length≤1000):∀ (n k F:Nat) (v v' : Law27View),k + n=m.length→n < F→tellAll (m.drop k) v=some v'→p_law27_OutqView_l3 m F (k:Int) v=some (.inr ((m.length:Int),v'))
 | 0,k,F + 1,v,v',hk,hF,h=>by
  rw [show k=m.length by omega,List.drop_length] at h
  obtain rfl:=Option.some.inj h
  rw [p_law27_OutqView_l3,lt_ff (by omega),show k=m.length by omega];rfl
 | n + 1,k,F + 1,v,v',hk,hF,h=>by
  have hlt:k < m.length:=by omega
  rw [drop_at hlt,tellAll] at h
  rw [p_law27_OutqView_l3,lt_tt hlt,at_lt hlt]
  simp only [cond_true,Option.bind_some]
  cases ht:p_law27_view_tell v m[k] with
  | none=>rw [ht] at h;cases h
  | some w =>
   rw [ht] at h
   simp only [Option.bind_some] at h ⊢
   split at h
   ·rename_i hw
    rw [hw,cond_true,w64_succ (by omega)]
    exact view_l3 m hm n (k + 1) F w.1 v' (by omega) (by omega) h
   ·cases h
theorem view_l4 (m:List StanzaStanza) (hm:m.length≤1000):∀ (n k F:Nat) (v v' : Law27View),k + n=m.length→n < F→tellAll (m.drop k) v=some v'→p_law27_OutqView_l4 m F (k:Int) v=some (.inr ((m.length:Int),v'))
 | 0,k,F + 1,v,v',hk,hF,h=>by
  rw [show k=m.length by omega,List.drop_length] at h
  obtain rfl:=Option.some.inj h
  rw [p_law27_OutqView_l4,lt_ff (by omega),show k=m.length by omega];rfl
 | n + 1,k,F + 1,v,v',hk,hF,h=>by
  have hlt:k < m.length:=by omega
  rw [drop_at hlt,tellAll] at h
  rw [p_law27_OutqView_l4,lt_tt hlt,at_lt hlt]
  simp only [cond_true,Option.bind_some]
  cases ht:p_law27_view_tell v m[k] with
  | none=>rw [ht] at h;cases h
  | some w =>
   rw [ht] at h
   simp only [Option.bind_some] at h ⊢
   split at h
   ·rename_i hw
    rw [hw,cond_true,w64_succ (by omega)]
    exact view_l4 m hm n (k + 1) F w.1 v' (by omega) (by omega) h
   ·cases h
end Go.Proofs.YthnihifblmnkdaaGreat

