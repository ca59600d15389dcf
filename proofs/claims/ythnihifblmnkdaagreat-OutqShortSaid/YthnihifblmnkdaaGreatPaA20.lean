/- A part of the proof: 1 texts joined. -/
import Derived.Test.YthnihifblmnkdaaGreatPaA19
set_option linter.all false
namespace Go.Proofs.YthnihifblmnkdaaGreat
open Go.RowKit
theorem kind_l (z:List MailEntry) (on:Bool) (k:ByteArray) (hn:z.length≤1000):∀ (n j F:Nat) (acc:List MailEntry),j + n=z.length→n < F→acc.length≤j→p_ref25_kind_l1 z on k F acc (j:Int)=some (acc++kndM (z.drop j) on k,(z.length:Int))
 | 0,j,F + 1,acc,hj,hF,ha=>by
  rw [p_ref25_kind_l1,lt_ff (by omega),show j=z.length by omega,List.drop_length];simp [kndM]
 | n + 1,j,F + 1,acc,hj,hF,ha=>by
  have hlt:j < z.length:=by omega
  have i1:=kind_l z on k hn n (j + 1) F acc (by omega) (by omega) (by omega)
  have i2:=kind_l z on k hn n (j + 1) F (acc++[z[j]]) (by omega) (by omega) (by simp;omega)
  rw [p_ref25_kind_l1,lt_tt hlt,cond_true,at_lt hlt]
  simp only [Option.bind_some]
  rw [app_ok (by simp;omega),w64_succ (by omega),i1,Option.bind_some,i2,drop_at hlt]
  unfold kndM
  rw [List.filter_cons]
  cases (z[j].P.On == on) <;> cases (z[j].Key.toList == k.toList) <;> simp
theorem kind_p {z:List MailEntry} (hn:z.length≤1000) (on:Bool) (k:ByteArray):p_ref25_kind z on k=some (kndM z on k):=by
 have e:p_ref25_kind_l1 z on k fuel [] (0:Int)=_:=kind_l z on k hn z.length 0 fuel [] (by omega) (by have:=fuel_pos;omega) (Nat.le_refl _)
 unfold p_ref25_kind
 rw [e,List.drop_zero,List.nil_append];rfl
theorem newer_pr (p q:PresPres):p_pres_Newer p q=some (decide (q.Seq < p.Seq))∧p_ref23_Newer p q=some (decide (q.Seq < p.Seq)):=⟨rfl,rfl⟩
theorem put_tail {l:List MailEntry} {fo fn:List MailEntry} (h:srtM l) (hn:l.length≤1000) (h1:fo=l.filter (fun x=>x.P.On == false)) (h2:fn=l.filter (fun x=>x.P.On == true)) (k:ByteArray) (p:PresPres):∃ x:List MailEntry × Int,
  (bif p.On then (insAt? l (l.length:Int) (MailEntry.mk k p)).bind fun v=>some (v,(0:Int)) else (p_mail_Off l).bind fun o=>(insAt? l o (MailEntry.mk k p)).bind fun v=>some (v,(0:Int)))=some x ∧
  (bif p.On then (app? fn [MailEntry.mk k p]).bind fun a=>(app? fo a).bind fun b=>some (b,(0:Int)) else (app? fo [MailEntry.mk k p]).bind fun a=>(app? a fn).bind fun b=>some (b,(0:Int)))=some x∧x.1.length≤l.length + 1:=by
 obtain ⟨i1,i2⟩:=ins_two h hn (MailEntry.mk k p)
 have l1:fo.length + fn.length=l.length:=by
  have:=congrArg List.length (srt_split h)
  rw [List.length_append] at this
  rw [h1,h2,ofalse,otrue];exact this
 rw [← h1,← h2] at i1 i2
 rw [moff_p l hn]
 cases p.On with
 | true =>
  simp only [cond_true,i1,Option.bind_some]
  rw [app_ok (by simp;omega),Option.bind_some,app_ok (by simp;omega)]
  exact ⟨_,rfl,rfl,by simp;omega⟩
 | false =>
  simp only [cond_false,i2,Option.bind_some]
  rw [app_ok (by simp;omega),Option.bind_some,app_ok (by simp;omega)]
  exact ⟨_,rfl,rfl,by simp;omega⟩
theorem put_p {st:List MailEntry} {k:ByteArray} (p:PresPres) (h:smM st) (hk:k.size≤100000):∃ x,p_mail_Put st k p=some x∧p_ref25_Put st k p=some x∧x.1.length≤1000:=by
 obtain ⟨c1,c2⟩:=mailC_p h
 have hn:=h.1
 unfold p_mail_Put p_ref25_Put
 rw [mclone hn,c1,c2]
 simp only [Option.bind_some]
 by_cases hc:mailC st=0
 rotate_left
 ·have q:(mailC st != 0)=true:=by simpa using hc
  rw [q];exact ⟨_,rfl,rfl,hn⟩
 obtain ⟨o1,o2,o3⟩:=ok_of hc
 obtain ⟨k1,k2⟩:=mkey_p (x:=MailEntry.mk k p) hk
 rw [hc,show p_mail_key k=_ from k1,show p_ref25_key k=_ from k2]
 simp only [bne_self_eq_false,cond_false,Option.bind_some]
 cases keyM (MailEntry.mk k p) with
 | false=>exact ⟨_,rfl,rfl,hn⟩
 | true =>
  rw [pc_p,rpresCheck_p]
  simp only [cond_true,Option.bind_some]
  by_cases hp:presCheckL p=0
  rotate_left
  ·have q:(presCheckL p != 0)=true:=by simpa using hp
   rw [q];exact ⟨_,rfl,rfl,hn⟩
  rw [hp,(mfind_p st k hn).1,(mfind_p st k hn).2,kind_p hn,kind_p hn]
  simp only [bne_self_eq_false,cond_false,Option.bind_some]
  rcases fndM_spec k st 0 with ⟨h1,h2⟩ | ⟨a,y,b,rfl,h2,h3,h4⟩
  ·rw [h1,show ((-1:Int) == -1)=true from rfl,show decide ((0:Int)≤-1)=false from rfl,show decide ((-1:Int) < 0)=true from rfl]
   simp only [cond_true,cond_false]
   by_cases hl:st.length=16
   ·rw [hl];exact ⟨_,rfl,rfl,hn⟩
   ·rw [show ((st.length:Int) == (16:Int))=false by simp;omega,show decide ((16:Int)≤(st.length:Int))=false from decide_eq_false (by omega)]
    simp only [cond_false]
    obtain ⟨x,x1,x2,x3⟩:=put_tail o2 hn (knd_no h2 false) (knd_no h2 true) k p
    exact ⟨x,x1,x2,by omega⟩
  ·have e0:fndM k (a++y :: b) 0=(a.length:Int):=h4.trans (by rw [Nat.zero_add])
   have hlen:(a++y :: b).length=a.length + b.length + 1:=by rw [List.length_append,List.length_cons];omega
   rw [e0,show ((a.length:Int) == -1)=false from beq_eq_false_iff_ne.2 (by omega),show decide ((0:Int)≤(a.length:Int))=true from decide_eq_true (by omega),show decide ((a.length:Int) < 0)=false from decide_eq_false (by omega),mat rfl]
   simp only [cond_true,cond_false,Option.bind_some,(newer_pr _ _).1,(newer_pr _ _).2]
   cases decide (y.P.Seq < p.Seq) with
   | false=>exact ⟨_,rfl,rfl,hn⟩
   | true =>
    simp only [cond_true]
    rw [show (p.On == y.P.On)=(y.P.On == p.On) by cases p.On <;> cases y.P.On <;> rfl,app_ok (by simp at hn ⊢;omega),List.nil_append]
    cases (y.P.On == p.On) with
    | true =>
     simp only [cond_true,Option.bind_some,mat rfl]
     exact ⟨_,rfl,rfl,by rw [List.length_set];exact hn⟩
    | false =>
     simp only [cond_false]
     rw [mdel rfl (w64_id (by omega)) hn]
     simp only [Option.bind_some]
     have h5:∀ x ∈ b,x.Key≠k:=fun x hx=>by have:=dis_mid o3 x hx;rwa [h2] at this
     obtain ⟨x,x1,x2,x3⟩:=put_tail (srt_cut o2) (by rw [List.length_append];omega) (knd_mid h2 h3 h5 false) (knd_mid h2 h3 h5 true) k p
     exact ⟨x,x1,x2,by rw [List.length_append] at x3;omega⟩
def ofM (u:ByteArray) (x:MailEntry):Bool:=(splitE x.Key).1.toList == u.toList
theorem rdrop_l (z:List MailEntry) (u:ByteArray) (h:smM z):∀ (n j F:Nat) (acc:List MailEntry),j + n=z.length→n < F→acc.length≤j→p_ref25_Drop_l1 z u F acc (j:Int)=some (acc++(z.drop j).filter (fun x=>!ofM u x),(z.length:Int))
 | 0,j,F + 1,acc,hj,hF,ha=>by
  rw [p_ref25_Drop_l1,lt_ff (by omega),show j=z.length by omega,List.drop_length];simp
 | n + 1,j,F + 1,acc,hj,hF,ha=>by
  have hlt:j < z.length:=by omega
  have hn:=h.1
  have i1:=rdrop_l z u h n (j + 1) F acc (by omega) (by omega) (by omega)
  have i2:=rdrop_l z u h n (j + 1) F (acc++[z[j]]) (by omega) (by omega) (by simp;omega)
  rw [p_ref25_Drop_l1,lt_tt hlt,cond_true,at_lt hlt]
  simp only [Option.bind_some]
  rw [rsplit_p (h.2 _ (List.getElem_mem hlt)),app_ok (by simp;omega),w64_succ (by omega),i1,Option.bind_some,Option.bind_some,i2,drop_at hlt,List.filter_cons]
  show (bif ofM u z[j] then _ else _)=_
  cases ofM u z[j] <;> simp
theorem drop_p {st:List MailEntry} (u:ByteArray) (h:smM st):∃ x,p_mail_Drop st u=some x∧p_ref25_Drop st u=some x∧x.1.length≤1000:=by
 obtain ⟨c1,c2⟩:=mailC_p h
 have hn:=h.1
 unfold p_mail_Drop p_ref25_Drop
 rw [mclone hn,c1,c2]
 simp only [Option.bind_some]
 by_cases hc:mailC st=0
 rotate_left
 ·have q:(mailC st != 0)=true:=by simpa using hc
  rw [q];exact ⟨_,rfl,rfl,hn⟩
 have e:p_ref25_Drop_l1 st u fuel [] (0:Int)=_:=rdrop_l st u h st.length 0 fuel [] (by omega) (by have:=fuel_pos;omega) (Nat.le_refl _)
 have hf:∀ x ∈ st,p_mail_Drop_1 x u=some (ofM u x):=fun x hx=>by
  unfold p_mail_Drop_1 p_mail_Entry_user
  rw [split_p (h.2 x hx)];rfl
 have d:delF? (fun x0=>p_mail_Drop_1 x0 u) st=some (st.filter fun x=>!ofM u x):=by
  unfold delF?
  rw [if_pos ⟨by omega,List.all_eq_true.2 fun x hx=>by show (p_mail_Drop_1 x u).isSome=true;rw [hf x hx];rfl⟩]
  congr 1
  exact List.filter_congr fun x hx=>by show (!((p_mail_Drop_1 x u).getD false))=_;rw [hf x hx];rfl
 rw [hc,d,e,List.drop_zero,List.nil_append]
 simp only [bne_self_eq_false,cond_false,Option.bind_some]
 exact ⟨_,rfl,rfl,Nat.le_trans (List.length_filter_le ..) hn⟩
theorem eqb_cmpO (a b:ByteArray):(a.toList == b.toList)=decide (Lib.compareBytes a.data.toList b.data.toList=0):=by
 rw [Bool.eq_iff_iff,decide_eq_true_eq,eqT_iff]
 constructor
 ·rintro rfl;exact cmp_refl _
 ·intro h
  have:=cmp_eq0 h
  obtain ⟨a⟩:=a;obtain ⟨b⟩:=b
  congr 1
  exact Array.toList_inj.1 this
theorem outC_bd {s:Ref27State} (hc:outC s=0):(0≤s.Sent∧s.Sent≤1099511627776)∧0≤s.Lost∧s.Lost≤1099511627776:=by
 unfold outC at hc
 by_cases h1:mailC s.Mail=0
 ·rw [if_neg (by simpa using h1)] at hc
  by_cases h2:snapE s.Snap=0
  ·rw [if_neg (by simpa using h2)] at hc
   by_cases h3:(0≤s.Sent∧s.Sent≤1099511627776)∧0≤s.Lost∧s.Lost≤1099511627776
   ·exact h3
   ·rw [if_neg h3] at hc;omega
  ·rw [if_pos h2] at hc;exact absurd hc h2
 ·rw [if_pos h1] at hc;exact absurd hc h1
theorem covers_p (s:SnapState) (k:ByteArray):∃ v,p_snap_Covers s k=some v∧p_ref26_Covers s k=some v:=by
 unfold p_snap_Covers p_ref26_Covers
 cases s.On with
 | false=>exact ⟨_,rfl,rfl⟩
 | true =>
  cases s.Begun with
  | false=>exact ⟨_,rfl,rfl⟩
  | true =>
   refine ⟨_,rfl,?_⟩
   simp only [cond_true]
   rw [eqb_cmpO]
   simp only [cmp_less,tl_data]
   rw [cmp_anti k.data.toList s.After.data.toList]
   generalize Lib.compareBytes k.data.toList s.After.data.toList=c
   congr 1
   rw [Bool.eq_iff_iff]
   simp only [Bool.not_eq_true',Bool.or_eq_false_iff,decide_eq_false_iff_not,decide_eq_true_eq]
   omega
theorem oadd_p {s:Ref27State} {k:ByteArray} (p:PresPres) (hm:smM s.Mail) (hk:k.size≤100000):∃ x,p_outq_Add s k p=some x∧p_ref27_Add s k p=some x∧x.Mail.length≤1000:=by
 obtain ⟨c1,c2⟩:=outC_p hm
 have hn:=hm.1
 unfold p_outq_Add p_ref27_Add
 rw [c1,c2]
 simp only [Option.bind_some]
 by_cases hc:outC s=0
 rotate_left
 ·have q:(outC s != 0)=true:=by simpa using hc
  rw [q];exact ⟨_,rfl,rfl,hn⟩
 obtain ⟨v,v1,v2⟩:=covers_p s.Snap k
 obtain ⟨x,x1,x2,x3⟩:=put_p p hm hk
 rw [hc,v1,v2,x1,x2]
 simp only [bne_self_eq_false,cond_false,Option.bind_some]
 cases v with
 | true=>exact ⟨_,rfl,rfl,hn⟩
 | false =>
  simp only [cond_false]
  by_cases h7:x.2=7
  ·rw [h7,show ((7:Int) == 0)=false from rfl,show ((7:Int) == 7)=true from rfl]
   simp only [cond_false,cond_true]
   have hl:0≤s.Lost∧s.Lost≤1099511627776:=(outC_bd hc).2
   refine ⟨_,rfl,?_,Nat.zero_le _⟩
   show some (Ref27State.mk [] _ s.Sent _)=some (Ref27State.mk [] _ s.Sent _)
   obtain ⟨t1,t2⟩:=tnx_p hl.1 hl.2
   rw [t2,t1]
  ·rw [show (x.2 == 7)=false by simpa using h7]
   cases (x.2 == 0) with
   | true=>exact ⟨_,rfl,rfl,x3⟩
   | false=>exact ⟨_,rfl,rfl,hn⟩
theorem obegin_p {s:Ref27State} (hm:smM s.Mail):∃ x,p_outq_Begin s=some x∧p_ref27_Begin s=some x∧x.Mail.length≤1000:=by
 obtain ⟨c1,c2⟩:=outC_p hm
 unfold p_outq_Begin p_ref27_Begin
 rw [c1,c2]
 simp only [Option.bind_some]
 cases (outC s != 0) with
 | true=>exact ⟨_,rfl,rfl,hm.1⟩
 | false=>exact ⟨_,rfl,rfl,Nat.zero_le _⟩
theorem oforget_p {s:Ref27State} (u:ByteArray) (hm:smM s.Mail):∃ x,p_outq_Forget s u=some x∧p_ref27_Forget s u=some x∧x.Mail.length≤1000:=by
 obtain ⟨c1,c2⟩:=outC_p hm
 obtain ⟨x,x1,x2,x3⟩:=drop_p u hm
 unfold p_outq_Forget p_ref27_Forget
 rw [c1,c2,x1,x2]
 simp only [Option.bind_some]
 cases (outC s == 0) with
 | true=>exact ⟨_,rfl,rfl,x3⟩
 | false=>exact ⟨_,rfl,rfl,hm.1⟩
theorem outqChanges_pure (haw:p_law27_awake=some true) (s:Ref27State) (x:MailEntry) (u:ByteArray):p_law27_OutqChanges s x u=some true:=by
 unfold p_law27_OutqChanges
 rcases mlight_p s.Mail with g | ⟨g,hl,hm⟩
 ·rw [g,haw];rfl
 rw [g,haw]
 simp only [Option.bind_some,cond_true]
 by_cases h1:(100:Int) < (s.Snap.After.size:Int)
 ·rw [decide_eq_true h1];rfl
 by_cases h2:(100:Int) < (x.Key.size:Int)
 ·rw [decide_eq_false h1,decide_eq_true h2];rfl
 by_cases h3:(100:Int) < (u.size:Int)
 ·rw [decide_eq_false h1,decide_eq_false h2,decide_eq_true h3];rfl
 rw [decide_eq_false h1,decide_eq_false h2,decide_eq_false h3]
 simp only [cond_false,Option.bind_some]
 obtain ⟨a,a1,a2,a3⟩:=oadd_p x.P hm (k:=x.Key) (by omega)
 obtain ⟨b,b1,b2,b3⟩:=obegin_p hm
 obtain ⟨c,d1,d2,d3⟩:=oforget_p u hm
 obtain ⟨c1,c2⟩:=outC_p hm
 have w1:∃ v,p_outq_Wants s=some v∧p_ref27_Wants s=some v:=by
  unfold p_outq_Wants p_outq_Len p_ref27_Wants
  cases s.Snap.On with
  | true =>
   refine ⟨true,?_,rfl⟩
   rw [cond_true,w64_id (by omega),Option.bind_some,decide_eq_true (by omega)]
  | false=>exact ⟨_,rfl,rfl⟩
 have w2:p_outq_Len s=p_ref27_Len s∧∃ v,p_ref27_Len s=some v:=by
  refine ⟨rfl,?_⟩
  unfold p_ref27_Len
  cases s.Snap.On <;> exact ⟨_,rfl⟩
 obtain ⟨w,w3,w4⟩:=w1
 obtain ⟨w5,n,w6⟩:=w2
 simp only [(oown_p hm.1).1,(oown_p hm.1).2,Option.bind_some,a1,a2,(oown_p a3).2,oself_p a3,b1,b2,(oown_p b3).2,oself_p b3,d1,d2,(oown_p d3).2,oself_p d3,oself_p hm.1,c1,c2,w3,w4,w5,w6,beq_self_eq_true,cond_true]
end Go.Proofs.YthnihifblmnkdaaGreat

