/- A part of the proof: 6 texts joined. -/
import Derived.Test.YthnihifblmnkdaaGreatPdA19
import Derived.Test.YthnihifblmnkdaaGreatPdA17
import Derived.Test.YthnihifblmnkdaaGreatPdA15
import Derived.Test.YthnihifblmnkdaaGreatPdA14
import Derived.Test.YthnihifblmnkdaaGreatPdA11
import Derived.KernelRfl
import Derived.Test.YthnihifblmnkdaaGreatPdA16
import Derived.Test.YthnihifblmnkdaaGreatPdA13
import Derived.Lib.SliceRun
import Derived.Deep.RegionLaw
set_option linter.all false
namespace Go.Proofs.YthnihifblmnkdaaGreat
open Go.RowKit
theorem view_l1 (z:Ar3_Int_):∀ (n k F:Nat) (acc:List ByteArray),k + n=20→n < F→acc.length≤k→∃ us,p_law27_OutqView_l1 z F (k:Int) ⟨acc,[]⟩=some (((20:Nat):Int),⟨us,[]⟩)∧us.length≤20
 | 0,k,F + 1,acc,hk,hF,ha=>by
  have:k=20:=by omega
  subst this
  rw [p_law27_OutqView_l1]
  exact ⟨acc,rfl,ha⟩
 | n + 1,k,F + 1,acc,hk,hF,ha=>by
  have h8:decide ((k:Int) < (20:Int))=true:=by simp;omega
  have e1:Int.tdiv (k:Int) (8:Int)=((k / 8:Nat):Int):=rfl
  have e2:Int.tmod (k:Int) (8:Int)=((k % 8:Nat):Int):=rfl
  have a1:arr? 3 [z.a0,z.a1,z.a2] (w64 (Int.tdiv (k:Int) (8:Int)))=some ([z.a0,z.a1,z.a2].getD (k / 8) 0):=by
   rw [e1,w64_id (by omega)];exact arrG rfl (by omega)
  have a2:pos? (Int.tmod (k:Int) (8:Int))=some ():=by rw [e2];unfold pos?;rw [if_pos (Int.natCast_nonneg _)]
  rw [p_law27_OutqView_l1,h8,a1,a2]
  simp only [cond_true,Option.bind_some]
  rw [wraps_u8 (by omega),whoW_p (by omega),w64_succ (by omega)]
  simp only [Option.bind_some]
  rw [app_ok (by simp;omega)]
  simp only [Option.bind_some]
  generalize ((andI .u8 (shrI .u8 ([z.a0,z.a1,z.a2].getD (k / 8) 0) (Int.tmod (k:Int) (8:Int))) (1:Int)) == (1:Int))=c
  cases c with
  | true=>exact view_l1 z n (k + 1) F _ (by omega) (by omega) (by simp;omega)
  | false=>exact view_l1 z n (k + 1) F acc (by omega) (by omega) (by omega)
structure PCs (b:BookState) (has:List PresPres):Prop where
 ok:∀ m,m < 20→presCheckL (preT has m)=0
 le:∀ m,m < 20→(preT has m).Seq≤b.Seq
theorem pcs_step {b:BookState} {has has' : List PresPres} {k m:Nat} {q:BookState × PresPres × Int} (h:StF FW b has k) (hp:PCs b has) (hm:m < 20) (hs:BookStep b has m q has') :
  PCs q.1 has'∧((q.2.2=0∧Chg has has' m q.2.1∧presCheckL q.2.1=0)∨(q.2.2≠0∧has'=has)):=by
 rcases hs with ⟨h1,h2,h3,h4,rfl,_⟩ | ⟨h1,rfl,h3⟩
 ·have hl:m < has.length:=by rw [h.ok.len];exact hm
  have one:preT (has.set m q.2.1) m=q.2.1:=preT_set _ hl
  have ne:∀ i,i≠m→preT (has.set m q.2.1) i=preT has i:=fun i hi=>preT_ne _ hi
  have:=hp.le m hm
  refine ⟨⟨fun i hi=>?_,fun i hi=>?_⟩,.inl ⟨h1,⟨one,ne,by omega⟩,h4⟩⟩
  ·by_cases c:i=m
   ·subst c;rw [one];exact h4
   ·rw [ne i c];exact hp.ok i hi
  ·by_cases c:i=m
   ·subst c;rw [one];omega
   ·rw [ne i c];have:=hp.le i hi;omega
 ·exact ⟨by rw [h3];exact hp,.inr ⟨h1,rfl⟩⟩
theorem saw_p {e:SnapEyes} (he:fewE e) {m:Nat} (hm:m < 20) (p:PresPres):p_snap_Sees e (BookRow.mk (u20 m) ⟨#[]⟩ p)=some (sawM e m):=by
 have:=(okW hm).2.1
 exact sees_p he (x:=BookRow.mk (u20 m) ⟨#[]⟩ p) ⟨by show (u20 m).size≤_;omega,by show (0:Nat)≤_;omega⟩
theorem flush_view {s:Ref27State} {e:SnapEyes} {b:BookState} {has:List PresPres} {k:Nat} {v:Law27View} (h:GoodS s) (he:fewE e) (hb:StF FW b has k) (hk:k < 900) (hp:PCs b has) (hse:s.Sent≤1000000) (hi:InvW e has s.Mail s.Snap v) {z:Int} (hz:0≤z∧z≤1000) :
  ∃ out s' v',p_outq_Flush s e b z=some (s',out)∧GoodS s'∧out.length≤1000∧s'.Sent=s.Sent + out.length∧tellAll out v=some v'∧InvW e has s'.Mail s'.Snap v'∧(34 < z→s'.Snap.On=false∧s'.Mail=[]):=by
 have hf:=fuel_pos
 have hl:=hb.len
 have ml:=h.mail.len
 have hT:OkT (OutqTeller.mk (OutqCounter.mk s.Sent) s e b):=⟨h.sm,goodM_iff.2 h.mail,h.snap,h.sent,h.lost,he,by show b.Rows.length≤1000;omega,hb.small⟩
 obtain ⟨out,T',r1,r2,r3,r4,r5,r6,r7⟩:=flush_tell z hz 1000 fuel [] _ hT (hb.check hk) (good_rows hb hk) rfl (by omega) (by show s.Sent + _≤_;omega)
 obtain ⟨v',t1,t2⟩:=r7 has v hb.rows hp.ok hi
 refine ⟨out,⟨T'.st.Mail,T'.st.Snap,T'.counter.sent,T'.st.Lost⟩,v',?_,⟨r2.sm,goodM_iff.1 r2.mail,r2.snap,r2.sent,r2.lost⟩,r3,r4,t1,t2,fun hz34=>?_⟩
 ·unfold p_outq_Flush
  rw [h.chk,Option.bind_some,bne_self_eq_false,cond_false,r1];rfl
 ·have hpot:potT (OutqTeller.mk (OutqCounter.mk s.Sent) s e b)≤34:=by
   unfold potT
   have q2:(rowsB e b s.Snap.After).length≤b.Rows.length:=List.length_filter_le ..
   show (if s.Snap.On=true then (rowsB e b s.Snap.After).length + (if s.Snap.Begun=true then 1 else 2) else 0) + s.Mail.length≤_
   split
   ·split <;> omega
   ·omega
  have k3:potT T'=0:=by
   rcases r5 with g | g
   ·exact g
   ·simp at g;omega
  unfold potT at k3
  cases ho:T'.st.Snap.On with
  | true=>rw [ho] at k3;simp only [if_true] at k3;split at k3 <;> omega
  | false=>rw [ho] at k3;simp only [Bool.false_eq_true,if_false,Nat.zero_add] at k3;exact ⟨rfl,List.length_eq_zero_iff.1 k3⟩
theorem view_l2 {e:SnapEyes} (he:fewE e) (l:List Law27Deed) (hl:l.length≤80) (hd:∀ d ∈ l,DeedW d):∀ (n k F:Nat) (b:BookState) (has:List PresPres) (v:Law27View) (s:Ref27State),k + n=l.length→n < F→StF FW b has k→PCs b has→GoodS s→s.Sent≤1000 * k→InvW e has s.Mail s.Snap v →
  ∃ b' has' v' s',p_law27_OutqView_l2 l e F (k:Int) b v s=some (.inr ((l.length:Int),b',v',s'))∧StF FW b' has' l.length∧PCs b' has'∧GoodS s'∧s'.Sent≤1000 * l.length∧InvW e has' s'.Mail s'.Snap v'
 | 0,k,F + 1,b,has,v,s,hk,hF,h,hp,hg,hse,hi=>by
  have:k=l.length:=by omega
  subst this
  rw [p_law27_OutqView_l2,lt_ff (Nat.le_refl _)]
  exact ⟨b,has,v,s,rfl,h,hp,hg,hse,hi⟩
 | n + 1,k,F + 1,b,has,v,s,hk,hF,h,hp,hg,hse,hi=>by
  have hlt:k < l.length:=by omega
  have hf:=fuel_pos
  have hdd:=hd _ (List.getElem_mem hlt)
  have hm:l[k].Who.toNat % 20 < 20:=by omega
  obtain ⟨q,has',hq,f1,f2⟩:=deed27 hdd h (by omega)
  obtain ⟨pc',hch⟩:=pcs_step h hp hm f2
  rw [p_law27_OutqView_l2,lt_tt hlt,at_lt hlt]
  simp only [cond_true,Option.bind_some]
  rw [whoW_p hdd.who]
  simp only [Option.bind_some]
  rw [hq]
  simp only [Option.bind_some]
  rw [saw_p he hm,keyW_p hm]
  obtain ⟨s1,hs1,g1,g1s,i1⟩ : ∃ s1,(bif q.2.2 == (0:Int) then (some (sawM e (l[k].Who.toNat % 20))).bind fun v46=>bif v46 then (some (keyL (u20 (l[k].Who.toNat % 20)) (⟨#[]⟩ : ByteArray))).bind fun v48=>(p_outq_Add s v48 q.2.1).bind fun v49=>some v49 else some s else some s)=some s1∧GoodS s1∧s1.Sent=s.Sent∧InvW e has' s1.Mail s1.Snap v:=by
   rcases hch with ⟨h0,hc,hpc⟩ | ⟨h0,rfl⟩
   ·rw [h0]
    cases hs:sawM e (l[k].Who.toNat % 20) with
    | true =>
     obtain ⟨s1,a1,a2,a3,a4⟩:=add_inv hg hm hi hc hs hpc
     have a1' : p_outq_Add s (keyL (u20 (l[k].Who.toNat % 20)) ⟨#[]⟩) q.2.1=some s1:=a1
     exact ⟨s1,by simp only [beq_self_eq_true,cond_true,Option.bind_some];rw [a1'];rfl,a2,a3,a4⟩
    | false=>exact ⟨s,rfl,hg,rfl,chg_none hm hi hc hs⟩
   ·have:(q.2.2 == (0:Int))=false:=by simpa using h0
    rw [this]
    exact ⟨s,rfl,hg,rfl,hi⟩
  rw [hs1]
  simp only [Option.bind_some]
  obtain ⟨s2,hs2,g2,g2s,i2⟩ : ∃ s2,(bif l[k].Anew then (p_outq_Begin s1).bind fun v54=>some v54 else some s1)=some s2∧GoodS s2∧s2.Sent=s1.Sent∧InvW e has' s2.Mail s2.Snap v:=by
   obtain ⟨b1,b2⟩:=begin_p g1
   cases l[k].Anew with
   | true=>exact ⟨_,by rw [cond_true,b1];rfl,b2,rfl,inv_begin i1.vl i1.last i1.blind⟩
   | false=>exact ⟨s1,rfl,g1,rfl,i1⟩
  rw [hs2]
  simp only [Option.bind_some]
  have ez:w64 (Int.tmod l[k].Tell (8:Int))=((l[k].Tell.toNat % 8:Nat):Int):=by
   have e:Int.tmod l[k].Tell (8:Int)=((l[k].Tell.toNat % 8:Nat):Int):=tmod_nat hdd.tell.1 8
   rw [e,w64_id (by omega)]
  obtain ⟨out,s3,v',y1,y2,y3,y4,y5,y6,_⟩:=flush_view g2 he f1 (by omega) pc' (by omega) i2 (z:=((l[k].Tell.toNat % 8:Nat):Int)) (by omega)
  rw [ez,y1]
  simp only [Option.bind_some]
  have y7:=view_l3 out y3 out.length 0 fuel v v' (by omega) (by omega) y5
  have y8:p_law27_OutqView_l3 out fuel (0:Int) v=_:=y7
  rw [y8]
  simp only [Option.bind_some]
  rw [y2.chk]
  have hs3:=g2.sent
  have es:(s3.Sent != w64 (s2.Sent + (out.length:Int)))=false:=by rw [w64_id (by omega),y4];simp
  simp only [Option.bind_some,bne_self_eq_false,cond_false,es]
  rw [w64_succ (by omega)]
  exact view_l2 he l hl hd n (k + 1) F q.1 has' v' s3 (by omega) (by omega) f1 pc' y2 (by omega) y6
theorem eqP (p:PresPres):((p.On == p.On) && ((p.Show == p.Show) && ((p.Prio == p.Prio) && ((p.Seq == p.Seq) && true))))=true:=by simp
theorem view_l5 {e:SnapEyes} (he:fewE e) {b:BookState} {has:List PresPres} {K:Nat} (h:StF FW b has K) (hK:K < 900) {v:Law27View} (vl:VLen v) (hsee:∀ m,m < 20→sawM e m=true→preT v.has m=shP (preT has m)) (hno:∀ m,m < 20→sawM e m=false→preT v.has m=zP) :
  ∀ (n k F:Nat),k + n=20→n < F→p_law27_OutqView_l5 e b v F (k:Int)=some (.inr ((20:Nat):Int))
 | 0,k,F + 1,hk,hF=>by
  have:k=20:=by omega
  subst this
  rw [p_law27_OutqView_l5];rfl
 | n + 1,k,F + 1,hk,hF=>by
  have hlt:k < 20:=by omega
  have h20:decide ((k:Int) < (20:Int))=true:=by simp;omega
  have ih:=view_l5 he h hK vl hsee hno n (k + 1) F (by omega) (by omega)
  have hs:=h.seq
  have hu:=(FW.ok k hlt).2
  have hg:=get_p (st:=b) (u:=FW.u k) (r:=FW.r k) (by have:=h.len;omega) h.small (by omega) (by omega)
  rw [h.rows,tab_get h.ok (by omega) hlt] at hg
  have hg1:∃ z,p_book_Get b (u20 k) ⟨#[]⟩=some (shP (preT has k),z):=by
   by_cases ho:onF has k=true
   ·rw [if_pos ho] at hg
    have ho' : (preT has k).On=true:=ho
    exact ⟨true,by rw [sh_on ho'];exact hg⟩
   ·rw [if_neg ho] at hg
    exact ⟨false,by rw [sh_off (by simpa using ho)];exact hg⟩
  obtain ⟨z,hz⟩:=hg1
  have ew:p_law27_who (k:Int)=some (u20 k):=by
   rw [whoW_p (by omega)]
   have:((k:Int)).toNat % 20=k:=by rw [Int.toNat_natCast];exact Nat.mod_eq_of_lt hlt
   rw [this]
  have a3:arr? 20 v.has (k:Int)=some (preT v.has k):=arrG vl.l1 hlt
  rw [p_law27_OutqView_l5,h20,wraps_u8 (by omega),ew]
  simp only [cond_true,Option.bind_some]
  rw [hz]
  simp only [Option.bind_some]
  rw [saw_p he hlt,a3,w64_succ (by omega),ih]
  simp only [Option.bind_some]
  cases hs2:sawM e k with
  | true =>
   simp only [cond_true]
   rw [hsee k hlt hs2,eqP];rfl
  | false =>
   simp only [cond_false]
   rw [hno k hlt hs2];rfl
theorem outqView_pure (haw:p_law27_awake=some true) (l:List Law27Deed) (x:Ar3_Int_) (hd:∀ d ∈ l,DeedW d):p_law27_OutqView l x=some true:=by
 have hf:=fuel_pos
 unfold p_law27_OutqView
 rw [haw]
 by_cases hl:(80:Int) < (l.length:Int)
 ·rw [decide_eq_true hl];rfl
 rw [decide_eq_false hl,cond_false]
 obtain ⟨us,u1,u2⟩:=view_l1 x 20 0 fuel [] (by omega) (by omega) (Nat.le_refl _)
 have u1' : p_law27_OutqView_l1 x fuel (0:Int) (SnapEyes.mk [] [])=_:=u1
 have he:fewE ⟨us,[]⟩:=⟨by show us.length≤1000;omega,by simp⟩
 have g0:GoodS (Ref27State.mk [] (SnapState.mk false false (⟨#[]⟩ : ByteArray) (0:Int)) (0:Int) (0:Int)):=⟨⟨by simp,fun y hy=>by cases hy⟩,GoodM.nil,snapE_off,by simp,by simp⟩
 obtain ⟨b1,b2⟩:=begin_p g0
 have v0:VLen (Law27View.mk (List.replicate 20 (PresPres.mk false (0:Int) (0:Int) (0:Int))) false (List.replicate 20 false) (List.replicate 20 (0:Int))):=⟨by simp,by simp,by simp⟩
 have h0:∀ m,preT (List.replicate 20 (PresPres.mk false (0:Int) (0:Int) (0:Int))) m=zP:=fun m=>rep_pre 20 m
 have hlast:∀ m,m < 20→lastV (Law27View.mk (List.replicate 20 (PresPres.mk false (0:Int) (0:Int) (0:Int))) false (List.replicate 20 false) (List.replicate 20 (0:Int))) m≤(preT (List.replicate 20 (PresPres.mk false (0:Int) (0:Int) (0:Int))) m).Seq:=fun m hm=>by
  rw [h0]
  show (List.replicate 20 (0:Int)).getD m 0≤0
  rw [List.getD_eq_getElem?_getD,List.getElem?_replicate];split <;> exact Int.le_refl _
 have i0:=inv_begin (e:=⟨us,[]⟩) v0 hlast fun m _ _=>h0 m
 have p0:PCs ⟨0,[]⟩ (List.replicate 20 (PresPres.mk false (0:Int) (0:Int) (0:Int))):=⟨fun m _=>by rw [h0];decide,fun m _=>by rw [h0];exact Int.le_refl _⟩
 obtain ⟨b,has,v,s,r1,r2,r3,r4,r5,r6⟩:=view_l2 he l (by omega) hd l.length 0 fuel ⟨0,[]⟩ _ _ _ (by omega) (by omega) StW.init p0 b2 (by show (0:Int)≤_;omega) i0
 have r1' : p_law27_OutqView_l2 l ⟨us,[]⟩ fuel (0:Int) (BookState.mk (0:Int) []) (Law27View.mk (List.replicate 20 (PresPres.mk false (0:Int) (0:Int) (0:Int))) false (List.replicate 20 false) (List.replicate 20 (0:Int))) (begS (Ref27State.mk [] (SnapState.mk false false (⟨#[]⟩ : ByteArray) (0:Int)) (0:Int) (0:Int)))=_:=r1
 rw [u1',Option.bind_some,b1,Option.bind_some,r1',Option.bind_some]
 obtain ⟨out,s',v',y1,y2,y3,_,y5,y6,y7⟩:=flush_view r4 he r2 (by omega) r3 (by omega) r6 (z:=60) (by omega)
 obtain ⟨o1,o2⟩:=y7 (by omega)
 simp only
 rw [y1]
 simp only [Option.bind_some]
 have y8:p_law27_OutqView_l4 out fuel (0:Int) v=_:=view_l4 out y3 out.length 0 fuel v v' (by omega) (by omega) y5
 rw [y8]
 simp only [Option.bind_some]
 have hw:p_outq_Wants s'=some false:=by
  unfold p_outq_Wants p_outq_Len
  rw [o1,o2];rfl
 rw [hw]
 simp only [Option.bind_some,cond_false]
 have hsee:∀ m,m < 20→sawM ⟨us,[]⟩ m=true→preT v'.has m=shP (preT has m):=fun m hm hs=>by
  rcases (y6.off o1).2 m hm hs with ⟨x,hx,_⟩ | g
  ·rw [o2] at hx;cases hx
  ·exact g
 have y9:p_law27_OutqView_l5 ⟨us,[]⟩ b v' fuel (0:Int)=_:=view_l5 he r2 (by omega) y6.vl hsee y6.blind 20 0 fuel (by omega) (by omega)
 rw [y9];rfl
end Go.Proofs.YthnihifblmnkdaaGreat

namespace Go.Proofs.YthnihifblmnkdaaGreat
open Go.RowKit
set_option maxRecDepth 100000
set_option maxHeartbeats 4000000
def gc90:BCode:=(.seq (R_ 0 [O_ 2 (.mv (.const (.string ⟨#[]⟩))) 0,O_ 3 (.mv (.const (.string ⟨#[]⟩))) 0,O_ 4 (.mv (i_ 0)) 0]) (.seq (R_ 0 [O_ 10 (.mv (t_ 0)) 0,O_ 11 (.cl 107 [(t_ 10),(.const (.string ⟨#[32]⟩))]) 0,O_ 9 (.mv (t_ 11)) 0,O_ 12 (.ex (t_ 9) 0) 0,O_ 13 (.ex (t_ 9) 1) 0,O_ 14 (.ex (t_ 9) 2) 0,O_ 5 (.mv (t_ 12)) 0,O_ 6 (.mv (t_ 13)) 0,O_ 7 (.mv (t_ 14)) 0]) (.seq (.seq (R_ 0 [O_ 15 (.mv (t_ 7)) 0,O_ 16 (.un .not (t_ 15)) 0]) (.cond (t_ 16) (.seq (R_ 0 [O_ 2 (.mv (.const (.string ⟨#[]⟩))) 0,O_ 3 (.mv (.const (.string ⟨#[]⟩))) 0,O_ 4 (.mv (i_ 4)) 0]) .ret) .skip)) (.seq (.seq (R_ 0 [O_ 17 (.mv (t_ 5)) 0,O_ 18 (.cl 86 [(t_ 17)]) 0,O_ 19 (.un .not (t_ 18)) 0]) (.cond (t_ 19) (.seq (R_ 0 [O_ 2 (.mv (.const (.string ⟨#[]⟩))) 0,O_ 3 (.mv (.const (.string ⟨#[]⟩))) 0,O_ 4 (.mv (i_ 11)) 0]) .ret) .skip)) (.seq (.seq (R_ 0 [O_ 20 (.mv (t_ 6)) 0,O_ 21 (.cl 85 [(t_ 20)]) 0,O_ 8 (.mv (t_ 21)) 0]) (.seq (R_ 0 [O_ 22 (.mv (t_ 8)) 0,O_ 23 (.bin .neq (t_ 22) (i_ 0)) 0]) (.cond (t_ 23) (.seq (R_ 0 [O_ 24 (.mv (t_ 8)) 0,O_ 2 (.mv (.const (.string ⟨#[]⟩))) 0,O_ 3 (.mv (.const (.string ⟨#[]⟩))) 0,O_ 4 (.mv (t_ 24)) 0]) .ret) .skip))) (.seq (R_ 0 [O_ 25 (.mv (t_ 5)) 0,O_ 26 (.mv (t_ 6)) 0,O_ 2 (.mv (t_ 25)) 0,O_ 3 (.mv (t_ 26)) 0,O_ 4 (.mv (i_ 0)) 0]) .ret))))))
theorem gc90_ok:compF Tryz.prog Tryz.f90=some (gc90.er,27,[.tmp 2,.tmp 3,.tmp 4]):=by unfold gc90;kernel_rfl
theorem p_pres_Split_v (a0:ByteArray):CallsO Tryz.prog 90 [.s a0] (fun r:ByteArray × ByteArray × Int=>.tup [V.s r.1,V.s r.2.1,V.i r.2.2]) (p_pres_Split a0):=by
 refine callsO_comp mix Tryz.func90 gc90_ok fun r H=>?_
 rw [p_pres_Split] at H
 conv=>whnf
 refine ask_c (p_strings_Cut_v _ _) H rfl rfl (fun v1 H=>?_);conv=>whnf
 refine Tst.not ?_
 refine tst_d H (fun b2 H=>?_) (fun b2 H=>?_)
 ·conv=>whnf
  exact fin0_c (enc:=(fun r:ByteArray × ByteArray × Int=>.tup [V.s r.1,V.s r.2.1,V.i r.2.2])) H (.inr rfl) (.cons (.tmp rfl) (.cons (.tmp rfl) (.cons (.tmp rfl) (.nil)))) rfl rfl
 conv=>whnf
 refine ask_c (p_addr_IsBare_v _) H rfl rfl (fun v3 H=>?_);conv=>whnf
 refine Tst.not ?_
 refine tst_d H (fun b4 H=>?_) (fun b4 H=>?_)
 ·conv=>whnf
  exact fin0_c (enc:=(fun r:ByteArray × ByteArray × Int=>.tup [V.s r.1,V.s r.2.1,V.i r.2.2])) H (.inr rfl) (.cons (.tmp rfl) (.cons (.tmp rfl) (.cons (.tmp rfl) (.nil)))) rfl rfl
 conv=>whnf
 refine ask_c (p_addr_Resource_v _) H rfl rfl (fun v5 H=>?_);conv=>whnf
 refine tst_c H (fun b6 H=>?_) (fun b6 H=>?_)
 ·conv=>whnf
  exact fin0_c (enc:=(fun r:ByteArray × ByteArray × Int=>.tup [V.s r.1,V.s r.2.1,V.i r.2.2])) H (.inr rfl) (.cons (.tmp rfl) (.cons (.tmp rfl) (.cons (.tmp rfl) (.nil)))) rfl rfl
 conv=>whnf
 exact fin0_c (enc:=(fun r:ByteArray × ByteArray × Int=>.tup [V.s r.1,V.s r.2.1,V.i r.2.2])) H (.inr rfl) (.cons (.tmp rfl) (.cons (.tmp rfl) (.cons (.tmp rfl) (.nil)))) rfl rfl
def gc59:BCode:=(.seq (R_ 0 [O_ 2 (.mv (b_ false)) 0]) (.seq (R_ 0 [O_ 7 (.mv (t_ 0)) 0,O_ 8 (.cl 90 [(t_ 7)]) 0,O_ 6 (.mv (t_ 8)) 0,O_ 9 (.ex (t_ 6) 0) 0,O_ 10 (.ex (t_ 6) 1) 0,O_ 11 (.ex (t_ 6) 2) 0,O_ 3 (.mv (t_ 9)) 0,O_ 4 (.mv (t_ 10)) 0,O_ 5 (.mv (t_ 11)) 0]) (.seq (R_ 0 [O_ 12 (.mv (t_ 5)) 0,O_ 13 (.bin .eql (t_ 12) (i_ 0)) 0,O_ 2 (.mv (t_ 13)) 0]) .ret)))
theorem gc59_ok:compF Tryz.prog Tryz.f59=some (gc59.er,14,[.tmp 2]):=by unfold gc59;kernel_rfl
theorem p_mail_key_v (a0:ByteArray):CallsO Tryz.prog 59 [.s a0] V.b (p_mail_key a0):=by
 refine callsO_comp mix Tryz.func59 gc59_ok fun r H=>?_
 rw [p_mail_key] at H
 conv=>whnf
 refine ask_c (p_pres_Split_v _) H rfl rfl (fun v1 H=>?_);conv=>whnf
 exact fb_ H
def gc63:BCode:=(.seq (R_ 0 [O_ 2 (.mv (i_ 0)) 0]) (.seq (R_ 0 [O_ 3 (.mv (i_ 0)) 0]) (.seq (.seq (R_ 0 [O_ 6 (.mv (t_ 0)) 0,O_ 7 (.lens (t_ 6)) 0,O_ 8 (.mv (i_ 0)) 0]) (.block 0 (.loop (.seq (R_ 0 [O_ 9 (.bin .lss (t_ 8) (t_ 7)) 0]) (.seq (.cond (t_ 9) .skip (.exit 0)) (.seq (.block 1 (.seq (R_ 1 [O_ 10 (.ixs 5 (t_ 6) (t_ 8)) 0,O_ 11 (.ld 5 true (t_ 10)) 0,O_ 5 (.al (.agg [(.lit (.string ⟨#[]⟩)),(.lit (.bool false)),(.lit (.int .i64 0)),(.lit (.int .i64 0)),(.lit (.int .i64 0))])) 0,U_ (.st 5 (t_ 5) (t_ 11)) 1]) (.seq (R_ 0 [O_ 12 (.fa 1 (t_ 5)) 0,O_ 13 (.fa 0 (t_ 12)) 0,O_ 14 (.ld 1 false (t_ 13)) 0,O_ 15 (.un .not (t_ 14)) 0]) (.cond (t_ 15) (R_ 0 [O_ 16 (.mv (t_ 3)) 0,O_ 17 (.bin .add (t_ 16) (i_ 1)) 0,O_ 3 (.mv (t_ 17)) 0]) .skip)))) (R_ 0 [O_ 18 (.bin .add (t_ 8) (i_ 1)) 0,O_ 8 (.mv (t_ 18)) 0]))))))) (.seq (R_ 0 [O_ 19 (.mv (t_ 3)) 0,O_ 2 (.mv (t_ 19)) 0]) .ret))))
theorem gc63_ok:compF Tryz.prog Tryz.f63=some (gc63.er,20,[.tmp 2]):=by unfold gc63;kernel_rfl
theorem p_mail_Off_v {u1:Bool} (a0:List MailEntry):CallsO Tryz.prog 63 [.sl (List.map MailEntry.v a0) u1] V.i (p_mail_Off a0):=by
 refine callsO_comp mix Tryz.func63 gc63_ok fun r H=>?_
 rw [p_mail_Off] at H
 conv=>whnf
 refine LenQ.M ?_;conv=>whnf
 obtain ⟨o2,HL3,HQ4⟩:=bind_c H
 refine loop_c [3,8] [5,9,10,11,12,13,14,15,16,17,18] [5,9,10,11,12,13,14,15,16,17,18] (fun n vals st=>(∃ y6 y7,p_mail_Off_l1  a0 (a0.length:Int) n y6 y7=some o2∧vals=[.i y6,.i y7]∧st=[])) fuel 0 [] (⟨_,_,HL3,rfl,rfl⟩) (Nat.zero_le _) rfl (by kernel_rfl) (by kernel_rfl) rfl trivial ?_
 rintro (_ | n5) _ _ (⟨y6,y7,H,rfl,rfl⟩)
 ·rw [p_mail_Off_l1] at H;cases H
 rw [p_mail_Off_l1] at H
 conv=>whnf
 refine tst_d H (fun b8 H=>?_) (fun b8 H=>?_)
 ·conv=>whnf
  obtain rfl:=Option.some.inj H
  have H:=HQ4
  try dsimp only at H
  exact fi_ H
 conv=>whnf
 refine ixs_c (f:=MailEntry.v) H (fun _=>rfl) (fun x9 H=>?_);conv=>whnf
 refine lq_ ?_;conv=>whnf
 refine Tst.not ?_
 refine tst_c H (fun b10 H=>?_) (fun b10 H=>?_)
 ·conv=>whnf
  refine Ari.w ?_;conv=>whnf
  exact again_c [5,9,10,11,12,13,14,15,16,17,18] n5 0 [] (⟨_,_,H,rfl,rfl⟩) (Nat.lt_succ_self _) (Nat.zero_le _) rfl (by kernel_rfl) (by kernel_rfl) rfl trivial
 conv=>whnf
 iterate 2 (refine Ari.w ?_;conv=>whnf)
 exact again_c [5,9,10,11,12,13,14,15,16,17,18] n5 0 [] (⟨_,_,H,rfl,rfl⟩) (Nat.lt_succ_self _) (Nat.zero_le _) rfl (by kernel_rfl) (by kernel_rfl) rfl trivial
def gc60:BCode:=(.seq (R_ 0 [O_ 4 (.mv (i_ 0)) 0]) (.seq (R_ 0 [O_ 5 (.mv (.const (.int .i64 (-1)))) 0]) (.seq .skip (.seq (.seq (R_ 0 [O_ 8 (.mv (t_ 0)) 0,O_ 9 (.lens (t_ 8)) 0,O_ 10 (.mv (i_ 0)) 0]) (.block 0 (.loop (.seq (R_ 0 [O_ 11 (.bin .lss (t_ 10) (t_ 9)) 0]) (.seq (.cond (t_ 11) .skip (.exit 0)) (.seq (.block 1 (.seq (R_ 1 [O_ 12 (.mv (t_ 10)) 0,O_ 13 (.ixs 5 (t_ 8) (t_ 10)) 0,O_ 14 (.ld 5 true (t_ 13)) 0,O_ 7 (.al (.agg [(.lit (.string ⟨#[]⟩)),(.lit (.bool false)),(.lit (.int .i64 0)),(.lit (.int .i64 0)),(.lit (.int .i64 0))])) 0,O_ 6 (.mv (t_ 12)) 1,U_ (.st 5 (t_ 7) (t_ 14)) 1]) (.seq (R_ 0 [O_ 15 (.fa 0 (t_ 7)) 0,O_ 16 (.ld 1 false (t_ 15)) 0,O_ 17 (.mv (t_ 1)) 0,O_ 18 (.bin .eql (t_ 16) (t_ 17)) 0]) (.cond (t_ 18) (.seq (R_ 0 [O_ 19 (.mv (t_ 6)) 0,O_ 5 (.mv (t_ 19)) 0]) (.exit 0)) .skip)))) (R_ 0 [O_ 20 (.bin .add (t_ 10) (i_ 1)) 0,O_ 10 (.mv (t_ 20)) 0]))))))) (.seq (R_ 0 [O_ 21 (.mv (t_ 5)) 0,O_ 4 (.mv (t_ 21)) 0]) .ret)))))
theorem gc60_ok:compF Tryz.prog Tryz.f60=some (gc60.er,22,[.tmp 4]):=by unfold gc60;kernel_rfl
theorem p_mail_Find_v {u1:Bool} (a0:List MailEntry) (a1:ByteArray):CallsO Tryz.prog 60 [.sl (List.map MailEntry.v a0) u1,.s a1] V.i (p_mail_Find a0 a1):=by
 refine callsO_comp mix Tryz.func60 gc60_ok fun r H=>?_
 rw [p_mail_Find] at H
 conv=>whnf
 refine LenQ.M ?_;conv=>whnf
 obtain ⟨o2,HL3,HQ4⟩:=bind_c H
 refine loop_c [5,10] [6,7,11,12,13,14,15,16,17,18,19,20] [6,7,11,12,13,14,15,16,17,18,19,20] (fun n vals st=>(∃ y6 y7,p_mail_Find_l1  a1 a0 (a0.length:Int) n y6 y7=some o2∧vals=[.i y6,.i y7]∧st=[])) fuel 0 [] (⟨_,_,HL3,rfl,rfl⟩) (Nat.zero_le _) rfl (by kernel_rfl) (by kernel_rfl) rfl trivial ?_
 rintro (_ | n5) _ _ (⟨y6,y7,H,rfl,rfl⟩)
 ·rw [p_mail_Find_l1] at H;cases H
 rw [p_mail_Find_l1] at H
 conv=>whnf
 refine tst_d H (fun b8 H=>?_) (fun b8 H=>?_)
 ·conv=>whnf
  obtain rfl:=Option.some.inj H
  have H:=HQ4
  try dsimp only at H
  exact fi_ H
 conv=>whnf
 refine ixs_c (f:=MailEntry.v) H (fun _=>rfl) (fun x9 H=>?_);conv=>whnf
 refine lq_ ?_;conv=>whnf
 refine tst_c H (fun b10 H=>?_) (fun b10 H=>?_)
 ·conv=>whnf
  obtain rfl:=Option.some.inj H
  have H:=HQ4
  try dsimp only at H
  exact fi_ H
 conv=>whnf
 refine Ari.w ?_;conv=>whnf
 exact again_c [6,7,11,12,13,14,15,16,17,18,19,20] n5 0 [] (⟨_,_,H,rfl,rfl⟩) (Nat.lt_succ_self _) (Nat.zero_le _) rfl (by kernel_rfl) (by kernel_rfl) rfl trivial
def gc75:BCode:=(.seq (R_ 0 [O_ 2 (.mv (b_ false)) 0]) (.seq (R_ 0 [O_ 6 (.mv (t_ 0)) 0,O_ 7 (.cl 63 [(t_ 6)]) 0,O_ 3 (.mv (t_ 7)) 0]) (.seq (.seq (R_ 0 [O_ 8 (.mv (t_ 0)) 0,O_ 9 (.lens (t_ 8)) 0,O_ 10 (.mv (i_ 0)) 0]) (.block 0 (.loop (.seq (R_ 0 [O_ 11 (.bin .lss (t_ 10) (t_ 9)) 0]) (.seq (.cond (t_ 11) .skip (.exit 0)) (.seq (.block 1 (.seq (R_ 1 [O_ 12 (.mv (t_ 10)) 0,O_ 13 (.ixs 5 (t_ 8) (t_ 10)) 0,O_ 14 (.ld 5 true (t_ 13)) 0,O_ 5 (.al (.agg [(.lit (.string ⟨#[]⟩)),(.lit (.bool false)),(.lit (.int .i64 0)),(.lit (.int .i64 0)),(.lit (.int .i64 0))])) 0,O_ 4 (.mv (t_ 12)) 1,U_ (.st 5 (t_ 5) (t_ 14)) 1]) (.seq (R_ 0 [O_ 15 (.fa 1 (t_ 5)) 0,O_ 16 (.fa 0 (t_ 15)) 0,O_ 17 (.ld 1 false (t_ 16)) 0,O_ 18 (.mv (t_ 4)) 0,O_ 19 (.mv (t_ 3)) 0,O_ 20 (.bin .geq (t_ 18) (t_ 19)) 0,O_ 21 (.binb true (t_ 17) (t_ 20)) 0,O_ 22 (.mv (t_ 21)) 0,⟨(some 23),.mv (t_ 0),(some (22,false)),0⟩,⟨(some 24),.fa 0 (t_ 5),(some (22,false)),0⟩,⟨(some 25),.ld 1 false (t_ 24),(some (22,false)),0⟩,⟨(some 26),.cl 60 [(t_ 23),(t_ 25)],(some (22,false)),0⟩,⟨(some 27),.mv (t_ 4),(some (22,false)),0⟩,⟨(some 28),.bin .neq (t_ 26) (t_ 27),(some (22,false)),0⟩,O_ 29 (.pick (t_ 22) (b_ true) (t_ 28)) 0]) (.cond (t_ 29) (.seq (R_ 0 [O_ 2 (.mv (b_ false)) 0]) .ret) .skip)))) (R_ 0 [O_ 30 (.bin .add (t_ 10) (i_ 1)) 0,O_ 10 (.mv (t_ 30)) 0]))))))) (.seq (R_ 0 [O_ 2 (.mv (b_ true)) 0]) .ret))))
theorem gc75_ok:compF Tryz.prog Tryz.f75=some (gc75.er,31,[.tmp 2]):=by unfold gc75;kernel_rfl
theorem p_mail_State_ordered_v {u1:Bool} (a0:List MailEntry):CallsO Tryz.prog 75 [.sl (List.map MailEntry.v a0) u1] V.b (p_mail_State_ordered a0):=by
 refine callsO_comp mix Tryz.func75 gc75_ok fun r H=>?_
 rw [p_mail_State_ordered] at H
 conv=>whnf
 refine ask_c (p_mail_Off_v _) H rfl rfl (fun v1 H=>?_);conv=>whnf
 refine LenQ.M ?_;conv=>whnf
 obtain ⟨o3,HL4,HQ5⟩:=bind_c H
 refine loop_c [2,10] [4,5,11,12,13,14,15,16,17,18,19,20,21,22,23,24,25,26,27,28,29,30] [4,5,11,12,13,14,15,16,17,18,19,20,21,22,23,24,25,26,27,28,29,30] (fun n vals st=>(∃ y7,p_mail_State_ordered_l1  a0 v1 a0 (a0.length:Int) n y7=some o3∧vals=[.b false,.i y7]∧st=[])) fuel 0 [] (⟨_,HL4,rfl,rfl⟩) (Nat.zero_le _) rfl (by kernel_rfl) (by kernel_rfl) rfl trivial ?_
 rintro (_ | n6) _ _ (⟨y7,H,rfl,rfl⟩)
 ·rw [p_mail_State_ordered_l1] at H;cases H
 rw [p_mail_State_ordered_l1] at H
 conv=>whnf
 refine tst_d H (fun b8 H=>?_) (fun b8 H=>?_)
 ·conv=>whnf
  obtain rfl:=Option.some.inj H
  have H:=HQ5
  try dsimp only at H
  exact fb_ H
 conv=>whnf
 refine ixs_c (f:=MailEntry.v) H (fun _=>rfl) (fun x9 H=>?_);conv=>whnf
 refine lq_ ?_;conv=>whnf
 refine tst_c H (fun b10 H=>?_) (fun b10 H=>?_)
 ·conv=>whnf
  iterate 7 (refine Tst.T ?_;conv=>whnf)
  obtain rfl:=Option.some.inj H
  have H:=HQ5
  try dsimp only at H
  exact fb_ H
 conv=>whnf
 iterate 3 (refine Tst.F ?_;conv=>whnf)
 refine ask_c (p_mail_Find_v _ _) H rfl rfl (fun v11 H=>?_);conv=>whnf
 iterate 3 (refine Tst.F ?_;conv=>whnf)
 refine tst_c H (fun b12 H=>?_) (fun b12 H=>?_)
 ·conv=>whnf
  obtain rfl:=Option.some.inj H
  have H:=HQ5
  try dsimp only at H
  exact fb_ H
 conv=>whnf
 refine Ari.w ?_;conv=>whnf
 exact again_c [4,5,11,12,13,14,15,16,17,18,19,20,21,22,23,24,25,26,27,28,29,30] n6 0 [] (⟨_,H,rfl,rfl⟩) (Nat.lt_succ_self _) (Nat.zero_le _) rfl (by kernel_rfl) (by kernel_rfl) rfl trivial
def gc43:BCode:=(.seq (R_ 0 [O_ 2 (.mv (i_ 0)) 0]) (.seq (.seq (R_ 0 [O_ 8 (.mv (t_ 0)) 0,O_ 9 (.lens (t_ 8)) 0,O_ 10 (.bin .gtr (t_ 9) (i_ 16)) 0]) (.cond (t_ 10) (.seq (R_ 0 [O_ 2 (.mv (i_ 5)) 0]) .ret) .skip)) (.seq (.seq (R_ 0 [O_ 11 (.mv (t_ 0)) 0,O_ 12 (.lens (t_ 11)) 0,O_ 13 (.mv (i_ 0)) 0]) (.block 0 (.loop (.seq (R_ 0 [O_ 14 (.bin .lss (t_ 13) (t_ 12)) 0]) (.seq (.cond (t_ 14) .skip (.exit 0)) (.seq (.block 1 (.seq (R_ 1 [O_ 15 (.ixs 5 (t_ 11) (t_ 13)) 0,O_ 16 (.ld 5 true (t_ 15)) 0,O_ 4 (.al (.agg [(.lit (.string ⟨#[]⟩)),(.lit (.bool false)),(.lit (.int .i64 0)),(.lit (.int .i64 0)),(.lit (.int .i64 0))])) 0,U_ (.st 5 (t_ 4) (t_ 16)) 1]) (.seq (R_ 0 [O_ 17 (.fa 0 (t_ 4)) 0,O_ 18 (.ld 1 false (t_ 17)) 0,O_ 19 (.cl 59 [(t_ 18)]) 0,O_ 20 (.un .not (t_ 19)) 0]) (.cond (t_ 20) (.seq (R_ 0 [O_ 2 (.mv (i_ 11)) 0]) .ret) .skip)))) (R_ 0 [O_ 21 (.bin .add (t_ 13) (i_ 1)) 0,O_ 13 (.mv (t_ 21)) 0]))))))) (.seq (.seq (R_ 0 [O_ 22 (.mv (t_ 0)) 0,O_ 23 (.lens (t_ 22)) 0,O_ 24 (.mv (i_ 0)) 0]) (.block 2 (.loop (.seq (R_ 0 [O_ 25 (.bin .lss (t_ 24) (t_ 23)) 0]) (.seq (.cond (t_ 25) .skip (.exit 2)) (.seq (.block 3 (.seq (R_ 1 [O_ 26 (.ixs 5 (t_ 22) (t_ 24)) 0,O_ 27 (.ld 5 true (t_ 26)) 0,O_ 6 (.al (.agg [(.lit (.string ⟨#[]⟩)),(.lit (.bool false)),(.lit (.int .i64 0)),(.lit (.int .i64 0)),(.lit (.int .i64 0))])) 0,U_ (.st 5 (t_ 6) (t_ 27)) 1]) (.seq (R_ 0 [O_ 28 (.fa 1 (t_ 6)) 0,O_ 29 (.ld 4 true (t_ 28)) 0,O_ 30 (.cl 51 [(t_ 29)]) 0,O_ 7 (.mv (t_ 30)) 0]) (.seq (R_ 0 [O_ 31 (.mv (t_ 7)) 0,O_ 32 (.bin .neq (t_ 31) (i_ 0)) 0]) (.cond (t_ 32) (.seq (R_ 0 [O_ 33 (.mv (t_ 7)) 0,O_ 2 (.mv (t_ 33)) 0]) .ret) .skip))))) (R_ 0 [O_ 34 (.bin .add (t_ 24) (i_ 1)) 0,O_ 24 (.mv (t_ 34)) 0]))))))) (.seq (.seq (R_ 0 [O_ 35 (.mv (t_ 0)) 0,O_ 36 (.cl 75 [(t_ 35)]) 0,O_ 37 (.un .not (t_ 36)) 0]) (.cond (t_ 37) (.seq (R_ 0 [O_ 2 (.mv (i_ 10)) 0]) .ret) .skip)) (.seq (R_ 0 [O_ 2 (.mv (i_ 0)) 0]) .ret))))))
theorem gc43_ok:compF Tryz.prog Tryz.f43=some (gc43.er,38,[.tmp 2]):=by unfold gc43;kernel_rfl
theorem p_mail_Check_v {u1:Bool} (a0:List MailEntry):CallsO Tryz.prog 43 [.sl (List.map MailEntry.v a0) u1] V.i (p_mail_Check a0):=by
 refine callsO_comp mix Tryz.func43 gc43_ok fun r H=>?_
 rw [p_mail_Check] at H
 conv=>whnf
 refine LenQ.M ?_;conv=>whnf
 refine tst_c H (fun b1 H=>?_) (fun b1 H=>?_)
 ·conv=>whnf
  exact fi_ H
 conv=>whnf
 refine LenQ.M ?_;conv=>whnf
 obtain ⟨o3,HL4,HQ5⟩:=bind_c H
 refine loop_c [2,13] [4,14,15,16,17,18,19,20,21] [4,14,15,16,17,18,19,20,21] (fun n vals st=>(∃ y7,p_mail_Check_l1  a0 (a0.length:Int) n y7=some o3∧vals=[.i (0:Int),.i y7]∧st=[])) fuel 0 [] (⟨_,HL4,rfl,rfl⟩) (Nat.zero_le _) rfl (by kernel_rfl) (by kernel_rfl) rfl trivial ?_
 rintro (_ | n6) _ _ (⟨y7,H,rfl,rfl⟩)
 ·rw [p_mail_Check_l1] at H;cases H
 rw [p_mail_Check_l1] at H
 conv=>whnf
 refine tst_c H (fun b8 H=>?_) (fun b8 H=>?_)
 ·conv=>whnf
  refine ixs_c (f:=MailEntry.v) H (fun _=>rfl) (fun x9 H=>?_);conv=>whnf
  refine lq_ ?_;conv=>whnf
  refine ask_c (p_mail_key_v _) H rfl rfl (fun v10 H=>?_);conv=>whnf
  refine Tst.not ?_
  refine tst_d H (fun b11 H=>?_) (fun b11 H=>?_)
  ·conv=>whnf
   obtain rfl:=Option.some.inj H
   have H:=HQ5
   try dsimp only at H
   exact fi_ H
  conv=>whnf
  refine Ari.w ?_;conv=>whnf
  exact again_c [4,14,15,16,17,18,19,20,21] n6 0 [] (⟨_,H,rfl,rfl⟩) (Nat.lt_succ_self _) (Nat.zero_le _) rfl (by kernel_rfl) (by kernel_rfl) rfl trivial
 conv=>whnf
 obtain rfl:=Option.some.inj H
 have H:=HQ5
 try dsimp only at H
 refine LenQ.M ?_;conv=>whnf
 obtain ⟨o13,HL14,HQ15⟩:=bind_c H
 refine loop_c [2,24] [6,7,25,26,27,28,29,30,31,32,33,34] [6,7,25,26,27,28,29,30,31,32,33,34] (fun n vals st=>(∃ y17,p_mail_Check_l2  a0 (a0.length:Int) n y17=some o13∧vals=[.i (0:Int),.i y17]∧st=[])) fuel 0 [] (⟨_,HL14,rfl,rfl⟩) (Nat.zero_le _) rfl (by kernel_rfl) (by kernel_rfl) rfl trivial ?_
 rintro (_ | n16) _ _ (⟨y17,H,rfl,rfl⟩)
 ·rw [p_mail_Check_l2] at H;cases H
 rw [p_mail_Check_l2] at H
 conv=>whnf
 refine tst_d H (fun b18 H=>?_) (fun b18 H=>?_)
 ·conv=>whnf
  obtain rfl:=Option.some.inj H
  have H:=HQ15
  try dsimp only at H
  refine ask_c (p_mail_State_ordered_v _) H rfl rfl (fun v22 H=>?_);conv=>whnf
  refine Tst.not ?_
  refine tst_c H (fun b23 H=>?_) (fun b23 H=>?_)
  ·conv=>whnf
   exact fi_ H
  conv=>whnf
  exact fi_ H
 conv=>whnf
 refine ixs_c (f:=MailEntry.v) H (fun _=>rfl) (fun x19 H=>?_);conv=>whnf
 refine lq_ ?_;conv=>whnf
 refine ask_c (p_pres_Check_v _) H rfl rfl (fun v20 H=>?_);conv=>whnf
 refine tst_c H (fun b21 H=>?_) (fun b21 H=>?_)
 ·conv=>whnf
  obtain rfl:=Option.some.inj H
  have H:=HQ15
  try dsimp only at H
  exact fi_ H
 conv=>whnf
 refine Ari.w ?_;conv=>whnf
 exact again_c [6,7,25,26,27,28,29,30,31,32,33,34] n16 0 [] (⟨_,H,rfl,rfl⟩) (Nat.lt_succ_self _) (Nat.zero_le _) rfl (by kernel_rfl) (by kernel_rfl) rfl trivial
def gc45:BCode:=(.seq (R_ 0 [O_ 2 (.mv (b_ false)) 0]) (.seq (R_ 0 [O_ 3 (.mv (t_ 0)) 0,O_ 4 (.bin .geq (t_ 3) (i_ 0)) 0,O_ 5 (.mv (t_ 4)) 0,⟨(some 6),.mv (t_ 0),(some (5,true)),0⟩,⟨(some 7),.bin .leq (t_ 6) (i_ 1099511627776),(some (5,true)),0⟩,O_ 8 (.pick (t_ 5) (t_ 7) (b_ false)) 0,O_ 2 (.mv (t_ 8)) 0]) .ret))
theorem gc45_ok:compF Tryz.prog Tryz.f45=some (gc45.er,9,[.tmp 2]):=by unfold gc45;kernel_rfl
theorem p_outq_in_v (a0:Int):CallsO Tryz.prog 45 [.i a0] V.b (p_outq_in a0):=by
 refine callsO_comp mix Tryz.func45 gc45_ok fun r H=>?_
 rw [p_outq_in] at H
 conv=>whnf
 refine tst_c H (fun b1 H=>?_) (fun b1 H=>?_)
 ·conv=>whnf
  iterate 2 (refine Tst.T ?_;conv=>whnf)
  exact fb_ H
 conv=>whnf
 iterate 2 (refine Tst.F ?_;conv=>whnf)
 exact fb_ H
def gc17:BCode:=(.seq (R_ 1 [O_ 1 (.bx (t_ 0)) 0,O_ 2 (.mv (i_ 0)) 1]) (.seq (.seq (R_ 0 [O_ 5 (.fa 0 (t_ 1)) 0,O_ 6 (.ld 1 false (t_ 5)) 0,O_ 7 (.cl 43 [(t_ 6)]) 0,O_ 3 (.mv (t_ 7)) 0]) (.seq (R_ 0 [O_ 8 (.mv (t_ 3)) 0,O_ 9 (.bin .neq (t_ 8) (i_ 0)) 0]) (.cond (t_ 9) (.seq (R_ 0 [O_ 10 (.mv (t_ 3)) 0,O_ 2 (.mv (t_ 10)) 0]) .ret) .skip))) (.seq (.seq (R_ 0 [O_ 11 (.fa 1 (t_ 1)) 0,O_ 12 (.ld 4 true (t_ 11)) 0,O_ 13 (.cl 44 [(t_ 12)]) 0,O_ 4 (.mv (t_ 13)) 0]) (.seq (R_ 0 [O_ 14 (.mv (t_ 4)) 0,O_ 15 (.bin .neq (t_ 14) (i_ 0)) 0]) (.cond (t_ 15) (.seq (R_ 0 [O_ 16 (.mv (t_ 4)) 0,O_ 2 (.mv (t_ 16)) 0]) .ret) .skip))) (.seq (.seq (R_ 0 [O_ 17 (.fa 5 (t_ 1)) 0,O_ 18 (.ld 1 false (t_ 17)) 0,O_ 19 (.cl 45 [(t_ 18)]) 0,O_ 20 (.un .not (t_ 19)) 0,O_ 21 (.mv (t_ 20)) 0,⟨(some 22),.fa 6 (t_ 1),(some (21,false)),0⟩,⟨(some 23),.ld 1 false (t_ 22),(some (21,false)),0⟩,⟨(some 24),.cl 45 [(t_ 23)],(some (21,false)),0⟩,⟨(some 25),.un .not (t_ 24),(some (21,false)),0⟩,O_ 26 (.pick (t_ 21) (b_ true) (t_ 25)) 0]) (.cond (t_ 26) (.seq (R_ 0 [O_ 2 (.mv (i_ 8)) 0]) .ret) .skip)) (.seq (R_ 0 [O_ 2 (.mv (i_ 0)) 0]) .ret)))))
theorem gc17_ok:compF Tryz.prog Tryz.f17=some (gc17.er,27,[.tmp 2]):=by unfold gc17;kernel_rfl
theorem p_outq_Check_v {u1:Bool} (a0:Ref27State):CallsO Tryz.prog 17 [.agg [.sl (List.map MailEntry.v a0.Mail) u1,.b a0.Snap.On,.b a0.Snap.Begun,.s a0.Snap.After,.i a0.Snap.Told,.i a0.Sent,.i a0.Lost]] V.i (p_outq_Check a0):=by
 refine callsO_comp mix Tryz.func17 gc17_ok fun r H=>?_
 rw [p_outq_Check] at H
 conv=>whnf
 refine ask_c (p_mail_Check_v _) H rfl rfl (fun v1 H=>?_);conv=>whnf
 refine tst_c H (fun b2 H=>?_) (fun b2 H=>?_)
 ·conv=>whnf
  exact fi_ H
 conv=>whnf
 refine ask_c (p_snap_Check_v _) H rfl rfl (fun v3 H=>?_);conv=>whnf
 refine tst_c H (fun b4 H=>?_) (fun b4 H=>?_)
 ·conv=>whnf
  exact fi_ H
 conv=>whnf
 refine ask_c (p_outq_in_v _) H rfl rfl (fun v5 H=>?_);conv=>whnf
 refine Tst.not ?_
 refine tst_d H (fun b6 H=>?_) (fun b6 H=>?_)
 ·conv=>whnf
  iterate 5 (refine Tst.T ?_;conv=>whnf)
  exact fi_ H
 conv=>whnf
 iterate 2 (refine Tst.F ?_;conv=>whnf)
 refine ask_c (p_outq_in_v _) H rfl rfl (fun v7 H=>?_);conv=>whnf
 iterate 2 (refine Tst.F ?_;conv=>whnf)
 refine Tst.not ?_
 refine tst_c H (fun b8 H=>?_) (fun b8 H=>?_)
 ·conv=>whnf
  exact fi_ H
 conv=>whnf
 exact fi_ H
end Go.Proofs.YthnihifblmnkdaaGreat

namespace Go.Proofs.YthnihifblmnkdaaGreat
open Go.RowKit
set_option maxRecDepth 100000
set_option maxHeartbeats 4000000
def gc88:BCode:=(R_ 0 [O_ 2 (.mv (t_ 0)) 0,O_ 3 (.mv (t_ 0)) 0,O_ 4 (.nc (t_ 3)) 0,O_ 5 (.fa 0 (t_ 4)) 0,O_ 6 (.ld 1 false (t_ 5)) 0,O_ 7 (.bin .add (t_ 6) (i_ 1)) 0,O_ 8 (.mn false (t_ 7) (i_ 1099511627776)) 0,O_ 9 (.nc (t_ 2)) 0,O_ 10 (.fa 0 (t_ 9)) 0,U_ (.st 1 (t_ 10) (t_ 8)) 0])
theorem gc88_ok:compF Tryz.prog Tryz.f88=some (gc88.er,11,[]):=by unfold gc88;kernel_rfl
theorem p_outq_counter_told_p5_1 {u1 u2 u3 u4:Bool} {X0:Slot} (hX0:X0.okN 5=true) {X2:Slot} (hX2:X2.okN 5=true) {X3:Slot} (hX3:X3.okN 5=true) {X4:Slot} (hX4:X4.okN 5=true) (a0:OutqTeller) (r:OutqTeller) (H:p_outq_counter_told a0=some r):CallsS Tryz.prog 88 [.ptr 1 0] [X0,.live [.i a0.counter.sent,.sl (List.map MailEntry.v a0.st.Mail) u1,.b a0.st.Snap.On,.b a0.st.Snap.Begun,.s a0.st.Snap.After,.i a0.st.Snap.Told,.i a0.st.Sent,.i a0.st.Lost,.sl (List.map V.s a0.eyes.Users) u2,.sl (List.map V.s a0.eyes.Keys) u3,.i a0.book.Seq,.sl (List.map BookRow.v a0.book.Rows) u4] 0,X2,X3,X4] ((fun _:OutqTeller=>V.tup []) r) [X0,.live ((fun r:OutqTeller=>[.i r.counter.sent,.sl (List.map MailEntry.v r.st.Mail) false,.b r.st.Snap.On,.b r.st.Snap.Begun,.s r.st.Snap.After,.i r.st.Snap.Told,.i r.st.Sent,.i r.st.Lost,.sl (List.map V.s r.eyes.Users) false,.sl (List.map V.s r.eyes.Keys) false,.i r.book.Seq,.sl (List.map BookRow.v r.book.Rows) false]) r) 0,X2,X3,X4]:=by
 refine callsR_c (n0:=5) mix Tryz.func88 gc88_ok rfl ?_
 rw [p_outq_counter_told] at H
 conv=>whnf
 refine Ari.w ?_;conv=>whnf
 refine lq_ ?_;conv=>whnf
 refine finP_c (enc:=(fun _:OutqTeller=>V.tup [])) (T:=(fun r:OutqTeller=>[.i r.counter.sent,.sl (List.map MailEntry.v r.st.Mail) false,.b r.st.Snap.On,.b r.st.Snap.Begun,.s r.st.Snap.After,.i r.st.Snap.Told,.i r.st.Sent,.i r.st.Lost,.sl (List.map V.s r.eyes.Users) false,.sl (List.map V.s r.eyes.Keys) false,.i r.book.Seq,.sl (List.map BookRow.v r.book.Rows) false])) (i:=1) [] (.inl rfl) H (Nat.le_of_ble_eq_true rfl) ?_;conv=>whnf
 exact ⟨⟨⟨rfl,hX0⟩,⟨⟨rfl,hX2⟩,⟨⟨rfl,hX3⟩,⟨⟨rfl,hX4⟩,trivial⟩⟩⟩⟩,⟨_,_,rfl,.cons (.id rfl) (.cons (.slw) (.cons (.id rfl) (.cons (.id rfl) (.cons (.id rfl) (.cons (.id rfl) (.cons (.id rfl) (.cons (.id rfl) (.cons (.slw) (.cons (.slw) (.cons (.id rfl) (.cons (.slw) (.nil)))))))))))),rfl⟩,⟨rfl,rfl⟩⟩
theorem p_outq_counter_told_p6_1 {u1 u2 u3 u4:Bool} {X0:Slot} (hX0:X0.okN 6=true) {X2:Slot} (hX2:X2.okN 6=true) {X3:Slot} (hX3:X3.okN 6=true) {X4:Slot} (hX4:X4.okN 6=true) {X5:Slot} (hX5:X5.okN 6=true) (a0:OutqTeller) (r:OutqTeller) (H:p_outq_counter_told a0=some r):CallsS Tryz.prog 88 [.ptr 1 0] [X0,.live [.i a0.counter.sent,.sl (List.map MailEntry.v a0.st.Mail) u1,.b a0.st.Snap.On,.b a0.st.Snap.Begun,.s a0.st.Snap.After,.i a0.st.Snap.Told,.i a0.st.Sent,.i a0.st.Lost,.sl (List.map V.s a0.eyes.Users) u2,.sl (List.map V.s a0.eyes.Keys) u3,.i a0.book.Seq,.sl (List.map BookRow.v a0.book.Rows) u4] 0,X2,X3,X4,X5] ((fun _:OutqTeller=>V.tup []) r) [X0,.live ((fun r:OutqTeller=>[.i r.counter.sent,.sl (List.map MailEntry.v r.st.Mail) false,.b r.st.Snap.On,.b r.st.Snap.Begun,.s r.st.Snap.After,.i r.st.Snap.Told,.i r.st.Sent,.i r.st.Lost,.sl (List.map V.s r.eyes.Users) false,.sl (List.map V.s r.eyes.Keys) false,.i r.book.Seq,.sl (List.map BookRow.v r.book.Rows) false]) r) 0,X2,X3,X4,X5]:=by
 refine callsR_c (n0:=6) mix Tryz.func88 gc88_ok rfl ?_
 rw [p_outq_counter_told] at H
 conv=>whnf
 refine Ari.w ?_;conv=>whnf
 refine lq_ ?_;conv=>whnf
 refine finP_c (enc:=(fun _:OutqTeller=>V.tup [])) (T:=(fun r:OutqTeller=>[.i r.counter.sent,.sl (List.map MailEntry.v r.st.Mail) false,.b r.st.Snap.On,.b r.st.Snap.Begun,.s r.st.Snap.After,.i r.st.Snap.Told,.i r.st.Sent,.i r.st.Lost,.sl (List.map V.s r.eyes.Users) false,.sl (List.map V.s r.eyes.Keys) false,.i r.book.Seq,.sl (List.map BookRow.v r.book.Rows) false])) (i:=1) [] (.inl rfl) H (Nat.le_of_ble_eq_true rfl) ?_;conv=>whnf
 exact ⟨⟨⟨rfl,hX0⟩,⟨⟨rfl,hX2⟩,⟨⟨rfl,hX3⟩,⟨⟨rfl,hX4⟩,⟨⟨rfl,hX5⟩,trivial⟩⟩⟩⟩⟩,⟨_,_,rfl,.cons (.id rfl) (.cons (.slw) (.cons (.id rfl) (.cons (.id rfl) (.cons (.id rfl) (.cons (.id rfl) (.cons (.id rfl) (.cons (.id rfl) (.cons (.slw) (.cons (.slw) (.cons (.id rfl) (.cons (.slw) (.nil)))))))))))),rfl⟩,⟨rfl,rfl⟩⟩
theorem p_outq_counter_told_p7_1 {u1 u2 u3 u4:Bool} {X0:Slot} (hX0:X0.okN 7=true) {X2:Slot} (hX2:X2.okN 7=true) {X3:Slot} (hX3:X3.okN 7=true) {X4:Slot} (hX4:X4.okN 7=true) {X5:Slot} (hX5:X5.okN 7=true) {X6:Slot} (hX6:X6.okN 7=true) (a0:OutqTeller) (r:OutqTeller) (H:p_outq_counter_told a0=some r):CallsS Tryz.prog 88 [.ptr 1 0] [X0,.live [.i a0.counter.sent,.sl (List.map MailEntry.v a0.st.Mail) u1,.b a0.st.Snap.On,.b a0.st.Snap.Begun,.s a0.st.Snap.After,.i a0.st.Snap.Told,.i a0.st.Sent,.i a0.st.Lost,.sl (List.map V.s a0.eyes.Users) u2,.sl (List.map V.s a0.eyes.Keys) u3,.i a0.book.Seq,.sl (List.map BookRow.v a0.book.Rows) u4] 0,X2,X3,X4,X5,X6] ((fun _:OutqTeller=>V.tup []) r) [X0,.live ((fun r:OutqTeller=>[.i r.counter.sent,.sl (List.map MailEntry.v r.st.Mail) false,.b r.st.Snap.On,.b r.st.Snap.Begun,.s r.st.Snap.After,.i r.st.Snap.Told,.i r.st.Sent,.i r.st.Lost,.sl (List.map V.s r.eyes.Users) false,.sl (List.map V.s r.eyes.Keys) false,.i r.book.Seq,.sl (List.map BookRow.v r.book.Rows) false]) r) 0,X2,X3,X4,X5,X6]:=by
 refine callsR_c (n0:=7) mix Tryz.func88 gc88_ok rfl ?_
 rw [p_outq_counter_told] at H
 conv=>whnf
 refine Ari.w ?_;conv=>whnf
 refine lq_ ?_;conv=>whnf
 refine finP_c (enc:=(fun _:OutqTeller=>V.tup [])) (T:=(fun r:OutqTeller=>[.i r.counter.sent,.sl (List.map MailEntry.v r.st.Mail) false,.b r.st.Snap.On,.b r.st.Snap.Begun,.s r.st.Snap.After,.i r.st.Snap.Told,.i r.st.Sent,.i r.st.Lost,.sl (List.map V.s r.eyes.Users) false,.sl (List.map V.s r.eyes.Keys) false,.i r.book.Seq,.sl (List.map BookRow.v r.book.Rows) false])) (i:=1) [] (.inl rfl) H (Nat.le_of_ble_eq_true rfl) ?_;conv=>whnf
 exact ⟨⟨⟨rfl,hX0⟩,⟨⟨rfl,hX2⟩,⟨⟨rfl,hX3⟩,⟨⟨rfl,hX4⟩,⟨⟨rfl,hX5⟩,⟨⟨rfl,hX6⟩,trivial⟩⟩⟩⟩⟩⟩,⟨_,_,rfl,.cons (.id rfl) (.cons (.slw) (.cons (.id rfl) (.cons (.id rfl) (.cons (.id rfl) (.cons (.id rfl) (.cons (.id rfl) (.cons (.id rfl) (.cons (.slw) (.cons (.slw) (.cons (.id rfl) (.cons (.slw) (.nil)))))))))))),rfl⟩,⟨rfl,rfl⟩⟩
def gc89:BCode:=(.seq (R_ 1 [O_ 2 (.mv (.const (.slice none 0 0))) 0,O_ 3 (.al (.agg [(.lit (.string ⟨#[]⟩)),(.lit (.bool false)),(.lit (.int .i64 0)),(.lit (.int .i64 0)),(.lit (.int .i64 0))])) 0,O_ 4 (.mv (b_ false)) 1]) (.seq (.seq (R_ 0 [O_ 5 (.mv (t_ 0)) 0,O_ 6 (.lens (t_ 5)) 0,O_ 7 (.bin .eql (t_ 6) (i_ 0)) 0,O_ 8 (.mv (t_ 7)) 0,⟨(some 9),.mv (t_ 0),(some (8,false)),0⟩,⟨(some 10),.cl 43 [(t_ 9)],(some (8,false)),0⟩,⟨(some 11),.bin .neq (t_ 10) (i_ 0),(some (8,false)),0⟩,O_ 12 (.pick (t_ 8) (b_ true) (t_ 11)) 0]) (.cond (t_ 12) (.seq (R_ 0 [O_ 13 (.mv (t_ 0)) 0,O_ 14 (.bd [(.lit (.string ⟨#[]⟩)),(.lit (.bool false)),(.lit (.int .i64 0)),(.lit (.int .i64 0)),(.lit (.int .i64 0))] []) 0,O_ 2 (.mv (t_ 13)) 0,U_ (.st 5 (t_ 3) (t_ 14)) 0,O_ 4 (.mv (b_ false)) 0]) .ret) .skip)) (.seq (.reg 0 [O_ 15 (.mv (t_ 0)) 0,O_ 16 (.sls 5 (t_ 15) (some (i_ 1)) none none) 0,O_ 17 (.mv (t_ 0)) 0,O_ 18 (.ixs 5 (t_ 17) (i_ 0)) 0,O_ 19 (.ld 5 true (t_ 18)) 0,O_ 2 (.mv (t_ 16)) 0,U_ (.st 5 (t_ 3) (t_ 19)) 0,O_ 4 (.mv (b_ true)) 0] (some [[],[0],[],[2],[2,3],[0,1],[1,0,5,3,2,4],[4,2,3,5,0,1,6]]) 0 []) .ret)))
theorem gc89_ok:compF Tryz.prog Tryz.f89=some (gc89.er,20,[.tmp 2,.cell 3 5 true,.tmp 4]):=by unfold gc89;kernel_rfl
theorem p_mail_Take_v {u1:Bool} (a0:List MailEntry):CallsO Tryz.prog 89 [.sl (List.map MailEntry.v a0) u1] (fun r:(List MailEntry) × MailEntry × Bool=>.tup [(fun l:List MailEntry=>V.sl (l.map MailEntry.v) false) r.1,MailEntry.v r.2.1,V.b r.2.2]) (p_mail_Take a0):=by
 refine callsO_comp mix Tryz.func89 gc89_ok fun r H=>?_
 rw [p_mail_Take] at H
 conv=>whnf
 refine LenQ.M ?_;conv=>whnf
 refine tst_c H (fun b1 H=>?_) (fun b1 H=>?_)
 ·conv=>whnf
  iterate 4 (refine Tst.T ?_;conv=>whnf)
  refine lq_ ?_;conv=>whnf
  refine finR_c (enc:=(fun r:(List MailEntry) × MailEntry × Bool=>.tup [(fun l:List MailEntry=>V.sl (l.map MailEntry.v) false) r.1,MailEntry.v r.2.1,V.b r.2.2])) H ?_;conv=>whnf
  exact ⟨_,.tup (.cons (.c (.slw)) (.cons (fzagg (.cons (.id rfl) (.cons (.id rfl) (.cons (.id rfl) (.cons (.id rfl) (.cons (.id rfl) (.nil)))))) rfl) (.cons (.c (.id rfl)) (.nil))))⟩
 conv=>whnf
 refine Tst.F ?_;conv=>whnf
 refine ask_c (p_mail_Check_v _) H rfl rfl (fun v2 H=>?_);conv=>whnf
 iterate 2 (refine Tst.F ?_;conv=>whnf)
 refine tst_c H (fun b3 H=>?_) (fun b3 H=>?_)
 ·conv=>whnf
  refine lq_ ?_;conv=>whnf
  refine finR_c (enc:=(fun r:(List MailEntry) × MailEntry × Bool=>.tup [(fun l:List MailEntry=>V.sl (l.map MailEntry.v) false) r.1,MailEntry.v r.2.1,V.b r.2.2])) H ?_;conv=>whnf
  exact ⟨_,.tup (.cons (.c (.slw)) (.cons (fzagg (.cons (.id rfl) (.cons (.id rfl) (.cons (.id rfl) (.cons (.id rfl) (.cons (.id rfl) (.nil)))))) rfl) (.cons (.c (.id rfl)) (.nil))))⟩
 conv=>whnf
 refine slsE_c (f:=MailEntry.v) H (fun _=>rfl) (fun x4 H=>?_);conv=>whnf
 refine ixs_c (f:=MailEntry.v) H (fun _=>rfl) (fun x5 H=>?_);conv=>whnf
 refine lq_ ?_;conv=>whnf
 refine FootQ.mk ⟨rfl,?_⟩;conv=>whnf
 refine finR_c (enc:=(fun r:(List MailEntry) × MailEntry × Bool=>.tup [(fun l:List MailEntry=>V.sl (l.map MailEntry.v) false) r.1,MailEntry.v r.2.1,V.b r.2.2])) H ?_;conv=>whnf
 exact ⟨_,.tup (.cons (.c (.slw)) (.cons (fzagg (.cons (.id rfl) (.cons (.id rfl) (.cons (.id rfl) (.cons (.id rfl) (.cons (.id rfl) (.nil)))))) rfl) (.cons (.c (.id rfl)) (.nil))))⟩
def gc54:BCode:=(.seq (R_ 1 [O_ 2 (.al (.agg [(.lit (.int .u8 0)),(.lit (.string ⟨#[]⟩)),(.lit (.string ⟨#[]⟩)),(.lit (.string ⟨#[]⟩)),(.lit (.int .i64 0)),(.lit (.int .i64 0)),(.lit (.int .i64 0)),(.lit (.int .i64 0))])) 0,O_ 3 (.mv (b_ false)) 1]) (.seq (.seq (R_ 0 [O_ 13 (.mv (t_ 0)) 0,O_ 14 (.nc (t_ 13)) 0,O_ 15 (.fa 1 (t_ 14)) 0,O_ 16 (.fa 1 (t_ 15)) 0,O_ 17 (.fa 0 (t_ 16)) 0,O_ 18 (.ld 1 false (t_ 17)) 0]) (.cond (t_ 18) (.seq (.reg 2 [O_ 20 (.mv (t_ 0)) 0,O_ 21 (.nc (t_ 20)) 0,O_ 22 (.fa 1 (t_ 21)) 0,O_ 23 (.fa 1 (t_ 22)) 0,O_ 24 (.ld 4 true (t_ 23)) 0,O_ 25 (.mv (t_ 0)) 0,O_ 26 (.nc (t_ 25)) 0,O_ 27 (.fa 8 (t_ 26)) 0,O_ 28 (.ld 2 true (t_ 27)) 0,O_ 29 (.mv (t_ 0)) 0,O_ 30 (.nc (t_ 29)) 0,O_ 31 (.fa 10 (t_ 30)) 0,O_ 32 (.ld 2 true (t_ 31)) 0,O_ 33 (.cl 87 [(t_ 24),(t_ 28),(t_ 32)]) 0,O_ 19 (.mv (t_ 33)) 0,O_ 34 (.ex (t_ 19) 0) 0,O_ 35 (.ex (t_ 19) 1) 0,O_ 36 (.ex (t_ 19) 2) 0,O_ 4 (.al (.agg [(.lit (.bool false)),(.lit (.bool false)),(.lit (.string ⟨#[]⟩)),(.lit (.int .i64 0))])) 0,O_ 5 (.al (.agg [(.lit (.int .u8 0)),(.lit (.string ⟨#[]⟩)),(.lit (.string ⟨#[]⟩)),(.lit (.string ⟨#[]⟩)),(.lit (.int .i64 0)),(.lit (.int .i64 0)),(.lit (.int .i64 0)),(.lit (.int .i64 0))])) 1,U_ (.st 4 (t_ 4) (t_ 34)) 2,U_ (.st 8 (t_ 5) (t_ 35)) 2,O_ 6 (.mv (t_ 36)) 2] (some [[],[0],[0,1],[1,0,2],[2,0,1,3],[],[5],[5,6],[6,5,7],[],[9],[9,10],[10,9,11],[11,9,10,12,7,5,6,8,3,1,0,2,4],[4,2,0,1,3,8,6,5,7,12,10,9,11,13],[13,11,9,10,12,7,5,6,8,3,1,0,2,4,14],[13,11,9,10,12,7,5,6,8,3,1,0,2,4,14],[13,11,9,10,12,7,5,6,8,3,1,0,2,4,14],[],[],[19,14,4,2,0,1,3,8,6,5,7,12,10,9,11,13,15,18],[18,15,20,14,4,2,0,1,3,8,6,5,7,12,10,9,11,13,16,19],[19,16,20,15,18,21,14,4,2,0,1,3,8,6,5,7,12,10,9,11,13,17]]) 0 []) (.seq (.seq (R_ 0 [O_ 37 (.mv (t_ 6)) 0]) (.cond (t_ 37) (.seq (R_ 0 [O_ 38 (.mv (t_ 0)) 0,O_ 39 (.ld 4 true (t_ 4)) 0,O_ 40 (.nc (t_ 38)) 0,O_ 41 (.fa 1 (t_ 40)) 0,O_ 42 (.fa 1 (t_ 41)) 0,U_ (.st 4 (t_ 42) (t_ 39)) 0]) (R_ 0 [O_ 43 (.mv (t_ 0)) 0,O_ 44 (.nc (t_ 43)) 0,O_ 45 (.fa 0 (t_ 44)) 0,O_ 46 (.cl 88 [(t_ 45)]) 0])) .skip)) (.seq (R_ 0 [O_ 47 (.ld 8 true (t_ 5)) 0,O_ 48 (.mv (t_ 6)) 0,U_ (.st 8 (t_ 2) (t_ 47)) 0,O_ 3 (.mv (t_ 48)) 0]) .ret))) .skip)) (.seq (R_ 1 [O_ 50 (.mv (t_ 0)) 0,O_ 51 (.nc (t_ 50)) 0,O_ 52 (.fa 1 (t_ 51)) 0,O_ 53 (.fa 0 (t_ 52)) 0,O_ 54 (.ld 1 false (t_ 53)) 0,O_ 55 (.cl 89 [(t_ 54)]) 0,O_ 49 (.mv (t_ 55)) 0,O_ 56 (.ex (t_ 49) 0) 0,O_ 57 (.ex (t_ 49) 1) 0,O_ 58 (.ex (t_ 49) 2) 0,O_ 8 (.al (.agg [(.lit (.string ⟨#[]⟩)),(.lit (.bool false)),(.lit (.int .i64 0)),(.lit (.int .i64 0)),(.lit (.int .i64 0))])) 0,O_ 7 (.mv (t_ 56)) 1,U_ (.st 5 (t_ 8) (t_ 57)) 1,O_ 9 (.mv (t_ 58)) 1]) (.seq (.seq (R_ 0 [O_ 59 (.mv (t_ 9)) 0,O_ 60 (.un .not (t_ 59)) 0]) (.cond (t_ 60) (.seq (R_ 0 [O_ 61 (.bd [(.lit (.int .u8 0)),(.lit (.string ⟨#[]⟩)),(.lit (.string ⟨#[]⟩)),(.lit (.string ⟨#[]⟩)),(.lit (.int .i64 0)),(.lit (.int .i64 0)),(.lit (.int .i64 0)),(.lit (.int .i64 0))] []) 0,U_ (.st 8 (t_ 2) (t_ 61)) 0,O_ 3 (.mv (b_ false)) 0]) .ret) .skip)) (.seq (R_ 0 [O_ 62 (.mv (t_ 0)) 0,O_ 63 (.mv (t_ 7)) 0,O_ 64 (.nc (t_ 62)) 0,O_ 65 (.fa 1 (t_ 64)) 0,O_ 66 (.fa 0 (t_ 65)) 0,U_ (.st 1 (t_ 66) (t_ 63)) 0]) (.seq (R_ 0 [O_ 67 (.mv (t_ 0)) 0,O_ 68 (.nc (t_ 67)) 0,O_ 69 (.fa 0 (t_ 68)) 0,O_ 70 (.cl 88 [(t_ 69)]) 0]) (.seq (R_ 0 [O_ 72 (.fa 0 (t_ 8)) 0,O_ 73 (.ld 1 false (t_ 72)) 0,O_ 74 (.cl 90 [(t_ 73)]) 0,O_ 71 (.mv (t_ 74)) 0,O_ 75 (.ex (t_ 71) 0) 0,O_ 76 (.ex (t_ 71) 1) 0,O_ 77 (.ex (t_ 71) 2) 0,O_ 10 (.mv (t_ 75)) 0,O_ 11 (.mv (t_ 76)) 0,O_ 12 (.mv (t_ 77)) 0]) (.seq (R_ 0 [O_ 78 (.mv (t_ 10)) 0,O_ 79 (.mv (t_ 11)) 0,O_ 80 (.fa 1 (t_ 8)) 0,O_ 81 (.ld 4 true (t_ 80)) 0,O_ 82 (.cl 91 [(t_ 78),(t_ 79),(t_ 81)]) 0,U_ (.st 8 (t_ 2) (t_ 82)) 0,O_ 3 (.mv (b_ true)) 0]) .ret))))))))
theorem gc54_ok:compF Tryz.prog Tryz.f54=some (gc54.er,83,[.cell 2 8 true,.tmp 3]):=by unfold gc54;kernel_rfl
theorem p_outq_teller_next_p3_1 {u1 u2 u3 u4:Bool} {X0:Slot} (hX0:X0.okN 3=true) {X2:Slot} (hX2:X2.okN 3=true) (a0:OutqTeller) (r:OutqTeller × StanzaStanza × Bool) (H:p_outq_teller_next a0=some r):CallsS Tryz.prog 54 [.ptr 1 0] [X0,.live [.i a0.counter.sent,.sl (List.map MailEntry.v a0.st.Mail) u1,.b a0.st.Snap.On,.b a0.st.Snap.Begun,.s a0.st.Snap.After,.i a0.st.Snap.Told,.i a0.st.Sent,.i a0.st.Lost,.sl (List.map V.s a0.eyes.Users) u2,.sl (List.map V.s a0.eyes.Keys) u3,.i a0.book.Seq,.sl (List.map BookRow.v a0.book.Rows) u4] 0,X2] ((fun r:OutqTeller × StanzaStanza × Bool=>.tup [StanzaStanza.v r.2.1,V.b r.2.2]) r) [X0,.live ((fun r:OutqTeller × StanzaStanza × Bool=>[.i r.1.counter.sent,.sl (List.map MailEntry.v r.1.st.Mail) false,.b r.1.st.Snap.On,.b r.1.st.Snap.Begun,.s r.1.st.Snap.After,.i r.1.st.Snap.Told,.i r.1.st.Sent,.i r.1.st.Lost,.sl (List.map V.s r.1.eyes.Users) false,.sl (List.map V.s r.1.eyes.Keys) false,.i r.1.book.Seq,.sl (List.map BookRow.v r.1.book.Rows) false]) r) 0,X2]:=by
 refine callsR_c (n0:=3) mix Tryz.func54 gc54_ok rfl ?_
 rw [p_outq_teller_next] at H
 conv=>whnf
 refine tst_c H (fun b1 H=>?_) (fun b1 H=>?_)
 ·conv=>whnf
  refine ask_c (p_snap_Next_v _ _ _) H rfl rfl (fun v2 H=>?_);conv=>whnf
  refine lq_ ?_;conv=>whnf
  refine lq_ ?_;conv=>whnf
  refine FootQ.mk ⟨rfl,?_⟩;conv=>whnf
  refine tst_d H (fun b3 H=>?_) (fun b3 H=>?_)
  ·conv=>whnf
   refine lq_ ?_;conv=>whnf
   refine finP_c (enc:=(fun r:OutqTeller × StanzaStanza × Bool=>.tup [StanzaStanza.v r.2.1,V.b r.2.2])) (T:=(fun r:OutqTeller × StanzaStanza × Bool=>[.i r.1.counter.sent,.sl (List.map MailEntry.v r.1.st.Mail) false,.b r.1.st.Snap.On,.b r.1.st.Snap.Begun,.s r.1.st.Snap.After,.i r.1.st.Snap.Told,.i r.1.st.Sent,.i r.1.st.Lost,.sl (List.map V.s r.1.eyes.Users) false,.sl (List.map V.s r.1.eyes.Keys) false,.i r.1.book.Seq,.sl (List.map BookRow.v r.1.book.Rows) false])) (i:=1) [] (.inr rfl) H (Nat.le_of_ble_eq_true rfl) ?_;conv=>whnf
   exact ⟨⟨⟨rfl,hX0⟩,⟨⟨rfl,hX2⟩,trivial⟩⟩,⟨_,_,rfl,.cons (.id rfl) (.cons (.slw) (.cons (.id rfl) (.cons (.id rfl) (.cons (.id rfl) (.cons (.id rfl) (.cons (.id rfl) (.cons (.id rfl) (.cons (.slw) (.cons (.slw) (.cons (.id rfl) (.cons (.slw) (.nil)))))))))))),rfl⟩,⟨rfl,rfl⟩⟩
  conv=>whnf
  refine lq_ ?_;conv=>whnf
  refine askP_c (fun s hs=>p_outq_counter_told_p6_1 (okN_mo hX0 (Nat.le_of_ble_eq_true rfl)) (okN_mo hX2 (Nat.le_of_ble_eq_true rfl)) rfl rfl rfl _ s hs) H rfl rfl (fun _=>rfl) (fun v4 H=>?_);conv=>whnf
  refine lq_ ?_;conv=>whnf
  refine finP_c (enc:=(fun r:OutqTeller × StanzaStanza × Bool=>.tup [StanzaStanza.v r.2.1,V.b r.2.2])) (T:=(fun r:OutqTeller × StanzaStanza × Bool=>[.i r.1.counter.sent,.sl (List.map MailEntry.v r.1.st.Mail) false,.b r.1.st.Snap.On,.b r.1.st.Snap.Begun,.s r.1.st.Snap.After,.i r.1.st.Snap.Told,.i r.1.st.Sent,.i r.1.st.Lost,.sl (List.map V.s r.1.eyes.Users) false,.sl (List.map V.s r.1.eyes.Keys) false,.i r.1.book.Seq,.sl (List.map BookRow.v r.1.book.Rows) false])) (i:=1) [] (.inr rfl) H (Nat.le_of_ble_eq_true rfl) ?_;conv=>whnf
  exact ⟨⟨⟨rfl,hX0⟩,⟨⟨rfl,hX2⟩,trivial⟩⟩,⟨_,_,rfl,.cons (.id rfl) (.cons (.id rfl) (.cons (.id rfl) (.cons (.id rfl) (.cons (.id rfl) (.cons (.id rfl) (.cons (.id rfl) (.cons (.id rfl) (.cons (.id rfl) (.cons (.id rfl) (.cons (.id rfl) (.cons (.id rfl) (.nil)))))))))))),rfl⟩,⟨rfl,rfl⟩⟩
 conv=>whnf
 refine ask_c (p_mail_Take_v _) H rfl rfl (fun v5 H=>?_);conv=>whnf
 refine lq_ ?_;conv=>whnf
 refine Tst.not ?_
 refine tst_d H (fun b6 H=>?_) (fun b6 H=>?_)
 ·conv=>whnf
  refine lq_ ?_;conv=>whnf
  refine finP_c (enc:=(fun r:OutqTeller × StanzaStanza × Bool=>.tup [StanzaStanza.v r.2.1,V.b r.2.2])) (T:=(fun r:OutqTeller × StanzaStanza × Bool=>[.i r.1.counter.sent,.sl (List.map MailEntry.v r.1.st.Mail) false,.b r.1.st.Snap.On,.b r.1.st.Snap.Begun,.s r.1.st.Snap.After,.i r.1.st.Snap.Told,.i r.1.st.Sent,.i r.1.st.Lost,.sl (List.map V.s r.1.eyes.Users) false,.sl (List.map V.s r.1.eyes.Keys) false,.i r.1.book.Seq,.sl (List.map BookRow.v r.1.book.Rows) false])) (i:=1) [] (.inr rfl) H (Nat.le_of_ble_eq_true rfl) ?_;conv=>whnf
  exact ⟨⟨⟨rfl,hX0⟩,⟨⟨rfl,hX2⟩,trivial⟩⟩,⟨_,_,rfl,.cons (.id rfl) (.cons (.slw) (.cons (.id rfl) (.cons (.id rfl) (.cons (.id rfl) (.cons (.id rfl) (.cons (.id rfl) (.cons (.id rfl) (.cons (.slw) (.cons (.slw) (.cons (.id rfl) (.cons (.slw) (.nil)))))))))))),rfl⟩,⟨rfl,rfl⟩⟩
 conv=>whnf
 refine lq_ ?_;conv=>whnf
 refine askP_c (fun s hs=>p_outq_counter_told_p5_1 (okN_mo hX0 (Nat.le_of_ble_eq_true rfl)) (okN_mo hX2 (Nat.le_of_ble_eq_true rfl)) rfl rfl _ s hs) H rfl rfl (fun _=>rfl) (fun v7 H=>?_);conv=>whnf
 refine ask_c (p_pres_Split_v _) H rfl rfl (fun v8 H=>?_);conv=>whnf
 refine ask_c (p_pres_Say_v _ _ _) H rfl rfl (fun v9 H=>?_);conv=>whnf
 refine lq_ ?_;conv=>whnf
 refine finP_c (enc:=(fun r:OutqTeller × StanzaStanza × Bool=>.tup [StanzaStanza.v r.2.1,V.b r.2.2])) (T:=(fun r:OutqTeller × StanzaStanza × Bool=>[.i r.1.counter.sent,.sl (List.map MailEntry.v r.1.st.Mail) false,.b r.1.st.Snap.On,.b r.1.st.Snap.Begun,.s r.1.st.Snap.After,.i r.1.st.Snap.Told,.i r.1.st.Sent,.i r.1.st.Lost,.sl (List.map V.s r.1.eyes.Users) false,.sl (List.map V.s r.1.eyes.Keys) false,.i r.1.book.Seq,.sl (List.map BookRow.v r.1.book.Rows) false])) (i:=1) [] (.inr rfl) H (Nat.le_of_ble_eq_true rfl) ?_;conv=>whnf
 exact ⟨⟨⟨rfl,hX0⟩,⟨⟨rfl,hX2⟩,trivial⟩⟩,⟨_,_,rfl,.cons (.id rfl) (.cons (.id rfl) (.cons (.id rfl) (.cons (.id rfl) (.cons (.id rfl) (.cons (.id rfl) (.cons (.id rfl) (.cons (.id rfl) (.cons (.id rfl) (.cons (.id rfl) (.cons (.id rfl) (.cons (.id rfl) (.nil)))))))))))),rfl⟩,⟨rfl,rfl⟩⟩
theorem p_outq_teller_next_p4_1 {u1 u2 u3 u4:Bool} {X0:Slot} (hX0:X0.okN 4=true) {X2:Slot} (hX2:X2.okN 4=true) {X3:Slot} (hX3:X3.okN 4=true) (a0:OutqTeller) (r:OutqTeller × StanzaStanza × Bool) (H:p_outq_teller_next a0=some r):CallsS Tryz.prog 54 [.ptr 1 0] [X0,.live [.i a0.counter.sent,.sl (List.map MailEntry.v a0.st.Mail) u1,.b a0.st.Snap.On,.b a0.st.Snap.Begun,.s a0.st.Snap.After,.i a0.st.Snap.Told,.i a0.st.Sent,.i a0.st.Lost,.sl (List.map V.s a0.eyes.Users) u2,.sl (List.map V.s a0.eyes.Keys) u3,.i a0.book.Seq,.sl (List.map BookRow.v a0.book.Rows) u4] 0,X2,X3] ((fun r:OutqTeller × StanzaStanza × Bool=>.tup [StanzaStanza.v r.2.1,V.b r.2.2]) r) [X0,.live ((fun r:OutqTeller × StanzaStanza × Bool=>[.i r.1.counter.sent,.sl (List.map MailEntry.v r.1.st.Mail) false,.b r.1.st.Snap.On,.b r.1.st.Snap.Begun,.s r.1.st.Snap.After,.i r.1.st.Snap.Told,.i r.1.st.Sent,.i r.1.st.Lost,.sl (List.map V.s r.1.eyes.Users) false,.sl (List.map V.s r.1.eyes.Keys) false,.i r.1.book.Seq,.sl (List.map BookRow.v r.1.book.Rows) false]) r) 0,X2,X3]:=by
 refine callsR_c (n0:=4) mix Tryz.func54 gc54_ok rfl ?_
 rw [p_outq_teller_next] at H
 conv=>whnf
 refine tst_c H (fun b1 H=>?_) (fun b1 H=>?_)
 ·conv=>whnf
  refine ask_c (p_snap_Next_v _ _ _) H rfl rfl (fun v2 H=>?_);conv=>whnf
  refine lq_ ?_;conv=>whnf
  refine lq_ ?_;conv=>whnf
  refine FootQ.mk ⟨rfl,?_⟩;conv=>whnf
  refine tst_d H (fun b3 H=>?_) (fun b3 H=>?_)
  ·conv=>whnf
   refine lq_ ?_;conv=>whnf
   refine finP_c (enc:=(fun r:OutqTeller × StanzaStanza × Bool=>.tup [StanzaStanza.v r.2.1,V.b r.2.2])) (T:=(fun r:OutqTeller × StanzaStanza × Bool=>[.i r.1.counter.sent,.sl (List.map MailEntry.v r.1.st.Mail) false,.b r.1.st.Snap.On,.b r.1.st.Snap.Begun,.s r.1.st.Snap.After,.i r.1.st.Snap.Told,.i r.1.st.Sent,.i r.1.st.Lost,.sl (List.map V.s r.1.eyes.Users) false,.sl (List.map V.s r.1.eyes.Keys) false,.i r.1.book.Seq,.sl (List.map BookRow.v r.1.book.Rows) false])) (i:=1) [] (.inr rfl) H (Nat.le_of_ble_eq_true rfl) ?_;conv=>whnf
   exact ⟨⟨⟨rfl,hX0⟩,⟨⟨rfl,hX2⟩,⟨⟨rfl,hX3⟩,trivial⟩⟩⟩,⟨_,_,rfl,.cons (.id rfl) (.cons (.slw) (.cons (.id rfl) (.cons (.id rfl) (.cons (.id rfl) (.cons (.id rfl) (.cons (.id rfl) (.cons (.id rfl) (.cons (.slw) (.cons (.slw) (.cons (.id rfl) (.cons (.slw) (.nil)))))))))))),rfl⟩,⟨rfl,rfl⟩⟩
  conv=>whnf
  refine lq_ ?_;conv=>whnf
  refine askP_c (fun s hs=>p_outq_counter_told_p7_1 (okN_mo hX0 (Nat.le_of_ble_eq_true rfl)) (okN_mo hX2 (Nat.le_of_ble_eq_true rfl)) (okN_mo hX3 (Nat.le_of_ble_eq_true rfl)) rfl rfl rfl _ s hs) H rfl rfl (fun _=>rfl) (fun v4 H=>?_);conv=>whnf
  refine lq_ ?_;conv=>whnf
  refine finP_c (enc:=(fun r:OutqTeller × StanzaStanza × Bool=>.tup [StanzaStanza.v r.2.1,V.b r.2.2])) (T:=(fun r:OutqTeller × StanzaStanza × Bool=>[.i r.1.counter.sent,.sl (List.map MailEntry.v r.1.st.Mail) false,.b r.1.st.Snap.On,.b r.1.st.Snap.Begun,.s r.1.st.Snap.After,.i r.1.st.Snap.Told,.i r.1.st.Sent,.i r.1.st.Lost,.sl (List.map V.s r.1.eyes.Users) false,.sl (List.map V.s r.1.eyes.Keys) false,.i r.1.book.Seq,.sl (List.map BookRow.v r.1.book.Rows) false])) (i:=1) [] (.inr rfl) H (Nat.le_of_ble_eq_true rfl) ?_;conv=>whnf
  exact ⟨⟨⟨rfl,hX0⟩,⟨⟨rfl,hX2⟩,⟨⟨rfl,hX3⟩,trivial⟩⟩⟩,⟨_,_,rfl,.cons (.id rfl) (.cons (.id rfl) (.cons (.id rfl) (.cons (.id rfl) (.cons (.id rfl) (.cons (.id rfl) (.cons (.id rfl) (.cons (.id rfl) (.cons (.id rfl) (.cons (.id rfl) (.cons (.id rfl) (.cons (.id rfl) (.nil)))))))))))),rfl⟩,⟨rfl,rfl⟩⟩
 conv=>whnf
 refine ask_c (p_mail_Take_v _) H rfl rfl (fun v5 H=>?_);conv=>whnf
 refine lq_ ?_;conv=>whnf
 refine Tst.not ?_
 refine tst_d H (fun b6 H=>?_) (fun b6 H=>?_)
 ·conv=>whnf
  refine lq_ ?_;conv=>whnf
  refine finP_c (enc:=(fun r:OutqTeller × StanzaStanza × Bool=>.tup [StanzaStanza.v r.2.1,V.b r.2.2])) (T:=(fun r:OutqTeller × StanzaStanza × Bool=>[.i r.1.counter.sent,.sl (List.map MailEntry.v r.1.st.Mail) false,.b r.1.st.Snap.On,.b r.1.st.Snap.Begun,.s r.1.st.Snap.After,.i r.1.st.Snap.Told,.i r.1.st.Sent,.i r.1.st.Lost,.sl (List.map V.s r.1.eyes.Users) false,.sl (List.map V.s r.1.eyes.Keys) false,.i r.1.book.Seq,.sl (List.map BookRow.v r.1.book.Rows) false])) (i:=1) [] (.inr rfl) H (Nat.le_of_ble_eq_true rfl) ?_;conv=>whnf
  exact ⟨⟨⟨rfl,hX0⟩,⟨⟨rfl,hX2⟩,⟨⟨rfl,hX3⟩,trivial⟩⟩⟩,⟨_,_,rfl,.cons (.id rfl) (.cons (.slw) (.cons (.id rfl) (.cons (.id rfl) (.cons (.id rfl) (.cons (.id rfl) (.cons (.id rfl) (.cons (.id rfl) (.cons (.slw) (.cons (.slw) (.cons (.id rfl) (.cons (.slw) (.nil)))))))))))),rfl⟩,⟨rfl,rfl⟩⟩
 conv=>whnf
 refine lq_ ?_;conv=>whnf
 refine askP_c (fun s hs=>p_outq_counter_told_p6_1 (okN_mo hX0 (Nat.le_of_ble_eq_true rfl)) (okN_mo hX2 (Nat.le_of_ble_eq_true rfl)) (okN_mo hX3 (Nat.le_of_ble_eq_true rfl)) rfl rfl _ s hs) H rfl rfl (fun _=>rfl) (fun v7 H=>?_);conv=>whnf
 refine ask_c (p_pres_Split_v _) H rfl rfl (fun v8 H=>?_);conv=>whnf
 refine ask_c (p_pres_Say_v _ _ _) H rfl rfl (fun v9 H=>?_);conv=>whnf
 refine lq_ ?_;conv=>whnf
 refine finP_c (enc:=(fun r:OutqTeller × StanzaStanza × Bool=>.tup [StanzaStanza.v r.2.1,V.b r.2.2])) (T:=(fun r:OutqTeller × StanzaStanza × Bool=>[.i r.1.counter.sent,.sl (List.map MailEntry.v r.1.st.Mail) false,.b r.1.st.Snap.On,.b r.1.st.Snap.Begun,.s r.1.st.Snap.After,.i r.1.st.Snap.Told,.i r.1.st.Sent,.i r.1.st.Lost,.sl (List.map V.s r.1.eyes.Users) false,.sl (List.map V.s r.1.eyes.Keys) false,.i r.1.book.Seq,.sl (List.map BookRow.v r.1.book.Rows) false])) (i:=1) [] (.inr rfl) H (Nat.le_of_ble_eq_true rfl) ?_;conv=>whnf
 exact ⟨⟨⟨rfl,hX0⟩,⟨⟨rfl,hX2⟩,⟨⟨rfl,hX3⟩,trivial⟩⟩⟩,⟨_,_,rfl,.cons (.id rfl) (.cons (.id rfl) (.cons (.id rfl) (.cons (.id rfl) (.cons (.id rfl) (.cons (.id rfl) (.cons (.id rfl) (.cons (.id rfl) (.cons (.id rfl) (.cons (.id rfl) (.cons (.id rfl) (.cons (.id rfl) (.nil)))))))))))),rfl⟩,⟨rfl,rfl⟩⟩
end Go.Proofs.YthnihifblmnkdaaGreat

namespace Go.Proofs.YthnihifblmnkdaaGreat
open Go.RowKit
set_option maxRecDepth 100000
set_option maxHeartbeats 4000000
def gc27:BCode:=(.seq (R_ 4 [O_ 4 (.bx (t_ 0)) 0,O_ 5 (.bx (t_ 1)) 1,O_ 6 (.bx (t_ 2)) 2,O_ 8 (.al (.agg [(.sl [] true),(.lit (.bool false)),(.lit (.bool false)),(.lit (.string ⟨#[]⟩)),(.lit (.int .i64 0)),(.lit (.int .i64 0)),(.lit (.int .i64 0))])) 3,O_ 9 (.mv (.const (.slice none 0 0))) 4]) (.seq (.seq (R_ 0 [O_ 14 (.ld 7 true (t_ 4)) 0,O_ 15 (.cl 17 [(t_ 14)]) 0,O_ 16 (.bin .neq (t_ 15) (i_ 0)) 0]) (.cond (t_ 16) (.seq (R_ 0 [O_ 17 (.ld 7 true (t_ 4)) 0,U_ (.st 7 (t_ 8) (t_ 17)) 0,O_ 9 (.mv (.const (.slice none 0 0))) 0]) .ret) .skip)) (.seq (R_ 1 [O_ 18 (.fa 5 (t_ 4)) 0,O_ 19 (.ld 1 false (t_ 18)) 0,O_ 20 (.bd [(.lit (.int .i64 0))] [(0,1,(t_ 19))]) 0,O_ 21 (.ld 7 true (t_ 4)) 0,O_ 22 (.ld 2 true (t_ 5)) 0,O_ 23 (.ld 2 true (t_ 6)) 0,O_ 24 (.bd [(.lit (.int .i64 0)),(.sl [] true),(.lit (.bool false)),(.lit (.bool false)),(.lit (.string ⟨#[]⟩)),(.lit (.int .i64 0)),(.lit (.int .i64 0)),(.lit (.int .i64 0)),(.sl [] true),(.sl [] true),(.lit (.int .i64 0)),(.sl [] true)] [(0,1,(t_ 20)),(1,7,(t_ 21)),(8,2,(t_ 22)),(10,2,(t_ 23))]) 0,O_ 25 (.bx (t_ 24)) 0,O_ 10 (.mv (t_ 25)) 1]) (.seq (R_ 0 [O_ 11 (.mv (.const (.slice none 0 0))) 0]) (.seq (.block 0 (.loop (.seq (.seq (R_ 0 [O_ 26 (.mv (t_ 11)) 0,O_ 27 (.lens (t_ 26)) 0,O_ 28 (.mv (t_ 3)) 0,O_ 29 (.mn false (t_ 28) (i_ 1000)) 0,O_ 30 (.bin .lss (t_ 27) (t_ 29)) 0]) (.cond (t_ 30) .skip (.exit 0))) (.block 1 (.seq (R_ 1 [O_ 32 (.mv (t_ 10)) 0,O_ 33 (.cl 54 [(t_ 32)]) 0,O_ 31 (.mv (t_ 33)) 0,O_ 34 (.ex (t_ 31) 0) 0,O_ 35 (.ex (t_ 31) 1) 0,O_ 12 (.al (.agg [(.lit (.int .u8 0)),(.lit (.string ⟨#[]⟩)),(.lit (.string ⟨#[]⟩)),(.lit (.string ⟨#[]⟩)),(.lit (.int .i64 0)),(.lit (.int .i64 0)),(.lit (.int .i64 0)),(.lit (.int .i64 0))])) 0,U_ (.st 8 (t_ 12) (t_ 34)) 1,O_ 13 (.mv (t_ 35)) 1]) (.seq (.seq (R_ 0 [O_ 36 (.mv (t_ 13)) 0,O_ 37 (.un .not (t_ 36)) 0]) (.cond (t_ 37) (.exit 0) .skip)) (R_ 2 [O_ 38 (.mv (t_ 11)) 0,O_ 39 (.ld 8 true (t_ 12)) 0,O_ 40 (.bs 8 1 [(.lit (.int .u8 0)),(.lit (.string ⟨#[]⟩)),(.lit (.string ⟨#[]⟩)),(.lit (.string ⟨#[]⟩)),(.lit (.int .i64 0)),(.lit (.int .i64 0)),(.lit (.int .i64 0)),(.lit (.int .i64 0))] [(0,(t_ 39))]) 0,O_ 41 (.ap 8 88 (t_ 38) (t_ 40)) 1,O_ 11 (.mv (t_ 41)) 2]))))))) (.seq (R_ 0 [O_ 42 (.mv (t_ 10)) 0,O_ 43 (.mv (t_ 10)) 0,O_ 44 (.nc (t_ 43)) 0,O_ 45 (.fa 0 (t_ 44)) 0,O_ 46 (.fa 0 (t_ 45)) 0,O_ 47 (.ld 1 false (t_ 46)) 0,O_ 48 (.nc (t_ 42)) 0,O_ 49 (.fa 1 (t_ 48)) 0,O_ 50 (.fa 5 (t_ 49)) 0,U_ (.st 1 (t_ 50) (t_ 47)) 0]) (.seq (R_ 0 [O_ 51 (.mv (t_ 10)) 0,O_ 52 (.nc (t_ 51)) 0,O_ 53 (.fa 1 (t_ 52)) 0,O_ 54 (.ld 7 true (t_ 53)) 0,O_ 55 (.mv (t_ 11)) 0,U_ (.st 7 (t_ 8) (t_ 54)) 0,O_ 9 (.mv (t_ 55)) 0]) .ret)))))))
theorem gc27_ok:compF Tryz.prog Tryz.f27=some (gc27.er,56,[.cell 8 7 true,.tmp 9]):=by unfold gc27;kernel_rfl
theorem p_outq_Flush_v {u1 u2 u3 u4:Bool} (a0:Ref27State) (a1:SnapEyes) (a2:BookState) (a3:Int):CallsO Tryz.prog 27 [.agg [.sl (List.map MailEntry.v a0.Mail) u1,.b a0.Snap.On,.b a0.Snap.Begun,.s a0.Snap.After,.i a0.Snap.Told,.i a0.Sent,.i a0.Lost],.agg [.sl (List.map V.s a1.Users) u2,.sl (List.map V.s a1.Keys) u3],.agg [.i a2.Seq,.sl (List.map BookRow.v a2.Rows) u4],.i a3] (fun r:Ref27State × (List StanzaStanza)=>.tup [Ref27State.v r.1,(fun l:List StanzaStanza=>V.sl (l.map StanzaStanza.v) false) r.2]) (p_outq_Flush a0 a1 a2 a3):=by
 refine callsO_comp mix Tryz.func27 gc27_ok fun r H=>?_
 rw [p_outq_Flush] at H
 conv=>whnf
 refine ask_c (p_outq_Check_v _) H rfl rfl (fun v1 H=>?_);conv=>whnf
 refine tst_c H (fun b2 H=>?_) (fun b2 H=>?_)
 ·conv=>whnf
  refine lq_ ?_;conv=>whnf
  refine finR_c (enc:=(fun r:Ref27State × (List StanzaStanza)=>.tup [Ref27State.v r.1,(fun l:List StanzaStanza=>V.sl (l.map StanzaStanza.v) false) r.2])) H ?_;conv=>whnf
  exact ⟨_,.tup (.cons (fzagg (.cons (.slw) (.cons (.id rfl) (.cons (.id rfl) (.cons (.id rfl) (.cons (.id rfl) (.cons (.id rfl) (.cons (.id rfl) (.nil)))))))) rfl) (.cons (.c (.slw)) (.nil)))⟩
 conv=>whnf
 obtain ⟨o4,HL5,HQ6⟩:=bind_c H
 refine loop_c [11,8,10] [12,13,26,27,28,29,30,31,32,33,34,35,36,37,38,39,40,41,4,5,6,18,25] [12,13,26,27,28,29,30,31,32,33,34,35,36,37,38,39,40,41,4,5,6,18,25] (fun n vals st=>(∃ y8,p_outq_Flush_l1  a3 n [] y8=some o4∧vals=[.sl (List.map StanzaStanza.v []) true,.ptr 0 0,.ptr 1 0]∧st=[.live [.sl (List.map MailEntry.v []) true,.b false,.b false,.s (⟨#[]⟩ : ByteArray),.i (0:Int),.i (0:Int),.i (0:Int)] 0,.live [.i y8.counter.sent,.sl (List.map MailEntry.v y8.st.Mail) u1,.b y8.st.Snap.On,.b y8.st.Snap.Begun,.s y8.st.Snap.After,.i y8.st.Snap.Told,.i y8.st.Sent,.i y8.st.Lost,.sl (List.map V.s y8.eyes.Users) u2,.sl (List.map V.s y8.eyes.Keys) u3,.i y8.book.Seq,.sl (List.map BookRow.v y8.book.Rows) u4] 0])∨(∃ y13 y14,p_outq_Flush_l1  a3 n y13 y14=some o4∧vals=[.osl 2 0 (List.length y13) 8 false,.ptr 0 0,.ptr 1 0]∧st=[.live [.sl (List.map MailEntry.v []) true,.b false,.b false,.s (⟨#[]⟩ : ByteArray),.i (0:Int),.i (0:Int),.i (0:Int)] 0,.live [.i y14.counter.sent,.sl (List.map MailEntry.v y14.st.Mail) false,.b y14.st.Snap.On,.b y14.st.Snap.Begun,.s y14.st.Snap.After,.i y14.st.Snap.Told,.i y14.st.Sent,.i y14.st.Lost,.sl (List.map V.s y14.eyes.Users) false,.sl (List.map V.s y14.eyes.Keys) false,.i y14.book.Seq,.sl (List.map BookRow.v y14.book.Rows) false] 0,.live (cellsM StanzaStanza.v y13) (cellsM StanzaStanza.v y13).length])) fuel 2 [3,4] (.inl (⟨_,HL5,rfl,rfl⟩)) (Nat.zero_le _) rfl (by kernel_rfl) (by kernel_rfl) rfl ⟨⟨rfl,rfl,rfl⟩,⟨⟨rfl,rfl,rfl⟩,trivial⟩⟩ ?_
 rintro (_ | n7) _ _ (⟨y8,H,rfl,rfl⟩ | ⟨y13,y14,H,rfl,rfl⟩)
 ·rw [p_outq_Flush_l1] at H;cases H
 ·rw [p_outq_Flush_l1] at H;cases H
 ·rw [p_outq_Flush_l1] at H
  conv=>whnf
  refine LenQ.ok ?_;conv=>whnf
  refine tst_d H (fun b9 H=>?_) (fun b9 H=>?_)
  ·conv=>whnf
   obtain rfl:=Option.some.inj H
   have H:=HQ6
   try dsimp only at H
   refine lq_ ?_;conv=>whnf
   refine lq_ ?_;conv=>whnf
   refine finR_c (enc:=(fun r:Ref27State × (List StanzaStanza)=>.tup [Ref27State.v r.1,(fun l:List StanzaStanza=>V.sl (l.map StanzaStanza.v) false) r.2])) H ?_;conv=>whnf
   exact ⟨_,.tup (.cons (fzagg (.cons (.slw) (.cons (.id rfl) (.cons (.id rfl) (.cons (.id rfl) (.cons (.id rfl) (.cons (.id rfl) (.cons (.id rfl) (.nil)))))))) rfl) (.cons (.c (.slw)) (.nil)))⟩
  conv=>whnf
  refine askP_c (fun s hs=>p_outq_teller_next_p3_1 rfl rfl _ s hs) H rfl rfl (fun _=>rfl) (fun v10 H=>?_);conv=>whnf
  refine lq_ ?_;conv=>whnf
  refine Tst.not ?_
  refine tst_d H (fun b11 H=>?_) (fun b11 H=>?_)
  ·conv=>whnf
   obtain rfl:=Option.some.inj H
   have H:=HQ6
   try dsimp only at H
   refine lq_ ?_;conv=>whnf
   refine lq_ ?_;conv=>whnf
   refine finR_c (enc:=(fun r:Ref27State × (List StanzaStanza)=>.tup [Ref27State.v r.1,(fun l:List StanzaStanza=>V.sl (l.map StanzaStanza.v) false) r.2])) H ?_;conv=>whnf
   exact ⟨_,.tup (.cons (fzagg (.cons (.id rfl) (.cons (.id rfl) (.cons (.id rfl) (.cons (.id rfl) (.cons (.id rfl) (.cons (.id rfl) (.cons (.id rfl) (.nil)))))))) rfl) (.cons (.c (.slw)) (.nil)))⟩
  conv=>whnf
  refine appN_c (f:=StanzaStanza.v) H (fun _=>rfl) (srcM (f:=StanzaStanza.v) (fun _=>rfl) [] true) rfl (.v (srcOwn (f:=StanzaStanza.v) (l:=[v10.2.1]) (fun _=>rfl) rfl rfl rfl)) (by decide) rfl (by simp) (fun l12 H=>?_);conv=>whnf
  exact again_c [12,13,26,27,28,29,30,31,32,33,34,35,36,37,38,39,40,41,4,5,6,18,25] n7 3 [0,1,4] (.inr (⟨_,_,H,rfl,rfl⟩)) (Nat.lt_succ_self _) (Nat.zero_le _) rfl (by kernel_rfl) (by kernel_rfl) rfl ⟨⟨rfl,rfl,rfl⟩,⟨⟨rfl,rfl,rfl⟩,wkB_live0 rfl (cellsM_idlt (f:=StanzaStanza.v) (fun _=>rfl) _) rfl trivial⟩⟩
 rw [p_outq_Flush_l1] at H
 conv=>whnf
 refine tst_d H (fun b15 H=>?_) (fun b15 H=>?_)
 ·conv=>whnf
  obtain rfl:=Option.some.inj H
  have H:=HQ6
  try dsimp only at H
  refine lq_ ?_;conv=>whnf
  refine lq_ ?_;conv=>whnf
  refine finR_c (enc:=(fun r:Ref27State × (List StanzaStanza)=>.tup [Ref27State.v r.1,(fun l:List StanzaStanza=>V.sl (l.map StanzaStanza.v) false) r.2])) H ?_;conv=>whnf
  exact ⟨_,.tup (.cons (fzagg (.cons (.id rfl) (.cons (.id rfl) (.cons (.id rfl) (.cons (.id rfl) (.cons (.id rfl) (.cons (.id rfl) (.cons (.id rfl) (.nil)))))))) rfl) (.cons (.c (fzown (f:=StanzaStanza.v) (l:=y13) rfl rfl (fun _=>rfl) (fun _=>rfl))) (.nil)))⟩
 conv=>whnf
 refine askP_c (fun s hs=>p_outq_teller_next_p4_1 rfl (okN_M (cellsM_idlt (f:=StanzaStanza.v) (fun _=>rfl) _)) rfl _ s hs) H rfl rfl (fun _=>rfl) (fun v16 H=>?_);conv=>whnf
 refine lq_ ?_;conv=>whnf
 refine Tst.not ?_
 refine tst_c H (fun b17 H=>?_) (fun b17 H=>?_)
 ·conv=>whnf
  refine appO_c (f:=StanzaStanza.v) H (fun _=>rfl) rfl (Nat.le_refl _) (.v (srcOwn (f:=StanzaStanza.v) (l:=[v16.2.1]) (fun _=>rfl) rfl rfl rfl)) (by decide) rfl (by simp) (fun l18 H=>?_);conv=>whnf
  exact again_c [12,13,26,27,28,29,30,31,32,33,34,35,36,37,38,39,40,41,4,5,6,18,25] n7 3 [0,1,5] (.inr (⟨_,_,H,rfl,rfl⟩)) (Nat.lt_succ_self _) (Nat.zero_le _) rfl (by kernel_rfl) (by kernel_rfl) rfl ⟨⟨rfl,rfl,rfl⟩,⟨⟨rfl,rfl,rfl⟩,wkB_live0 rfl (cellsM_idlt (f:=StanzaStanza.v) (fun _=>rfl) _) rfl trivial⟩⟩
 conv=>whnf
 obtain rfl:=Option.some.inj H
 have H:=HQ6
 try dsimp only at H
 refine lq_ ?_;conv=>whnf
 refine lq_ ?_;conv=>whnf
 refine finR_c (enc:=(fun r:Ref27State × (List StanzaStanza)=>.tup [Ref27State.v r.1,(fun l:List StanzaStanza=>V.sl (l.map StanzaStanza.v) false) r.2])) H ?_;conv=>whnf
 exact ⟨_,.tup (.cons (fzagg (.cons (.id rfl) (.cons (.id rfl) (.cons (.id rfl) (.cons (.id rfl) (.cons (.id rfl) (.cons (.id rfl) (.cons (.id rfl) (.nil)))))))) rfl) (.cons (.c (fzown (f:=StanzaStanza.v) (l:=y13) rfl rfl (fun _=>rfl) (fun _=>rfl))) (.nil)))⟩
def gc31:BCode:=(.seq (R_ 5 [O_ 3 (.bx (t_ 0)) 0,O_ 4 (.bx (t_ 1)) 1,O_ 5 (.bx (t_ 2)) 2,O_ 6 (.al (.agg [(.sl [] true),(.lit (.bool false)),(.lit (.bool false)),(.lit (.string ⟨#[]⟩)),(.lit (.int .i64 0)),(.lit (.int .i64 0)),(.lit (.int .i64 0))])) 3,O_ 7 (.al (.agg [(.lit (.int .u8 0)),(.lit (.string ⟨#[]⟩)),(.lit (.string ⟨#[]⟩)),(.lit (.string ⟨#[]⟩)),(.lit (.int .i64 0)),(.lit (.int .i64 0)),(.lit (.int .i64 0)),(.lit (.int .i64 0))])) 4,O_ 8 (.mv (b_ false)) 5]) (.seq (R_ 1 [O_ 12 (.ld 7 true (t_ 3)) 0,O_ 13 (.ld 2 true (t_ 4)) 0,O_ 14 (.ld 2 true (t_ 5)) 0,O_ 15 (.cl 27 [(t_ 12),(t_ 13),(t_ 14),(i_ 1)]) 0,O_ 11 (.mv (t_ 15)) 0,O_ 16 (.ex (t_ 11) 0) 0,O_ 17 (.ex (t_ 11) 1) 0,O_ 9 (.al (.agg [(.sl [] true),(.lit (.bool false)),(.lit (.bool false)),(.lit (.string ⟨#[]⟩)),(.lit (.int .i64 0)),(.lit (.int .i64 0)),(.lit (.int .i64 0))])) 0,U_ (.st 7 (t_ 9) (t_ 16)) 1,O_ 10 (.mv (t_ 17)) 1]) (.seq (.seq (R_ 0 [O_ 18 (.mv (t_ 10)) 0,O_ 19 (.lens (t_ 18)) 0,O_ 20 (.bin .eql (t_ 19) (i_ 0)) 0]) (.cond (t_ 20) (.seq (R_ 0 [O_ 21 (.ld 7 true (t_ 3)) 0,O_ 22 (.bd [(.lit (.int .u8 0)),(.lit (.string ⟨#[]⟩)),(.lit (.string ⟨#[]⟩)),(.lit (.string ⟨#[]⟩)),(.lit (.int .i64 0)),(.lit (.int .i64 0)),(.lit (.int .i64 0)),(.lit (.int .i64 0))] []) 0,U_ (.st 7 (t_ 6) (t_ 21)) 0,U_ (.st 8 (t_ 7) (t_ 22)) 0,O_ 8 (.mv (b_ false)) 0]) .ret) .skip)) (.seq (.reg 0 [O_ 23 (.ld 7 true (t_ 9)) 0,O_ 24 (.mv (t_ 10)) 0,O_ 25 (.ixs 8 (t_ 24) (i_ 0)) 0,O_ 26 (.ld 8 true (t_ 25)) 0,U_ (.st 7 (t_ 6) (t_ 23)) 0,U_ (.st 8 (t_ 7) (t_ 26)) 0,O_ 8 (.mv (b_ true)) 0] (some [[],[],[1],[1,2],[0],[0,4,2,1,3],[3,1,2,4,0,5]]) 0 []) .ret))))
theorem gc31_ok:compF Tryz.prog Tryz.f31=some (gc31.er,27,[.cell 6 7 true,.cell 7 8 true,.tmp 8]):=by unfold gc31;kernel_rfl
theorem p_outq_Next_v {u1 u2 u3 u4:Bool} (a0:Ref27State) (a1:SnapEyes) (a2:BookState):CallsO Tryz.prog 31 [.agg [.sl (List.map MailEntry.v a0.Mail) u1,.b a0.Snap.On,.b a0.Snap.Begun,.s a0.Snap.After,.i a0.Snap.Told,.i a0.Sent,.i a0.Lost],.agg [.sl (List.map V.s a1.Users) u2,.sl (List.map V.s a1.Keys) u3],.agg [.i a2.Seq,.sl (List.map BookRow.v a2.Rows) u4]] (fun r:Ref27State × StanzaStanza × Bool=>.tup [Ref27State.v r.1,StanzaStanza.v r.2.1,V.b r.2.2]) (p_outq_Next a0 a1 a2):=by
 refine callsO_comp mix Tryz.func31 gc31_ok fun r H=>?_
 rw [p_outq_Next] at H
 conv=>whnf
 refine ask_c (p_outq_Flush_v _ _ _ _) H rfl rfl (fun v1 H=>?_);conv=>whnf
 refine lq_ ?_;conv=>whnf
 refine LenQ.M ?_;conv=>whnf
 refine tst_d H (fun b2 H=>?_) (fun b2 H=>?_)
 ·conv=>whnf
  refine ixs_c (f:=StanzaStanza.v) H (fun _=>rfl) (fun x3 H=>?_);conv=>whnf
  refine lq_ ?_;conv=>whnf
  refine lq_ ?_;conv=>whnf
  refine FootQ.mk ⟨rfl,?_⟩;conv=>whnf
  exact fin0_c (enc:=(fun r:Ref27State × StanzaStanza × Bool=>.tup [Ref27State.v r.1,StanzaStanza.v r.2.1,V.b r.2.2])) H (.inr rfl) (.cons (.cell rfl rfl (Nat.le_of_ble_eq_true rfl)) (.cons (.cell rfl rfl (Nat.le_of_ble_eq_true rfl)) (.cons (.tmp rfl) (.nil)))) rfl rfl
 conv=>whnf
 refine lq_ ?_;conv=>whnf
 refine lq_ ?_;conv=>whnf
 refine finR_c (enc:=(fun r:Ref27State × StanzaStanza × Bool=>.tup [Ref27State.v r.1,StanzaStanza.v r.2.1,V.b r.2.2])) H ?_;conv=>whnf
 exact ⟨_,.tup (.cons (fzagg (.cons (.slw) (.cons (.id rfl) (.cons (.id rfl) (.cons (.id rfl) (.cons (.id rfl) (.cons (.id rfl) (.cons (.id rfl) (.nil)))))))) rfl) (.cons (fzagg (.cons (.id rfl) (.cons (.id rfl) (.cons (.id rfl) (.cons (.id rfl) (.cons (.id rfl) (.cons (.id rfl) (.cons (.id rfl) (.cons (.id rfl) (.nil))))))))) rfl) (.cons (.c (.id rfl)) (.nil))))⟩
def gc61:BCode:=(.seq (R_ 2 [O_ 2 (.bx (t_ 0)) 0,O_ 3 (.bx (t_ 1)) 1,O_ 4 (.mv (b_ false)) 2]) (.seq (R_ 0 [O_ 5 (.fa 3 (t_ 3)) 0,O_ 6 (.ld 1 false (t_ 5)) 0,O_ 7 (.fa 3 (t_ 2)) 0,O_ 8 (.ld 1 false (t_ 7)) 0,O_ 9 (.bin .lss (t_ 6) (t_ 8)) 0,O_ 4 (.mv (t_ 9)) 0]) .ret))
theorem gc61_ok:compF Tryz.prog Tryz.f61=some (gc61.er,10,[.tmp 4]):=by unfold gc61;kernel_rfl
theorem p_pres_Newer_v (a0:PresPres) (a1:PresPres):CallsO Tryz.prog 61 [.agg [.b a0.On,.i a0.Show,.i a0.Prio,.i a0.Seq],.agg [.b a1.On,.i a1.Show,.i a1.Prio,.i a1.Seq]] V.b (p_pres_Newer a0 a1):=by
 refine callsO_comp mix Tryz.func61 gc61_ok fun r H=>?_
 rw [p_pres_Newer] at H
 conv=>whnf
 exact fb_ H
end Go.Proofs.YthnihifblmnkdaaGreat

namespace Go.Proofs.YthnihifblmnkdaaGreat
open Go.RowKit Go.Lib
set_option maxHeartbeats 4000000
set_option maxRecDepth 100000
theorem cloS58 (A:Addr) (n c:Nat) (cs:List Value) (w:World) (hn:0 < n) (hbig:n≤1000000) (hcl:cs.length=n * 5) (hcs:∀ j v,cs[j]?=some v→w.cell? (A.add j)=some v) (h1:∀ v ∈ cs,v.oneCell'=true) :
  Calls Tryz.prog 58 #[.slice (some A) n c] w fun e w'=>∃ ZS:Array Value,e=.returned (.slice (some ⟨w.heap.size + 1,0,none⟩) n (grownCap (w.alloc (.cells #[] 130)) n 0 130))∧w'=(w.alloc (.cells #[] 130)).drew.alloc (.cells (cs.toArray++ZS) 130)∧grownCap (w.alloc (.cells #[] 130)) n 0 130 * 5≤(cs.toArray++ZS).size:=by
 have tS:Tryz.prog.underlying 34=some (.slice 130):=by kernel_rfl
 have uS:=run_underlying tS
 have qS:∀ (w:World) (a:Option Addr) (n c n' c' : Nat),(binOp .eql 34 (.slice a n c) (.slice none n' c')).run Tryz.prog w=.ok (.bool a.isNone) w:=fun w a n c n' c'=>Lib.run_eql_slice_nil w _ _ a n c n' c' tS
 have mixed:Tryz.prog.follows .mixedOrders=true:=mix
 obtain ⟨i0,z,hi0,hzs,hz0,hzc,hzb⟩:=infB_ok (P:=Tryz.prog) (e:=130) (es:=5) (by kernel_rfl)
 have hsrc:Src Tryz.prog i0.size 34 (.slice (some A) n c) n cs (w.alloc (.cells #[] 130)):=by
  rw [hzs]
  exact Src.ofSlice _ tS A n c cs (by omega) (fun j u hj=>Lib.cell?_alloc_some _ (hcs j u hj)) h1
 have hold:(Builtin.firstCells i0.size 0 (.slice (some ⟨w.heap.size,0,none⟩) 0 0)).run Tryz.prog (w.alloc (.cells #[] 130)).drew=.ok ([]:List Value).toArray (w.alloc (.cells #[] 130)).drew:=by
  rw [hzs]
  exact run_firstCells_some _ 5 0 ⟨w.heap.size,0,none⟩ 0 0 [] (by simp) (fun j v hj=>by simp at hj)
 have hrun:∀ ty,(Builtin.append_ #[34,34] ty #[.slice (some ⟨w.heap.size,0,none⟩) 0 0,.slice (some A) n c]).run Tryz.prog (w.alloc (.cells #[] 130))=_:=fun ty =>
  run_append_grow_src (w.alloc (.cells #[] 130)) 34 34 ty 130 i0 z tS hi0 hz0 (some ⟨w.heap.size,0,none⟩) 0 0 [] hold _ n cs hsrc (by omega) (by omega) (growslice_fits (by omega) (grown_bound (by omega) hzb))
 simp only [Nat.zero_add,List.nil_append,World.size_alloc] at hrun
 have hge:=grownCap_ge (w.alloc (.cells #[] 130)) n 0 130
 have hsz:grownCap (w.alloc (.cells #[] 130)) n 0 130 * 5≤(cs.toArray++Builtin.zeroCells z.cells (grownCap (w.alloc (.cells #[] 130)) n 0 130 - n)).size:=by
  simp only [Array.size_append,size_zeroCells,hzc,List.size_toArray,hcl]
  omega
 obtain ⟨ZS,hrun,hsz⟩ : ∃ ZS:Array Value,(∀ ty,(Builtin.append_ #[34,34] ty #[.slice (some ⟨w.heap.size,0,none⟩) 0 0,.slice (some A) n c]).run Tryz.prog (w.alloc (.cells #[] 130))=.ok (.slice (some ⟨w.heap.size + 1,0,none⟩) n (grownCap (w.alloc (.cells #[] 130)) n 0 130)) ((w.alloc (.cells #[] 130)).drew.alloc (.cells (cs.toArray++ZS) 130)))∧grownCap (w.alloc (.cells #[] 130)) n 0 130 * 5≤(cs.toArray++ZS).size:=⟨_,hrun,hsz⟩
 have main:Calls Tryz.prog 58 #[.slice (some A) n c] w fun e w'=>e=.returned (.slice (some ⟨w.heap.size + 1,0,none⟩) n (grownCap (w.alloc (.cells #[] 130)) n 0 130))∧w'=(w.alloc (.cells #[] 130)).drew.alloc (.cells (cs.toArray++ZS) 130):=by
  clear hsz hold hsrc hz0 hcs
  go_enter Tryz.func58,Tryz.ntmps58
  go_wp2_with (at_builtin;refine Lib.wpList_append_run _ rfl _ _ _ _ rfl _ _ rfl rfl _ _ (hrun _) ?_)
  go_ret
  exact ⟨rfl,rfl⟩
 refine main.mono ?_
 rintro e w' ⟨rfl,rfl⟩
 exact ⟨ZS,rfl,rfl,hsz⟩
theorem cloZ58 (A:Addr) (c:Nat) (w:World):Calls Tryz.prog 58 #[.slice (some A) 0 c] w fun e w'=>e=.returned (.slice (some ⟨w.heap.size,0,none⟩) 0 0)∧∃ q,w'=(w.alloc (.cells #[] 130)).drewN q:=by
 have tS:Tryz.prog.underlying 34=some (.slice 130):=by kernel_rfl
 have uS:=run_underlying tS
 have qS:∀ (w:World) (a:Option Addr) (n c n' c' : Nat),(binOp .eql 34 (.slice a n c) (.slice none n' c')).run Tryz.prog w=.ok (.bool a.isNone) w:=fun w a n c n' c'=>Lib.run_eql_slice_nil w _ _ a n c n' c' tS
 have mixed:Tryz.prog.follows .mixedOrders=true:=mix
 obtain ⟨i0,z,hi0,hzs,hz0,hzc,hzb⟩:=infB_ok (P:=Tryz.prog) (e:=130) (es:=5) (by kernel_rfl)
 have hsz:(Tryz.prog.info? 130).map (·.size)=some 5:=by rw [hi0];simp [hzs]
 have hrun:∀ ty,(Builtin.append_ #[34,34] ty #[.slice (some ⟨w.heap.size,0,none⟩) 0 0,.slice (some A) 0 c]).run Tryz.prog (w.alloc (.cells #[] 130))=.ok (.slice (some ⟨w.heap.size,0,none⟩) 0 0) (w.alloc (.cells #[] 130)):=fun ty=>by
  have hl:∀ (x:Addr) (W:World),(loadCells x 0).run Tryz.prog W=.ok #[] W:=fun x W=>by simpa using run_loadCells_list (P:=Tryz.prog) W x [] (by simp)
  simp [Builtin.append_,uS,Builtin.lenOf,Builtin.firstCells,sizeOf,typeInfo,hi0,hl,storeCells]
 have main:Calls Tryz.prog 58 #[.slice (some A) 0 c] w fun e w'=>e=.returned (.slice (some ⟨w.heap.size,0,none⟩) 0 0)∧w'=w.alloc (.cells #[] 130):=by
  go_enter Tryz.func58,Tryz.ntmps58
  go_wp2_with (at_builtin;refine Lib.wpList_append_run _ rfl _ _ _ _ rfl _ _ rfl rfl _ _ (hrun _) ?_)
  go_ret
  exact ⟨rfl,rfl⟩
 refine main.mono ?_
 rintro e w' ⟨rfl,rfl⟩
 exact ⟨rfl,0,rfl⟩
theorem cloN58 (n c:Nat) (w:World):Calls Tryz.prog 58 #[.slice none n c] w fun e w'=>e=.returned (.slice none 0 0)∧w'=w:=by
 have tS:Tryz.prog.underlying 34=some (.slice 130):=by kernel_rfl
 have uS:=run_underlying tS
 have qS:∀ (w:World) (a:Option Addr) (n c n' c' : Nat),(binOp .eql 34 (.slice a n c) (.slice none n' c')).run Tryz.prog w=.ok (.bool a.isNone) w:=fun w a n c n' c'=>Lib.run_eql_slice_nil w _ _ a n c n' c' tS
 have mixed:Tryz.prog.follows .mixedOrders=true:=mix
 go_enter Tryz.func58,Tryz.ntmps58
 go_wp2
 go_ret
 exact ⟨rfl,rfl⟩
theorem cloR58_v:CloRoads Tryz.prog 58 5 130:=⟨cloS58,cloZ58,cloN58⟩
end Go.Proofs.YthnihifblmnkdaaGreat

namespace Go.Proofs.YthnihifblmnkdaaGreat
open Go.RowKit Go.Lib
set_option maxHeartbeats 4000000
set_option maxRecDepth 100000
theorem delS62 (b n c i j:Nat) (cs:List Value) (w:World) (hij:i < j) (hj:j≤n) (hnc:n≤c) (hbig:n≤1000000) (hcl:cs.length=n * 5) (hcs:∀ t v,cs[t]?=some v→w.cell? ⟨b,t,none⟩=some v) (hfz:∀ t,t < n * 5→w.frozen? ⟨b,t,none⟩=false) (h1c:∀ v ∈ cs,v.oneCell'=true) :
  Calls Tryz.prog 62 #[.slice (some ⟨b,0,none⟩) n c,.int .i64 i,.int .i64 j] w fun e w'=>∃ zs:List Value,zs.length=(j - i) * 5∧(∀ v ∈ zs,v.oneCell'=true)∧e=.returned (.slice (some ⟨b,0,none⟩) (n - (j - i)) c)∧w'=(w.drew.setCells b (i * 5) (cs.drop (j * 5))).setCells b ((n - (j - i)) * 5) zs:=by
 have tS:Tryz.prog.underlying 34=some (.slice 130):=by kernel_rfl
 have uS:=run_underlying tS
 have mixed:Tryz.prog.follows .mixedOrders=true:=mix
 obtain ⟨i0,z,hi0,hzs,hz0,hzc,hzb,hz1⟩:=infB2_ok (P:=Tryz.prog) (e:=130) (es:=5) (by kernel_rfl)
 have hlen:(cs.drop (j * 5)).length=(n - j) * 5:=by rw [List.length_drop,hcl];omega
 obtain ⟨Ad,hA,hsrc⟩ : ∃ Ad:Addr,(if c=j then some (⟨b,0,none⟩ : Addr) else some ⟨b,j * 5,none⟩)=some Ad∧Hid (∀ t u,(cs.drop (j * 5))[t]?=some u→w.drew.cell? (Ad.add t)=some u):=by
  by_cases h:c=j
  ·refine ⟨⟨b,0,none⟩,by simp [h],fun t u hu=>?_⟩
   have:=(List.getElem?_eq_some_iff.1 hu).1
   omega
  ·refine ⟨⟨b,j * 5,none⟩,by simp [h],fun t u hu=>?_⟩
   rw [Addr.add_lit]
   exact hcs _ u (by rwa [List.getElem?_drop] at hu)
 have s1:Hid ((cs.drop (j * 5)).length=(n - j) * 5):=hlen
 have s2:Hid (∀ u ∈ cs.drop (j * 5),u.oneCell'=true):=fun u hu=>h1c u (List.mem_of_mem_drop hu)
 have hsome:∀ t,t < n * 5→(w.drew.cell? ⟨b,t,none⟩).isSome=true:=fun t ht=>by
  show (w.cell? ⟨b,t,none⟩).isSome=true
  rw [hcs t _ (List.getElem?_eq_getElem (by omega))];rfl
 have s3:Hid (∀ t,t < (cs.drop (j * 5)).length→(w.drew.cell? ⟨b,0 + i * 5 + t,none⟩).isSome=true∧w.drew.frozen? ⟨b,0 + i * 5 + t,none⟩=false):=fun t ht=>by
  rw [Nat.zero_add]
  exact ⟨hsome _ (by omega),hfz _ (by omega)⟩
 obtain ⟨W1,hW1⟩ : ∃ W1,W1=w.drew.setCells b (0 + i * 5) (cs.drop (j * 5)):=⟨_,rfl⟩
 have hin:∀ t,t < n * 5→(W1.cell? ⟨b,t,none⟩).isSome=true:=fun t ht=>by
  rw [hW1]
  exact isSome_setCells b _ _ _ (fun q hq=>by rw [Nat.zero_add];exact hsome _ (by omega)) _ (hsome t ht)
 have hfin:∀ t,t < n * 5→W1.frozen? ⟨b,t,none⟩=false:=fun t ht=>by
  rw [hW1,World.frozen?_setCells];exact hfz t ht
 have hzl:(Builtin.zeroCells z.cells (n - (i + (n - j)))).toList.length=(n - (i + (n - j))) * 5:=by rw [Array.length_toList,size_zeroCells,hzc]
 have hz1' : ∀ m,∀ v ∈ (Builtin.zeroCells z.cells m).toList,v.oneCell'=true:=zeroCells_one hz1
 have hcl2:∀ ty,(Builtin.clear_ #[34] ty #[.slice (some ⟨b,(i + (n - j)) * 5,none⟩) (n - (i + (n - j))) (c - (i + (n - j)))]).run Tryz.prog W1=.ok (.tuple #[]) (W1.setCells b ((i + (n - j)) * 5) (Builtin.zeroCells z.cells (n - (i + (n - j)))).toList) :=
  fun ty=>run_clear_es W1 34 130 ty z 5 tS (fun w=>by simp [zeroValue,typeInfo,hi0,hz0]) hzc hz1' b _ _ _ (by omega) (fun t ht=>hin _ (by omega)) (fun t ht=>hfin _ (by omega))
 obtain ⟨ZS,hZS⟩ : ∃ ZS,ZS=(Builtin.zeroCells z.cells (n - (i + (n - j)))).toList:=⟨_,rfl⟩
 rw [← hZS] at hcl2 hzl
 have hz2:∀ v ∈ ZS,v.oneCell'=true:=by rw [hZS];exact hz1' _
 have hic:i≤c:=by omega
 have hjc:j≤c:=by omega
 have hci:¬ (c=i):=by omega
 have hne:¬ ((i:Int)=(j:Int)):=by omega
 have hb1:(i:Int)≤(j:Int):=by omega
 have hb2:¬ (c=i + (n - j)):=by omega
 have main:Calls Tryz.prog 62 #[.slice (some ⟨b,0,none⟩) n c,.int .i64 i,.int .i64 j] w fun e w'=>e=.returned (.slice (some ⟨b,0,none⟩) (i + (n - j)) c)∧w'=W1.setCells b ((i + (n - j)) * 5) ZS:=by
  have hW:Hid (W1=w.drew.setCells b (0 + i * 5) (cs.drop (j * 5))):=hW1
  clear hW1 hz0 hz1 hz1' hzb hz2 hzl hlen hcs hsome hin hfin hZS
  go_enter Tryz.func62,Tryz.ntmps62
  go_wp2_with fail
  go_region_law_o (refine step_append_room rfl (.tmp 22) (.tmp 25) 34 rfl 130 i0 5 tS hi0 hzs b 0 i c (by simp [Act.eval,Act.put]) Ad (n - j) (c - j) (cs.drop (j * 5)) (by simp [Act.eval,Act.put]) s1.out hsrc.out s2.out (by omega) s3.out ?_;rw [← hW.out])
  go_wp2
  go_ret
  first | exact ⟨rfl,rfl⟩ | trace_state
 refine main.mono ?_
 rintro e w' ⟨rfl,rfl⟩
 have he:i + (n - j)=n - (j - i):=by omega
 refine ⟨ZS,by rw [hzl];congr 1;omega,hz2,by rw [he],by rw [hW1,Nat.zero_add,he]⟩
theorem delR62_v:DelRoads Tryz.prog 62 5:=⟨delS62⟩
end Go.Proofs.YthnihifblmnkdaaGreat

