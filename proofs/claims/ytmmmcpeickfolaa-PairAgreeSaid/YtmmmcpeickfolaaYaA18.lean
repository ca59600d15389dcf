/- A part of the proof: 4 texts joined. -/
import Derived.Test.YtmmmcpeickfolaaYaA17
import Derived.Test.YtmmmcpeickfolaaYaA16
import Derived.Test.YtmmmcpeickfolaaYaA13
import Derived.Test.YtmmmcpeickfolaaYaA12
import Derived.Test.YtmmmcpeickfolaaYaA10
import Derived.KernelRfl
import Derived.Test.YtmmmcpeickfolaaYaA14
import Derived.Test.YtmmmcpeickfolaaYaA15
set_option linter.all false
namespace Go.Proofs.Ytmmmcpeickfolaa
open Go.RowKit
def stepF (a k:Int):Bool:=match p_subs_Out a k with
 | some (a',p)=>p || a' == a
 | none=>false
theorem stepF_ok {a k:Int} (ha:subC a=0) (hk:k=7∨k=8∨k=9∨k=10):stepF a k=true:=by
 rcases sub16 (subC_in ha) with g | g | g | g | g | g | g | g | g | g | g | g | g | g | g | g <;> subst g <;> first | exact absurd ha (by decide) | (rcases hk with rfl | rfl | rfl | rfl <;> kernel_rfl)
def remB (a:Int):Bool:=match p_subs_Mirror a with
 | some b=>match p_subs_Out a 10 with
  | some (a1,p1)=>match (if p1 then p_subs_In b 10 else some (b,false)) with
   | some (b1,_)=>match p_subs_Out a1 9 with
    | some (a2,p2)=>match (if p2 then p_subs_In b1 9 else some (b1,false)) with
     | some (b2,_)=>a2 == 0 && b2 == 0
     | none=>false
    | none=>false
   | none=>false
  | none=>false
 | none=>false
theorem remB_ok {a:Int} (ha:subC a=0):remB a=true:=by
 rcases sub16 (subC_in ha) with g | g | g | g | g | g | g | g | g | g | g | g | g | g | g | g <;> subst g <;> first | exact absurd ha (by decide) | kernel_rfl
theorem turn_pp (n:Ref22Names) (st:Ref22State):p_pair_Turn n st=some (⟨n.B,n.A⟩,⟨st.B,st.A⟩):=rfl
theorem subSame {s:RosterState} (h:OkR s) (hv:s.Ver < 1099511627776) {c:ByteArray} (hb:isBareL c.data.toList=true) (hsz:c.size≤100) {x:ItemItem × Bool} (hx:HasR s c x):p_roster_Sub s c x.1.Sub=some (s,0):=by
 rw [subR h hv hb hsz (hasR_fine h hx).1 hx,if_neg,if_pos rfl]
 rintro ⟨g1,g2,_⟩
 rcases hx with ⟨t,_⟩ | ⟨t,_⟩
 ·rw [t] at g1;cases g1
 ·rw [t] at g2;exact g2 rfl
theorem InvP.up {n:Ref22Names} {oa ob:Nat} {v v' : Int} {st:Ref22State} (h:InvP n oa ob v st) (hv:v≤v'):InvP n oa ob v' st :=
 ⟨h.okA,h.okB,by have:=h.va;omega,by have:=h.vb;omega,h.oa,h.ob,h.subs⟩
theorem say_out {n:Ref22Names} (hn:NamesOk n) {oa ob:Nat} (hoa:oa≤11) (hob:ob≤11) {v:Int} (hv:v < 1099511627776) {st:Ref22State} (h:InvP n oa ob v st) {k:Int} (hk:k=7∨k=8∨k=9∨k=10) {x y:ItemItem × Bool} (h1:HasR st.A n.B x) (h2:HasR st.B n.A y)
  {a' b' : Int} {p t:Bool} (ho:p_subs_Out x.1.Sub k=some (a',p)) (hi:p=true→p_subs_In y.1.Sub k=some (b',t)) (hni:p=false→b'=y.1.Sub) (ha' : subC a'=0) (hb' : subC b'=0) (hag:p_subs_Agree a' b'=some true) :
  ∃ st' d,p_pair_Say n st k=some (st',d,0)∧InvP n oa ob (v + 1) st'∧(d.Told=true→d.Passed=true)∧(d.Passed=false→d.Knows=false∧d.Listed=false)∧∃ xa xb,HasR st'.A n.B xa∧HasR st'.B n.A xb∧xa.1.Sub=a'∧xb.1.Sub=b':=by
 obtain ⟨x',f1,g1,_⟩:=findR h.okA n.B
 obtain ⟨y',f2,g2,_⟩:=findR h.okB n.A
 have e1:=hasR_uniq h.okA.full h1 g1
 have e2:=hasR_uniq h.okB.full h2 g2
 subst e1 e2
 have hva:=h.va
 have hvb:=h.vb
 have hst:=stepF_ok (hasR_fine h.okA h1).1 hk
 unfold stepF at hst
 rw [ho] at hst
 dsimp only at hst
 obtain ⟨sa,p1,q1,l1,m1,o1,xa,r1,w1⟩:=sub_step h.okA (by omega) hn.b hn.sb ha' h1 (by rw [h.oa];exact hoa)
 obtain ⟨sb,p2,q2,l2,m2,o2,xb,r2,w2⟩:=sub_step h.okB (by omega) hn.a hn.sa hb' h2 (by rw [h.ob];exact hob)
 have hinv:InvP n oa ob (v + 1) ⟨sa,sb⟩:=⟨q1,q2,by show sa.Ver≤v + 1;omega,by show sb.Ver≤v + 1;omega,o1.trans h.oa,o2.trans h.ob,xa,xb,r1,r2,by rw [w1,w2];exact hag⟩
 unfold p_pair_Say p_pair_said p_pair_State_has p_pair_State_turn p_pair_Names_turn p_pair_State_set
 rw [check_pr hn h.okA h.okB]
 simp only [Option.bind_some,bne_self_eq_false,cond_false,decide_eq_true (show (7:Int)≤k by omega),decide_eq_true (show k≤(10:Int) by omega),cond_true,f1,f2,ho]
 cases p with
 | true =>
  simp only [cond_true,hi rfl,Option.bind_some,p1,p2,bne_self_eq_false,cond_false]
  exact ⟨_,_,rfl,hinv,fun _=>rfl,fun e=>(by cases e),xa,xb,r1,r2,w1,w2⟩
 | false =>
  have ea:a'=x.1.Sub:=by simpa using hst
  have eb:=hni rfl
  subst ea eb
  have s1:=subSame h.okA (by omega) hn.b hn.sb h1
  have s2:=subSame h.okB (by omega) hn.a hn.sa h2
  rw [p1] at s1
  rw [p2] at s2
  cases s1
  cases s2
  simp only [cond_false,Option.bind_some,p1,p2,bne_self_eq_false]
  exact ⟨_,_,rfl,hinv,fun e=>(by cases e),fun _=>⟨rfl,rfl⟩,xa,xb,r1,r2,w1,w2⟩
theorem say_ok {n:Ref22Names} (hn:NamesOk n) {oa ob:Nat} (hoa:oa≤11) (hob:ob≤11) {v:Int} (hv:v < 1099511627776) {st:Ref22State} (h:InvP n oa ob v st) {k:Int} (hk:k=7∨k=8∨k=9∨k=10) :
  ∃ st' d,p_pair_Say n st k=some (st',d,0)∧InvP n oa ob (v + 1) st'∧(d.Told=true→d.Passed=true)∧(d.Passed=false→d.Knows=false∧d.Listed=false):=by
 obtain ⟨x,y,h1,h2,h3⟩:=h.subs
 obtain ⟨a',b',p,t,ho,hi,hni,ha',hb',hag⟩:=step_p h3 hk
 obtain ⟨st',d,e1,e2,e3,e4,_⟩:=say_out hn hoa hob hv h hk h1 h2 ho hi hni ha' hb' hag
 exact ⟨st',d,e1,e2,e3,e4⟩
theorem remove_ok {n:Ref22Names} (hn:NamesOk n) {oa ob:Nat} (hoa:oa≤11) (hob:ob≤11) {v:Int} (hv:v + 3 < 1099511627776) {st:Ref22State} (h:InvP n oa ob v st) :
  ∃ st' t e,p_pair_Remove n st=some (st',t,e)∧(e=0∨e=6)∧InvP n oa ob (v + 3) st'∧(e=0→∃ xa xb,HasR st'.A n.B xa∧HasR st'.B n.A xb∧xa.1.Sub=0∧xb.1.Sub=0):=by
 obtain ⟨x,y,h1,h2,h3⟩:=h.subs
 obtain ⟨x',f1,g1,_⟩:=findR h.okA n.B
 have e1:=hasR_uniq h.okA.full h1 g1
 subst e1
 obtain ⟨a1,b1,p1,t1,ho1,hi1,hni1,ha1,hb1,hag1⟩:=step_p h3 (k:=10) (by omega)
 obtain ⟨s1,d1,y1,i1,_,_,u1,w1,j1,j2,j3,j4⟩:=say_out hn hoa hob (by omega) h (k:=10) (by omega) h1 h2 ho1 hi1 hni1 ha1 hb1 hag1
 obtain ⟨a2,b2,p2,t2,ho2,hi2,hni2,ha2,hb2,hag2⟩:=step_p hag1 (k:=9) (by omega)
 obtain ⟨s2,d2,y2,i2,_,_,u2,w2,k1,k2,k3,k4⟩:=say_out hn hoa hob (by omega) i1 (k:=9) (by omega) j1 j2 (by rw [j3];exact ho2) (by rw [j4];exact hi2) (by rw [j4];exact hni2) ha2 hb2 hag2
 have hz:a2=0∧b2=0:=by
  obtain ⟨ha,_,hm⟩:=agree_mir h3
  have hr:=remB_ok ha
  unfold remB at hr
  rw [hm] at hr
  dsimp only at hr
  rw [ho1] at hr
  dsimp only at hr
  have q1:∃ t,(if p1=true then p_subs_In y.1.Sub 10 else some (y.1.Sub,false))=some (b1,t):=by
   cases p1 with
   | true=>exact ⟨_,hi1 rfl⟩
   | false=>exact ⟨false,by rw [hni1 rfl];rfl⟩
  obtain ⟨_,q1⟩:=q1
  rw [q1] at hr
  dsimp only at hr
  rw [ho2] at hr
  dsimp only at hr
  have q2:∃ t,(if p2=true then p_subs_In b1 9 else some (b1,false))=some (b2,t):=by
   cases p2 with
   | true=>exact ⟨_,hi2 rfl⟩
   | false=>exact ⟨false,by rw [hni2 rfl];rfl⟩
  obtain ⟨_,q2⟩:=q2
  rw [q2] at hr
  simpa using hr
 obtain ⟨rfl,rfl⟩:=hz
 cases hx:x.2 with
 | false =>
  refine ⟨st,Ar2_Bool.mk false false,6,?_,.inr rfl,h.up (by omega),fun e=>(by cases e)⟩
  unfold p_pair_Remove
  rw [check_pr hn h.okA h.okB]
  simp only [Option.bind_some,bne_self_eq_false,cond_false,f1,hx]
 | true =>
  have hl:p_pair_Remove_l1 (Ar2_Int.mk (10:Int) (9:Int)) n st fuel (0:Int) st (Ar2_Bool.mk false false)=some (.inr (2,s2,Ar2_Bool.mk d1.Told d2.Told)):=by
   have key:∀ F,p_pair_Remove_l1 (Ar2_Int.mk (10:Int) (9:Int)) n st (F + 3) (0:Int) st (Ar2_Bool.mk false false)=some (.inr (2,s2,Ar2_Bool.mk d1.Told d2.Told)):=fun F=>by
    rw [p_pair_Remove_l1]
    show (p_pair_Say n st 10).bind _=_
    rw [y1]
    show p_pair_Remove_l1 _ _ _ (F + 2) 1 s1 _=_
    rw [p_pair_Remove_l1]
    show (p_pair_Say n s1 9).bind _=_
    rw [y2]
    rfl
   exact key (fuel - 3)
  obtain ⟨x2,f2,g2,_⟩:=findR i2.okA n.B
  have e2:=hasR_uniq i2.okA.full k1 g2
  subst e2
  have hva:=i2.va
  have main:p_pair_Remove n st=if u2.2 then (p_roster_Drop s2.A n.B).bind fun v31=>(bif (v31.2 != (0:Int)) then some (st,(Ar2_Bool.mk false false),v31.2) else some ((Ref22State.mk v31.1 s2.B),Ar2_Bool.mk d1.Told d2.Told,(0:Int))) else some (s2,Ar2_Bool.mk d1.Told d2.Told,0):=by
   unfold p_pair_Remove
   rw [check_pr hn h.okA h.okB]
   simp only [Option.bind_some,bne_self_eq_false,cond_false,f1,hx,cond_true,hl,f2]
   cases u2.2 <;> rfl
  rcases dropG i2.okA (by omega) hn.b hn.sb k1 with ⟨z,_⟩ | ⟨z,hch,hd⟩
  ·rw [z,if_neg (by simp)] at main
   exact ⟨s2,_,0,main,.inl rfl,i2.up (by omega),fun _=>⟨u2,w2,k1,k2,k3,k4⟩⟩
  ·rw [z,if_pos rfl,hd] at main
   have hn0:HasR (changeR s2.A (ItemItem.mk n.B ⟨#[]⟩ 0 0 false)) n.B noneI:=hasR_idle i2.okA.full.sorted (x:=ItemItem.mk n.B ⟨#[]⟩ 0 0 false) rfl
   have hvr:=chg_ver i2.okA (by omega) (ItemItem.mk n.B ⟨#[]⟩ 0 0 false)
   refine ⟨⟨changeR s2.A (ItemItem.mk n.B ⟨#[]⟩ 0 0 false),s2.B⟩,_,0,main,.inl rfl,⟨hch.ok,i2.okB,by show (changeR s2.A _).Ver≤_;rw [hvr];omega,by have:=i2.vb;show s2.B.Ver≤_;omega,?_,i2.ob,noneI,w2,hn0,k2,?_⟩,fun _=>⟨noneI,w2,hn0,k2,rfl,k4⟩⟩
   ·exact (oth_change i2.okA hch.ok).trans i2.oa
   ·rw [k4];kernel_rfl
theorem sees_no {n:Ref22Names} (hn:NamesOk n) {st:Ref22State} (ha:OkR st.A) (hb:OkR st.B) {x:ItemItem × Bool} (hx:HasR st.A n.B x) (h0:x.1.Sub=0):p_pair_Sees n st=some false:=by
 obtain ⟨x',f1,g1,_⟩:=findR ha n.B
 have e1:=hasR_uniq ha.full hx g1
 subst e1
 unfold p_pair_Sees p_pair_State_has
 rw [check_pr hn ha hb]
 simp only [Option.bind_some,beq_self_eq_true,cond_true,f1,h0]
 rfl
theorem ok0:OkR (RosterState.mk 0 0 [] []) :=
 ⟨⟨Nat.zero_le _,Nat.zero_le _,⟨by decide,by decide⟩,⟨by decide,by decide⟩,(by simp),(by simp),(by simp),.nil,.nil,(by simp),.nil,.nil,(by simp)⟩,⟨Nat.zero_le _,Nat.zero_le _,(by simp),(by simp)⟩⟩
theorem kind5 {K:Int} (h:0≤K) (h4:(Int.tmod K (5:Int) == (4:Int))=false):IntKind.wrap .u8 ((7:Int) + (Int.tmod K (5:Int)))=7∨IntKind.wrap .u8 ((7:Int) + (Int.tmod K (5:Int)))=8∨IntKind.wrap .u8 ((7:Int) + (Int.tmod K (5:Int)))=9∨IntKind.wrap .u8 ((7:Int) + (Int.tmod K (5:Int)))=10:=by
 have e:Int.tmod K 5=K % 5:=Int.tmod_eq_emod_of_nonneg h
 rw [e] at h4 ⊢
 have hr:K % 5=0∨K % 5=1∨K % 5=2∨K % 5=3∨K % 5=4:=by omega
 rcases hr with r | r | r | r | r <;> rw [r] at h4 ⊢
 ·exact .inl rfl
 ·exact .inr (.inl rfl)
 ·exact .inr (.inr (.inl rfl))
 ·exact .inr (.inr (.inr rfl))
 ·cases h4
abbrev namesAB:Ref22Names:=Ref22Names.mk (⟨#[97,110,110,64,120]⟩ : ByteArray) (⟨#[98,111,98,64,121]⟩ : ByteArray)
theorem namesAB_ok:NamesOk namesAB:=⟨by kernel_rfl,by kernel_rfl,by decide,by decide,by decide⟩
def p_act (x:PairAct) (m:Ref22Names) (z:Ref22State):Option (Bool ⊕ Ref22State) :=
 bif ((Int.tmod x.Kind (5:Int)) == (4:Int)) then
  (p_pair_Remove m z).bind fun v20 =>
  (p_pair_Turn m v20.1).bind fun v21 =>
  bif (v20.2.2 == (0:Int)) then
   (p_pair_Sees m v20.1).bind fun v23 =>
   bif v23 then some (.inl false) else
   (p_pair_Sees v21.1 v21.2).bind fun v25 =>
   bif v25 then some (.inl false) else
   bif (v20.2.2 != (0:Int)) then (bif (v20.2.2 != (6:Int)) then some (.inl false) else some (.inr v20.1)) else some (.inr v20.1)
  else
  bif (v20.2.2 != (0:Int)) then (bif (v20.2.2 != (6:Int)) then some (.inl false) else some (.inr v20.1)) else some (.inr v20.1)
 else
 (p_pair_Say m z (IntKind.wrap .u8 ((7:Int) + (Int.tmod x.Kind (5:Int))))).bind fun v32 =>
 bif (v32.2.2 != (0:Int)) then some (.inl false) else
 bif v32.2.1.Told then (bif v32.2.1.Passed then some (.inr v32.1) else some (.inl false)) else
 bif v32.2.1.Passed then some (.inr v32.1) else
 bif v32.2.1.Knows then some (.inl false) else
 bif v32.2.1.Listed then some (.inl false) else
 some (.inr v32.1)
theorem act_ok {x:PairAct} (hK:0≤x.Kind) {m:Ref22Names} (hm:NamesOk m) {v:Int} (hv:v + 3 < 1099511627776) {z:Ref22State} (hz:InvP m 0 0 v z):∃ z',InvP m 0 0 (v + 3) z'∧p_act x m z=some (.inr z'):=by
 unfold p_act
 cases h4:(Int.tmod x.Kind (5:Int) == (4:Int)) with
 | true =>
  obtain ⟨z',t,e,e1,e2,e3,e4⟩:=remove_ok hm (by omega) (by omega) hv hz
  refine ⟨z',e3,?_⟩
  rw [e1]
  simp only [Option.bind_some,cond_true,turn_pp]
  rcases e2 with rfl | rfl
  ·obtain ⟨xa,xb,j1,j2,j3,j4⟩:=e4 rfl
   rw [sees_no hm e3.okA e3.okB j1 j3,sees_no hm.turn (st:=⟨z'.B,z'.A⟩) e3.okB e3.okA j2 j4];rfl
  ·rfl
 | false =>
  obtain ⟨z',d,e1,e2,e3,e4⟩:=say_ok hm (by omega) (by omega) (by omega) hz (kind5 hK h4)
  refine ⟨z',e2.up (by omega),?_⟩
  rw [e1]
  simp only [Option.bind_some,cond_false,bne_self_eq_false]
  cases hp:d.Passed with
  | true=>cases d.Told <;> rfl
  | false =>
   obtain ⟨q1,q2⟩:=e4 hp
   have:d.Told=false:=by cases ht:d.Told with
    | false=>rfl
    | true=>rw [e3 ht] at hp;cases hp
   rw [this,q1,q2];rfl
theorem agree_l {acts:List PairAct} (hl:acts.length≤60) (ha:∀ x ∈ acts,0≤x.Kind):∀ (n k F:Nat) (st:Ref22State),k + n=acts.length→n < F→InvP namesAB 0 0 (3 * k) st→∃ st',p_law22_PairAgree_l1 acts namesAB F (k:Int) st=some (.inr ((acts.length:Int),st'))
 | 0,k,F + 1,st,hk,hF,h=>⟨st,by
  rw [p_law22_PairAgree_l1,lt_ff (by omega),show k=acts.length by omega];rfl⟩
 | n + 1,k,F + 1,st,hk,hF,h=>by
  have hlt:k < acts.length:=by omega
  have hK:=ha _ (List.getElem_mem hlt)
  have main:∃ st2,InvP namesAB 0 0 (3 * (k + 1:Nat)) st2∧p_law22_PairAgree_l1 acts namesAB (F + 1) (k:Int) st=p_law22_PairAgree_l1 acts namesAB F ((k + 1:Nat):Int) st2:=by
   rw [p_law22_PairAgree_l1,lt_tt hlt,cond_true,at_lt hlt]
   simp only [Option.bind_some]
   cases hb:acts[k].Back with
   | false =>
    obtain ⟨z',h1,h2⟩:=act_ok hK namesAB_ok (by omega) h
    have h1:=h1.up (v':=3 * (k + 1:Nat)) (by omega)
    refine ⟨z',h1,?_⟩
    simp only [cond_false,Option.bind_some]
    change Option.bind (p_act acts[k] namesAB st) _=_
    rw [h2]
    simp only [Option.bind_some]
    rw [agree_pr namesAB_ok h1,check_pr namesAB_ok h1.okA h1.okB,w64_succ (by omega),eqT_refl,eqT_refl]
    rfl
   | true =>
    obtain ⟨z',h1,h2⟩:=act_ok hK namesAB_ok.turn (by omega) h.turn
    have h1:=h1.turn.up (v':=3 * (k + 1:Nat)) (by omega)
    refine ⟨⟨z'.B,z'.A⟩,h1,?_⟩
    simp only [cond_true,Option.bind_some,turn_pp]
    change Option.bind (p_act acts[k] ⟨namesAB.B,namesAB.A⟩ ⟨st.B,st.A⟩) _=_
    rw [h2]
    simp only [Option.bind_some,turn_pp]
    have a1:=agree_pr namesAB_ok h1
    have a2:=check_pr namesAB_ok h1.okA h1.okB
    rw [a1,a2,w64_succ (by omega),eqT_refl,eqT_refl]
    rfl
  obtain ⟨st2,h1,e⟩:=main
  rw [e]
  exact agree_l hl ha n (k + 1) F st2 (by omega) (by omega) h1
theorem pairAgree_pure (haw:p_law22_awake=some true) (l:List PairAct) (hl:∀ x ∈ l,0≤x.Kind):p_law22_PairAgree l=some true:=by
 unfold p_law22_PairAgree
 by_cases h:(60:Int) < (l.length:Int)
 ·rw [decide_eq_true h,haw];rfl
 rw [decide_eq_false h,cond_false]
 have h0:InvP namesAB 0 0 (3 * (0:Nat)) (Ref22State.mk (RosterState.mk 0 0 [] []) (RosterState.mk 0 0 [] [])):=⟨ok0,ok0,by decide,by decide,rfl,rfl,noneI,noneI,.inr ⟨rfl,by simp⟩,.inr ⟨rfl,by simp⟩,by kernel_rfl⟩
 obtain ⟨st',e⟩:=agree_l (by omega) hl l.length 0 fuel _ (by omega) (by have:=fuel_pos;omega) h0
 have e' : p_law22_PairAgree_l1 l namesAB fuel (0:Int) (Ref22State.mk (RosterState.mk 0 0 [] []) (RosterState.mk 0 0 [] []))=_:=e
 rw [e',haw];rfl
end Go.Proofs.Ytmmmcpeickfolaa

namespace Go.Proofs.Ytmmmcpeickfolaa
open Go.RowKit
set_option maxRecDepth 100000
set_option maxHeartbeats 4000000
def gc19:BCode:=(.seq (R_ 0 [O_ 2 (.mv (i_ 0)) 0]) (.seq (.block 0 (.seq (.seq (R_ 0 [O_ 4 (.mv (t_ 0)) 0,O_ 5 (.bin .lss (t_ 4) (i_ 0)) 0,O_ 3 (.mv (t_ 5)) 0]) (.cond (t_ 3) .skip (R_ 0 [O_ 6 (.mv (t_ 0)) 0,O_ 7 (.bin .gtr (t_ 6) (i_ 15)) 0,O_ 3 (.mv (t_ 7)) 0]))) (.cond (t_ 3) (.seq (R_ 0 [O_ 2 (.mv (i_ 8)) 0]) .ret) (.seq (.seq (R_ 0 [O_ 9 (.mv (t_ 0)) 0,O_ 10 (.bin .and (t_ 9) (i_ 5)) 0,O_ 11 (.bin .eql (t_ 10) (i_ 5)) 0,O_ 8 (.mv (t_ 11)) 0]) (.cond (t_ 8) .skip (R_ 0 [O_ 12 (.mv (t_ 0)) 0,O_ 13 (.bin .and (t_ 12) (i_ 10)) 0,O_ 14 (.bin .eql (t_ 13) (i_ 10)) 0,O_ 8 (.mv (t_ 14)) 0]))) (.cond (t_ 8) (.seq (R_ 0 [O_ 2 (.mv (i_ 4)) 0]) .ret) .skip))))) (.seq (R_ 0 [O_ 2 (.mv (i_ 0)) 0]) .ret)))
theorem gc19_ok:compF Try.prog Try.f19=some (gc19.er,15,[.tmp 2]):=by unfold gc19;kernel_rfl
theorem p_subs_Check_v (a0:Int):CallsO Try.prog 19 [.i a0] V.i (p_subs_Check a0):=by
 refine callsO_comp mix Try.func19 gc19_ok fun r H=>?_
 rw [p_subs_Check] at H
 conv=>whnf
 refine tst_c H (fun b1 H=>?_) (fun b1 H=>?_)
 ·conv=>whnf
  refine Tst.T ?_;conv=>whnf
  exact fi_ H
 conv=>whnf
 refine tst_c H (fun b2 H=>?_) (fun b2 H=>?_)
 ·conv=>whnf
  exact fi_ H
 conv=>whnf
 refine tst_c H (fun b3 H=>?_) (fun b3 H=>?_)
 ·conv=>whnf
  refine Tst.T ?_;conv=>whnf
  exact fi_ H
 conv=>whnf
 refine tst_c H (fun b4 H=>?_) (fun b4 H=>?_)
 ·conv=>whnf
  exact fi_ H
 conv=>whnf
 exact fi_ H
def gc87:BCode:=(.seq (R_ 1 [O_ 1 (.bx (t_ 0)) 0,O_ 2 (.mv (i_ 0)) 1]) (.seq (.seq (R_ 0 [O_ 4 (.fa 0 (t_ 1)) 0,O_ 5 (.ld 1 false (t_ 4)) 0,O_ 6 (.cl 40 [(t_ 5)]) 0,O_ 7 (.un .not (t_ 6)) 0]) (.cond (t_ 7) (.seq (R_ 0 [O_ 2 (.mv (i_ 11)) 0]) .ret) .skip)) (.seq (.seq (R_ 0 [O_ 8 (.fa 1 (t_ 1)) 0,O_ 9 (.ld 1 false (t_ 8)) 0,O_ 10 (.lent (t_ 9)) 0,O_ 11 (.bin .gtr (t_ 10) (i_ 24)) 0]) (.cond (t_ 11) (.seq (R_ 0 [O_ 2 (.mv (i_ 5)) 0]) .ret) .skip)) (.seq (.seq (R_ 0 [O_ 12 (.fa 1 (t_ 1)) 0,O_ 13 (.ld 1 false (t_ 12)) 0,O_ 14 (.cl 39 [(t_ 13)]) 0,O_ 15 (.un .not (t_ 14)) 0]) (.cond (t_ 15) (.seq (R_ 0 [O_ 2 (.mv (i_ 11)) 0]) .ret) .skip)) (.seq (.seq (R_ 0 [O_ 16 (.fa 2 (t_ 1)) 0,O_ 17 (.ld 1 false (t_ 16)) 0,O_ 18 (.cl 19 [(t_ 17)]) 0,O_ 3 (.mv (t_ 18)) 0]) (.seq (R_ 0 [O_ 19 (.mv (t_ 3)) 0,O_ 20 (.bin .neq (t_ 19) (i_ 0)) 0]) (.cond (t_ 20) (.seq (R_ 0 [O_ 21 (.mv (t_ 3)) 0,O_ 2 (.mv (t_ 21)) 0]) .ret) .skip))) (.seq (.seq (R_ 0 [O_ 22 (.fa 3 (t_ 1)) 0,O_ 23 (.ld 1 false (t_ 22)) 0,O_ 24 (.bin .lss (t_ 23) (i_ 0)) 0,O_ 25 (.mv (t_ 24)) 0,⟨(some 26),.fa 3 (t_ 1),(some (25,false)),0⟩,⟨(some 27),.ld 1 false (t_ 26),(some (25,false)),0⟩,⟨(some 28),.bin .gtr (t_ 27) (i_ 1099511627776),(some (25,false)),0⟩,O_ 29 (.pick (t_ 25) (b_ true) (t_ 28)) 0]) (.cond (t_ 29) (.seq (R_ 0 [O_ 2 (.mv (i_ 8)) 0]) .ret) .skip)) (.seq (.seq (R_ 0 [O_ 30 (.fa 1 (t_ 1)) 0,O_ 31 (.ld 1 false (t_ 30)) 0,O_ 32 (.bin .neq (t_ 31) (.const (.string ⟨#[]⟩))) 0,O_ 33 (.mv (t_ 32)) 0,⟨(some 34),.fa 4 (t_ 1),(some (33,true)),0⟩,⟨(some 35),.ld 1 false (t_ 34),(some (33,true)),0⟩,⟨(some 36),.un .not (t_ 35),(some (33,true)),0⟩,O_ 37 (.pick (t_ 33) (t_ 36) (b_ false)) 0]) (.cond (t_ 37) (.seq (R_ 0 [O_ 2 (.mv (i_ 4)) 0]) .ret) .skip)) (.seq (R_ 0 [O_ 2 (.mv (i_ 0)) 0]) .ret))))))))
theorem gc87_ok:compF Try.prog Try.f87=some (gc87.er,38,[.tmp 2]):=by unfold gc87;kernel_rfl
theorem p_item_Check_v (a0:ItemItem):CallsO Try.prog 87 [.agg [.s a0.Contact,.s a0.Name,.i a0.Sub,.i a0.Ver,.b a0.Own]] V.i (p_item_Check a0):=by
 refine callsO_comp mix Try.func87 gc87_ok fun r H=>?_
 rw [p_item_Check] at H
 conv=>whnf
 refine ask_c (p_addr_IsBare_v _) H rfl rfl (fun v1 H=>?_);conv=>whnf
 refine Tst.not ?_
 refine tst_d H (fun b2 H=>?_) (fun b2 H=>?_)
 ·conv=>whnf
  exact fi_ H
 conv=>whnf
 refine tst_c H (fun b3 H=>?_) (fun b3 H=>?_)
 ·conv=>whnf
  exact fi_ H
 conv=>whnf
 refine ask_c (p_utf_Plain_v _) H rfl rfl (fun v4 H=>?_);conv=>whnf
 refine Tst.not ?_
 refine tst_d H (fun b5 H=>?_) (fun b5 H=>?_)
 ·conv=>whnf
  exact fi_ H
 conv=>whnf
 refine ask_c (p_subs_Check_v _) H rfl rfl (fun v6 H=>?_);conv=>whnf
 refine tst_c H (fun b7 H=>?_) (fun b7 H=>?_)
 ·conv=>whnf
  exact fi_ H
 conv=>whnf
 refine tst_c H (fun b8 H=>?_) (fun b8 H=>?_)
 ·conv=>whnf
  iterate 4 (refine Tst.T ?_;conv=>whnf)
  exact fi_ H
 conv=>whnf
 iterate 3 (refine Tst.F ?_;conv=>whnf)
 refine tst_c H (fun b9 H=>?_) (fun b9 H=>?_)
 ·conv=>whnf
  exact fi_ H
 conv=>whnf
 refine Tst.not ?_
 refine tst_c H (fun b10 H=>?_) (fun b10 H=>?_)
 ·conv=>whnf
  iterate 4 (refine Tst.F ?_;conv=>whnf)
  exact fi_ H
 conv=>whnf
 iterate 3 (refine Tst.T ?_;conv=>whnf)
 refine Tst.not ?_
 refine tst_c H (fun b11 H=>?_) (fun b11 H=>?_)
 ·conv=>whnf
  exact fi_ H
 conv=>whnf
 exact fi_ H
def gc100:BCode:=(.seq (R_ 1 [O_ 1 (.bx (t_ 0)) 0,O_ 2 (.mv (b_ false)) 1]) (.seq (R_ 0 [O_ 3 (.fa 2 (t_ 1)) 0,O_ 4 (.ld 1 false (t_ 3)) 0,O_ 5 (.bin .eql (t_ 4) (i_ 0)) 0,O_ 6 (.mv (t_ 5)) 0,⟨(some 7),.fa 4 (t_ 1),(some (6,true)),0⟩,⟨(some 8),.ld 1 false (t_ 7),(some (6,true)),0⟩,⟨(some 9),.un .not (t_ 8),(some (6,true)),0⟩,O_ 10 (.pick (t_ 6) (t_ 9) (b_ false)) 0,O_ 2 (.mv (t_ 10)) 0]) .ret))
theorem gc100_ok:compF Try.prog Try.f100=some (gc100.er,11,[.tmp 2]):=by unfold gc100;kernel_rfl
theorem p_item_Idle_v (a0:ItemItem):CallsO Try.prog 100 [.agg [.s a0.Contact,.s a0.Name,.i a0.Sub,.i a0.Ver,.b a0.Own]] V.b (p_item_Idle a0):=by
 refine callsO_comp mix Try.func100 gc100_ok fun r H=>?_
 rw [p_item_Idle] at H
 conv=>whnf
 refine tst_c H (fun b1 H=>?_) (fun b1 H=>?_)
 ·conv=>whnf
  iterate 3 (refine Tst.T ?_;conv=>whnf)
  exact fb_ H
 conv=>whnf
 iterate 3 (refine Tst.F ?_;conv=>whnf)
 exact fb_ H
def gc109:BCode:=(.seq (R_ 1 [O_ 2 (.bx (t_ 0)) 0,O_ 4 (.mv (b_ false)) 1]) (.seq (R_ 0 [O_ 5 (.fa 2 (t_ 2)) 0,O_ 6 (.ld 1 false (t_ 5)) 0,O_ 7 (.cl 19 [(t_ 6)]) 0,O_ 8 (.bin .eql (t_ 7) (i_ 0)) 0,O_ 9 (.mv (t_ 8)) 0,⟨(some 10),.fa 2 (t_ 2),(some (9,true)),0⟩,⟨(some 11),.ld 1 false (t_ 10),(some (9,true)),0⟩,⟨(some 12),.mv (t_ 1),(some (9,true)),0⟩,⟨(some 13),.bin .and (t_ 11) (t_ 12),(some (9,true)),0⟩,⟨(some 14),.bin .neq (t_ 13) (i_ 0),(some (9,true)),0⟩,O_ 15 (.pick (t_ 9) (t_ 14) (b_ false)) 0,O_ 4 (.mv (t_ 15)) 0]) .ret))
theorem gc109_ok:compF Try.prog Try.f109=some (gc109.er,16,[.tmp 4]):=by unfold gc109;kernel_rfl
theorem p_item_Item_has_v (a0:ItemItem) (a1:Int):CallsO Try.prog 109 [.agg [.s a0.Contact,.s a0.Name,.i a0.Sub,.i a0.Ver,.b a0.Own],.i a1] V.b (p_item_Item_has a0 a1):=by
 refine callsO_comp mix Try.func109 gc109_ok fun r H=>?_
 rw [p_item_Item_has] at H
 conv=>whnf
 refine ask_c (p_subs_Check_v _) H rfl rfl (fun v1 H=>?_);conv=>whnf
 refine tst_c H (fun b2 H=>?_) (fun b2 H=>?_)
 ·conv=>whnf
  iterate 5 (refine Tst.T ?_;conv=>whnf)
  exact fb_ H
 conv=>whnf
 iterate 5 (refine Tst.F ?_;conv=>whnf)
 exact fb_ H
def gc90:BCode:=(.seq (R_ 1 [O_ 1 (.bx (t_ 0)) 0,O_ 2 (.mv (b_ false)) 1]) (.seq (R_ 0 [O_ 3 (.fa 4 (t_ 1)) 0,O_ 4 (.ld 1 false (t_ 3)) 0,O_ 5 (.mv (t_ 4)) 0,⟨(some 6),.ld 5 true (t_ 1),(some (5,false)),0⟩,⟨(some 7),.cl 109 [(t_ 6),(i_ 7)],(some (5,false)),0⟩,O_ 8 (.pick (t_ 5) (b_ true) (t_ 7)) 0,O_ 2 (.mv (t_ 8)) 0]) .ret))
theorem gc90_ok:compF Try.prog Try.f90=some (gc90.er,9,[.tmp 2]):=by unfold gc90;kernel_rfl
theorem p_item_Listed_v (a0:ItemItem):CallsO Try.prog 90 [.agg [.s a0.Contact,.s a0.Name,.i a0.Sub,.i a0.Ver,.b a0.Own]] V.b (p_item_Listed a0):=by
 refine callsO_comp mix Try.func90 gc90_ok fun r H=>?_
 rw [p_item_Listed] at H
 conv=>whnf
 refine tst_c H (fun b1 H=>?_) (fun b1 H=>?_)
 ·conv=>whnf
  iterate 2 (refine Tst.T ?_;conv=>whnf)
  exact fb_ H
 conv=>whnf
 refine Tst.F ?_;conv=>whnf
 refine ask_c (p_item_Item_has_v _ _) H rfl rfl (fun v2 H=>?_);conv=>whnf
 refine Tst.F ?_;conv=>whnf
 exact fb_ H
def gc110:BCode:=(.seq (R_ 0 [O_ 4 (.mv (i_ 0)) 0,O_ 5 (.mv (b_ false)) 0]) (.seq (R_ 0 [O_ 6 (.mv (t_ 0)) 0,O_ 7 (.mv (t_ 1)) 0,O_ 8 (.bin .andNot (t_ 6) (t_ 7)) 0,O_ 9 (.mv (t_ 0)) 0,O_ 10 (.mv (t_ 1)) 0,O_ 11 (.bin .and (t_ 9) (t_ 10)) 0,O_ 12 (.bin .neq (t_ 11) (i_ 0)) 0,O_ 4 (.mv (t_ 8)) 0,O_ 5 (.mv (t_ 12)) 0]) .ret))
theorem gc110_ok:compF Try.prog Try.f110=some (gc110.er,13,[.tmp 4,.tmp 5]):=by unfold gc110;kernel_rfl
theorem p_subs_lose_v (a0:Int) (a1:Int):CallsO Try.prog 110 [.i a0,.i a1] (fun r:Int × Bool=>.tup [V.i r.1,V.b r.2]) (p_subs_lose a0 a1):=by
 refine callsO_comp mix Try.func110 gc110_ok fun r H=>?_
 rw [p_subs_lose] at H
 conv=>whnf
 exact fq_ H
def gc111:BCode:=(.seq (R_ 0 [O_ 6 (.mv (i_ 0)) 0,O_ 7 (.mv (b_ false)) 0]) (.seq (.seq (R_ 0 [O_ 8 (.mv (t_ 0)) 0,O_ 9 (.mv (t_ 1)) 0,O_ 10 (.bin .and (t_ 8) (t_ 9)) 0,O_ 11 (.bin .eql (t_ 10) (i_ 0)) 0]) (.cond (t_ 11) (.seq (R_ 0 [O_ 12 (.mv (t_ 0)) 0,O_ 6 (.mv (t_ 12)) 0,O_ 7 (.mv (b_ false)) 0]) .ret) .skip)) (.seq (R_ 0 [O_ 13 (.mv (t_ 0)) 0,O_ 14 (.mv (t_ 1)) 0,O_ 15 (.bin .andNot (t_ 13) (t_ 14)) 0,O_ 16 (.mv (t_ 2)) 0,O_ 17 (.bin .or (t_ 15) (t_ 16)) 0,O_ 6 (.mv (t_ 17)) 0,O_ 7 (.mv (b_ true)) 0]) .ret)))
theorem gc111_ok:compF Try.prog Try.f111=some (gc111.er,18,[.tmp 6,.tmp 7]):=by unfold gc111;kernel_rfl
theorem p_subs_turn_v (a0:Int) (a1:Int) (a2:Int):CallsO Try.prog 111 [.i a0,.i a1,.i a2] (fun r:Int × Bool=>.tup [V.i r.1,V.b r.2]) (p_subs_turn a0 a1 a2):=by
 refine callsO_comp mix Try.func111 gc111_ok fun r H=>?_
 rw [p_subs_turn] at H
 conv=>whnf
 refine tst_c H (fun b1 H=>?_) (fun b1 H=>?_)
 ·conv=>whnf
  exact fq_ H
 conv=>whnf
 exact fq_ H
def gc66:BCode:=(.seq (R_ 0 [O_ 4 (.mv (i_ 0)) 0,O_ 5 (.mv (b_ false)) 0]) (.seq (.seq (R_ 0 [O_ 6 (.mv (t_ 0)) 0,O_ 7 (.cl 19 [(t_ 6)]) 0,O_ 8 (.bin .neq (t_ 7) (i_ 0)) 0]) (.cond (t_ 8) (.seq (R_ 0 [O_ 9 (.mv (t_ 0)) 0,O_ 4 (.mv (t_ 9)) 0,O_ 5 (.mv (b_ false)) 0]) .ret) .skip)) (.seq (.seq (R_ 0 [O_ 10 (.mv (t_ 1)) 0]) (.block 0 (.seq (R_ 0 [O_ 12 (.bin .eql (t_ 10) (.const (.int .u8 7))) 0,O_ 11 (.mv (t_ 12)) 0]) (.cond (t_ 11) (.seq (.seq (R_ 0 [O_ 13 (.mv (t_ 0)) 0,O_ 14 (.bin .and (t_ 13) (i_ 1)) 0,O_ 15 (.bin .neq (t_ 14) (i_ 0)) 0]) (.cond (t_ 15) (.seq (R_ 0 [O_ 16 (.mv (t_ 0)) 0,O_ 4 (.mv (t_ 16)) 0,O_ 5 (.mv (b_ false)) 0]) .ret) .skip)) (.seq (R_ 0 [O_ 17 (.mv (t_ 0)) 0,O_ 18 (.bin .or (t_ 17) (i_ 4)) 0,O_ 4 (.mv (t_ 18)) 0,O_ 5 (.mv (b_ true)) 0]) .ret)) (.seq (R_ 0 [O_ 20 (.bin .eql (t_ 10) (.const (.int .u8 10))) 0,O_ 19 (.mv (t_ 20)) 0]) (.cond (t_ 19) (.seq (R_ 0 [O_ 21 (.mv (t_ 0)) 0,O_ 22 (.cl 110 [(t_ 21),(i_ 5)]) 0,O_ 23 (.ex (t_ 22) 0) 0,O_ 24 (.ex (t_ 22) 1) 0,O_ 4 (.mv (t_ 23)) 0,O_ 5 (.mv (t_ 24)) 0]) .ret) (.seq (R_ 0 [O_ 26 (.bin .eql (t_ 10) (.const (.int .u8 8))) 0,O_ 25 (.mv (t_ 26)) 0]) (.cond (t_ 25) (.seq (R_ 0 [O_ 27 (.mv (t_ 0)) 0,O_ 28 (.cl 111 [(t_ 27),(i_ 8),(i_ 2)]) 0,O_ 29 (.ex (t_ 28) 0) 0,O_ 30 (.ex (t_ 28) 1) 0,O_ 4 (.mv (t_ 29)) 0,O_ 5 (.mv (t_ 30)) 0]) .ret) (.seq (R_ 0 [O_ 32 (.bin .eql (t_ 10) (.const (.int .u8 9))) 0,O_ 31 (.mv (t_ 32)) 0]) (.cond (t_ 31) (.seq (R_ 0 [O_ 33 (.mv (t_ 0)) 0,O_ 34 (.cl 110 [(t_ 33),(i_ 10)]) 0,O_ 35 (.ex (t_ 34) 0) 0,O_ 36 (.ex (t_ 34) 1) 0,O_ 4 (.mv (t_ 35)) 0,O_ 5 (.mv (t_ 36)) 0]) .ret) .skip)))))))))) (.seq (R_ 0 [O_ 37 (.mv (t_ 0)) 0,O_ 4 (.mv (t_ 37)) 0,O_ 5 (.mv (b_ false)) 0]) .ret))))
theorem gc66_ok:compF Try.prog Try.f66=some (gc66.er,38,[.tmp 4,.tmp 5]):=by unfold gc66;kernel_rfl
theorem p_subs_Out_v (a0:Int) (a1:Int):CallsO Try.prog 66 [.i a0,.y8 a1] (fun r:Int × Bool=>.tup [V.i r.1,V.b r.2]) (p_subs_Out a0 a1):=by
 refine callsO_comp mix Try.func66 gc66_ok fun r H=>?_
 rw [p_subs_Out] at H
 conv=>whnf
 refine ask_c (p_subs_Check_v _) H rfl rfl (fun v1 H=>?_);conv=>whnf
 refine tst_c H (fun b2 H=>?_) (fun b2 H=>?_)
 ·conv=>whnf
  exact fq_ H
 conv=>whnf
 refine tst_c H (fun b3 H=>?_) (fun b3 H=>?_)
 ·conv=>whnf
  refine tst_c H (fun b4 H=>?_) (fun b4 H=>?_)
  ·conv=>whnf
   exact fq_ H
  conv=>whnf
  exact fq_ H
 conv=>whnf
 refine tst_c H (fun b5 H=>?_) (fun b5 H=>?_)
 ·conv=>whnf
  refine ask_c (p_subs_lose_v _ _) H rfl rfl (fun v6 H=>?_);conv=>whnf
  exact fq_ H
 conv=>whnf
 refine tst_c H (fun b7 H=>?_) (fun b7 H=>?_)
 ·conv=>whnf
  refine ask_c (p_subs_turn_v _ _ _) H rfl rfl (fun v8 H=>?_);conv=>whnf
  exact fq_ H
 conv=>whnf
 refine tst_d H (fun b9 H=>?_) (fun b9 H=>?_)
 ·conv=>whnf
  exact fq_ H
 conv=>whnf
 refine ask_c (p_subs_lose_v _ _) H rfl rfl (fun v10 H=>?_);conv=>whnf
 exact fq_ H
def gc67:BCode:=(.seq (R_ 0 [O_ 4 (.mv (i_ 0)) 0,O_ 5 (.mv (b_ false)) 0]) (.seq (.seq (R_ 0 [O_ 6 (.mv (t_ 0)) 0,O_ 7 (.cl 19 [(t_ 6)]) 0,O_ 8 (.bin .neq (t_ 7) (i_ 0)) 0]) (.cond (t_ 8) (.seq (R_ 0 [O_ 9 (.mv (t_ 0)) 0,O_ 4 (.mv (t_ 9)) 0,O_ 5 (.mv (b_ false)) 0]) .ret) .skip)) (.seq (.seq (R_ 0 [O_ 10 (.mv (t_ 1)) 0]) (.block 0 (.seq (R_ 0 [O_ 12 (.bin .eql (t_ 10) (.const (.int .u8 7))) 0,O_ 11 (.mv (t_ 12)) 0]) (.cond (t_ 11) (.seq (.seq (R_ 0 [O_ 13 (.mv (t_ 0)) 0,O_ 14 (.bin .and (t_ 13) (i_ 10)) 0,O_ 15 (.bin .neq (t_ 14) (i_ 0)) 0]) (.cond (t_ 15) (.seq (R_ 0 [O_ 16 (.mv (t_ 0)) 0,O_ 4 (.mv (t_ 16)) 0,O_ 5 (.mv (b_ false)) 0]) .ret) .skip)) (.seq (R_ 0 [O_ 17 (.mv (t_ 0)) 0,O_ 18 (.bin .or (t_ 17) (i_ 8)) 0,O_ 4 (.mv (t_ 18)) 0,O_ 5 (.mv (b_ true)) 0]) .ret)) (.seq (R_ 0 [O_ 20 (.bin .eql (t_ 10) (.const (.int .u8 10))) 0,O_ 19 (.mv (t_ 20)) 0]) (.cond (t_ 19) (.seq (R_ 0 [O_ 21 (.mv (t_ 0)) 0,O_ 22 (.cl 110 [(t_ 21),(i_ 10)]) 0,O_ 23 (.ex (t_ 22) 0) 0,O_ 24 (.ex (t_ 22) 1) 0,O_ 4 (.mv (t_ 23)) 0,O_ 5 (.mv (t_ 24)) 0]) .ret) (.seq (R_ 0 [O_ 26 (.bin .eql (t_ 10) (.const (.int .u8 8))) 0,O_ 25 (.mv (t_ 26)) 0]) (.cond (t_ 25) (.seq (R_ 0 [O_ 27 (.mv (t_ 0)) 0,O_ 28 (.cl 111 [(t_ 27),(i_ 4),(i_ 1)]) 0,O_ 29 (.ex (t_ 28) 0) 0,O_ 30 (.ex (t_ 28) 1) 0,O_ 4 (.mv (t_ 29)) 0,O_ 5 (.mv (t_ 30)) 0]) .ret) (.seq (R_ 0 [O_ 32 (.bin .eql (t_ 10) (.const (.int .u8 9))) 0,O_ 31 (.mv (t_ 32)) 0]) (.cond (t_ 31) (.seq (R_ 0 [O_ 33 (.mv (t_ 0)) 0,O_ 34 (.cl 110 [(t_ 33),(i_ 5)]) 0,O_ 35 (.ex (t_ 34) 0) 0,O_ 36 (.ex (t_ 34) 1) 0,O_ 4 (.mv (t_ 35)) 0,O_ 5 (.mv (t_ 36)) 0]) .ret) .skip)))))))))) (.seq (R_ 0 [O_ 37 (.mv (t_ 0)) 0,O_ 4 (.mv (t_ 37)) 0,O_ 5 (.mv (b_ false)) 0]) .ret))))
theorem gc67_ok:compF Try.prog Try.f67=some (gc67.er,38,[.tmp 4,.tmp 5]):=by unfold gc67;kernel_rfl
theorem p_subs_In_v (a0:Int) (a1:Int):CallsO Try.prog 67 [.i a0,.y8 a1] (fun r:Int × Bool=>.tup [V.i r.1,V.b r.2]) (p_subs_In a0 a1):=by
 refine callsO_comp mix Try.func67 gc67_ok fun r H=>?_
 rw [p_subs_In] at H
 conv=>whnf
 refine ask_c (p_subs_Check_v _) H rfl rfl (fun v1 H=>?_);conv=>whnf
 refine tst_c H (fun b2 H=>?_) (fun b2 H=>?_)
 ·conv=>whnf
  exact fq_ H
 conv=>whnf
 refine tst_c H (fun b3 H=>?_) (fun b3 H=>?_)
 ·conv=>whnf
  refine tst_c H (fun b4 H=>?_) (fun b4 H=>?_)
  ·conv=>whnf
   exact fq_ H
  conv=>whnf
  exact fq_ H
 conv=>whnf
 refine tst_c H (fun b5 H=>?_) (fun b5 H=>?_)
 ·conv=>whnf
  refine ask_c (p_subs_lose_v _ _) H rfl rfl (fun v6 H=>?_);conv=>whnf
  exact fq_ H
 conv=>whnf
 refine tst_c H (fun b7 H=>?_) (fun b7 H=>?_)
 ·conv=>whnf
  refine ask_c (p_subs_turn_v _ _ _) H rfl rfl (fun v8 H=>?_);conv=>whnf
  exact fq_ H
 conv=>whnf
 refine tst_d H (fun b9 H=>?_) (fun b9 H=>?_)
 ·conv=>whnf
  exact fq_ H
 conv=>whnf
 refine ask_c (p_subs_lose_v _ _) H rfl rfl (fun v10 H=>?_);conv=>whnf
 exact fq_ H
def gc112:BCode:=(.seq (R_ 0 [O_ 2 (.mv (i_ 0)) 0]) (.seq (.seq (R_ 0 [O_ 3 (.mv (t_ 0)) 0,O_ 4 (.cl 19 [(t_ 3)]) 0,O_ 5 (.bin .neq (t_ 4) (i_ 0)) 0]) (.cond (t_ 5) (.seq (R_ 0 [O_ 2 (.mv (i_ 0)) 0]) .ret) .skip)) (.seq (R_ 0 [O_ 6 (.mv (t_ 0)) 0,O_ 7 (.bin .and (t_ 6) (i_ 5)) 0,O_ 8 (.bin .shl (t_ 7) (.const (.int .u64 1))) 0,O_ 9 (.mv (t_ 0)) 0,O_ 10 (.bin .and (t_ 9) (i_ 10)) 0,O_ 11 (.bin .shr (t_ 10) (.const (.int .u64 1))) 0,O_ 12 (.bin .or (t_ 8) (t_ 11)) 0,O_ 2 (.mv (t_ 12)) 0]) .ret)))
theorem gc112_ok:compF Try.prog Try.f112=some (gc112.er,13,[.tmp 2]):=by unfold gc112;kernel_rfl
theorem p_subs_Mirror_v (a0:Int):CallsO Try.prog 112 [.i a0] V.i (p_subs_Mirror a0):=by
 refine callsO_comp mix Try.func112 gc112_ok fun r H=>?_
 rw [p_subs_Mirror] at H
 conv=>whnf
 refine ask_c (p_subs_Check_v _) H rfl rfl (fun v1 H=>?_);conv=>whnf
 refine tst_c H (fun b2 H=>?_) (fun b2 H=>?_)
 ·conv=>whnf
  exact fi_ H
 conv=>whnf
 refine Shl.ok (by decide) ?_;conv=>whnf
 refine Shr.ok (by decide) ?_;conv=>whnf
 exact fi_ H
end Go.Proofs.Ytmmmcpeickfolaa

namespace Go.Proofs.Ytmmmcpeickfolaa
open Go.RowKit
set_option maxRecDepth 100000
set_option maxHeartbeats 4000000
def gc91:BCode:=(.seq (R_ 1 [O_ 1 (.bx (t_ 0)) 0,O_ 2 (.mv (i_ 0)) 1]) (.seq (.seq (R_ 0 [O_ 6 (.fa 2 (t_ 1)) 0,O_ 7 (.ld 1 false (t_ 6)) 0,O_ 8 (.lens (t_ 7)) 0,O_ 9 (.mv (i_ 0)) 0]) (.block 0 (.loop (.seq (R_ 0 [O_ 10 (.bin .lss (t_ 9) (t_ 8)) 0]) (.seq (.cond (t_ 10) .skip (.exit 0)) (.seq (.block 1 (.seq (R_ 1 [O_ 11 (.ixs 5 (t_ 7) (t_ 9)) 0,O_ 12 (.ld 5 true (t_ 11)) 0,O_ 4 (.al (.agg [(.lit (.string ⟨#[]⟩)),(.lit (.string ⟨#[]⟩)),(.lit (.int .i64 0)),(.lit (.int .i64 0)),(.lit (.bool false))])) 0,U_ (.st 5 (t_ 4) (t_ 12)) 1]) (.seq (.seq (R_ 0 [O_ 13 (.ld 5 true (t_ 4)) 0,O_ 14 (.cl 87 [(t_ 13)]) 0,O_ 5 (.mv (t_ 14)) 0]) (.seq (R_ 0 [O_ 15 (.mv (t_ 5)) 0,O_ 16 (.bin .neq (t_ 15) (i_ 0)) 0]) (.cond (t_ 16) (.seq (R_ 0 [O_ 17 (.mv (t_ 5)) 0,O_ 2 (.mv (t_ 17)) 0]) .ret) .skip))) (.seq (R_ 0 [O_ 18 (.ld 5 true (t_ 4)) 0,O_ 19 (.cl 100 [(t_ 18)]) 0]) (.cond (t_ 19) (.seq (R_ 0 [O_ 2 (.mv (i_ 4)) 0]) .ret) .skip))))) (R_ 0 [O_ 20 (.bin .add (t_ 9) (i_ 1)) 0,O_ 9 (.mv (t_ 20)) 0]))))))) (.seq (R_ 0 [O_ 2 (.mv (i_ 0)) 0]) .ret)))
theorem gc91_ok:compF Try.prog Try.f91=some (gc91.er,21,[.tmp 2]):=by unfold gc91;kernel_rfl
theorem p_roster_State_errors_v {u1 u2:Bool} (a0:RosterState):CallsO Try.prog 91 [.agg [.i a0.Ver,.i a0.Floor,.sl (List.map ItemItem.v a0.Items) u1,.sl (List.map RosterGone.v a0.Gone) u2]] V.i (p_roster_State_errors a0):=by
 refine callsO_comp mix Try.func91 gc91_ok fun r H=>?_
 rw [p_roster_State_errors] at H
 conv=>whnf
 refine LenQ.M ?_;conv=>whnf
 obtain ⟨o2,HL3,HQ4⟩:=bind_c H
 refine loop_c [2,9] [4,5,10,11,12,13,14,15,16,17,18,19,20,1,6] [4,5,10,11,12,13,14,15,16,17,18,19,20,1,6] (fun n vals st=>(∃ y6,p_roster_State_errors_l1  a0.Items (a0.Items.length:Int) n y6=some o2∧vals=[.i (0:Int),.i y6]∧st=[])) fuel 0 [] (⟨_,HL3,rfl,rfl⟩) (Nat.zero_le _) rfl (by kernel_rfl) (by kernel_rfl) rfl trivial ?_
 rintro (_ | n5) _ _ (⟨y6,H,rfl,rfl⟩)
 ·rw [p_roster_State_errors_l1] at H;cases H
 rw [p_roster_State_errors_l1] at H
 conv=>whnf
 refine tst_d H (fun b7 H=>?_) (fun b7 H=>?_)
 ·conv=>whnf
  obtain rfl:=Option.some.inj H
  have H:=HQ4
  try dsimp only at H
  exact fi_ H
 conv=>whnf
 refine ixs_c (f:=ItemItem.v) H (fun _=>rfl) (fun x8 H=>?_);conv=>whnf
 refine lq_ ?_;conv=>whnf
 refine ask_c (p_item_Check_v _) H rfl rfl (fun v9 H=>?_);conv=>whnf
 refine tst_c H (fun b10 H=>?_) (fun b10 H=>?_)
 ·conv=>whnf
  obtain rfl:=Option.some.inj H
  have H:=HQ4
  try dsimp only at H
  exact fi_ H
 conv=>whnf
 refine ask_c (p_item_Idle_v _) H rfl rfl (fun v11 H=>?_);conv=>whnf
 refine tst_c H (fun b12 H=>?_) (fun b12 H=>?_)
 ·conv=>whnf
  obtain rfl:=Option.some.inj H
  have H:=HQ4
  try dsimp only at H
  exact fi_ H
 conv=>whnf
 refine Ari.w ?_;conv=>whnf
 exact again_c [4,5,10,11,12,13,14,15,16,17,18,19,20,1,6] n5 0 [] (⟨_,H,rfl,rfl⟩) (Nat.lt_succ_self _) (Nat.zero_le _) rfl (by kernel_rfl) (by kernel_rfl) rfl trivial
def gc93:BCode:=(.seq (R_ 1 [O_ 1 (.bx (t_ 0)) 0,O_ 2 (.mv (b_ false)) 1]) (.seq (R_ 0 [O_ 3 (.fa 0 (t_ 1)) 0,O_ 4 (.ld 1 false (t_ 3)) 0,O_ 5 (.cl 40 [(t_ 4)]) 0,O_ 6 (.un .not (t_ 5)) 0,O_ 2 (.mv (t_ 6)) 0]) .ret))
theorem gc93_ok:compF Try.prog Try.f93=some (gc93.er,7,[.tmp 2]):=by unfold gc93;kernel_rfl
theorem p_roster_Check_1_v (a0:RosterGone):CallsO Try.prog 93 [.agg [.s a0.Contact,.i a0.Ver]] V.b (p_roster_Check_1 a0):=by
 refine callsO_comp mix Try.func93 gc93_ok fun r H=>?_
 rw [p_roster_Check_1] at H
 conv=>whnf
 refine ask_c (p_addr_IsBare_v _) H rfl rfl (fun v1 H=>?_);conv=>whnf
 exact fb_ H
def gc92:BCode:=(.seq (R_ 0 [O_ 4 (.mv (b_ false)) 0]) (.seq (R_ 0 [O_ 5 (.mv (t_ 0)) 0,O_ 6 (.mv (t_ 1)) 0,O_ 7 (.cl 127 [(t_ 5),(t_ 6)]) 0,O_ 8 (.bin .geq (t_ 7) (i_ 0)) 0,O_ 4 (.mv (t_ 8)) 0]) .ret))
theorem gc92_ok:compF Try.prog Try.f92=some (gc92.er,9,[.tmp 4]):=by unfold gc92;kernel_rfl
theorem p_slices_ContainsFunc_roster_Gone_v {u1:Bool} (a0:List RosterGone) (a1:RosterGone→Option Bool) {a1_g:Nat} {a1_k:List V} (a1_h:Clo1 Try.prog a1_g a1_k RosterGone.v V.b a1):CallsO Try.prog 92 [.sl (List.map RosterGone.v a0) u1,.clo (.func a1_g) a1_k] V.b (p_slices_ContainsFunc_roster_Gone a0 a1):=by
 refine callsO_comp mix Try.func92 gc92_ok fun r H=>?_
 rw [p_slices_ContainsFunc_roster_Gone] at H
 conv=>whnf
 refine askF_c (p_slices_IndexFunc_roster_Gone_v _ _ a1_h) H (.cons (.c (.slw)) (.cons (.c (.id a1_h.own)) (.nil))) (fun v1 H=>?_);conv=>whnf
 exact fb_ H
def gc141:BCode:=(.seq (R_ 1 [O_ 2 (.bx (t_ 0)) 0,O_ 3 (.mv (b_ false)) 1]) (.seq (R_ 0 [O_ 4 (.fa 3 (t_ 2)) 0,O_ 5 (.ld 1 false (t_ 4)) 0,O_ 6 (.ld 1 false (t_ 1)) 0,O_ 7 (.bin .eql (t_ 5) (t_ 6)) 0,O_ 3 (.mv (t_ 7)) 0]) .ret))
theorem gc141_ok:compF Try.prog Try.f141=some (gc141.er,8,[.tmp 3]):=by unfold gc141;kernel_rfl
theorem p_roster_State_of_1_v (a0:ItemItem) (c0:Int):CallsO Try.prog 141 [.agg [.s a0.Contact,.s a0.Name,.i a0.Sub,.i a0.Ver,.b a0.Own],.eptr [.i c0]] V.b (p_roster_State_of_1 a0 c0):=by
 refine callsO_comp mix Try.func141 gc141_ok fun r H=>?_
 rw [p_roster_State_of_1] at H
 conv=>whnf
 exact fb_ H
def gc140:BCode:=(.seq (R_ 0 [O_ 4 (.mv (i_ 0)) 0]) (.seq (.seq (R_ 0 [O_ 6 (.mv (t_ 0)) 0,O_ 7 (.lens (t_ 6)) 0,O_ 8 (.mv (i_ 0)) 0]) (.block 0 (.loop (.seq (R_ 0 [O_ 9 (.bin .lss (t_ 8) (t_ 7)) 0]) (.seq (.cond (t_ 9) .skip (.exit 0)) (.seq (.block 1 (.seq (R_ 0 [O_ 10 (.mv (t_ 8)) 0,O_ 5 (.mv (t_ 10)) 0]) (.seq (R_ 0 [O_ 11 (.mv (t_ 1)) 0,O_ 12 (.mv (t_ 0)) 0,O_ 13 (.mv (t_ 5)) 0,O_ 14 (.ixs 5 (t_ 12) (t_ 13)) 0,O_ 15 (.ld 5 true (t_ 14)) 0,O_ 16 (.cv (t_ 11) [(t_ 15)]) 0]) (.cond (t_ 16) (.seq (R_ 0 [O_ 17 (.mv (t_ 5)) 0,O_ 4 (.mv (t_ 17)) 0]) .ret) .skip)))) (R_ 0 [O_ 18 (.bin .add (t_ 8) (i_ 1)) 0,O_ 8 (.mv (t_ 18)) 0]))))))) (.seq (R_ 0 [O_ 4 (.mv (.const (.int .i64 (-1)))) 0]) .ret)))
theorem gc140_ok:compF Try.prog Try.f140=some (gc140.er,19,[.tmp 4]):=by unfold gc140;kernel_rfl
theorem p_slices_IndexFunc_item_Item_v {u1:Bool} (a0:List ItemItem) (a1:ItemItem→Option Bool) {a1_g:Nat} {a1_k:List V} (a1_h:Clo1 Try.prog a1_g a1_k ItemItem.v V.b a1):CallsO Try.prog 140 [.sl (List.map ItemItem.v a0) u1,.clo (.func a1_g) a1_k] V.i (p_slices_IndexFunc_item_Item a0 a1):=by
 refine callsO_comp mix Try.func140 gc140_ok fun r H=>?_
 rw [p_slices_IndexFunc_item_Item] at H
 conv=>whnf
 refine LenQ.M ?_;conv=>whnf
 obtain ⟨o2,HL3,HQ4⟩:=bind_c H
 refine loop_c [4,8] [5,9,10,11,12,13,14,15,16,17,18] [5,9,10,11,12,13,14,15,16,17,18] (fun n vals st=>(∃ y6,p_slices_IndexFunc_item_Item_l1  a1 a0 (a0.length:Int) n y6=some o2∧vals=[.i (0:Int),.i y6]∧st=[])) fuel 0 [] (⟨_,HL3,rfl,rfl⟩) (Nat.zero_le _) rfl (by simp only [maskF,setF,List.set_cons_zero,List.set_cons_succ,V.ren.renL,V.ren,renL_id _ a1_h.own] <;> rfl) (by simp only [maskF,setF,List.set_cons_zero,List.set_cons_succ,V.idlt.belowL,V.idlt,fun n=>idltL_up (n:=n) _ a1_h.own] <;> rfl) rfl trivial ?_
 rintro (_ | n5) _ _ (⟨y6,H,rfl,rfl⟩)
 ·rw [p_slices_IndexFunc_item_Item_l1] at H;cases H
 rw [p_slices_IndexFunc_item_Item_l1] at H
 conv=>whnf
 refine tst_d H (fun b7 H=>?_) (fun b7 H=>?_)
 ·conv=>whnf
  obtain rfl:=Option.some.inj H
  have H:=HQ4
  try dsimp only at H
  exact fi_ H
 conv=>whnf
 refine ixs_c (f:=ItemItem.v) H (fun _=>rfl) (fun x8 H=>?_);conv=>whnf
 refine askC_c a1_h H (.cons (fzagg (.cons (.id rfl) (.cons (.id rfl) (.cons (.id rfl) (.cons (.id rfl) (.cons (.id rfl) (.nil)))))) rfl) (.nil)) (fun v9 H=>?_);conv=>whnf
 refine tst_c H (fun b10 H=>?_) (fun b10 H=>?_)
 ·conv=>whnf
  obtain rfl:=Option.some.inj H
  have H:=HQ4
  try dsimp only at H
  exact fi_ H
 conv=>whnf
 refine Ari.w ?_;conv=>whnf
 exact again_c [5,9,10,11,12,13,14,15,16,17,18] n5 0 [] (⟨_,H,rfl,rfl⟩) (Nat.lt_succ_self _) (Nat.zero_le _) rfl (by simp only [maskF,setF,List.set_cons_zero,List.set_cons_succ,V.ren.renL,V.ren,renL_id _ a1_h.own] <;> rfl) (by simp only [maskF,setF,List.set_cons_zero,List.set_cons_succ,V.idlt.belowL,V.idlt,fun n=>idltL_up (n:=n) _ a1_h.own] <;> rfl) rfl trivial
def gc128:BCode:=(.seq (R_ 2 [O_ 2 (.bx (t_ 0)) 0,O_ 3 (.bx (t_ 1)) 1,O_ 4 (.mv (i_ 0)) 2]) (.seq (.reg 0 [O_ 5 (.fa 2 (t_ 2)) 0,O_ 6 (.ld 1 false (t_ 5)) 0,O_ 7 (.mf (.func 141) [(t_ 3)]) 0,O_ 8 (.cl 140 [(t_ 6),(t_ 7)]) 0,O_ 4 (.mv (t_ 8)) 0] none 0 [3]) .ret))
theorem gc128_ok:compF Try.prog Try.f128=some (gc128.er,9,[.tmp 4]):=by unfold gc128;kernel_rfl
theorem p_roster_State_of_v {u1 u2:Bool} (a0:RosterState) (a1:Int):CallsO Try.prog 128 [.agg [.i a0.Ver,.i a0.Floor,.sl (List.map ItemItem.v a0.Items) u1,.sl (List.map RosterGone.v a0.Gone) u2],.i a1] V.i (p_roster_State_of a0 a1):=by
 refine callsO_comp mix Try.func128 gc128_ok fun r H=>?_
 rw [p_roster_State_of] at H
 conv=>whnf
 refine ⟨Nat.zero_le _,?_⟩;conv=>whnf
 refine askF_c (p_slices_IndexFunc_item_Item_v _ _ ⟨⟨_,Try.func141,by kernel_rfl,by kernel_rfl⟩,rfl,fun x0=>p_roster_State_of_1_v _ _⟩) H (.cons (.c (.slw)) (.cons (.c (.clo (.cons (.ptr rfl (Nat.le_of_ble_eq_true rfl) (.cons (.id rfl) (.nil))) (.nil)))) (.nil))) (fun v1 H=>?_);conv=>whnf
 exact fi_ H
def gc94:BCode:=(.seq (R_ 1 [O_ 1 (.bx (t_ 0)) 0,O_ 2 (.mv (b_ false)) 1]) (.seq (.seq (R_ 0 [O_ 5 (.fa 2 (t_ 1)) 0,O_ 6 (.ld 1 false (t_ 5)) 0,O_ 7 (.lens (t_ 6)) 0,O_ 8 (.mv (i_ 0)) 0]) (.block 0 (.loop (.seq (R_ 0 [O_ 9 (.bin .lss (t_ 8) (t_ 7)) 0]) (.seq (.cond (t_ 9) .skip (.exit 0)) (.seq (.block 1 (.seq (R_ 1 [O_ 10 (.mv (t_ 8)) 0,O_ 11 (.ixs 5 (t_ 6) (t_ 8)) 0,O_ 12 (.ld 5 true (t_ 11)) 0,O_ 4 (.al (.agg [(.lit (.string ⟨#[]⟩)),(.lit (.string ⟨#[]⟩)),(.lit (.int .i64 0)),(.lit (.int .i64 0)),(.lit (.bool false))])) 0,O_ 3 (.mv (t_ 10)) 1,U_ (.st 5 (t_ 4) (t_ 12)) 1]) (.seq (.reg 0 [O_ 13 (.fa 3 (t_ 4)) 0,O_ 14 (.ld 1 false (t_ 13)) 0,O_ 15 (.bin .lss (t_ 14) (i_ 1)) 0,O_ 16 (.mv (t_ 15)) 0,⟨(some 17),.fa 3 (t_ 4),(some (16,false)),0⟩,⟨(some 18),.ld 1 false (t_ 17),(some (16,false)),0⟩,⟨(some 19),.fa 0 (t_ 1),(some (16,false)),0⟩,⟨(some 20),.ld 1 false (t_ 19),(some (16,false)),0⟩,⟨(some 21),.bin .gtr (t_ 18) (t_ 20),(some (16,false)),0⟩,O_ 22 (.pick (t_ 16) (b_ true) (t_ 21)) 0,O_ 23 (.mv (t_ 22)) 0,⟨(some 24),.ld 4 true (t_ 1),(some (23,false)),0⟩,⟨(some 25),.fa 3 (t_ 4),(some (23,false)),0⟩,⟨(some 26),.ld 1 false (t_ 25),(some (23,false)),0⟩,⟨(some 27),.cl 128 [(t_ 24),(t_ 26)],(some (23,false)),0⟩,⟨(some 28),.mv (t_ 3),(some (23,false)),0⟩,⟨(some 29),.bin .neq (t_ 27) (t_ 28),(some (23,false)),0⟩,O_ 30 (.pick (t_ 23) (b_ true) (t_ 29)) 0,O_ 31 (.mv (t_ 30)) 0,⟨(some 32),.mv (t_ 3),(some (31,false)),0⟩,⟨(some 33),.bin .gtr (t_ 32) (i_ 0),(some (31,false)),0⟩,⟨(some 34),.mv (t_ 33),(some (31,false)),0⟩,⟨(some 35),.fa 2 (t_ 1),(some (34,true)),0⟩,⟨(some 36),.ld 1 false (t_ 35),(some (34,true)),0⟩,⟨(some 37),.mv (t_ 3),(some (34,true)),0⟩,⟨(some 38),.bin .sub (t_ 37) (i_ 1),(some (34,true)),0⟩,⟨(some 39),.ixs 5 (t_ 36) (t_ 38),(some (34,true)),0⟩,⟨(some 40),.fa 0 (t_ 39),(some (34,true)),0⟩,⟨(some 41),.ld 1 false (t_ 40),(some (34,true)),0⟩,⟨(some 42),.fa 0 (t_ 4),(some (34,true)),0⟩,⟨(some 43),.ld 1 false (t_ 42),(some (34,true)),0⟩,⟨(some 44),.bin .geq (t_ 41) (t_ 43),(some (34,true)),0⟩,⟨(some 45),.pick (t_ 34) (t_ 44) (b_ false),(some (31,false)),0⟩,O_ 46 (.pick (t_ 31) (b_ true) (t_ 45)) 0] (some [[],[0],[0,1],[1,0,2],[2,0,1,3],[3,1,0,2,4],[2,0,1,3],[3,1,0,2,6],[6,7,4,2,0,1,3,5],[5,4,7,6,8,2,0,1,3],[3,1,0,2,8,6,7,4,5,9],[9,5,4,7,6,8,2,0,1,3,10],[9,5,4,7,6,8,2,0,1,3,10],[10,3,1,0,2,8,6,7,4,5,9,12],[12,13,10,3,1,0,2,8,6,7,4,5,9,11],[9,5,4,7,6,8,2,0,1,3,10],[15,11,9,5,4,7,6,8,2,0,1,3,10,13,12,14],[14,12,13,11,15,16,9,5,4,7,6,8,2,0,1,3,10],[10,3,1,0,2,8,6,7,4,5,9,16,15,11,13,12,14,17],[17,14,12,13,11,15,16,9,5,4,7,6,8,2,0,1,3,10,18],[18,10,3,1,0,2,8,6,7,4,5,9,16,15,11,13,12,14,17,19],[19,17,14,12,13,11,15,16,9,5,4,7,6,8,2,0,1,3,10,18,20],[20,18,10,3,1,0,2,8,6,7,4,5,9,16,15,11,13,12,14,17,19,21],[21,19,17,14,12,13,11,15,16,9,5,4,7,6,8,2,0,1,3,10,18,20,22],[20,18,10,3,1,0,2,8,6,7,4,5,9,16,15,11,13,12,14,17,19,21],[21,19,17,14,12,13,11,15,16,9,5,4,7,6,8,2,0,1,3,10,18,20,24],[24,25,22,20,18,10,3,1,0,2,8,6,7,4,5,9,16,15,11,13,12,14,17,19,21,23],[23,21,19,17,14,12,13,11,15,16,9,5,4,7,6,8,2,0,1,3,10,18,20,22,25,24,26],[26,24,25,22,20,18,10,3,1,0,2,8,6,7,4,5,9,16,15,11,13,12,14,17,19,21,23,27],[20,18,10,3,1,0,2,8,6,7,4,5,9,16,15,11,13,12,14,17,19,21],[21,19,17,14,12,13,11,15,16,9,5,4,7,6,8,2,0,1,3,10,18,20,29],[29,30,27,23,21,19,17,14,12,13,11,15,16,9,5,4,7,6,8,2,0,1,3,10,18,20,22,25,24,26,28],[28,26,24,25,22,23,27,30,29,31,20,18,10,3,1,0,2,8,6,7,4,5,9,16,15,11,13,12,14,17,19,21],[21,19,20,31,29,30,27,23,22,25,24,26,28,32,17,14,12,13,11,15,16,9,5,4,7,6,8,2,0,1,3,10,18]]) 0 []) (.cond (t_ 46) (.seq (R_ 0 [O_ 2 (.mv (b_ false)) 0]) .ret) .skip)))) (R_ 0 [O_ 47 (.bin .add (t_ 8) (i_ 1)) 0,O_ 8 (.mv (t_ 47)) 0]))))))) (.seq (R_ 0 [O_ 2 (.mv (b_ true)) 0]) .ret)))
theorem gc94_ok:compF Try.prog Try.f94=some (gc94.er,48,[.tmp 2]):=by unfold gc94;kernel_rfl
theorem p_roster_State_rise_v {u1 u2:Bool} (a0:RosterState):CallsO Try.prog 94 [.agg [.i a0.Ver,.i a0.Floor,.sl (List.map ItemItem.v a0.Items) u1,.sl (List.map RosterGone.v a0.Gone) u2]] V.b (p_roster_State_rise a0):=by
 refine callsO_comp mix Try.func94 gc94_ok fun r H=>?_
 rw [p_roster_State_rise] at H
 conv=>whnf
 refine LenQ.M ?_;conv=>whnf
 obtain ⟨o2,HL3,HQ4⟩:=bind_c H
 refine loop_c [2,8] [3,4,9,10,11,12,13,14,15,16,17,18,19,20,21,22,23,24,25,26,27,28,29,30,31,32,33,34,35,36,37,38,39,40,41,42,43,44,45,46,47,5] [3,4,9,10,11,12,13,14,15,16,17,18,19,20,21,22,23,24,25,26,27,28,29,30,31,32,33,34,35,36,37,38,39,40,41,42,43,44,45,46,47,5] (fun n vals st=>(∃ y6,p_roster_State_rise_l1  a0.Items (a0.Items.length:Int) a0 n y6=some o2∧vals=[.b false,.i y6]∧st=[.live [.i a0.Ver,.i a0.Floor,.sl (List.map ItemItem.v a0.Items) u1,.sl (List.map RosterGone.v a0.Gone) u2] 0])) fuel 1 [] (⟨_,HL3,rfl,rfl⟩) (Nat.zero_le _) rfl (by kernel_rfl) (by kernel_rfl) rfl ⟨⟨rfl,rfl,rfl⟩,trivial⟩ ?_
 rintro (_ | n5) _ _ (⟨y6,H,rfl,rfl⟩)
 ·rw [p_roster_State_rise_l1] at H;cases H
 rw [p_roster_State_rise_l1] at H
 conv=>whnf
 refine tst_d H (fun b7 H=>?_) (fun b7 H=>?_)
 ·conv=>whnf
  obtain rfl:=Option.some.inj H
  have H:=HQ4
  try dsimp only at H
  exact fb_ H
 conv=>whnf
 refine ixs_c (f:=ItemItem.v) H (fun _=>rfl) (fun x8 H=>?_);conv=>whnf
 refine lq_ ?_;conv=>whnf
 refine tst_c H (fun b9 H=>?_) (fun b9 H=>?_)
 ·conv=>whnf
  iterate 17 (refine Tst.T ?_;conv=>whnf)
  refine FootQ.mk ⟨rfl,?_⟩;conv=>whnf
  refine Tst.T ?_;conv=>whnf
  obtain rfl:=Option.some.inj H
  have H:=HQ4
  try dsimp only at H
  exact fb_ H
 conv=>whnf
 iterate 5 (refine Tst.F ?_;conv=>whnf)
 refine tst_c H (fun b10 H=>?_) (fun b10 H=>?_)
 ·conv=>whnf
  iterate 11 (refine Tst.T ?_;conv=>whnf)
  refine FootQ.mk ⟨rfl,?_⟩;conv=>whnf
  refine Tst.T ?_;conv=>whnf
  obtain rfl:=Option.some.inj H
  have H:=HQ4
  try dsimp only at H
  exact fb_ H
 conv=>whnf
 iterate 3 (refine Tst.F ?_;conv=>whnf)
 refine ask_c (p_roster_State_of_v _ _) H rfl rfl (fun v11 H=>?_);conv=>whnf
 iterate 3 (refine Tst.F ?_;conv=>whnf)
 refine tst_c H (fun b12 H=>?_) (fun b12 H=>?_)
 ·conv=>whnf
  iterate 4 (refine Tst.T ?_;conv=>whnf)
  refine FootQ.mk ⟨rfl,?_⟩;conv=>whnf
  refine Tst.T ?_;conv=>whnf
  obtain rfl:=Option.some.inj H
  have H:=HQ4
  try dsimp only at H
  exact fb_ H
 conv=>whnf
 iterate 2 (refine Tst.F ?_;conv=>whnf)
 refine tst_d H (fun b13 H=>?_) (fun b13 H=>?_)
 ·conv=>whnf
  iterate 12 (refine Tst.F ?_;conv=>whnf)
  refine FootQ.mk ⟨rfl,?_⟩;conv=>whnf
  refine Tst.F ?_;conv=>whnf
  refine Ari.w ?_;conv=>whnf
  exact again_c [3,4,9,10,11,12,13,14,15,16,17,18,19,20,21,22,23,24,25,26,27,28,29,30,31,32,33,34,35,36,37,38,39,40,41,42,43,44,45,46,47,5] n5 1 [] (⟨_,H,rfl,rfl⟩) (Nat.lt_succ_self _) (Nat.zero_le _) rfl (by kernel_rfl) (by kernel_rfl) rfl ⟨⟨rfl,rfl,rfl⟩,trivial⟩
 conv=>whnf
 iterate 3 (refine Tst.T ?_;conv=>whnf)
 refine Ari.w ?_;conv=>whnf
 refine Tst.T ?_;conv=>whnf
 refine ixs_c (f:=ItemItem.v) H (fun _=>rfl) (fun x14 H=>?_);conv=>whnf
 refine Tst.T ?_;conv=>whnf
 refine lq_ ?_;conv=>whnf
 iterate 4 (refine Tst.T ?_;conv=>whnf)
 refine Tst.F ?_;conv=>whnf
 refine Tst.T ?_;conv=>whnf
 refine Tst.F ?_;conv=>whnf
 refine FootQ.mk ⟨rfl,?_⟩;conv=>whnf
 refine Tst.not ?_
 refine tst_d H (fun b15 H=>?_) (fun b15 H=>?_)
 ·conv=>whnf
  obtain rfl:=Option.some.inj H
  have H:=HQ4
  try dsimp only at H
  exact fb_ H
 conv=>whnf
 refine Ari.w ?_;conv=>whnf
 exact again_c [3,4,9,10,11,12,13,14,15,16,17,18,19,20,21,22,23,24,25,26,27,28,29,30,31,32,33,34,35,36,37,38,39,40,41,42,43,44,45,46,47,5] n5 1 [] (⟨_,H,rfl,rfl⟩) (Nat.lt_succ_self _) (Nat.zero_le _) rfl (by kernel_rfl) (by kernel_rfl) rfl ⟨⟨rfl,rfl,rfl⟩,trivial⟩
def gc129:BCode:=(.seq (R_ 1 [O_ 2 (.bx (t_ 0)) 0,O_ 3 (.mv (b_ false)) 1]) (.seq (R_ 0 [O_ 4 (.fa 0 (t_ 2)) 0,O_ 5 (.ld 1 false (t_ 4)) 0,O_ 6 (.fa 0 (t_ 1)) 0,O_ 7 (.ld 1 false (t_ 6)) 0,O_ 8 (.bin .eql (t_ 5) (t_ 7)) 0,O_ 3 (.mv (t_ 8)) 0]) .ret))
theorem gc129_ok:compF Try.prog Try.f129=some (gc129.er,9,[.tmp 3]):=by unfold gc129;kernel_rfl
theorem p_roster_State_left_1_v (a0:RosterGone) (c0:RosterGone):CallsO Try.prog 129 [.agg [.s a0.Contact,.i a0.Ver],.eptr [.s c0.Contact,.i c0.Ver]] V.b (p_roster_State_left_1 a0 c0):=by
 refine callsO_comp mix Try.func129 gc129_ok fun r H=>?_
 rw [p_roster_State_left_1] at H
 conv=>whnf
 refine lq_ ?_;conv=>whnf
 exact fb_ H
end Go.Proofs.Ytmmmcpeickfolaa

namespace Go.Proofs.Ytmmmcpeickfolaa
open Go.RowKit
set_option maxRecDepth 100000
set_option maxHeartbeats 4000000
def gc107:BCode:=(.seq (R_ 1 [O_ 2 (.bx (t_ 0)) 0,O_ 4 (.mv (i_ 0)) 1]) (.seq (R_ 0 [O_ 5 (.fa 0 (t_ 2)) 0,O_ 6 (.ld 1 false (t_ 5)) 0,O_ 7 (.mv (t_ 1)) 0,O_ 8 (.cl 108 [(t_ 6),(t_ 7)]) 0,O_ 4 (.mv (t_ 8)) 0]) .ret))
theorem gc107_ok:compF Try.prog Try.f107=some (gc107.er,9,[.tmp 4]):=by unfold gc107;kernel_rfl
theorem p_roster_State_find_1_v (a0:ItemItem) (a1:ByteArray):CallsO Try.prog 107 [.agg [.s a0.Contact,.s a0.Name,.i a0.Sub,.i a0.Ver,.b a0.Own],.s a1] V.i (p_roster_State_find_1 a0 a1):=by
 refine callsO_comp mix Try.func107 gc107_ok fun r H=>?_
 rw [p_roster_State_find_1] at H
 conv=>whnf
 refine ask_c (p_strings_Compare_v _ _) H rfl rfl (fun v1 H=>?_);conv=>whnf
 exact fi_ H
def gc106:BCode:=(.seq (R_ 0 [O_ 6 (.mv (i_ 0)) 0,O_ 7 (.mv (b_ false)) 0]) (.seq (R_ 0 [O_ 12 (.mv (t_ 0)) 0,O_ 13 (.lens (t_ 12)) 0,O_ 8 (.mv (t_ 13)) 0]) (.seq (R_ 0 [O_ 14 (.mv (t_ 8)) 0,O_ 9 (.mv (i_ 0)) 0,O_ 10 (.mv (t_ 14)) 0]) (.seq (.block 0 (.loop (.seq (.seq (R_ 0 [O_ 15 (.mv (t_ 9)) 0,O_ 16 (.mv (t_ 10)) 0,O_ 17 (.bin .lss (t_ 15) (t_ 16)) 0]) (.cond (t_ 17) .skip (.exit 0))) (.block 1 (.seq (R_ 0 [O_ 18 (.mv (t_ 9)) 0,O_ 19 (.mv (t_ 10)) 0,O_ 20 (.bin .add (t_ 18) (t_ 19)) 0,O_ 21 (.cvi .u64 (t_ 20)) 0,O_ 22 (.bin .shr (t_ 21) (.const (.int .u64 1))) 0,O_ 23 (.cvi .i64 (t_ 22)) 0,O_ 11 (.mv (t_ 23)) 0]) (.seq (R_ 0 [O_ 24 (.mv (t_ 2)) 0,O_ 25 (.mv (t_ 0)) 0,O_ 26 (.mv (t_ 11)) 0,O_ 27 (.ixs 5 (t_ 25) (t_ 26)) 0,O_ 28 (.ld 5 true (t_ 27)) 0,O_ 29 (.mv (t_ 1)) 0,O_ 30 (.cv (t_ 24) [(t_ 28),(t_ 29)]) 0,O_ 31 (.bin .lss (t_ 30) (i_ 0)) 0]) (.cond (t_ 31) (R_ 0 [O_ 32 (.mv (t_ 11)) 0,O_ 33 (.bin .add (t_ 32) (i_ 1)) 0,O_ 9 (.mv (t_ 33)) 0]) (R_ 0 [O_ 34 (.mv (t_ 11)) 0,O_ 10 (.mv (t_ 34)) 0])))))))) (.seq (R_ 0 [O_ 35 (.mv (t_ 9)) 0,O_ 36 (.mv (t_ 9)) 0,O_ 37 (.mv (t_ 8)) 0,O_ 38 (.bin .lss (t_ 36) (t_ 37)) 0,O_ 39 (.mv (t_ 38)) 0,⟨(some 40),.mv (t_ 2),(some (39,true)),0⟩,⟨(some 41),.mv (t_ 0),(some (39,true)),0⟩,⟨(some 42),.mv (t_ 9),(some (39,true)),0⟩,⟨(some 43),.ixs 5 (t_ 41) (t_ 42),(some (39,true)),0⟩,⟨(some 44),.ld 5 true (t_ 43),(some (39,true)),0⟩,⟨(some 45),.mv (t_ 1),(some (39,true)),0⟩,⟨(some 46),.cv (t_ 40) [(t_ 44),(t_ 45)],(some (39,true)),0⟩,⟨(some 47),.bin .eql (t_ 46) (i_ 0),(some (39,true)),0⟩,O_ 48 (.pick (t_ 39) (t_ 47) (b_ false)) 0,O_ 6 (.mv (t_ 35)) 0,O_ 7 (.mv (t_ 48)) 0]) .ret)))))
theorem gc106_ok:compF Try.prog Try.f106=some (gc106.er,49,[.tmp 6,.tmp 7]):=by unfold gc106;kernel_rfl
theorem p_slices_BinarySearchFunc_item_Item_v {u1:Bool} (a0:List ItemItem) (a1:ByteArray) (a2:ItemItem→ByteArray→Option Int) {a2_g:Nat} {a2_k:List V} (a2_h:Clo2 Try.prog a2_g a2_k ItemItem.v V.s V.i a2):CallsO Try.prog 106 [.sl (List.map ItemItem.v a0) u1,.s a1,.clo (.func a2_g) a2_k] (fun r:Int × Bool=>.tup [V.i r.1,V.b r.2]) (p_slices_BinarySearchFunc_item_Item a0 a1 a2):=by
 refine callsO_comp mix Try.func106 gc106_ok fun r H=>?_
 rw [p_slices_BinarySearchFunc_item_Item] at H
 conv=>whnf
 refine LenQ.M ?_;conv=>whnf
 obtain ⟨o2,HL3,HQ4⟩:=bind_c H
 refine loop_c [9,10] [11,15,16,17,18,19,20,21,22,23,24,25,26,27,28,29,30,31,32,33,34] [11,15,16,17,18,19,20,21,22,23,24,25,26,27,28,29,30,31,32,33,34] (fun n vals st=>(∃ y6 y7,p_slices_BinarySearchFunc_item_Item_l1  a2 a0 a1 n y6 y7=some o2∧vals=[.i y6,.i y7]∧st=[])) fuel 0 [] (⟨_,_,HL3,rfl,rfl⟩) (Nat.zero_le _) rfl (by simp only [maskF,setF,List.set_cons_zero,List.set_cons_succ,V.ren.renL,V.ren,renL_id _ a2_h.own] <;> rfl) (by simp only [maskF,setF,List.set_cons_zero,List.set_cons_succ,V.idlt.belowL,V.idlt,fun n=>idltL_up (n:=n) _ a2_h.own] <;> rfl) rfl trivial ?_
 rintro (_ | n5) _ _ (⟨y6,y7,H,rfl,rfl⟩)
 ·rw [p_slices_BinarySearchFunc_item_Item_l1] at H;cases H
 rw [p_slices_BinarySearchFunc_item_Item_l1] at H
 conv=>whnf
 refine tst_d H (fun b8 H=>?_) (fun b8 H=>?_)
 ·conv=>whnf
  obtain rfl:=Option.some.inj H
  have H:=HQ4
  try dsimp only at H
  refine tst_d H (fun b12 H=>?_) (fun b12 H=>?_)
  ·conv=>whnf
   iterate 8 (refine Tst.F ?_;conv=>whnf)
   exact fq_ H
  conv=>whnf
  iterate 3 (refine Tst.T ?_;conv=>whnf)
  refine ixs_c (f:=ItemItem.v) H (fun _=>rfl) (fun x13 H=>?_);conv=>whnf
  iterate 3 (refine Tst.T ?_;conv=>whnf)
  refine askC2_c a2_h H (.cons (fzagg (.cons (.id rfl) (.cons (.id rfl) (.cons (.id rfl) (.cons (.id rfl) (.cons (.id rfl) (.nil)))))) rfl) (.cons (.c (.id rfl)) (.nil))) (fun v14 H=>?_);conv=>whnf
  iterate 2 (refine Tst.T ?_;conv=>whnf)
  exact fq_ H
 conv=>whnf
 iterate 2 (refine Ari.w ?_;conv=>whnf)
 refine Shr.ok (by decide) ?_;conv=>whnf
 refine Ari.w ?_;conv=>whnf
 refine ixs_c (f:=ItemItem.v) H (fun _=>rfl) (fun x9 H=>?_);conv=>whnf
 refine askC2_c a2_h H (.cons (fzagg (.cons (.id rfl) (.cons (.id rfl) (.cons (.id rfl) (.cons (.id rfl) (.cons (.id rfl) (.nil)))))) rfl) (.cons (.c (.id rfl)) (.nil))) (fun v10 H=>?_);conv=>whnf
 refine tst_d H (fun b11 H=>?_) (fun b11 H=>?_)
 ·conv=>whnf
  exact again_c [11,15,16,17,18,19,20,21,22,23,24,25,26,27,28,29,30,31,32,33,34] n5 0 [] (⟨_,_,H,rfl,rfl⟩) (Nat.lt_succ_self _) (Nat.zero_le _) rfl (by simp only [maskF,setF,List.set_cons_zero,List.set_cons_succ,V.ren.renL,V.ren,renL_id _ a2_h.own] <;> rfl) (by simp only [maskF,setF,List.set_cons_zero,List.set_cons_succ,V.idlt.belowL,V.idlt,fun n=>idltL_up (n:=n) _ a2_h.own] <;> rfl) rfl trivial
 conv=>whnf
 refine Ari.w ?_;conv=>whnf
 exact again_c [11,15,16,17,18,19,20,21,22,23,24,25,26,27,28,29,30,31,32,33,34] n5 0 [] (⟨_,_,H,rfl,rfl⟩) (Nat.lt_succ_self _) (Nat.zero_le _) rfl (by simp only [maskF,setF,List.set_cons_zero,List.set_cons_succ,V.ren.renL,V.ren,renL_id _ a2_h.own] <;> rfl) (by simp only [maskF,setF,List.set_cons_zero,List.set_cons_succ,V.idlt.belowL,V.idlt,fun n=>idltL_up (n:=n) _ a2_h.own] <;> rfl) rfl trivial
def gc54:BCode:=(.seq (R_ 1 [O_ 2 (.bx (t_ 0)) 0,O_ 4 (.mv (i_ 0)) 1,O_ 5 (.mv (b_ false)) 1]) (.seq (R_ 0 [O_ 6 (.fa 2 (t_ 2)) 0,O_ 7 (.ld 1 false (t_ 6)) 0,O_ 8 (.mv (t_ 1)) 0,O_ 9 (.cl 106 [(t_ 7),(t_ 8),(.func 107)]) 0,O_ 10 (.ex (t_ 9) 0) 0,O_ 11 (.ex (t_ 9) 1) 0,O_ 4 (.mv (t_ 10)) 0,O_ 5 (.mv (t_ 11)) 0]) .ret))
theorem gc54_ok:compF Try.prog Try.f54=some (gc54.er,12,[.tmp 4,.tmp 5]):=by unfold gc54;kernel_rfl
theorem p_roster_State_find_v {u1 u2:Bool} (a0:RosterState) (a1:ByteArray):CallsO Try.prog 54 [.agg [.i a0.Ver,.i a0.Floor,.sl (List.map ItemItem.v a0.Items) u1,.sl (List.map RosterGone.v a0.Gone) u2],.s a1] (fun r:Int × Bool=>.tup [V.i r.1,V.b r.2]) (p_roster_State_find a0 a1):=by
 refine callsO_comp mix Try.func54 gc54_ok fun r H=>?_
 rw [p_roster_State_find] at H
 conv=>whnf
 refine askF_c (p_slices_BinarySearchFunc_item_Item_v _ _ _ ⟨⟨_,Try.func107,by kernel_rfl,by kernel_rfl⟩,rfl,fun x0 x1=>p_roster_State_find_1_v _ _⟩) H (.cons (.c (.slw)) (.cons (.c (.id rfl)) (.cons (.c (.clo (.nil))) (.nil)))) (fun v1 H=>?_);conv=>whnf
 exact fq_ H
def gc104:BCode:=(.seq (R_ 1 [O_ 2 (.bx (t_ 0)) 0,O_ 3 (.mv (b_ false)) 1]) (.seq (R_ 0 [O_ 4 (.fa 0 (t_ 2)) 0,O_ 5 (.ld 1 false (t_ 4)) 0,O_ 6 (.fa 0 (t_ 1)) 0,O_ 7 (.ld 1 false (t_ 6)) 0,O_ 8 (.bin .eql (t_ 5) (t_ 7)) 0,O_ 3 (.mv (t_ 8)) 0]) .ret))
theorem gc104_ok:compF Try.prog Try.f104=some (gc104.er,9,[.tmp 3]):=by unfold gc104;kernel_rfl
theorem p_roster_State_change_1_v (a0:RosterGone) (c0:ItemItem):CallsO Try.prog 104 [.agg [.s a0.Contact,.i a0.Ver],.eptr [.s c0.Contact,.s c0.Name,.i c0.Sub,.i c0.Ver,.b c0.Own]] V.b (p_roster_State_change_1 a0 c0):=by
 refine callsO_comp mix Try.func104 gc104_ok fun r H=>?_
 rw [p_roster_State_change_1] at H
 conv=>whnf
 refine lq_ ?_;conv=>whnf
 exact fb_ H
end Go.Proofs.Ytmmmcpeickfolaa

