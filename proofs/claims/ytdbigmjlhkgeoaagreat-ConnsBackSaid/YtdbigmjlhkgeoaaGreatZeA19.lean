/- A part of the proof: 4 texts joined. -/
import Derived.Test.YtdbigmjlhkgeoaaGreatZeA18
import Derived.Test.YtdbigmjlhkgeoaaGreatZeA17
import Derived.Test.YtdbigmjlhkgeoaaGreatZeA15
import Derived.Test.YtdbigmjlhkgeoaaGreatZeA13
import Derived.Test.YtdbigmjlhkgeoaaGreatZeA16
import Derived.KernelRfl
set_option linter.all false
namespace Go.Proofs.YtdbigmjlhkgeoaaGreat
open Go.RowKit
theorem cown_l (z:List ConnsConn) (hn:z.length≤1000):∀ (n k F:Nat) (acc:List ConnsConn),k + n=z.length→n < F→acc.length=k→p_law31_own_l1 z F acc (k:Int)=some (acc++z.drop k,(z.length:Int))∧p_law31_Back_l1 z F acc (k:Int)=some (acc++z.drop k,(z.length:Int))
 | 0,k,F + 1,acc,hk,hF,ha=>by
  rw [p_law31_own_l1,p_law31_Back_l1,lt_ff (by omega),show k=z.length by omega,List.drop_length,List.append_nil];exact ⟨rfl,rfl⟩
 | n + 1,k,F + 1,acc,hk,hF,ha=>by
  have hlt:k < z.length:=by omega
  obtain ⟨i1,i2⟩:=cown_l z hn n (k + 1) F (acc++[z[k]]) (by omega) (by omega) (by simp;omega)
  rw [p_law31_own_l1,p_law31_Back_l1,lt_tt hlt,cond_true,cond_true,at_lt hlt,Option.bind_some,Option.bind_some,app_ok (by simp;omega),Option.bind_some,Option.bind_some,w64_succ (by omega),i1,i2,drop_at hlt]
  simp
theorem cown_p {z:List ConnsConn} (hn:z.length≤1000):p_law31_own z=some z:=by
 unfold p_law31_own
 have e:p_law31_own_l1 z fuel [] (0:Int)=_:=(cown_l z hn z.length 0 fuel [] (by omega) (by have:=fuel_pos;omega) rfl).1
 rw [e];rfl
theorem cback_p {z:List ConnsConn} (hn:z.length≤1000):p_law31_Back z=some z:=by
 unfold p_law31_Back
 have e:p_law31_Back_l1 z fuel [] (0:Int)=_:=(cown_l z hn z.length 0 fuel [] (by omega) (by have:=fuel_pos;omega) rfl).2
 rw [e];rfl
theorem cself_l (z:List ConnsConn) (hn:z.length≤1000):∀ (n k F:Nat),k + n=z.length→n < F→p_ref31_Same_l1 z z F (k:Int)=some (.inr (z.length:Int))∧p_slices_Equal_conns_State_conns_Conn__l1 z z (z.length:Int) F (k:Int)=some (.inr (z.length:Int))
 | 0,k,F + 1,hk,hF=>by
  rw [p_ref31_Same_l1,p_slices_Equal_conns_State_conns_Conn__l1,lt_ff (by omega),show k=z.length by omega];exact ⟨rfl,rfl⟩
 | n + 1,k,F + 1,hk,hF=>by
  have hlt:k < z.length:=by omega
  obtain ⟨i1,i2⟩:=cself_l z hn n (k + 1) F (by omega) (by omega)
  rw [p_ref31_Same_l1,p_slices_Equal_conns_State_conns_Conn__l1,lt_tt hlt,cond_true,cond_true,at_lt hlt]
  simp only [Option.bind_some,eqT_refl,beq_self_eq_true,Bool.and_self,cond_true]
  rw [w64_succ (by omega),i1,i2];exact ⟨rfl,rfl⟩
theorem cself_p {z:List ConnsConn} (hn:z.length≤1000):p_ref31_Same z z=some true∧p_conns_Same z z=some true:=by
 obtain ⟨e1,e2⟩:=cself_l z hn z.length 0 fuel (by omega) (by have:=fuel_pos;omega)
 have e1' : p_ref31_Same_l1 z z fuel (0:Int)=_:=e1
 have e2' : p_slices_Equal_conns_State_conns_Conn__l1 z z (z.length:Int) fuel (0:Int)=_:=e2
 unfold p_ref31_Same p_conns_Same p_slices_Equal_conns_State_conns_Conn_
 rw [bne_self_eq_false,cond_false,cond_false,e1',e2']
 exact ⟨rfl,rfl⟩
theorem csame_l (a b:List ConnsConn) (hn:a.length≤1000) (hab:a.length=b.length):∀ (n k F:Nat),k + n=a.length→n < F→∃ r,p_ref31_Same_l1 a b F (k:Int)=some r∧p_slices_Equal_conns_State_conns_Conn__l1 a b (a.length:Int) F (k:Int)=some r
 | 0,k,F + 1,hk,hF=>by
  rw [p_ref31_Same_l1,p_slices_Equal_conns_State_conns_Conn__l1,lt_ff (by omega)];exact ⟨_,rfl,rfl⟩
 | n + 1,k,F + 1,hk,hF=>by
  have hlt:k < a.length:=by omega
  obtain ⟨r,i1,i2⟩:=csame_l a b hn hab n (k + 1) F (by omega) (by omega)
  rw [p_ref31_Same_l1,p_slices_Equal_conns_State_conns_Conn__l1,lt_tt hlt,cond_true,cond_true,at_lt hlt,at_lt (show k < b.length by omega)]
  simp only [Option.bind_some]
  rw [w64_succ (by omega),i1,i2]
  generalize ((a[k].ID == (b[k]'(by omega)).ID) && _)=q
  cases q
  ·exact ⟨_,rfl,rfl⟩
  ·exact ⟨r,rfl,rfl⟩
theorem csame_p {a b:List ConnsConn} (hn:a.length≤1000):∃ v,p_ref31_Same a b=some v∧p_conns_Same a b=some v:=by
 unfold p_ref31_Same p_conns_Same p_slices_Equal_conns_State_conns_Conn_
 by_cases hab:a.length=b.length
 ·obtain ⟨r,e1,e2⟩:=csame_l a b hn hab a.length 0 fuel (by omega) (by have:=fuel_pos;omega)
  have e1' : p_ref31_Same_l1 a b fuel (0:Int)=_:=e1
  have e2' : p_slices_Equal_conns_State_conns_Conn__l1 a b (a.length:Int) fuel (0:Int)=_:=e2
  rw [show ((a.length:Int) != (b.length:Int))=false by simp;omega,cond_false,cond_false,e1',e2']
  cases r with
  | inl v=>exact ⟨v,rfl,rfl⟩
  | inr v=>exact ⟨true,rfl,rfl⟩
 ·rw [show ((a.length:Int) != (b.length:Int))=true by simp;omega]
  exact ⟨false,rfl,rfl⟩
theorem ints_l (z:List Int) (hn:z.length≤1000):∀ (n k F:Nat),k + n=z.length→n < F→p_ref01_SameInts_l1 z z F (k:Int)=some (.inr (z.length:Int))
 | 0,k,F + 1,hk,hF=>by
  rw [p_ref01_SameInts_l1,lt_ff (by omega),show k=z.length by omega];rfl
 | n + 1,k,F + 1,hk,hF=>by
  have hlt:k < z.length:=by omega
  rw [p_ref01_SameInts_l1,lt_tt hlt,cond_true,at_lt hlt]
  simp only [Option.bind_some,bne_self_eq_false,cond_false]
  rw [w64_succ (by omega),ints_l z hn n (k + 1) F (by omega) (by omega)]
theorem ints_p {z:List Int} (hn:z.length≤1000):p_ref01_SameInts z z=some true:=by
 have e:p_ref01_SameInts_l1 z z fuel (0:Int)=_:=ints_l z hn z.length 0 fuel (by omega) (by have:=fuel_pos;omega)
 unfold p_ref01_SameInts
 rw [bne_self_eq_false,cond_false,e];rfl
def LgC (c:ConnsConn):Prop:=c.User.size≤100∧c.Res.size≤100∧c.In.Buf.size≤200
theorem light_l (z:List ConnsConn) (hn:z.length≤1000):∀ (n k F:Nat),k + n=z.length→n < F→p_ref31_Light_l1 z F (k:Int)=some (.inl false)∨(p_ref31_Light_l1 z F (k:Int)=some (.inr (z.length:Int))∧∀ c ∈ z.drop k,LgC c)
 | 0,k,F + 1,hk,hF=>by
  right
  rw [p_ref31_Light_l1,lt_ff (by omega),show k=z.length by omega]
  exact ⟨rfl,fun c hc=>by rw [List.drop_length] at hc;cases hc⟩
 | n + 1,k,F + 1,hk,hF=>by
  have hlt:k < z.length:=by omega
  have ih:=light_l z hn n (k + 1) F (by omega) (by omega)
  rw [p_ref31_Light_l1,lt_tt hlt,cond_true,at_lt hlt]
  simp only [Option.bind_some]
  rw [w64_succ (by omega)]
  by_cases h1:(100:Int) < (z[k].User.size:Int)
  ·rw [decide_eq_true h1];exact .inl rfl
  rw [decide_eq_false h1,cond_false]
  by_cases h2:(100:Int) < (z[k].Res.size:Int)
  ·rw [decide_eq_true h2];exact .inl rfl
  rw [decide_eq_false h2,cond_false]
  by_cases h3:(200:Int) < (z[k].In.Buf.size:Int)
  ·rw [decide_eq_true h3];exact .inl rfl
  rw [decide_eq_false h3,cond_false]
  rcases ih with g | ⟨g,g2⟩
  ·exact .inl g
  ·refine .inr ⟨g,fun c hc=>?_⟩
   rw [drop_at hlt] at hc
   rcases List.mem_cons.1 hc with rfl | hc
   ·exact ⟨by omega,by omega,by omega⟩
   ·exact g2 c hc
theorem clight_p (z:List ConnsConn):p_ref31_Light z=some false∨(p_ref31_Light z=some true∧z.length≤20∧SmS z∧∀ c ∈ z,LgC c):=by
 unfold p_ref31_Light
 by_cases h1:(20:Int) < (z.length:Int)
 ·rw [decide_eq_true h1];exact .inl rfl
 rw [decide_eq_false h1,cond_false]
 have e:=light_l z (by omega) z.length 0 fuel (by omega) (by have:=fuel_pos;omega)
 rw [List.drop_zero,show ((0:Nat):Int)=0 from rfl] at e
 rcases e with e | ⟨e,g⟩
 ·rw [e];exact .inl rfl
 ·rw [e];exact .inr ⟨rfl,by omega,⟨by omega,fun c hc=>by have:=g c hc;exact ⟨by have:=this.1;omega,by have:=this.2.1;omega,by have:=this.2.2;omega⟩⟩,g⟩
structure Both (st:List ConnsConn) (id n:Int) (u r b:ByteArray):Prop where
 open_:∃ x,p_conns_Open st id n=some x∧p_ref31_Open st id n=some x∧x.1.length≤1000
 find:∃ x,p_conns_Find st id=some x∧p_ref31_Find st id=some x∧smC x.1
 close:∃ x,p_conns_Close st id=some x∧p_ref31_Close st id=some x∧x.1.length≤1000
 login:∃ x,p_conns_Login st id u r=some x∧p_ref31_Login st id u r=some x∧x.1.length≤1000
 give:∃ x,p_conns_Give st id n=some x∧p_ref31_Give st id n=some x∧x.1.length≤1000
 spend:∃ x,p_conns_Spend st id n=some x∧p_ref31_Spend st id n=some x∧x.1.length≤1000
 feed:∃ x,p_conns_Feed st id b=some x∧p_ref31_Feed st id b=some x∧x.1.length≤1000∧x.2.1.length≤100000
theorem sm_new:smC (newC 0 0):=by
 unfold smC newC zdC
 simp only [show (⟨#[]⟩ : ByteArray).size=0 from rfl]
 omega
theorem both {st:List ConnsConn} (hs:SmS st) (id n:Int) (u r b:ByteArray) (hu:u.size≤100000) (hr:r.size≤100000) (hb:b.size≤40000):Both st id n u r b:=by
 have hn:=hs.1
 by_cases hk:chkC st=0
 ·have hk:=ok_c.1 hk
  obtain ⟨A,M,B,hc⟩:=cutC id hk.ord
  have hl:=hk.len
  have hlen:=hc.len
  rcases hc.m with rfl | ⟨c,rfl,_⟩
  ·obtain ⟨⟨a1,a2⟩,⟨b1,b2⟩,⟨c1,c2⟩,⟨d1,d2⟩,⟨e1,e2⟩,⟨f1,f2⟩,g1,g2⟩:=none_all hs hk hc n u r b
   refine ⟨⟨_,a1,a2,?_⟩,⟨_,b1,b2,sm_new⟩,⟨_,c1,c2,hn⟩,⟨_,d1,d2,hn⟩,⟨_,e1,e2,hn⟩,⟨_,f1,f2,hn⟩,⟨_,g1,g2,hn,Nat.zero_le _⟩⟩
   simp at hlen
   unfold opnC
   split
   ·exact hn
   split
   ·exact hn
   ·simp;omega
  ·obtain ⟨⟨a1,a2⟩,⟨b1,b2⟩,⟨c1,c2⟩,⟨d1,d2⟩,⟨e1,e2⟩,⟨f1,f2⟩,x,x1,x2,g1,g2⟩:=one_all hs hk hc n u r b hu hr hb
   simp at hlen
   refine ⟨⟨_,a1,a2,hn⟩,⟨_,b1,b2,hs.2 c (by rw [hc.e];simp)⟩,⟨_,c1,c2,by simp;omega⟩,⟨_,d1,d2,?_⟩,⟨_,e1,e2,?_⟩,⟨_,f1,f2,?_⟩,⟨_,g1,g2,by simp;omega,by show x.2.length≤_;omega⟩⟩
   ·unfold logC
    split
    ·exact hn
    split
    ·exact hn
    split
    ·exact hn
    ·simp;omega
   ·split
    ·exact hn
    ·simp;omega
   ·split
    ·simp;omega
    ·exact hn
 ·obtain ⟨⟨a1,a2⟩,⟨b1,b2⟩,⟨c1,c2⟩,⟨d1,d2⟩,⟨e1,e2⟩,⟨f1,f2⟩,⟨g1,g2⟩,_⟩:=bad_all hs hk id n u r b
  exact ⟨⟨_,a1,a2,hn⟩,⟨_,b1,b2,sm_new⟩,⟨_,c1,c2,hn⟩,⟨_,d1,d2,hn⟩,⟨_,e1,e2,hn⟩,⟨_,f1,f2,hn⟩,⟨_,g1,g2,hn,Nat.zero_le _⟩⟩
theorem bykey_p {st:List ConnsConn} (hs:SmS st) (key:ByteArray):∃ x,p_conns_ByKey st key=some x∧p_ref31_ByKey st key=some x:=by
 obtain ⟨hn,h⟩:=hs
 unfold p_conns_ByKey p_ref31_ByKey
 rw [check_p hn h,rcheck_p hn h,keyed_p hn h,rkeyed_p hn h]
 simp only [Option.bind_some]
 by_cases hc:chkC st=0
 ·rw [hc,bne_self_eq_false,cond_false,cond_false]
  rcases ixF_bd (hasK key) st 0 with ⟨g,_⟩ | g
  ·rw [g];exact ⟨_,rfl,rfl⟩
  ·rw [if_neg (by omega),decide_eq_false (by omega)]
   simp only [cond_true,cond_false]
   obtain ⟨k,hk⟩ : ∃ k:Nat,ixF (hasK key) st 0=(k:Int):=⟨(ixF (hasK key) st 0).toNat,by omega⟩
   rw [hk] at g ⊢
   rw [at_lt (show k < st.length by omega)]
   exact ⟨_,rfl,rfl⟩
 ·rw [bneZ hc];exact ⟨_,rfl,rfl⟩
theorem sess_l {st:List ConnsConn} (hs:SmS st) (hc:chkC st=0) {u:ByteArray} (hu:emB u=false):∀ (n k F:Nat) (acc:List Int),k + n=st.length→n < F→acc.length≤k→∃ r:List Int,r.length≤acc.length + n∧p_conns_Sessions_l1 u st (st.length:Int) F acc (k:Int)=some (r,(st.length:Int))∧p_ref31_Sessions_l1 st u F acc (k:Int)=some (r,(st.length:Int))
 | 0,k,F + 1,acc,hk,hF,ha=>by
  rw [p_conns_Sessions_l1,p_ref31_Sessions_l1,lt_ff (by omega),show k=st.length by omega];exact ⟨acc,by omega,rfl,rfl⟩
 | n + 1,k,F + 1,acc,hk,hF,ha=>by
  obtain ⟨hn,h⟩:=id hs
  have hlt:k < st.length:=by omega
  unfold emB at hu
  rw [p_conns_Sessions_l1,p_ref31_Sessions_l1,lt_tt hlt,cond_true,cond_true,at_lt hlt,rcheck_p hn h,hc]
  simp only [Option.bind_some,beq_self_eq_true,cond_true,hu,cond_false]
  rw [app_ok (by simp;omega),w64_succ (by omega)]
  cases (st[k].User.toList == u.toList) with
  | false =>
   obtain ⟨r,r1,r2,r3⟩:=sess_l hs hc hu n (k + 1) F acc (by omega) (by omega) (by omega)
   exact ⟨r,by omega,r2,r3⟩
  | true =>
   obtain ⟨r,r1,r2,r3⟩:=sess_l hs hc hu n (k + 1) F (acc++[st[k].ID]) (by omega) (by omega) (by simp;omega)
   exact ⟨r,by simp at r1;omega,r2,r3⟩
theorem rsess_0 {st:List ConnsConn} (hs:SmS st) {u:ByteArray} (hu:emB u=true∨chkC st≠0):∀ (n k F:Nat),k + n=st.length→n < F→∃ i,p_ref31_Sessions_l1 st u F [] (k:Int)=some ([],i)
 | 0,k,F + 1,hk,hF=>by
  rw [p_ref31_Sessions_l1,lt_ff (by omega)];exact ⟨_,rfl⟩
 | n + 1,k,F + 1,hk,hF=>by
  obtain ⟨hn,h⟩:=id hs
  have hlt:k < st.length:=by omega
  rw [p_ref31_Sessions_l1,lt_tt hlt,cond_true,rcheck_p hn h,Option.bind_some]
  by_cases hc:chkC st=0
  ·have hu' : (u.toList == (⟨#[]⟩ : ByteArray).toList)=true:=by
    rcases hu with g | g
    ·exact g
    ·exact absurd hc g
   rw [hc,beq_self_eq_true,cond_true,hu',cond_true,w64_succ (by omega)]
   exact rsess_0 hs hu n (k + 1) F (by omega) (by omega)
  ·rw [show (chkC st == 0)=false by simpa using hc];exact ⟨_,rfl⟩
theorem sess_p {st:List ConnsConn} (hs:SmS st) (u:ByteArray):∃ x:List Int,p_conns_Sessions st u=some x∧p_ref31_Sessions st u=some x∧x.length≤1000:=by
 obtain ⟨hn,h⟩:=id hs
 have hf:=fuel_pos
 unfold p_conns_Sessions p_ref31_Sessions
 cases hu:emB u with
 | true =>
  obtain ⟨i,e⟩:=rsess_0 hs (u:=u) (.inl hu) st.length 0 fuel (by omega) (by omega)
  have e' : p_ref31_Sessions_l1 st u fuel [] (0:Int)=_:=e
  unfold emB at hu
  rw [hu,e'];exact ⟨[],rfl,rfl,Nat.zero_le _⟩
 | false =>
  have hu':=hu
  unfold emB at hu'
  rw [hu',cond_false,check_p hn h,Option.bind_some]
  by_cases hc:chkC st=0
  ·obtain ⟨r,r1,r2,r3⟩:=sess_l hs hc hu st.length 0 fuel [] (by omega) (by omega) (Nat.zero_le _)
   have r2' : p_conns_Sessions_l1 u st (st.length:Int) fuel [] (0:Int)=_:=r2
   have r3' : p_ref31_Sessions_l1 st u fuel [] (0:Int)=_:=r3
   rw [hc,bne_self_eq_false,cond_false,r2',r3']
   exact ⟨r,rfl,rfl,by simp at r1;omega⟩
  ·obtain ⟨i,e⟩:=rsess_0 hs (u:=u) (.inr hc) st.length 0 fuel (by omega) (by omega)
   have e' : p_ref31_Sessions_l1 st u fuel [] (0:Int)=_:=e
   rw [bneZ hc,e'];exact ⟨[],rfl,rfl,Nat.zero_le _⟩
theorem connsChanges_pure (haw:p_law31_awake=some true) (st:List ConnsConn) (a:Law31Ask):p_law31_ConnsChanges st a=some true:=by
 unfold p_law31_ConnsChanges
 rcases clight_p st with e | ⟨e,_,hs,_⟩
 ·rw [e,haw];rfl
 rw [e]
 simp only [Option.bind_some,cond_true,haw]
 by_cases h1:(100:Int) < (a.User.size:Int)
 ·rw [decide_eq_true h1];rfl
 rw [decide_eq_false h1,cond_false]
 by_cases h2:(100:Int) < (a.Res.size:Int)
 ·rw [decide_eq_true h2];rfl
 rw [decide_eq_false h2,cond_false]
 by_cases h3:(100:Int) < (a.Bytes.size:Int)
 ·rw [decide_eq_true h3];rfl
 rw [decide_eq_false h3,cond_false]
 obtain ⟨⟨x1,a1,a2,a3⟩,_,⟨x3,c1,c2,c3⟩,⟨x4,d1,d2,d3⟩,⟨x5,e1,e2,e3⟩,⟨x6,f1,f2,f3⟩,⟨x7,g1,g2,g3,g4⟩⟩:=both hs a.ID a.N a.User a.Res a.Bytes (by omega) (by omega) (by omega)
 have hz:at? [x3.2.1] (0:Int)=some x3.2.1:=rfl
 have hb1:p_law31_Back [x3.2.1]=some [x3.2.1]:=cback_p (by simp)
 simp only [Option.bind_some,cown_p hs.1,a1,a2,c1,c2,d1,d2,e1,e2,f1,f2,g1,g2,cback_p a3,cback_p c3,cback_p d3,cback_p e3,cback_p f3,cback_p g3,cback_p hs.1,(cself_p a3).1,(cself_p c3).1,(cself_p d3).1,(cself_p e3).1,(cself_p f3).1,(cself_p g3).1,(cself_p hs.1).1,hb1,hz,bne_self_eq_false,cond_true,cond_false,eqT_refl,beq_self_eq_true,Bool.and_self,citems_p x7.2.1 (by omega),sitems_p x7.2.1 (by omega)]
theorem connsTells_pure (haw:p_law31_awake=some true) (st q:List ConnsConn) (a:Law31Ask):p_law31_ConnsTells st q a=some true:=by
 unfold p_law31_ConnsTells
 rcases clight_p st with e | ⟨e,_,hs,_⟩
 ·rw [e,haw];rfl
 rw [e]
 rcases clight_p q with e | ⟨e,_,hq,_⟩
 ·simp only [Option.bind_some,cond_true,haw,e];rfl
 simp only [Option.bind_some,cond_true,haw,e]
 by_cases h1:(100:Int) < (a.User.size:Int)
 ·rw [decide_eq_true h1];rfl
 rw [decide_eq_false h1,cond_false]
 by_cases h2:(100:Int) < (a.Res.size:Int)
 ·rw [decide_eq_true h2];rfl
 rw [decide_eq_false h2,cond_false]
 obtain ⟨_,⟨x,b1,b2,b3⟩,_,_,_,_,_⟩:=both hs a.ID a.N a.User a.Res (⟨#[]⟩ : ByteArray) (by omega) (by omega) (by show (0:Nat)≤_;omega)
 obtain ⟨k1,k2⟩:=catK_sz a.User a.Res (by omega) (by omega)
 have s1:cat? a.User (⟨#[32]⟩ : ByteArray)=some (a.User++⟨#[32]⟩):=if_pos k1
 have s2:cat? (a.User++⟨#[32]⟩) a.Res=some (a.User++⟨#[32]⟩++a.Res):=if_pos k2
 obtain ⟨y,y1,y2⟩:=bykey_p hs (a.User++⟨#[32]⟩++a.Res)
 obtain ⟨z,z1,z2,z3⟩:=sess_p hs a.User
 obtain ⟨v,v1,v2⟩:=csame_p (b:=q) hs.1
 have hz:at? [x.1] (0:Int)=some x.1:=rfl
 have hb1:p_law31_Back [x.1]=some [x.1]:=cback_p (by simp)
 simp only [Option.bind_some,cown_p hs.1,cown_p hq.1,b1,b2,s1,s2,y1,y2,z1,z2,v1,v2,hb1,hz,check_p hs.1 hs.2,rcheck_p hs.1 hs.2,keyC_p b3,rkeyC_p b3,ints_p z3,bne_self_eq_false,cond_true,cond_false,eqT_refl,beq_self_eq_true,Bool.and_self]
end Go.Proofs.YtdbigmjlhkgeoaaGreat

namespace Go.Proofs.YtdbigmjlhkgeoaaGreat
open Go.RowKit
def stR (l:List UInt8):DeframeState:=DeframeState.mk (ba (run l).2.1) (run l).2.2 ((run l).1.length:Nat)
def itR (l:List UInt8):List DeframeItem:=(run l).1.map itemR
theorem feed_st (l:List UInt8) (s:ByteArray) (h:l.length + s.size≤50000):∃ m,p_deframe_Feed (stR l) s=some (stR (l++s.data.toList),m)∧itR (l++s.data.toList)=itR l++m∧(s.size=1→m.length≤1):=by
 have hg:=run_good l (by omega)
 have hsl:=bl_len s
 have ha:=run_app (l.length + 1) l s.data.toList (by omega)
 obtain ⟨h1,h2,h3,_⟩:=run_end (l.length + 1) l (by omega)
 by_cases h0:(run l).2.2=0
 ·rw [if_pos h0] at ha
  rw [h0] at hg
  obtain ⟨_,_,k3,_⟩:=run_end (((run l).2.1++s.data.toList).length + 1) ((run l).2.1++s.data.toList) (by omega)
  rw [List.length_append] at k3
  refine ⟨(run ((run l).2.1++s.data.toList)).1.map itemR,?_,?_,fun h11=>?_⟩
  ·unfold stR
   rw [h0,feed_good hg s (by omega),seenK_id _ _ (by omega) (by omega),ha]
   simp only [List.length_append]
   rfl
  ·unfold itR;rw [ha,List.map_append]
  ·rw [List.length_map]
   obtain ⟨c,hc⟩ : ∃ c,s.data.toList=[c]:=by
    match hL:s.data.toList with
    | []=>rw [hL] at hsl;simp at hsl;omega
    | [c]=>exact ⟨c,rfl⟩
    | a :: b :: r=>rw [hL] at hsl;simp at hsl;omega
   rw [hc]
   rcases h1 with ⟨_,hcut⟩ | ⟨hb,_⟩
   ·exact run_one hcut c
   ·exact absurd h0 hb
 ·rw [if_neg h0] at ha
  refine ⟨[],?_,?_,fun _=>Nat.zero_le _⟩
  ·unfold stR
   rw [feed_bad hg h0 s,ha]
  ·unfold itR;rw [ha,List.append_nil]
end Go.Proofs.YtdbigmjlhkgeoaaGreat

namespace Go.Proofs.YtdbigmjlhkgeoaaGreat
open Go.RowKit
def p_law31_ConnsBack_l1 (z14:List Law31Deed):Nat→(List ConnsConn)→Int→Option (((List ConnsConn) × Int))
 | 0,_,_=>none
 | n + 1,y17,y18 =>
  bif (decide (y18 < (z14.length:Int))) then
   (at? z14 y18).bind fun x20 =>
   (at? z14 y18).bind fun x21 =>
   (p_conns_Open y17 (w64 (Int.tmod x20.ID (20:Int))) (w64 x21.N)).bind fun v22 =>
   p_law31_ConnsBack_l1 z14 n v22.1 (w64 (y18 + (1:Int)))
  else
  some (y17,y18)
def p_law31_ConnsBack (a0:List Law31Deed) (a1:ByteArray) (a2:Int):Option (Bool) :=
 ((
  bif (decide ((40:Int) < (a0.length:Int))) then
   (p_law31_awake).bind fun v2 =>
   some (.inl v2)
  else
  bif (decide ((100:Int) < (a1.size:Int))) then
   (p_law31_awake).bind fun v4 =>
   some (.inl v4)
  else
  some (.inr ())):Option (Bool ⊕ Unit)).bind fun o5=>match o5 with
 | .inl q6 =>
  some q6
 | .inr q7 =>
  (p_law31_ConnsBack_l1 a0 fuel [] (0:Int)).bind fun q24 =>
  (p_conns_Open q24.1 (77:Int) (5:Int)).bind fun v25 =>
  ((
   bif (v25.2 != (0:Int)) then
    bif (v25.2 == (7:Int)) then
     bif ((q24.1.length:Int) == (16:Int)) then
      (p_law31_awake).bind fun v29 =>
      some (.inl v29)
     else
     some (.inl false)
    else
    some (.inl false)
   else
   some (.inr ())):Option (Bool ⊕ Unit)).bind fun o30=>match o30 with
  | .inl q31 =>
   some q31
  | .inr q32 =>
   (p_conns_Close v25.1 (77:Int)).bind fun v33 =>
   (ne0? (w64 ((a1.size:Int) + (1:Int)))).bind fun x34 =>
   (p_conns_Feed v25.1 (77:Int) a1).bind fun v35 =>
   (sub? a1 none (some (Int.tmod (w64 a2) (w64 ((a1.size:Int) + (1:Int)))))).bind fun s36 =>
   (p_conns_Feed v25.1 (77:Int) s36).bind fun v37 =>
   (sub? a1 (some (Int.tmod (w64 a2) (w64 ((a1.size:Int) + (1:Int))))) none).bind fun s38 =>
   (p_conns_Feed v37.1 (77:Int) s38).bind fun v39 =>
   (p_conns_Close v35.1 (77:Int)).bind fun v40 =>
   bif v33.2.2 then
    bif (v33.2.1.ID == (77:Int)) then
     bif (v33.2.1.Source == (5:Int)) then
      (p_conns_Same v33.1 q24.1).bind fun v44 =>
      bif v44 then
       (p_conns_Same v35.1 v39.1).bind fun v46 =>
       bif v46 then
        bif ((v35.2.1.length:Int) == w64 ((v37.2.1.length:Int) + (v39.2.1.length:Int))) then
         bif (v35.2.2 == v39.2.2) then
          (p_conns_Same v40.1 q24.1).bind fun v50 =>
          bif v50 then
           (p_law31_awake).bind fun v52 =>
           some v52
          else
          some false
         else
         some false
        else
        some false
       else
       some false
      else
      some false
     else
     some false
    else
    some false
   else
   some false
end Go.Proofs.YtdbigmjlhkgeoaaGreat

namespace Go.Proofs.YtdbigmjlhkgeoaaGreat
open Go.RowKit
structure FrsC (st:List ConnsConn):Prop where
 ok:OkC st
 new:∀ c ∈ st,∃ i n:Int,c=newC i n∧0≤i∧i < 20
theorem emZ:emB (⟨#[]⟩ : ByteArray)=true:=eqT_refl _
theorem key_new (i n:Int):keyC (newC i n)=⟨#[]⟩:=by unfold keyC newC;rw [if_pos emZ]
theorem nam_new (i n:Int):namC (newC i n)=true:=by unfold namC newC;rw [if_pos emZ];exact emZ
theorem hasK_new {c:ConnsConn} {i n:Int}:apK c (newC i n):=by unfold apK hasK;rw [key_new,emZ];rfl
theorem chk_stR (l:List UInt8) (h:l.length≤50000):dchk (stR l)=0:=by
 have:=check_good (run_good l h)
 unfold dchk stR
 rw [this];rfl
theorem chk_z:dchk zdC=0:=chk_stR [] (by simp)
theorem sm_newC (i n:Int):smC (newC i n):=by
 unfold smC newC zdC
 simp only [show (⟨#[]⟩ : ByteArray).size=0 from rfl]
 omega
theorem FrsC.sm {st:List ConnsConn} (h:FrsC st):SmS st:=⟨by have:=h.ok.len;omega,fun c hc=>by obtain ⟨i,n,rfl,_⟩:=h.new c hc;exact sm_newC i n⟩
theorem opn_ok {st A B:List ConnsConn} {id n:Int} (h:OkC st) (hc:CutC st A [] B id) (hr:(inB id 0 255 && inB n 0 65535)=true) (h16:st.length≠16):OkC (A++([newC id n]++B))∧CutC (A++([newC id n]++B)) A [newC id n] B id:=by
 have hl:=hc.len
 have:=h.len
 simp at hl
 exact hc.put h rfl (by omega) (by rw [num_new];exact hr) (nam_new _ _) chk_z fun d _=>hasK_new
theorem FrsC.open_ {st:List ConnsConn} (h:FrsC st) (id n:Int) (hi:0≤id∧id < 20):∃ r,p_conns_Open st id n=some r∧FrsC r.1:=by
 obtain ⟨A,M,B,hc⟩:=cutC id h.ok.ord
 rcases hc.m with rfl | ⟨c,rfl,_⟩
 ·obtain ⟨⟨a1,_⟩,_⟩:=none_all h.sm h.ok hc n (⟨#[]⟩ : ByteArray) (⟨#[]⟩ : ByteArray) (⟨#[]⟩ : ByteArray)
  refine ⟨_,a1,?_⟩
  unfold opnC
  split
  ·exact h
  split
  ·exact h
  ·rename_i h1 h2
   obtain ⟨g1,_⟩:=opn_ok h.ok hc (by simpa using h1) h2
   refine ⟨g1,fun c hc2=>?_⟩
   simp only [List.mem_append,List.mem_singleton] at hc2
   rcases hc2 with g | rfl | g
   ·exact h.new c (by rw [hc.e];simp [g])
   ·exact ⟨id,n,rfl,hi.1,hi.2⟩
   ·exact h.new c (by rw [hc.e];simp [g])
 ·obtain ⟨⟨a1,_⟩,_⟩:=one_all h.sm h.ok hc n (⟨#[]⟩ : ByteArray) (⟨#[]⟩ : ByteArray) (⟨#[]⟩ : ByteArray) (by show (0:Nat)≤_;omega) (by show (0:Nat)≤_;omega) (by show (0:Nat)≤_;omega)
  exact ⟨_,a1,h⟩
theorem tmod20 {x:Int} (h:0≤x):0≤w64 (Int.tmod x 20)∧w64 (Int.tmod x 20) < 20:=by
 have h1:=Int.tmod_nonneg 20 h
 have h2:=Int.tmod_lt_of_pos x (show (0:Int) < 20 by omega)
 rw [w64_id (by omega)]
 exact ⟨h1,h2⟩
theorem cback_l {l:List Law31Deed} (hl:l.length≤1000) (hd:∀ d ∈ l,0≤d.ID):∀ (n k F:Nat) (st:List ConnsConn),k + n=l.length→n < F→FrsC st→∃ st' i,p_law31_ConnsBack_l1 l F st (k:Int)=some (st',i)∧FrsC st'
 | 0,k,F + 1,st,hk,hF,h=>by
  rw [p_law31_ConnsBack_l1,lt_ff (by omega)];exact ⟨_,_,rfl,h⟩
 | n + 1,k,F + 1,st,hk,hF,h=>by
  have hlt:k < l.length:=by omega
  obtain ⟨r,r1,r2⟩:=h.open_ (w64 (Int.tmod l[k].ID 20)) (w64 l[k].N) (tmod20 (hd _ (List.getElem_mem hlt)))
  obtain ⟨st',i,e1,e2⟩:=cback_l hl hd n (k + 1) F r.1 (by omega) (by omega) r2
  refine ⟨st',i,?_,e2⟩
  rw [p_law31_ConnsBack_l1,lt_tt hlt,cond_true,at_lt hlt]
  simp only [Option.bind_some,r1]
  rw [w64_succ (by omega),e1]
theorem connsBack_pure (haw:p_law31_awake=some true) (l:List Law31Deed) (b:ByteArray) (c:Int) (hd:∀ d ∈ l,0≤d.ID) (hc:0≤c∧c≤255):p_law31_ConnsBack l b c=some true:=by
 unfold p_law31_ConnsBack
 by_cases h1:(40:Int) < (l.length:Int)
 ·rw [decide_eq_true h1,haw];rfl
 rw [decide_eq_false h1,cond_false]
 by_cases h2:(100:Int) < (b.size:Int)
 ·rw [decide_eq_true h2,haw];rfl
 rw [decide_eq_false h2,cond_false]
 have f0:FrsC []:=⟨okC_of (by simp) (fun c hc=>(by cases hc)) (fun c hc=>(by cases hc)) (fun c hc=>(by cases hc)) .nil .nil,fun c hc=>(by cases hc)⟩
 obtain ⟨st,i,e1,hf⟩:=cback_l (l:=l) (by omega) hd l.length 0 fuel [] (by omega) (by have:=fuel_pos;omega) f0
 have e1' : p_law31_ConnsBack_l1 l fuel [] (0:Int)=_:=e1
 have hall:∀ c ∈ st,c.ID < 77:=fun c hc=>by obtain ⟨i,n,rfl,h,g⟩:=hf.new c hc;show i < 77;omega
 have hcut:CutC st st [] [] 77:=⟨by simp,hall,fun c hc=>(by cases hc),.inl rfl⟩
 obtain ⟨⟨a1,_⟩,_⟩:=none_all hf.sm hf.ok hcut 5 (⟨#[]⟩ : ByteArray) (⟨#[]⟩ : ByteArray) (⟨#[]⟩ : ByteArray)
 unfold opnC at a1
 rw [if_neg (show ¬ (inB 77 0 255 && inB 5 0 65535)=false by decide)] at a1
 simp only [Option.bind_some,e1',a1]
 by_cases h16:st.length=16
 ·rw [if_pos h16]
  simp only [haw]
  rw [show ((st.length:Int) == 16)=true by simp;omega]
  rfl
 rw [if_neg h16]
 obtain ⟨g1,g2⟩:=opn_ok (n:=5) hf.ok hcut (by decide) h16
 have hsm:∀ s:DeframeState,s.Buf.size≤40000→SmS (st++([inC (newC 77 5) s]++[])):=fun s hs=>by
  have:=hf.ok.len
  refine ⟨by simp;omega,fun d hd=>?_⟩
  simp only [List.append_nil,List.mem_append,List.mem_singleton] at hd
  rcases hd with g | rfl
  ·exact hf.sm.2 d g
  ·have:=sm_newC 77 5;exact ⟨this.1,this.2.1,hs⟩
 have hok:∀ s:DeframeState,dchk s=0→OkC (st++([inC (newC 77 5) s]++[]))∧CutC (st++([inC (newC 77 5) s]++[])) st [inC (newC 77 5) s] [] 77:=fun s hs=>by
  have hlen:=hf.ok.len
  refine hcut.put hf.ok rfl (by simp;omega) ?_ ?_ hs fun d _=>?_
  ·exact (num_new 77 5).trans (by decide)
  ·exact nam_new 77 5
  ·have:=@hasK_new d 77 5;exact this
 have hbl:=bl_len b
 -- where the bytes are cut
 have w1:w64 ((b.size:Int) + 1)=((b.size + 1:Nat):Int):=w64_succ (by omega)
 have w2:w64 c=c:=w64_id (by omega)
 have n0:ne0? ((b.size + 1:Nat):Int)=some ():=by unfold ne0?;rw [if_pos (by omega)]
 obtain ⟨k,hk,ek⟩ : ∃ k:Nat,k≤b.size∧Int.tmod c ((b.size + 1:Nat):Int)=(k:Int):=by
  obtain ⟨q,rfl⟩ : ∃ q:Nat,c=q:=⟨c.toNat,by omega⟩
  exact ⟨q % (b.size + 1),by have:=Nat.mod_lt q (show 0 < b.size + 1 by omega);omega,rfl⟩
 obtain ⟨m0,q1,q2,_⟩:=feed_st [] b (by simp;omega)
 obtain ⟨m1,r1,r2,_⟩:=feed_st [] (ba (b.data.toList.take k)) (by rw [ba_size,List.length_take];simp;omega)
 rw [ba_list,List.nil_append] at r1 r2
 rw [List.nil_append] at q1 q2
 obtain ⟨m2,s1,s2,_⟩:=feed_st (b.data.toList.take k) (ba (b.data.toList.drop k)) (by rw [ba_size,List.length_take,List.length_drop];omega)
 rw [ba_list,List.take_append_drop] at s1 s2
 have i0:itR []=[]:=rfl
 rw [i0,List.nil_append] at q2 r2
 have hil:(itR b.data.toList).length≤300:=by
  unfold itR
  obtain ⟨_,_,k3,_⟩:=run_end (b.data.toList.length + 1) b.data.toList (by omega)
  rw [List.length_map];omega
 have hml:m0.length=m1.length + m2.length∧m1.length + m2.length≤300:=by
  have:m0=m1++m2:=by rw [← q2,s2,r2]
  rw [this,List.length_append];rw [s2,r2,List.length_append] at hil;exact ⟨rfl,hil⟩
 have hbf:∀ l:List UInt8,l.length≤1000→(stR l).Buf.size≤40000:=fun l hl=>by
  unfold stR
  obtain ⟨_,k2,_,_⟩:=run_end (l.length + 1) l (by omega)
  show (ba (run l).2.1).size≤_
  rw [ba_size];omega
 have hz:(⟨#[]⟩ : ByteArray).size≤40000:=by show (0:Nat)≤_;omega
 -- the connection,closed;fed at once;fed in two
 have hx:=hok zdC chk_z
 have hxs:=hsm zdC hz
 have ex:inC (newC 77 5) zdC=newC 77 5:=rfl
 rw [ex] at hx hxs
 obtain ⟨_,_,⟨cl,_⟩,_,_,_,x,x1,_,x3,_⟩:=one_all hxs hx.1 hx.2 0 (⟨#[]⟩ : ByteArray) (⟨#[]⟩ : ByteArray) b (by omega) (by omega) (by omega)
 obtain ⟨_,_,_,_,_,_,y,y1,_,y3,_⟩:=one_all hxs hx.1 hx.2 0 (⟨#[]⟩ : ByteArray) (⟨#[]⟩ : ByteArray) (ba (b.data.toList.take k)) (by omega) (by omega) (by rw [ba_size,List.length_take];omega)
 have z1:zdC=stR []:=rfl
 have nin:(newC 77 5).In=stR []:=rfl
 rw [nin,q1] at x1
 rw [nin,r1] at y1
 simp only [Option.some.injEq] at x1 y1
 subst x1 y1
 have lt1:(b.data.toList.take k).length≤1000:=by rw [List.length_take];omega
 have hy:=hok _ (chk_stR (b.data.toList.take k) (by omega))
 have hys:=hsm _ (hbf (b.data.toList.take k) lt1)
 obtain ⟨_,_,_,_,_,_,z,v1,_,v3,_⟩:=one_all hys hy.1 hy.2 0 (⟨#[]⟩ : ByteArray) (⟨#[]⟩ : ByteArray) (ba (b.data.toList.drop k)) (by omega) (by omega) (by rw [ba_size,List.length_drop];omega)
 have yin:(inC (newC 77 5) (stR (b.data.toList.take k))).In=stR (b.data.toList.take k):=rfl
 rw [yin,s1] at v1
 simp only [Option.some.injEq] at v1
 subst v1
 have hp:=hok _ (chk_stR b.data.toList (by omega))
 have hps:=hsm _ (hbf b.data.toList (by omega))
 obtain ⟨_,_,⟨cl2,_⟩,_⟩:=one_all hps hp.1 hp.2 0 (⟨#[]⟩ : ByteArray) (⟨#[]⟩ : ByteArray) (⟨#[]⟩ : ByteArray) (by omega) (by omega) (by omega)
 have ez:inC (inC (newC 77 5) (stR (b.data.toList.take k))) (stR b.data.toList)=inC (newC 77 5) (stR b.data.toList):=rfl
 rw [ez] at v3
 have sm1:=(cself_p (z:=st) hf.sm.1).2
 have sm2:=(cself_p hps.1).2
 have wl:w64 ((m1.length:Int) + (m2.length:Int))=(m0.length:Int):=by rw [w64_id (by omega)];omega
 rw [show st++[]=st from List.append_nil st] at cl cl2
 simp only [bne_self_eq_false,cond_false,Option.bind_some,w1,w2,n0,ek,sub_to hk,sub_from hk,cl,x3,y3,v3,cl2,sm1,sm2,wl,cond_true,beq_self_eq_true,haw]
 rw [show ((newC 77 5).ID == 77)=true from rfl,show ((newC 77 5).Source == 5)=true from rfl]
 rfl
end Go.Proofs.YtdbigmjlhkgeoaaGreat

