/- A part of the proof: 3 texts joined. -/
import Derived.Test.YtmmmcpeickfolaaGreatZdA26
import Derived.Test.YtmmmcpeickfolaaGreatZdA24
import Derived.Test.YtmmmcpeickfolaaGreatZdA14
import Derived.KernelRfl
set_option linter.all false
namespace Go.Proofs.YtmmmcpeickfolaaGreat
open Go.RowKit
theorem u8_fit {n:Int} (h:0≤n∧n≤255):IntKind.wrap .u8 n=n:=by
 obtain ⟨k,rfl⟩ : ∃ k:Nat,n=k:=⟨n.toNat,by omega⟩
 show (k:Int) % 256=k
 omega
def frm (t:List UInt8):List UInt8:=0 :: UInt8.ofNat t.length :: t
theorem lay2 {n:Nat} (h:n≤255):p_octet_Lay (n:Int) 2=some ([0,(n:Int)],0):=by
 have key:∀ F,p_octet_Lay_l1 2 n 2 2 (F + 3) 0 [0,0]=some (2,[0,(n:Int)]):=fun F=>by
  have u0:IntKind.wrap .u8 (shrI .i64 (n:Int) 0)=(n:Int):=by
   have e:shrI .i64 (n:Int) 0=(n:Int):=by
    show (n:Int).fdiv (2 ^ (min (0:Int).toNat 64))=_
    simp
   rw [e]
   exact u8_fit (by omega)
  have u1:IntKind.wrap .u8 (shrI .i64 (n:Int) 8)=0:=by
   have e:shrI .i64 (n:Int) 8=0:=by
    show (n:Int).fdiv (2 ^ 8)=_
    rw [fdivN]
    have:n / 2 ^ 8=0:=Nat.div_eq_of_lt (by omega)
    rw [this];rfl
   rw [e];rfl
  rw [p_octet_Lay_l1]
  show p_octet_Lay_l1 2 n 2 2 (F + 2) 1 (List.set [0,0] 1 (IntKind.wrap .u8 (shrI .i64 (n:Int) 0)))=_
  rw [u0,p_octet_Lay_l1]
  show p_octet_Lay_l1 2 n 2 2 (F + 1) 2 (List.set [0,(n:Int)] 0 (IntKind.wrap .u8 (shrI .i64 (n:Int) 8)))=_
  rw [u1,p_octet_Lay_l1];rfl
 have k2:p_octet_Lay_l1 2 n 2 2 fuel 0 [0,0]=_:=key (fuel - 3)
 have s0:(shrI .i64 (n:Int) 16 != 0)=false:=by
  have e:shrI .i64 (n:Int) 16=0:=by
   show (n:Int).fdiv (2 ^ 16)=_
   rw [fdivN]
   have:n / 2 ^ 16=0:=Nat.div_eq_of_lt (by omega)
   rw [this];rfl
  rw [e];rfl
 unfold p_octet_Lay
 rw [show p_octet_wide 2=some true from rfl]
 simp only [Option.bind_some,cond_true]
 rw [show decide ((n:Int) < 0)=false by simp,cond_false,show pos? (w64 ((8:Int) * 2))=some () from rfl,Option.bind_some,show w64 ((8:Int) * 2)=16 from rfl,s0,cond_false,show mk? (2:Int) (0:Int)=some [0,0] from rfl,Option.bind_some,k2]
 rfl
theorem put_frm (t:List UInt8) (h0:0 < t.length) (h:t.length≤128):p_frame_Put (ba t)=some (ba (frm t),0):=by
 have e1:((ba t).toList == (⟨#[]⟩ : ByteArray).toList)=false:=by
  rw [Bool.eq_false_iff]
  intro g
  have:=eqT_iff.1 g
  have:=congrArg ByteArray.size this
  rw [ba_size] at this
  have e:(⟨#[]⟩ : ByteArray).size=0:=rfl
  omega
 have tx:text? [0,(t.length:Int)]=some (ba [0,UInt8.ofNat t.length]):=by
  unfold text?
  rw [if_pos (by simp;omega)];rfl
 have ct:cat? (ba [0,UInt8.ofNat t.length]) (ba t)=some (ba (frm t)):=by
  unfold cat?
  rw [if_pos (by rw [ba_size,ba_size];simp;omega),ba_app];rfl
 unfold p_frame_Put
 rw [e1,cond_false,ba_size,decide_eq_false (show ¬ (128:Int) < (t.length:Int) by omega),cond_false,lay2 (by omega),Option.bind_some,tx,Option.bind_some,ct];rfl
theorem join_frm:∀ (ts:List (List UInt8)) (acc:List UInt8),(∀ t ∈ ts,0 < t.length∧t.length≤128)→acc.length + 200 * ts.length≤1000000→joinL p_frame_Put (ts.map ba) acc=some (ba (acc++(ts.map frm).flatten),0)
 | [],acc,_,_=>by simp [joinL,ba]
 | t :: ts,acc,h,hl=>by
  obtain ⟨h0,h1⟩:=h t (List.mem_cons_self ..)
  rw [List.length_cons] at hl
  have hf:(ba (frm t)).size=t.length + 2:=by rw [ba_size];rfl
  rw [List.map_cons,joinL,put_frm t h0 h1]
  rw [Option.bind_some,if_neg (by simp),if_pos (show acc.length + (ba (frm t)).size≤1000000000 by omega),show (ba (frm t),(0:Int)).1=ba (frm t) from rfl,ba_list,join_frm ts _ (fun x hx=>h x (List.mem_cons_of_mem _ hx)) (by rw [List.length_append];show acc.length + (t.length + 2) + _≤_;omega)]
  simp
structure Fine (x:StanzaStanza):Prop where
 kind:0≤x.Kind∧x.Kind≤255
 user:x.User.size≤100
 res:x.Res.size≤100
 name:x.Name.size≤100
theorem Fine.fits {x:StanzaStanza} (h:Fine x):stzFits x:=⟨h.kind,by have:=h.user;omega,by have:=h.res;omega,by have:=h.name;omega⟩
def encX (x:StanzaStanza):List UInt8:=encS (stzOf x)
theorem put_fine {x:StanzaStanza} (h:Fine x) (hc:checkS (stzOf x)=0):p_stanza_Put x=some (ba (encX x),0):=by
 unfold p_stanza_Put putP
 rw [if_pos h.fits,if_neg (by simpa using hc)];rfl
theorem encode_l (ws:List StanzaStanza) (hw:∀ x ∈ ws,Fine x∧checkS (stzOf x)=0) (hn:ws.length≤1000):∀ (n k F:Nat) (acc:List ByteArray),k + n=ws.length→n < F→acc.length≤k→p_deframe_Encode_l1 ws (ws.length:Int) F acc (k:Int)=some (.inr (acc++(ws.drop k).map fun x=>ba (encX x),(ws.length:Int)))
 | 0,k,F + 1,acc,hk,hF,ha=>by
  rw [p_deframe_Encode_l1,lt_ff (by omega),show k=ws.length by omega,List.drop_length];simp
 | n + 1,k,F + 1,acc,hk,hF,ha=>by
  have hlt:k < ws.length:=by omega
  obtain ⟨f1,f2⟩:=hw _ (List.getElem_mem hlt)
  rw [p_deframe_Encode_l1,lt_tt hlt,cond_true,at_lt hlt,Option.bind_some,put_fine f1 f2,Option.bind_some]
  simp only [bne_self_eq_false,cond_false]
  rw [app_ok (by simp;omega),Option.bind_some,w64_succ (by omega),encode_l ws hw hn n (k + 1) F _ (by omega) (by omega) (by simp;omega),drop_at hlt,List.map_cons,List.append_assoc]
  rfl
theorem encode_p (ws:List StanzaStanza) (hw:∀ x ∈ ws,Fine x∧checkS (stzOf x)=0) (hn:ws.length≤1000):p_deframe_Encode ws=some (ba ((ws.map fun x=>frm (encX x)).flatten),0):=by
 unfold p_deframe_Encode
 have e:=encode_l ws hw hn ws.length 0 fuel [] (by omega) (by have:=fuel_pos;omega) (Nat.zero_le _)
 rw [List.drop_zero,List.nil_append] at e
 have e' : p_deframe_Encode_l1 ws (ws.length:Int) fuel [] (0:Int)=_:=e
 rw [e']
 simp only [Option.bind_some]
 have hm:(ws.map fun x=>ba (encX x))=(ws.map encX).map ba:=by rw [List.map_map];rfl
 have hj:=join_frm (ws.map encX) [] (fun t ht=>by
  obtain ⟨x,hx,rfl⟩:=List.mem_map.1 ht
  have:=enc_len (hw x hx).2
  exact ⟨this.1,by have:=this.2;show (encS (stzOf x)).length≤128;omega⟩) (by rw [List.length_map];simp;omega)
 unfold p_frame_Join
 rw [if_pos (by rw [List.length_map];omega),hm,hj,List.nil_append,List.map_map]
 rfl
theorem light_x (x:StanzaStanza):p_ref10_Light x=some (decide (x.User.size≤100) && (decide (x.Res.size≤100) && decide (x.Name.size≤100))):=by
 unfold p_ref10_Light
 rw [show decide ((x.User.size:Int)≤100)=decide (x.User.size≤100) by congr 1;simp;omega,show decide ((x.Res.size:Int)≤100)=decide (x.Res.size≤100) by congr 1;simp;omega,show decide ((x.Name.size:Int)≤100)=decide (x.Name.size≤100) by congr 1;simp;omega]
 cases decide (x.User.size≤100) <;> cases decide (x.Res.size≤100) <;> rfl
end Go.Proofs.YtmmmcpeickfolaaGreat

namespace Go.Proofs.YtmmmcpeickfolaaGreat
open Go.RowKit
abbrev toI (l:List UInt8):List Int:=l.map fun b=>(b.toNat:Int)
theorem rsay_b {t:ByteArray} {m:Int} (h:(t.size:Int)≤m) (hm:m≤255):p_ref01_Say t m=some (toI (sayB t),0):=by
 unfold p_ref01_Say
 have e:(UInt8.ofNat t.size).toNat=t.size:=by rw [UInt8.toNat_ofNat'];omega
 rw [decide_eq_false (show ¬ m < (t.size:Int) by omega),decide_eq_false (show ¬ (255:Int) < (t.size:Int) by omega),cond_false,cond_false,u8_fit (show 0≤(t.size:Int)∧(t.size:Int)≤255 by omega),app_ok (by rw [List.length_singleton];unfold bytesI;rw [List.length_map,bl_len];omega),Option.bind_some]
 unfold toI sayB bytesI
 rw [List.map_cons,e];rfl
def beM:Nat→Nat→List UInt8
 | _,0=>[]
 | N,n + 1=>beM (N / 256) n++[UInt8.ofNat N]
theorem beM1 (N:Nat):beM N 1=beL N 1:=by simp [beM,beL]
theorem beM6 (N:Nat):beM N 6=beL N 6:=by
 simp only [beM,beL,Nat.div_div_eq_div_mul,List.nil_append,List.cons_append,Nat.reduceMul,Nat.reducePow,Nat.div_one]
theorem rlay_b1 (w:Nat):∀ (n j F N:Nat) (acc:List Int),j + n=w→w≤10→n < F→N < 256 ^ 7→acc.length≤j→p_ref01_Lay_l1 (w:Int) F (N:Int) acc (j:Int)=some (((N / 256 ^ n:Nat):Int),toI (beM N n)++acc,(w:Int))
 | 0,j,F + 1,N,acc,hj,hw,hF,hN,ha=>by
  rw [p_ref01_Lay_l1,lt_ff (by omega),show j=w by omega]
  simp [beM,toI]
 | n + 1,j,F + 1,N,acc,hj,hw,hF,hN,ha=>by
  have h7:(256:Nat) ^ 7=72057594037927936:=by decide
  have e1:Int.tmod (N:Int) (256:Int)=((N % 256:Nat):Int):=rfl
  have e2:Int.tdiv (N:Int) (256:Int)=((N / 256:Nat):Int):=rfl
  have e3:(UInt8.ofNat N).toNat=N % 256:=by rw [UInt8.toNat_ofNat']
  rw [p_ref01_Lay_l1,lt_tt (by omega),cond_true,e1,u8_fit (show 0≤((N % 256:Nat):Int)∧((N % 256:Nat):Int)≤255 by omega),app_ok (by simp;omega),Option.bind_some,e2,w64_id (show -9223372036854775808≤((N / 256:Nat):Int)∧((N / 256:Nat):Int)≤9223372036854775807 by omega),w64_succ (by omega)]
  rw [rlay_b1 w n (j + 1) F (N / 256) _ (by omega) hw (by omega) (Nat.lt_of_le_of_lt (Nat.div_le_self N 256) hN) (by simp;omega),Nat.div_div_eq_div_mul,← Nat.pow_succ']
  congr 3
  show toI (beM (N / 256) n)++([((N % 256:Nat):Int)]++acc)=toI (beM N (n + 1))++acc
  unfold toI
  rw [beM,List.map_append,List.append_assoc,List.map_singleton,e3]
theorem rlay_b {n:Int} {w:Nat} (hw:w=1∨w=6) (h0:0≤n) (h1:n < 256 ^ w):p_ref01_Lay n (w:Int)=some (toI (beL n.toNat w),0):=by
 obtain ⟨N,rfl⟩:=Int.eq_ofNat_of_zero_le h0
 have hN:N < 256 ^ w:=by
  rcases hw with rfl | rfl
  ·have e:(256:Int) ^ 1=256:=by decide
   have e' : (256:Nat) ^ 1=256:=by decide
   rw [e] at h1;rw [e'];omega
  ·have e:(256:Int) ^ 6=281474976710656:=by decide
   have e' : (256:Nat) ^ 6=281474976710656:=by decide
   rw [e] at h1;rw [e'];omega
 have hwd:p_ref01_wide (w:Int)=some true:=by rcases hw with rfl | rfl <;> rfl
 have hp:(256:Nat) ^ w≤256 ^ 7:=Nat.pow_le_pow_right (by decide) (by rcases hw with rfl | rfl <;> omega)
 have e:=rlay_b1 w w 0 fuel N [] (by omega) (by rcases hw with rfl | rfl <;> omega) (by have:=fuel_pos;rcases hw with rfl | rfl <;> omega) (by omega) (by simp)
 rw [Nat.div_eq_of_lt hN,List.append_nil] at e
 have hM:beM N w=beL N w:=by rcases hw with rfl | rfl;exact beM1 N;exact beM6 N
 rw [hM] at e
 have e' : p_ref01_Lay_l1 (w:Int) fuel (N:Int) [] (0:Int)=_:=e
 unfold p_ref01_Lay
 rw [hwd,Option.bind_some,cond_true,decide_eq_false (show ¬ (N:Int) < 0 by omega),cond_false,e']
 rfl
theorem field_p {x:StanzaStanza} {c:UInt8} (hc:letterS c) (ho:okF (stzOf x) c):p_ref10_field x (c.toNat:Int)=some (toI (fieldB (stzOf x) c)):=by
 rcases hc with rfl | rfl | rfl | rfl | rfl | rfl | rfl
 ·have h:x.User.size≤33:=ok117 ho
  rw [fld117]
  show (p_ref01_Say x.User 33).bind _=_
  rw [rsay_b (by omega) (by omega)];rfl
 ·have h:x.Res.size≤12:=ok114 ho
  rw [fld114]
  show (p_ref01_Say x.Res 12).bind _=_
  rw [rsay_b (by omega) (by omega)];rfl
 ·have h:x.Name.size≤24:=ok109 ho
  rw [fld109]
  show (p_ref01_Say x.Name 24).bind _=_
  rw [rsay_b (by omega) (by omega)];rfl
 ·have h:0≤x.Show∧x.Show≤63:=ok115 ho
  rw [fld115]
  show (p_ref01_Lay x.Show ((1:Nat):Int)).bind _=_
  rw [rlay_b (.inl rfl) h.1 (by show x.Show < 256;omega)];rfl
 ·have h:-128≤x.Prio∧x.Prio≤127:=ok112 ho
  rw [fld112]
  show (p_ref01_Lay (w64 (x.Prio + 128)) ((1:Nat):Int)).bind _=_
  rw [w64_id (by omega),rlay_b (.inl rfl) (by omega) (by show x.Prio + 128 < 256;omega)];rfl
 ·have h:0≤x.Code∧x.Code≤255:=ok99 ho
  rw [fld99]
  show (p_ref01_Lay x.Code ((1:Nat):Int)).bind _=_
  rw [rlay_b (.inl rfl) h.1 (by show x.Code < 256;omega)];rfl
 ·have h:0≤x.N∧x.N < 256 ^ 6:=ok110 ho
  rw [fld110]
  show (p_ref01_Lay x.N ((6:Nat):Int)).bind _=_
  rw [rlay_b (.inr rfl) h.1 h.2];rfl
theorem rput_l (x:StanzaStanza) (L:List UInt8) (hL:∀ c ∈ L,letterS c∧okF (stzOf x) c) (hn:L.length≤5):∀ (n k F:Nat) (acc:List Int),k + n=L.length→n < F→acc.length≤1 + 34 * k→p_ref10_Put_l1 (ba L) x F acc (k:Int)=some (acc++toI (bodyB (stzOf x) (L.drop k)),(L.length:Int))
 | 0,k,F + 1,acc,hk,hF,ha=>by
  rw [p_ref10_Put_l1,ba_size,lt_ff (by omega),show k=L.length by omega,List.drop_length]
  simp [bodyB,toI]
 | n + 1,k,F + 1,acc,hk,hF,ha=>by
  have hlt:k < L.length:=by omega
  obtain ⟨hc,ho⟩:=hL _ (List.getElem_mem hlt)
  obtain ⟨f1,f2⟩:=field_len ho
  have bt:byte? (ba L) (k:Int)=some ((L[k]).toNat:Int):=by
   rw [byte_at (by rw [ba_size];exact hlt),← bl_get (ba L) k (by rw [ba_size];exact hlt)]
   simp only [ba_list]
  have hfl:(toI (fieldB (stzOf x) L[k])).length≤34:=by unfold toI;rw [List.length_map];exact f2
  rw [p_ref10_Put_l1,ba_size,lt_tt hlt,cond_true,bt,Option.bind_some,field_p hc ho,Option.bind_some,app_ok (by omega),Option.bind_some,w64_succ (by omega),rput_l x L hL hn n (k + 1) F _ (by omega) (by omega) (by rw [List.length_append];omega),drop_at hlt]
  unfold bodyB toI
  rw [List.flatMap_cons,List.map_append,List.append_assoc]
theorem text_toI (l:List UInt8):text? (toI l)=some (ba l):=by
 unfold text? toI
 rw [if_pos]
 ·congr 1
  unfold ba
  congr 1
  rw [List.map_map]
  congr 1
  refine (List.map_congr_left fun b _=>?_).trans (List.map_id l)
  show UInt8.ofNat ((b.toNat:Int)).toNat=b
  rw [Int.toNat_natCast,UInt8.ofNat_toNat]
 ·rw [List.all_eq_true]
  intro y hy
  obtain ⟨b,_,rfl⟩:=List.mem_map.1 hy
  have:=b.toNat_lt
  simp;omega
theorem rput_p {x:StanzaStanza} (h:Fine x):p_ref10_Put x=some (putP (stzOf x)):=by
 have hc:p_ref10_Check x=some (checkS (stzOf x)):=by unfold p_ref10_Check;rw [if_pos h.fits]
 unfold p_ref10_Put putP
 rw [hc,Option.bind_some]
 by_cases h0:checkS (stzOf x)=0
 ·rw [show (checkS (stzOf x) != 0)=false by simpa using h0,cond_false,if_neg (by simpa using h0)]
  have hk:=(rkh_p (stzOf x).kind).2
  have ek:((stzOf x).kind.toNat:Int)=x.Kind:=u8_of h.kind
  rw [ek] at hk
  have hl:=rput_l x (hasN (stzOf x).kind.toNat) (let_ok h0) (hasN_len _) (hasN (stzOf x).kind.toNat).length 0 fuel [x.Kind] (by omega) (by have:=fuel_pos;have:=hasN_len (stzOf x).kind.toNat;omega) (by simp)
  rw [List.drop_zero] at hl
  have hl' : p_ref10_Put_l1 (ba (hasN (stzOf x).kind.toNat)) x fuel [x.Kind] (0:Int)=_:=hl
  rw [hk,Option.bind_some,hl']
  simp only [Option.bind_some]
  have e:[x.Kind]++toI (bodyB (stzOf x) (hasN (stzOf x).kind.toNat))=toI ((stzOf x).kind :: bodyB (stzOf x) (hasN (stzOf x).kind.toNat)):=by
   unfold toI;rw [List.map_cons,ek];rfl
  rw [e,text_toI];rfl
 ·rw [show (checkS (stzOf x) != 0)=true by simpa using h0,if_pos h0];rfl
theorem rput_frm (t:List UInt8) (h0:0 < t.length) (h:t.length≤128):p_ref11_Put (ba t)=some (ba (frm t),0):=by
 have e1:((ba t).toList == (⟨#[]⟩ : ByteArray).toList)=false:=by
  rw [Bool.eq_false_iff]
  intro g
  have:=eqT_iff.1 g
  have:=congrArg ByteArray.size this
  rw [ba_size] at this
  have e:(⟨#[]⟩ : ByteArray).size=0:=rfl
  omega
 have d1:Int.tdiv (t.length:Int) 256=0:=by
  show ((t.length / 256:Nat):Int)=0
  rw [Nat.div_eq_of_lt (by omega)];rfl
 have d2:Int.tmod (t.length:Int) 256=(t.length:Int):=by
  show ((t.length % 256:Nat):Int)=_
  rw [Nat.mod_eq_of_lt (by omega)]
 have tx:text? [0,(t.length:Int)]=some (ba [0,UInt8.ofNat t.length]):=by
  unfold text?
  rw [if_pos (by simp;omega)];rfl
 have ct:cat? (ba [0,UInt8.ofNat t.length]) (ba t)=some (ba (frm t)):=by
  unfold cat?
  rw [if_pos (by rw [ba_size,ba_size];simp;omega),ba_app];rfl
 unfold p_ref11_Put
 rw [e1,cond_false,ba_size,decide_eq_false (show ¬ (128:Int) < (t.length:Int) by omega),cond_false,d1,d2,u8_fit (n:=(t.length:Int)) (by omega),show IntKind.wrap .u8 (w64 0)=0 from rfl,tx,Option.bind_some,ct];rfl
def encR:List StanzaStanza→List UInt8→ByteArray × Int
 | [],acc=>(ba acc,0)
 | x :: l,acc=>if checkS (stzOf x)≠0 then (⟨#[]⟩,checkS (stzOf x)) else encR l (acc++frm (encX x))
theorem encR_all:∀ (l:List StanzaStanza) (acc:List UInt8),(∀ x ∈ l,checkS (stzOf x)=0)→encR l acc=(ba (acc++(l.map fun x=>frm (encX x)).flatten),0)
 | [],acc,_=>by simp [encR]
 | x :: l,acc,h=>by
  rw [encR,if_neg (by simpa using h x (List.mem_cons_self ..)),encR_all l _ fun y hy=>h y (List.mem_cons_of_mem _ hy)]
  simp
theorem putFine {x:StanzaStanza} (h:Fine x):p_stanza_Put x=some (putP (stzOf x)):=by unfold p_stanza_Put;rw [if_pos h.fits]
theorem enc_l1 (ws:List StanzaStanza) (hw:∀ x ∈ ws,Fine x) (hn:ws.length≤1000):∀ (n k F:Nat) (acc:List ByteArray) (A:List UInt8),k + n=ws.length→n < F→acc.length≤k →
  (∃ q,p_deframe_Encode_l1 ws (ws.length:Int) F acc (k:Int)=some (.inl q)∧encR (ws.drop k) A=q)∨(p_deframe_Encode_l1 ws (ws.length:Int) F acc (k:Int)=some (.inr (acc++(ws.drop k).map fun x=>ba (encX x),(ws.length:Int)))∧∀ x ∈ ws.drop k,checkS (stzOf x)=0)
 | 0,k,F + 1,acc,A,hk,hF,ha=>by
  right
  rw [p_deframe_Encode_l1,lt_ff (by omega),show k=ws.length by omega,List.drop_length]
  exact ⟨by simp,fun x hx=>by cases hx⟩
 | n + 1,k,F + 1,acc,A,hk,hF,ha=>by
  have hlt:k < ws.length:=by omega
  have hf:=hw _ (List.getElem_mem hlt)
  rw [p_deframe_Encode_l1,lt_tt hlt,cond_true,at_lt hlt,Option.bind_some,putFine hf,Option.bind_some,drop_at hlt]
  unfold putP
  by_cases h0:checkS (stzOf ws[k])=0
  ·rw [if_neg (by simpa using h0)]
   simp only [bne_self_eq_false,cond_false]
   rw [app_ok (by simp;omega),Option.bind_some,w64_succ (by omega)]
   rcases enc_l1 ws hw hn n (k + 1) F (acc++[ba ((stzOf ws[k]).kind :: bodyB (stzOf ws[k]) (hasN (stzOf ws[k]).kind.toNat))]) (A++frm (encX ws[k])) (by omega) (by omega) (by simp;omega) with ⟨q,e1,e2⟩ | ⟨e1,e2⟩
   ·exact .inl ⟨q,e1,by rw [encR,if_neg (by simpa using h0)];exact e2⟩
   ·refine .inr ⟨?_,fun x hx=>?_⟩
    ·rw [e1,List.map_cons,List.append_assoc];rfl
    ·rcases List.mem_cons.1 hx with rfl | hx
     ·exact h0
     ·exact e2 x hx
  ·rw [if_pos h0]
   simp only
   rw [show (checkS (stzOf ws[k]) != 0)=true by simpa using h0,cond_true]
   exact .inl ⟨_,rfl,by rw [encR,if_pos h0]⟩
theorem enc_p (ws:List StanzaStanza) (hw:∀ x ∈ ws,Fine x) (hn:ws.length≤1000):p_deframe_Encode ws=some (encR ws []):=by
 rcases enc_l1 ws hw hn ws.length 0 fuel [] [] (by omega) (by have:=fuel_pos;omega) (Nat.zero_le _) with ⟨q,e1,e2⟩ | ⟨e1,e2⟩
 ·have e1' : p_deframe_Encode_l1 ws (ws.length:Int) fuel [] (0:Int)=_:=e1
  rw [List.drop_zero] at e2
  unfold p_deframe_Encode
  rw [e1',e2];rfl
 ·rw [List.drop_zero] at e2
  rw [encode_p ws (fun x hx=>⟨hw x hx,e2 x hx⟩) hn,encR_all ws [] e2,List.nil_append]
theorem renc_l1 (ws:List StanzaStanza) (hw:∀ x ∈ ws,Fine x) (hn:ws.length≤1000):∀ (n k F:Nat) (A:List UInt8),k + n=ws.length→n < F→A.length≤100 * k →
  (∃ q,p_ref12_Encode_l1 ws F (ba A) (k:Int)=some (.inl q)∧encR (ws.drop k) A=q)∨∃ s z,p_ref12_Encode_l1 ws F (ba A) (k:Int)=some (.inr (s,z))∧encR (ws.drop k) A=(s,0)
 | 0,k,F + 1,A,hk,hF,ha=>by
  right
  refine ⟨ba A,(k:Int),?_,?_⟩
  ·rw [p_ref12_Encode_l1,lt_ff (by omega)];rfl
  ·rw [show k=ws.length by omega,List.drop_length];rfl
 | n + 1,k,F + 1,A,hk,hF,ha=>by
  have hlt:k < ws.length:=by omega
  have hf:=hw _ (List.getElem_mem hlt)
  rw [p_ref12_Encode_l1,lt_tt hlt,cond_true,at_lt hlt,Option.bind_some,rput_p hf,Option.bind_some,drop_at hlt]
  unfold putP
  by_cases h0:checkS (stzOf ws[k])=0
  ·obtain ⟨hL0,hL1⟩:=enc_len h0
   have hlen:(encX ws[k]).length=(encS (stzOf ws[k])).length:=rfl
   have hfr:(frm (encX ws[k])).length=(encX ws[k]).length + 2:=rfl
   rw [if_neg (by simpa using h0)]
   simp only [bne_self_eq_false,cond_false]
   have hp:p_ref11_Put (ba ((stzOf ws[k]).kind :: bodyB (stzOf ws[k]) (hasN (stzOf ws[k]).kind.toNat)))=some (ba (frm (encX ws[k])),0):=rput_frm (encX ws[k]) (by omega) (by omega)
   have hct:cat? (ba A) (ba (frm (encX ws[k])))=some (ba (A++frm (encX ws[k]))):=by
    unfold cat?
    rw [if_pos (by rw [ba_size,ba_size];omega),ba_app]
   rw [hp]
   simp only [Option.bind_some,bne_self_eq_false,cond_false,hct]
   rw [w64_succ (by omega)]
   rcases renc_l1 ws hw hn n (k + 1) F (A++frm (encX ws[k])) (by omega) (by omega) (by rw [List.length_append];omega) with ⟨q,e1,e2⟩ | ⟨s,z,e1,e2⟩
   ·exact .inl ⟨q,e1,by rw [encR,if_neg (by simpa using h0)];exact e2⟩
   ·exact .inr ⟨s,z,e1,by rw [encR,if_neg (by simpa using h0)];exact e2⟩
  ·rw [if_pos h0]
   simp only
   rw [show (checkS (stzOf ws[k]) != 0)=true by simpa using h0,cond_true]
   exact .inl ⟨_,rfl,by rw [encR,if_pos h0]⟩
theorem renc_p (ws:List StanzaStanza) (hw:∀ x ∈ ws,Fine x) (hn:ws.length≤1000):p_ref12_Encode ws=some (encR ws []):=by
 unfold p_ref12_Encode
 rcases renc_l1 ws hw hn ws.length 0 fuel [] (by omega) (by have:=fuel_pos;omega) (Nat.zero_le _) with ⟨q,e1,e2⟩ | ⟨s,z,e1,e2⟩
 ·have e1' : p_ref12_Encode_l1 ws fuel (⟨#[]⟩ : ByteArray) (0:Int)=_:=e1
  rw [List.drop_zero] at e2
  rw [e1',e2];rfl
 ·have e1' : p_ref12_Encode_l1 ws fuel (⟨#[]⟩ : ByteArray) (0:Int)=_:=e1
  rw [List.drop_zero] at e2
  rw [e1',e2];rfl
theorem encs_l1 (haw:p_law12_awake=some true) (l:List StanzaStanza) (hk:∀ x ∈ l,0≤x.Kind∧x.Kind≤255) (hn:l.length≤12):∀ (n k F:Nat),k + n=l.length→n < F→(∀ x ∈ l.take k,Fine x) →
  p_law12_DeframeEncodes_l1 l F (l.take k) (k:Int)=some (.inl true)∨∃ z,p_law12_DeframeEncodes_l1 l F (l.take k) (k:Int)=some (.inr (l,z))∧∀ x ∈ l,Fine x
 | 0,k,F + 1,h1,hF,hw=>by
  right
  have e:k=l.length:=by omega
  subst e
  rw [List.take_length] at hw ⊢
  refine ⟨(l.length:Int),?_,hw⟩
  rw [p_law12_DeframeEncodes_l1,lt_ff (by omega)];rfl
 | n + 1,k,F + 1,h1,hF,hw=>by
  have hlt:k < l.length:=by omega
  rw [p_law12_DeframeEncodes_l1,lt_tt hlt,cond_true,at_lt hlt]
  simp only [Option.bind_some]
  rw [light_x,Option.bind_some]
  cases hL:(decide (l[k].User.size≤100) && (decide (l[k].Res.size≤100) && decide (l[k].Name.size≤100))) with
  | false=>left;rw [cond_false,haw];rfl
  | true =>
   simp only [Bool.and_eq_true,decide_eq_true_eq] at hL
   have hf:Fine l[k]:=⟨hk _ (List.getElem_mem hlt),hL.1,hL.2.1,hL.2.2⟩
   rw [cond_true,app_ok (by rw [List.length_take];simp;omega),Option.bind_some,w64_succ (by omega),← List.take_succ_eq_append_getElem hlt]
   refine encs_l1 haw l hk hn n (k + 1) F (by omega) (by omega) fun x hx=>?_
   rw [List.take_succ_eq_append_getElem hlt] at hx
   rcases List.mem_append.1 hx with hx | hx
   ·exact hw x hx
   ·rw [List.mem_singleton.1 hx];exact hf
theorem deframeEncodes_pure (haw:p_law12_awake=some true) (l:List StanzaStanza) (hk:∀ x ∈ l,0≤x.Kind∧x.Kind≤255):p_law12_DeframeEncodes l=some true:=by
 unfold p_law12_DeframeEncodes
 by_cases h:(12:Int) < (l.length:Int)
 ·rw [decide_eq_true h,haw];rfl
 rw [decide_eq_false h,cond_false]
 have h1:=encs_l1 haw l hk (by omega) l.length 0 fuel (by omega) (by have:=fuel_pos;omega) (fun x hx=>by cases hx)
 rw [List.take_zero,show ((0:Nat):Int)=0 from rfl] at h1
 rcases h1 with h1 | ⟨z,h1,h2⟩
 ·rw [h1];rfl
 ·rw [h1]
  simp only [Option.bind_some]
  rw [enc_p l h2 (by omega),renc_p l h2 (by omega)]
  simp only [Option.bind_some,eqT_refl,beq_self_eq_true,cond_true,haw]
end Go.Proofs.YtmmmcpeickfolaaGreat

namespace Go.Proofs.YtmmmcpeickfolaaGreat
open Go.RowKit
set_option maxRecDepth 100000
set_option maxHeartbeats 4000000
def gc34:BCode:=(.seq (R_ 1 [O_ 1 (.bx (t_ 0)) 0,O_ 2 (.mv (i_ 0)) 1]) (.seq (.seq (R_ 0 [O_ 6 (.fa 1 (t_ 1)) 0,O_ 7 (.ld 1 false (t_ 6)) 0,O_ 8 (.bin .neq (t_ 7) (i_ 0)) 0,O_ 9 (.mv (t_ 8)) 0,⟨(some 10),.fa 0 (t_ 1),(some (9,true)),0⟩,⟨(some 11),.ld 1 false (t_ 10),(some (9,true)),0⟩,⟨(some 12),.bin .neq (t_ 11) (.const (.string ⟨#[]⟩)),(some (9,true)),0⟩,O_ 13 (.pick (t_ 9) (t_ 12) (b_ false)) 0]) (.cond (t_ 13) (.seq (R_ 0 [O_ 2 (.mv (i_ 4)) 0]) .ret) .skip)) (.seq (.seq (R_ 0 [O_ 15 (.fa 0 (t_ 1)) 0,O_ 16 (.ld 1 false (t_ 15)) 0,O_ 17 (.cl 61 [(t_ 16)]) 0,O_ 14 (.mv (t_ 17)) 0,O_ 18 (.ex (t_ 14) 0) 0,O_ 19 (.ex (t_ 14) 1) 0,O_ 20 (.ex (t_ 14) 2) 0,O_ 3 (.mv (t_ 18)) 0,O_ 4 (.mv (t_ 19)) 0,O_ 5 (.mv (t_ 20)) 0]) (.seq (R_ 0 [O_ 21 (.mv (t_ 5)) 0,O_ 22 (.bin .neq (t_ 21) (i_ 3)) 0]) (.cond (t_ 22) (.seq (R_ 0 [O_ 2 (.mv (i_ 5)) 0]) .ret) .skip))) (.seq (.seq (R_ 0 [O_ 23 (.fa 2 (t_ 1)) 0,O_ 24 (.ld 1 false (t_ 23)) 0,O_ 25 (.bin .lss (t_ 24) (i_ 0)) 0]) (.cond (t_ 25) (.seq (R_ 0 [O_ 2 (.mv (i_ 8)) 0]) .ret) .skip)) (.seq (R_ 0 [O_ 2 (.mv (i_ 0)) 0]) .ret)))))
theorem gc34_ok:compF Tryz.prog Tryz.f34=some (gc34.er,26,[.tmp 2]):=by unfold gc34;kernel_rfl
theorem p_deframe_Check_v (a0:DeframeState):CallsO Tryz.prog 34 [.agg [.s a0.Buf,.i a0.Bad,.i a0.Seen]] V.i (p_deframe_Check a0):=by
 refine callsO_comp mix Tryz.func34 gc34_ok fun r H=>?_
 rw [p_deframe_Check] at H
 conv=>whnf
 refine tst_d H (fun b1 H=>?_) (fun b1 H=>?_)
 ·conv=>whnf
  iterate 4 (refine Tst.F ?_;conv=>whnf)
  refine ask_c (p_frame_Get_v _) H rfl rfl (fun v6 H=>?_);conv=>whnf
  refine tst_c H (fun b7 H=>?_) (fun b7 H=>?_)
  ·conv=>whnf
   exact fi_ H
  conv=>whnf
  refine tst_c H (fun b8 H=>?_) (fun b8 H=>?_)
  ·conv=>whnf
   exact fi_ H
  conv=>whnf
  exact fi_ H
 conv=>whnf
 iterate 3 (refine Tst.T ?_;conv=>whnf)
 refine Tst.not ?_
 refine tst_d H (fun b2 H=>?_) (fun b2 H=>?_)
 ·conv=>whnf
  exact fi_ H
 conv=>whnf
 refine ask_c (p_frame_Get_v _) H rfl rfl (fun v3 H=>?_);conv=>whnf
 refine tst_c H (fun b4 H=>?_) (fun b4 H=>?_)
 ·conv=>whnf
  exact fi_ H
 conv=>whnf
 refine tst_c H (fun b5 H=>?_) (fun b5 H=>?_)
 ·conv=>whnf
  exact fi_ H
 conv=>whnf
 exact fi_ H
def gc60:BCode:=(.seq (R_ 1 [O_ 1 (.bx (t_ 0)) 0,O_ 2 (.mv (b_ false)) 1]) (.seq (R_ 0 [O_ 3 (.fa 1 (t_ 1)) 0,O_ 4 (.ld 1 false (t_ 3)) 0,O_ 5 (.bin .neq (t_ 4) (i_ 0)) 0,O_ 6 (.mv (t_ 5)) 0,⟨(some 7),.ld 3 true (t_ 1),(some (6,false)),0⟩,⟨(some 8),.cl 34 [(t_ 7)],(some (6,false)),0⟩,⟨(some 9),.bin .neq (t_ 8) (i_ 0),(some (6,false)),0⟩,O_ 10 (.pick (t_ 6) (b_ true) (t_ 9)) 0,O_ 2 (.mv (t_ 10)) 0]) .ret))
theorem gc60_ok:compF Tryz.prog Tryz.f60=some (gc60.er,11,[.tmp 2]):=by unfold gc60;kernel_rfl
theorem p_deframe_State_deaf_v (a0:DeframeState):CallsO Tryz.prog 60 [.agg [.s a0.Buf,.i a0.Bad,.i a0.Seen]] V.b (p_deframe_State_deaf a0):=by
 refine callsO_comp mix Tryz.func60 gc60_ok fun r H=>?_
 rw [p_deframe_State_deaf] at H
 conv=>whnf
 refine tst_c H (fun b1 H=>?_) (fun b1 H=>?_)
 ·conv=>whnf
  iterate 3 (refine Tst.T ?_;conv=>whnf)
  exact fb_ H
 conv=>whnf
 refine Tst.F ?_;conv=>whnf
 refine ask_c (p_deframe_Check_v _) H rfl rfl (fun v2 H=>?_);conv=>whnf
 iterate 2 (refine Tst.F ?_;conv=>whnf)
 exact fb_ H
def gc28:BCode:=(.seq (R_ 2 [O_ 2 (.bx (t_ 0)) 0,O_ 4 (.al (.agg [(.lit (.string ⟨#[]⟩)),(.lit (.int .i64 0)),(.lit (.int .i64 0))])) 1,O_ 5 (.mv (.const (.slice none 0 0))) 2]) (.seq (.seq (R_ 0 [O_ 10 (.ld 3 true (t_ 2)) 0,O_ 11 (.cl 60 [(t_ 10)]) 0]) (.cond (t_ 11) (.seq (R_ 0 [O_ 12 (.ld 3 true (t_ 2)) 0,U_ (.st 3 (t_ 4) (t_ 12)) 0,O_ 5 (.mv (.const (.slice none 0 0))) 0]) .ret) .skip)) (.seq (R_ 0 [O_ 13 (.fa 0 (t_ 2)) 0,O_ 14 (.ld 1 false (t_ 13)) 0,O_ 15 (.mv (t_ 1)) 0,O_ 16 (.bin .add (t_ 14) (t_ 15)) 0,O_ 17 (.fa 0 (t_ 2)) 0,U_ (.st 1 (t_ 17) (t_ 16)) 0]) (.seq (R_ 0 [O_ 6 (.mv (.const (.slice none 0 0))) 0]) (.block 0 (.loop (.block 1 (.seq (R_ 0 [O_ 19 (.fa 0 (t_ 2)) 0,O_ 20 (.ld 1 false (t_ 19)) 0,O_ 21 (.cl 61 [(t_ 20)]) 0,O_ 18 (.mv (t_ 21)) 0,O_ 22 (.ex (t_ 18) 0) 0,O_ 23 (.ex (t_ 18) 1) 0,O_ 24 (.ex (t_ 18) 2) 0,O_ 7 (.mv (t_ 22)) 0,O_ 8 (.mv (t_ 23)) 0,O_ 9 (.mv (t_ 24)) 0]) (.seq (.seq (R_ 0 [O_ 25 (.mv (t_ 9)) 0,O_ 26 (.bin .eql (t_ 25) (i_ 3)) 0]) (.cond (t_ 26) (.seq (R_ 0 [O_ 27 (.ld 3 true (t_ 2)) 0,O_ 28 (.mv (t_ 6)) 0,U_ (.st 3 (t_ 4) (t_ 27)) 0,O_ 5 (.mv (t_ 28)) 0]) .ret) .skip)) (.seq (.seq (R_ 0 [O_ 29 (.mv (t_ 9)) 0,O_ 30 (.bin .neq (t_ 29) (i_ 0)) 0]) (.cond (t_ 30) (.seq (R_ 0 [O_ 31 (.mv (t_ 9)) 0,O_ 32 (.fa 0 (t_ 2)) 0,U_ (.st 1 (t_ 32) (.const (.string ⟨#[]⟩))) 0,O_ 33 (.fa 1 (t_ 2)) 0,U_ (.st 1 (t_ 33) (t_ 31)) 0]) (.seq (R_ 0 [O_ 34 (.ld 3 true (t_ 2)) 0,O_ 35 (.mv (t_ 6)) 0,U_ (.st 3 (t_ 4) (t_ 34)) 0,O_ 5 (.mv (t_ 35)) 0]) .ret)) .skip)) (.seq (R_ 2 [O_ 36 (.mv (t_ 6)) 0,O_ 37 (.mv (t_ 7)) 0,O_ 38 (.bs 1 1 [(.lit (.string ⟨#[]⟩))] [(0,(t_ 37))]) 0,O_ 39 (.ap 1 16 (t_ 36) (t_ 38)) 1,O_ 6 (.mv (t_ 39)) 2]) (.seq (R_ 0 [O_ 40 (.fa 0 (t_ 2)) 0,O_ 41 (.ld 1 false (t_ 40)) 0,O_ 42 (.mv (t_ 8)) 0,O_ 43 (.slt (t_ 41) (some (t_ 42)) none) 0,O_ 44 (.fa 0 (t_ 2)) 0,U_ (.st 1 (t_ 44) (t_ 43)) 0]) (R_ 0 [O_ 45 (.fa 2 (t_ 2)) 0,O_ 46 (.ld 1 false (t_ 45)) 0,O_ 47 (.bin .add (t_ 46) (i_ 1)) 0,O_ 48 (.fa 2 (t_ 2)) 0,U_ (.st 1 (t_ 48) (t_ 47)) 0])))))))))))))
theorem gc28_ok:compF Tryz.prog Tryz.f28=some (gc28.er,49,[.cell 4 3 true,.tmp 5]):=by unfold gc28;kernel_rfl
theorem p_deframe_Texts_v (a0:DeframeState) (a1:ByteArray):CallsO Tryz.prog 28 [.agg [.s a0.Buf,.i a0.Bad,.i a0.Seen],.s a1] (fun r:DeframeState × (List ByteArray)=>.tup [DeframeState.v r.1,(fun l:List ByteArray=>V.sl (l.map V.s) false) r.2]) (p_deframe_Texts a0 a1):=by
 refine callsO_comp mix Tryz.func28 gc28_ok fun r H=>?_
 rw [p_deframe_Texts] at H
 conv=>whnf
 refine ask_c (p_deframe_State_deaf_v _) H rfl rfl (fun v1 H=>?_);conv=>whnf
 refine tst_c H (fun b2 H=>?_) (fun b2 H=>?_)
 ·conv=>whnf
  refine lq_ ?_;conv=>whnf
  refine finR_c (enc:=(fun r:DeframeState × (List ByteArray)=>.tup [DeframeState.v r.1,(fun l:List ByteArray=>V.sl (l.map V.s) false) r.2])) H ?_;conv=>whnf
  exact ⟨_,.tup (.cons (fzagg (.cons (.id rfl) (.cons (.id rfl) (.cons (.id rfl) (.nil)))) rfl) (.cons (.c (.slw)) (.nil)))⟩
 conv=>whnf
 refine cat_c H (fun s3 H=>?_);conv=>whnf
 refine lq_ ?_;conv=>whnf
 obtain ⟨o5,HL6,HQ7⟩:=bind_c H
 refine loop_c [5,6] [7,8,9,18,19,20,21,22,23,24,25,26,27,28,29,30,31,32,33,34,35,36,37,38,39,40,41,42,43,44,45,46,47,48,13,17] [7,8,9,18,19,20,21,22,23,24,25,26,27,28,29,30,31,32,33,34,35,36,37,38,39,40,41,42,43,44,45,46,47,48,13,17] (fun n vals st=>(∃ y9,p_deframe_Texts_l1  n [] y9=some o5∧vals=[.sl (List.map V.s []) true,.sl (List.map V.s []) true]∧st=[.live [.s y9.Buf,.i y9.Bad,.i y9.Seen] 0,.live [.s (⟨#[]⟩ : ByteArray),.i (0:Int),.i (0:Int)] 0])∨(∃ y15 y16,p_deframe_Texts_l1  n y15 y16=some o5∧vals=[.sl (List.map V.s []) true,.osl 2 0 (List.length y15) 1 false]∧st=[.live [.s y16.Buf,.i y16.Bad,.i y16.Seen] 0,.live [.s (⟨#[]⟩ : ByteArray),.i (0:Int),.i (0:Int)] 0,.live (cellsM V.s y15) (cellsM V.s y15).length])) fuel 2 [] (.inl (⟨_,HL6,rfl,rfl⟩)) (Nat.zero_le _) rfl (by kernel_rfl) (by kernel_rfl) rfl ⟨⟨rfl,rfl,rfl⟩,⟨⟨rfl,rfl,rfl⟩,trivial⟩⟩ ?_
 rintro (_ | n8) _ _ (⟨y9,H,rfl,rfl⟩ | ⟨y15,y16,H,rfl,rfl⟩)
 ·rw [p_deframe_Texts_l1] at H;cases H
 ·rw [p_deframe_Texts_l1] at H;cases H
 ·rw [p_deframe_Texts_l1] at H
  conv=>whnf
  refine ask_c (p_frame_Get_v _) H rfl rfl (fun v10 H=>?_);conv=>whnf
  refine tst_c H (fun b11 H=>?_) (fun b11 H=>?_)
  ·conv=>whnf
   refine lq_ ?_;conv=>whnf
   obtain rfl:=Option.some.inj H
   have H:=HQ7
   try dsimp only at H
   refine finR_c (enc:=(fun r:DeframeState × (List ByteArray)=>.tup [DeframeState.v r.1,(fun l:List ByteArray=>V.sl (l.map V.s) false) r.2])) H ?_;conv=>whnf
   exact ⟨_,.tup (.cons (fzagg (.cons (.id rfl) (.cons (.id rfl) (.cons (.id rfl) (.nil)))) rfl) (.cons (.c (.slw)) (.nil)))⟩
  conv=>whnf
  refine tst_c H (fun b12 H=>?_) (fun b12 H=>?_)
  ·conv=>whnf
   refine lq_ ?_;conv=>whnf
   refine lq_ ?_;conv=>whnf
   refine lq_ ?_;conv=>whnf
   obtain rfl:=Option.some.inj H
   have H:=HQ7
   try dsimp only at H
   refine finR_c (enc:=(fun r:DeframeState × (List ByteArray)=>.tup [DeframeState.v r.1,(fun l:List ByteArray=>V.sl (l.map V.s) false) r.2])) H ?_;conv=>whnf
   exact ⟨_,.tup (.cons (fzagg (.cons (.id rfl) (.cons (.id rfl) (.cons (.id rfl) (.nil)))) rfl) (.cons (.c (.slw)) (.nil)))⟩
  conv=>whnf
  refine appN_c (f:=V.s) H (fun _=>rfl) (srcM (f:=V.s) (fun _=>rfl) [] true) rfl (.v (srcOwn (f:=V.s) (l:=[v10.1]) (fun _=>rfl) rfl rfl rfl)) (by decide) rfl (by simp) (fun l13 H=>?_);conv=>whnf
  refine slt_c H (fun s14 H=>?_);conv=>whnf
  refine lq_ ?_;conv=>whnf
  refine Ari.w ?_;conv=>whnf
  refine lq_ ?_;conv=>whnf
  exact again_c [7,8,9,18,19,20,21,22,23,24,25,26,27,28,29,30,31,32,33,34,35,36,37,38,39,40,41,42,43,44,45,46,47,48,13,17] n8 3 [0,1,3] (.inr (⟨_,_,H,rfl,rfl⟩)) (Nat.lt_succ_self _) (Nat.zero_le _) rfl (by kernel_rfl) (by kernel_rfl) rfl ⟨⟨rfl,rfl,rfl⟩,⟨⟨rfl,rfl,rfl⟩,wkB_live0 rfl (cellsM_idlt (f:=V.s) (fun _=>rfl) _) rfl trivial⟩⟩
 rw [p_deframe_Texts_l1] at H
 conv=>whnf
 refine ask_c (p_frame_Get_v _) H rfl rfl (fun v17 H=>?_);conv=>whnf
 refine tst_c H (fun b18 H=>?_) (fun b18 H=>?_)
 ·conv=>whnf
  refine lq_ ?_;conv=>whnf
  obtain rfl:=Option.some.inj H
  have H:=HQ7
  try dsimp only at H
  refine finR_c (enc:=(fun r:DeframeState × (List ByteArray)=>.tup [DeframeState.v r.1,(fun l:List ByteArray=>V.sl (l.map V.s) false) r.2])) H ?_;conv=>whnf
  exact ⟨_,.tup (.cons (fzagg (.cons (.id rfl) (.cons (.id rfl) (.cons (.id rfl) (.nil)))) rfl) (.cons (.c (fzown (f:=V.s) (l:=y15) rfl rfl (fun _=>rfl) (fun _=>rfl))) (.nil)))⟩
 conv=>whnf
 refine tst_c H (fun b19 H=>?_) (fun b19 H=>?_)
 ·conv=>whnf
  refine lq_ ?_;conv=>whnf
  refine lq_ ?_;conv=>whnf
  refine lq_ ?_;conv=>whnf
  obtain rfl:=Option.some.inj H
  have H:=HQ7
  try dsimp only at H
  refine finR_c (enc:=(fun r:DeframeState × (List ByteArray)=>.tup [DeframeState.v r.1,(fun l:List ByteArray=>V.sl (l.map V.s) false) r.2])) H ?_;conv=>whnf
  exact ⟨_,.tup (.cons (fzagg (.cons (.id rfl) (.cons (.id rfl) (.cons (.id rfl) (.nil)))) rfl) (.cons (.c (fzown (f:=V.s) (l:=y15) rfl rfl (fun _=>rfl) (fun _=>rfl))) (.nil)))⟩
 conv=>whnf
 refine appO_c (f:=V.s) H (fun _=>rfl) rfl (Nat.le_refl _) (.v (srcOwn (f:=V.s) (l:=[v17.1]) (fun _=>rfl) rfl rfl rfl)) (by decide) rfl (by simp) (fun l20 H=>?_);conv=>whnf
 refine slt_c H (fun s21 H=>?_);conv=>whnf
 refine lq_ ?_;conv=>whnf
 refine Ari.w ?_;conv=>whnf
 refine lq_ ?_;conv=>whnf
 exact again_c [7,8,9,18,19,20,21,22,23,24,25,26,27,28,29,30,31,32,33,34,35,36,37,38,39,40,41,42,43,44,45,46,47,48,13,17] n8 3 [0,1,4] (.inr (⟨_,_,H,rfl,rfl⟩)) (Nat.lt_succ_self _) (Nat.zero_le _) rfl (by kernel_rfl) (by kernel_rfl) rfl ⟨⟨rfl,rfl,rfl⟩,⟨⟨rfl,rfl,rfl⟩,wkB_live0 rfl (cellsM_idlt (f:=V.s) (fun _=>rfl) _) rfl trivial⟩⟩
def gc58:BCode:=(.seq (R_ 0 [O_ 2 (.mv (.const (.slice none 0 0))) 0]) (.seq (R_ 0 [O_ 3 (.mv (.const (.slice none 0 0))) 0]) (.seq (.seq (R_ 0 [O_ 8 (.mv (t_ 0)) 0,O_ 9 (.lens (t_ 8)) 0,O_ 10 (.mv (i_ 0)) 0]) (.block 0 (.loop (.seq (R_ 0 [O_ 11 (.bin .lss (t_ 10) (t_ 9)) 0]) (.seq (.cond (t_ 11) .skip (.exit 0)) (.seq (.block 1 (.seq (R_ 0 [O_ 12 (.ixs 1 (t_ 8) (t_ 10)) 0,O_ 13 (.ld 1 false (t_ 12)) 0,O_ 5 (.mv (t_ 13)) 0]) (.seq (R_ 1 [O_ 15 (.mv (t_ 5)) 0,O_ 16 (.cl 106 [(t_ 15)]) 0,O_ 14 (.mv (t_ 16)) 0,O_ 17 (.ex (t_ 14) 0) 0,O_ 18 (.ex (t_ 14) 1) 0,O_ 6 (.al (.agg [(.lit (.int .u8 0)),(.lit (.string ⟨#[]⟩)),(.lit (.string ⟨#[]⟩)),(.lit (.string ⟨#[]⟩)),(.lit (.int .i64 0)),(.lit (.int .i64 0)),(.lit (.int .i64 0)),(.lit (.int .i64 0))])) 0,U_ (.st 8 (t_ 6) (t_ 17)) 1,O_ 7 (.mv (t_ 18)) 1]) (R_ 2 [O_ 19 (.mv (t_ 3)) 0,O_ 20 (.ld 8 true (t_ 6)) 0,O_ 21 (.mv (t_ 7)) 0,O_ 22 (.bd [(.lit (.int .u8 0)),(.lit (.string ⟨#[]⟩)),(.lit (.string ⟨#[]⟩)),(.lit (.string ⟨#[]⟩)),(.lit (.int .i64 0)),(.lit (.int .i64 0)),(.lit (.int .i64 0)),(.lit (.int .i64 0)),(.lit (.int .i64 0))] [(0,8,(t_ 20)),(8,1,(t_ 21))]) 0,O_ 23 (.bs 9 1 [(.lit (.int .u8 0)),(.lit (.string ⟨#[]⟩)),(.lit (.string ⟨#[]⟩)),(.lit (.string ⟨#[]⟩)),(.lit (.int .i64 0)),(.lit (.int .i64 0)),(.lit (.int .i64 0)),(.lit (.int .i64 0)),(.lit (.int .i64 0))] [(0,(t_ 22))]) 0,O_ 24 (.ap 9 96 (t_ 19) (t_ 23)) 1,O_ 3 (.mv (t_ 24)) 2])))) (R_ 0 [O_ 25 (.bin .add (t_ 10) (i_ 1)) 0,O_ 10 (.mv (t_ 25)) 0]))))))) (.seq (R_ 0 [O_ 26 (.mv (t_ 3)) 0,O_ 2 (.mv (t_ 26)) 0]) .ret))))
theorem gc58_ok:compF Tryz.prog Tryz.f58=some (gc58.er,27,[.tmp 2]):=by unfold gc58;kernel_rfl
theorem p_deframe_items_v {u1:Bool} (a0:List ByteArray):CallsO Tryz.prog 58 [.sl (List.map V.s a0) u1] (fun l:List DeframeItem=>V.sl (l.map DeframeItem.v) false) (p_deframe_items a0):=by
 refine callsO_comp mix Tryz.func58 gc58_ok fun r H=>?_
 rw [p_deframe_items] at H
 conv=>whnf
 refine LenQ.M ?_;conv=>whnf
 obtain ⟨o2,HL3,HQ4⟩:=bind_c H
 refine loop_c [3,10] [5,6,7,11,12,13,14,15,16,17,18,19,20,21,22,23,24,25] [5,6,7,11,12,13,14,15,16,17,18,19,20,21,22,23,24,25] (fun n vals st=>(∃ y6,p_deframe_items_l1  a0 (a0.length:Int) n [] y6=some o2∧vals=[.sl (List.map DeframeItem.v []) true,.i y6]∧st=[])∨(∃ y11 y12,p_deframe_items_l1  a0 (a0.length:Int) n y11 y12=some o2∧vals=[.osl 0 0 (List.length y11) 9 false,.i y12]∧st=[.live (cellsM DeframeItem.v y11) (cellsM DeframeItem.v y11).length])) fuel 0 [] (.inl (⟨_,HL3,rfl,rfl⟩)) (Nat.zero_le _) rfl (by kernel_rfl) (by kernel_rfl) rfl trivial ?_
 rintro (_ | n5) _ _ (⟨y6,H,rfl,rfl⟩ | ⟨y11,y12,H,rfl,rfl⟩)
 ·rw [p_deframe_items_l1] at H;cases H
 ·rw [p_deframe_items_l1] at H;cases H
 ·rw [p_deframe_items_l1] at H
  conv=>whnf
  refine tst_d H (fun b7 H=>?_) (fun b7 H=>?_)
  ·conv=>whnf
   obtain rfl:=Option.some.inj H
   have H:=HQ4
   try dsimp only at H
   refine finR_c (enc:=(fun l:List DeframeItem=>V.sl (l.map DeframeItem.v) false)) H ?_;conv=>whnf
   exact ⟨_,.v (.c (.slw))⟩
  conv=>whnf
  refine ixs_c (f:=V.s) H (fun _=>rfl) (fun x8 H=>?_);conv=>whnf
  refine ask_c (p_stanza_Read_v _) H rfl rfl (fun v9 H=>?_);conv=>whnf
  refine lq_ ?_;conv=>whnf
  refine appN_c (f:=DeframeItem.v) H (fun _=>rfl) (srcM (f:=DeframeItem.v) (fun _=>rfl) [] true) rfl (.v (srcOwn (f:=DeframeItem.v) (l:=[(DeframeItem.mk v9.1 v9.2)]) (fun _=>rfl) rfl rfl rfl)) (by decide) rfl (by simp) (fun l10 H=>?_);conv=>whnf
  refine Ari.w ?_;conv=>whnf
  exact again_c [5,6,7,11,12,13,14,15,16,17,18,19,20,21,22,23,24,25] n5 1 [2] (.inr (⟨_,_,H,rfl,rfl⟩)) (Nat.lt_succ_self _) (Nat.zero_le _) rfl (by kernel_rfl) (by kernel_rfl) rfl (wkB_live0 rfl (cellsM_idlt (f:=DeframeItem.v) (fun _=>rfl) _) rfl trivial)
 rw [p_deframe_items_l1] at H
 conv=>whnf
 refine tst_d H (fun b13 H=>?_) (fun b13 H=>?_)
 ·conv=>whnf
  obtain rfl:=Option.some.inj H
  have H:=HQ4
  try dsimp only at H
  refine finR_c (enc:=(fun l:List DeframeItem=>V.sl (l.map DeframeItem.v) false)) H ?_;conv=>whnf
  exact ⟨_,.v (.c (fzown (f:=DeframeItem.v) (l:=y11) rfl rfl (fun _=>rfl) (fun _=>rfl)))⟩
 conv=>whnf
 refine ixs_c (f:=V.s) H (fun _=>rfl) (fun x14 H=>?_);conv=>whnf
 refine ask_c (p_stanza_Read_v _) H rfl rfl (fun v15 H=>?_);conv=>whnf
 refine lq_ ?_;conv=>whnf
 refine appO_c (f:=DeframeItem.v) H (fun _=>rfl) rfl (Nat.le_refl _) (.v (srcOwn (f:=DeframeItem.v) (l:=[(DeframeItem.mk v15.1 v15.2)]) (fun _=>rfl) rfl rfl rfl)) (by decide) rfl (by simp) (fun l16 H=>?_);conv=>whnf
 refine Ari.w ?_;conv=>whnf
 exact again_c [5,6,7,11,12,13,14,15,16,17,18,19,20,21,22,23,24,25] n5 1 [3] (.inr (⟨_,_,H,rfl,rfl⟩)) (Nat.lt_succ_self _) (Nat.zero_le _) rfl (by kernel_rfl) (by kernel_rfl) rfl (wkB_live0 rfl (cellsM_idlt (f:=DeframeItem.v) (fun _=>rfl) _) rfl trivial)
def gc26:BCode:=(.seq (R_ 2 [O_ 2 (.bx (t_ 0)) 0,O_ 4 (.al (.agg [(.lit (.string ⟨#[]⟩)),(.lit (.int .i64 0)),(.lit (.int .i64 0))])) 1,O_ 5 (.mv (.const (.slice none 0 0))) 2]) (.seq (R_ 1 [O_ 9 (.ld 3 true (t_ 2)) 0,O_ 10 (.mv (t_ 1)) 0,O_ 11 (.cl 28 [(t_ 9),(t_ 10)]) 0,O_ 8 (.mv (t_ 11)) 0,O_ 12 (.ex (t_ 8) 0) 0,O_ 13 (.ex (t_ 8) 1) 0,O_ 6 (.al (.agg [(.lit (.string ⟨#[]⟩)),(.lit (.int .i64 0)),(.lit (.int .i64 0))])) 0,U_ (.st 3 (t_ 6) (t_ 12)) 1,O_ 7 (.mv (t_ 13)) 1]) (.seq (.reg 0 [O_ 14 (.ld 3 true (t_ 6)) 0,O_ 15 (.mv (t_ 7)) 0,O_ 16 (.cl 58 [(t_ 15)]) 0,U_ (.st 3 (t_ 4) (t_ 14)) 0,O_ 5 (.mv (t_ 16)) 0] (some [[],[],[1],[1,2,0],[0,3,1,2]]) 0 []) .ret)))
theorem gc26_ok:compF Tryz.prog Tryz.f26=some (gc26.er,17,[.cell 4 3 true,.tmp 5]):=by unfold gc26;kernel_rfl
theorem p_deframe_Feed_v (a0:DeframeState) (a1:ByteArray):CallsO Tryz.prog 26 [.agg [.s a0.Buf,.i a0.Bad,.i a0.Seen],.s a1] (fun r:DeframeState × (List DeframeItem)=>.tup [DeframeState.v r.1,(fun l:List DeframeItem=>V.sl (l.map DeframeItem.v) false) r.2]) (p_deframe_Feed a0 a1):=by
 refine callsO_comp mix Tryz.func26 gc26_ok fun r H=>?_
 rw [p_deframe_Feed] at H
 conv=>whnf
 refine ask_c (p_deframe_Texts_v _ _) H rfl rfl (fun v1 H=>?_);conv=>whnf
 refine lq_ ?_;conv=>whnf
 refine ask_c (p_deframe_items_v _) H rfl rfl (fun v2 H=>?_);conv=>whnf
 refine lq_ ?_;conv=>whnf
 refine FootQ.mk ⟨rfl,?_⟩;conv=>whnf
 exact fin0_c (enc:=(fun r:DeframeState × (List DeframeItem)=>.tup [DeframeState.v r.1,(fun l:List DeframeItem=>V.sl (l.map DeframeItem.v) false) r.2])) H (.inr rfl) (.cons (.cell rfl rfl (Nat.le_of_ble_eq_true rfl)) (.cons (.tmp rfl) (.nil))) rfl rfl
def gc39:BCode:=(.seq (R_ 0 [O_ 2 (.mv (.const (.string ⟨#[]⟩))) 0,O_ 3 (.mv (i_ 0)) 0]) (.seq (R_ 0 [O_ 4 (.mv (.const (.slice none 0 0))) 0]) (.seq (.seq (R_ 0 [O_ 9 (.mv (t_ 0)) 0,O_ 10 (.lens (t_ 9)) 0,O_ 11 (.mv (i_ 0)) 0]) (.block 0 (.loop (.seq (R_ 0 [O_ 12 (.bin .lss (t_ 11) (t_ 10)) 0]) (.seq (.cond (t_ 12) .skip (.exit 0)) (.seq (.block 1 (.seq (R_ 1 [O_ 13 (.ixs 8 (t_ 9) (t_ 11)) 0,O_ 14 (.ld 8 true (t_ 13)) 0,O_ 6 (.al (.agg [(.lit (.int .u8 0)),(.lit (.string ⟨#[]⟩)),(.lit (.string ⟨#[]⟩)),(.lit (.string ⟨#[]⟩)),(.lit (.int .i64 0)),(.lit (.int .i64 0)),(.lit (.int .i64 0)),(.lit (.int .i64 0))])) 0,U_ (.st 8 (t_ 6) (t_ 14)) 1]) (.seq (R_ 0 [O_ 16 (.ld 8 true (t_ 6)) 0,O_ 17 (.cl 49 [(t_ 16)]) 0,O_ 15 (.mv (t_ 17)) 0,O_ 18 (.ex (t_ 15) 0) 0,O_ 19 (.ex (t_ 15) 1) 0,O_ 7 (.mv (t_ 18)) 0,O_ 8 (.mv (t_ 19)) 0]) (.seq (.seq (R_ 0 [O_ 20 (.mv (t_ 8)) 0,O_ 21 (.bin .neq (t_ 20) (i_ 0)) 0]) (.cond (t_ 21) (.seq (R_ 0 [O_ 22 (.mv (t_ 8)) 0,O_ 2 (.mv (.const (.string ⟨#[]⟩))) 0,O_ 3 (.mv (t_ 22)) 0]) .ret) .skip)) (R_ 2 [O_ 23 (.mv (t_ 4)) 0,O_ 24 (.mv (t_ 7)) 0,O_ 25 (.bs 1 1 [(.lit (.string ⟨#[]⟩))] [(0,(t_ 24))]) 0,O_ 26 (.ap 1 16 (t_ 23) (t_ 25)) 1,O_ 4 (.mv (t_ 26)) 2]))))) (R_ 0 [O_ 27 (.bin .add (t_ 11) (i_ 1)) 0,O_ 11 (.mv (t_ 27)) 0]))))))) (.seq (R_ 0 [O_ 28 (.mv (t_ 4)) 0,O_ 29 (.cl 63 [(t_ 28)]) 0,O_ 30 (.ex (t_ 29) 0) 0,O_ 31 (.ex (t_ 29) 1) 0,O_ 2 (.mv (t_ 30)) 0,O_ 3 (.mv (t_ 31)) 0]) .ret))))
theorem gc39_ok:compF Tryz.prog Tryz.f39=some (gc39.er,32,[.tmp 2,.tmp 3]):=by unfold gc39;kernel_rfl
theorem p_deframe_Encode_v {u1:Bool} (a0:List StanzaStanza):CallsO Tryz.prog 39 [.sl (List.map StanzaStanza.v a0) u1] (fun r:ByteArray × Int=>.tup [V.s r.1,V.i r.2]) (p_deframe_Encode a0):=by
 refine callsO_comp mix Tryz.func39 gc39_ok fun r H=>?_
 rw [p_deframe_Encode] at H
 conv=>whnf
 refine LenQ.M ?_;conv=>whnf
 obtain ⟨o2,HL3,HQ4⟩:=bind_c H
 refine loop_c [2,3,4,11] [6,7,8,12,13,14,15,16,17,18,19,20,21,22,23,24,25,26,27] [6,7,8,12,13,14,15,16,17,18,19,20,21,22,23,24,25,26,27] (fun n vals st=>(∃ y6,p_deframe_Encode_l1  a0 (a0.length:Int) n [] y6=some o2∧vals=[.s (⟨#[]⟩ : ByteArray),.i (0:Int),.sl (List.map V.s []) true,.i y6]∧st=[])∨(∃ y12 y13,p_deframe_Encode_l1  a0 (a0.length:Int) n y12 y13=some o2∧vals=[.s (⟨#[]⟩ : ByteArray),.i (0:Int),.osl 0 0 (List.length y12) 1 false,.i y13]∧st=[.live (cellsM V.s y12) (cellsM V.s y12).length])) fuel 0 [] (.inl (⟨_,HL3,rfl,rfl⟩)) (Nat.zero_le _) rfl (by kernel_rfl) (by kernel_rfl) rfl trivial ?_
 rintro (_ | n5) _ _ (⟨y6,H,rfl,rfl⟩ | ⟨y12,y13,H,rfl,rfl⟩)
 ·rw [p_deframe_Encode_l1] at H;cases H
 ·rw [p_deframe_Encode_l1] at H;cases H
 ·rw [p_deframe_Encode_l1] at H
  conv=>whnf
  refine tst_d H (fun b7 H=>?_) (fun b7 H=>?_)
  ·conv=>whnf
   obtain rfl:=Option.some.inj H
   have H:=HQ4
   try dsimp only at H
   refine ask_c (p_frame_Join_v _) H rfl rfl (fun v14 H=>?_);conv=>whnf
   exact fin0_c (enc:=(fun r:ByteArray × Int=>.tup [V.s r.1,V.i r.2])) H (.inr rfl) (.cons (.tmp rfl) (.cons (.tmp rfl) (.nil))) rfl rfl
  conv=>whnf
  refine ixs_c (f:=StanzaStanza.v) H (fun _=>rfl) (fun x8 H=>?_);conv=>whnf
  refine lq_ ?_;conv=>whnf
  refine ask_c (p_stanza_Put_v _) H rfl rfl (fun v9 H=>?_);conv=>whnf
  refine tst_c H (fun b10 H=>?_) (fun b10 H=>?_)
  ·conv=>whnf
   obtain rfl:=Option.some.inj H
   have H:=HQ4
   try dsimp only at H
   exact fin0_c (enc:=(fun r:ByteArray × Int=>.tup [V.s r.1,V.i r.2])) H (.inr rfl) (.cons (.tmp rfl) (.cons (.tmp rfl) (.nil))) rfl rfl
  conv=>whnf
  refine appN_c (f:=V.s) H (fun _=>rfl) (srcM (f:=V.s) (fun _=>rfl) [] true) rfl (.v (srcOwn (f:=V.s) (l:=[v9.1]) (fun _=>rfl) rfl rfl rfl)) (by decide) rfl (by simp) (fun l11 H=>?_);conv=>whnf
  refine Ari.w ?_;conv=>whnf
  exact again_c [6,7,8,12,13,14,15,16,17,18,19,20,21,22,23,24,25,26,27] n5 1 [2] (.inr (⟨_,_,H,rfl,rfl⟩)) (Nat.lt_succ_self _) (Nat.zero_le _) rfl (by kernel_rfl) (by kernel_rfl) rfl (wkB_live0 rfl (cellsM_idlt (f:=V.s) (fun _=>rfl) _) rfl trivial)
 rw [p_deframe_Encode_l1] at H
 conv=>whnf
 refine tst_d H (fun b15 H=>?_) (fun b15 H=>?_)
 ·conv=>whnf
  obtain rfl:=Option.some.inj H
  have H:=HQ4
  try dsimp only at H
  refine askF_c (p_frame_Join_v _) H (.cons (.c (fzown (f:=V.s) (l:=y12) rfl rfl (fun _=>rfl) (fun _=>rfl))) (.nil)) (fun v20 H=>?_);conv=>whnf
  exact fin0_c (enc:=(fun r:ByteArray × Int=>.tup [V.s r.1,V.i r.2])) H (.inr rfl) (.cons (.tmp rfl) (.cons (.tmp rfl) (.nil))) rfl rfl
 conv=>whnf
 refine ixs_c (f:=StanzaStanza.v) H (fun _=>rfl) (fun x16 H=>?_);conv=>whnf
 refine lq_ ?_;conv=>whnf
 refine ask_c (p_stanza_Put_v _) H rfl rfl (fun v17 H=>?_);conv=>whnf
 refine tst_c H (fun b18 H=>?_) (fun b18 H=>?_)
 ·conv=>whnf
  obtain rfl:=Option.some.inj H
  have H:=HQ4
  try dsimp only at H
  exact fin0_c (enc:=(fun r:ByteArray × Int=>.tup [V.s r.1,V.i r.2])) H (.inr rfl) (.cons (.tmp rfl) (.cons (.tmp rfl) (.nil))) rfl rfl
 conv=>whnf
 refine appO_c (f:=V.s) H (fun _=>rfl) rfl (Nat.le_refl _) (.v (srcOwn (f:=V.s) (l:=[v17.1]) (fun _=>rfl) rfl rfl rfl)) (by decide) rfl (by simp) (fun l19 H=>?_);conv=>whnf
 refine Ari.w ?_;conv=>whnf
 exact again_c [6,7,8,12,13,14,15,16,17,18,19,20,21,22,23,24,25,26,27] n5 1 [3] (.inr (⟨_,_,H,rfl,rfl⟩)) (Nat.lt_succ_self _) (Nat.zero_le _) rfl (by kernel_rfl) (by kernel_rfl) rfl (wkB_live0 rfl (cellsM_idlt (f:=V.s) (fun _=>rfl) _) rfl trivial)
end Go.Proofs.YtmmmcpeickfolaaGreat

