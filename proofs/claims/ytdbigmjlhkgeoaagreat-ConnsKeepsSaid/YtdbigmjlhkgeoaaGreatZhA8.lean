/- A part of the proof: 1 texts joined. -/
import Derived.Test.YtdbigmjlhkgeoaaGreatZhA7
import Derived.Test.YtdbigmjlhkgeoaaGreatZhA6
set_option linter.all false
namespace Go.Proofs.YtdbigmjlhkgeoaaGreat
open Go.RowKit
def RowK (st:List ConnsConn) (k:Int) (o:Law31One):Prop:=(o.open_=false∧emB o.key=true∧∀ c ∈ st,c.ID≠k)∨(o.open_=true∧∃ c ∈ st,c.ID=k∧keyC c=o.key∧c.Credit=o.credit)
structure TabK (st:List ConnsConn) (has:List Law31One):Prop where
 ok:OkC st
 sm:∀ c ∈ st,smC c
 ids:∀ c ∈ st,0≤c.ID∧c.ID < 20
 len:has.length=20
 row:∀ k (h:k < has.length),RowK st k has[k]
theorem TabK.sms {st:List ConnsConn} {has:List Law31One} (h:TabK st has):SmS st:=⟨by have:=h.ok.len;omega,h.sm⟩
theorem mem_mid {A M M' B:List ConnsConn} {i:Int} (h1:∀ c ∈ M,c.ID=i) (h2:∀ c ∈ M',c.ID=i) {c:ConnsConn} (hc:c.ID≠i):c ∈ A++(M++B) ↔ c ∈ A++(M'++B):=by
 simp only [List.mem_append]
 constructor
 ·rintro (g | g | g)
  ·exact .inl g
  ·exact absurd (h1 c g) hc
  ·exact .inr (.inr g)
 ·rintro (g | g | g)
  ·exact .inl g
  ·exact absurd (h2 c g) hc
  ·exact .inr (.inr g)
theorem RowK.keep {st st' : List ConnsConn} {k:Int} {o:Law31One} (h:RowK st k o) (hm:∀ c:ConnsConn,c.ID=k→(c ∈ st ↔ c ∈ st')):RowK st' k o:=by
 rcases h with ⟨h1,h2,h3⟩ | ⟨h1,c,h2,h3,h4⟩
 ·exact .inl ⟨h1,h2,fun c hc e=>h3 c ((hm c e).2 hc) e⟩
 ·exact .inr ⟨h1,c,(hm c h3).1 h2,h3,h4⟩
theorem CutC.mid {st A M B:List ConnsConn} {id:Int} (h:CutC st A M B id):∀ c ∈ M,c.ID=id:=fun c hc=>by
 rcases h.m with rfl | ⟨d,rfl,hd⟩
 ·cases hc
 ·rw [List.mem_singleton.1 hc];exact hd
theorem TabK.step {st A M B M' : List ConnsConn} {has:List Law31One} {i:Nat} (h:TabK st has) (hi:i < 20) (hc:CutC st A M B i) (hok:OkC (A++(M'++B))) (hm:∀ c ∈ M',c.ID=i∧smC c) {o:Law31One} (ho:RowK (A++(M'++B)) i o):TabK (A++(M'++B)) (has.set i o):=by
 have he:=hc.e
 refine ⟨hok,fun c hcm=>?_,fun c hcm=>?_,by rw [List.length_set];exact h.len,fun k hk=>?_⟩
 ·simp only [List.mem_append] at hcm
  rcases hcm with g | g | g
  ·exact h.sm c (by rw [he];simp [g])
  ·exact (hm c g).2
  ·exact h.sm c (by rw [he];simp [g])
 ·simp only [List.mem_append] at hcm
  rcases hcm with g | g | g
  ·exact h.ids c (by rw [he];simp [g])
  ·rw [(hm c g).1];omega
  ·exact h.ids c (by rw [he];simp [g])
 ·rw [List.length_set] at hk
  by_cases e:i=k
  ·subst e
   rw [List.getElem_set_self];exact ho
  ·rw [List.getElem_set_ne e]
   refine (h.row k hk).keep fun c hck=>?_
   rw [he]
   exact mem_mid hc.mid (fun c hc=>(hm c hc).1) (by rw [hck];omega)
theorem apart_mid {st A B:List ConnsConn} {c:ConnsConn} (h:OkC st) (e:st=A++([c]++B)):∀ d ∈ A++B,apK d c:=fun d hd=>by
 have hp:=h.apart
 rw [e] at hp
 have a:=List.pairwise_append.1 hp
 rcases List.mem_append.1 hd with g | g
 ·exact a.2.2 d g c (by simp)
 ·exact apK_symm ((List.pairwise_cons.1 a.2.1).1 d g)
theorem look3_l {x:List ConnsConn} {has:List Law31One} (h:TabK x has):∀ (n k F m:Nat),k + n=20→n < F→m + (x.filter fun c=>decide ((k:Int)≤c.ID)).length=x.length→p_law31_ConnsKeeps_l3 x has F (m:Int) (k:Int)=some (.inr ((x.length:Int),20))
 | 0,k,F + 1,m,hk,hF,hm=>by
  have e:k=20:=by omega
  subst e
  have:(x.filter fun c=>decide (((20:Nat):Int)≤c.ID))=[]:=List.filter_eq_nil_iff.2 fun c hc=>by have:=(h.ids c hc).2;simp;omega
  rw [this] at hm
  simp only [List.length_nil,Nat.add_zero] at hm
  rw [p_law31_ConnsKeeps_l3,hm];rfl
 | n + 1,k,F + 1,m,hk,hF,hm=>by
  have hl:=h.len
  have hk2:k < has.length:=by omega
  have hxl:=h.ok.len
  obtain ⟨A,M,B,hc⟩:=cutC (k:Int) h.ok.ord
  have hat:arr? 20 has (k:Int)=some has[k]:=by unfold arr?;rw [if_pos hl,at_lt hk2]
  have fa:∀ q:Int,(k:Int)≤q→A.filter (fun c=>decide (q≤c.ID))=[]:=fun q hq=>List.filter_eq_nil_iff.2 fun c hcm=>by have:=hc.a c hcm;simp;omega
  have fb:∀ q:Int,q≤(k:Int) + 1→B.filter (fun c=>decide (q≤c.ID))=B:=fun q hq=>List.filter_eq_self.2 fun c hcm=>by have:=hc.b c hcm;simp;omega
  have f1:x.filter (fun c=>decide ((k:Int)≤c.ID))=M++B:=by
   conv=>lhs;rw [hc.e]
   rw [List.filter_append,List.filter_append,fa _ (by omega),fb _ (by omega),List.filter_eq_self.2 fun c hcm=>by have:=hc.mid c hcm;simp;omega]
   rfl
  have f2:x.filter (fun c=>decide (((k + 1:Nat):Int)≤c.ID))=B:=by
   conv=>lhs;rw [hc.e]
   rw [List.filter_append,List.filter_append,fa _ (by omega),fb _ (by omega),List.filter_eq_nil_iff.2 fun c hcm=>by have:=hc.mid c hcm;simp;omega]
   rfl
  rw [f1,List.length_append] at hm
  have hr:=h.row k hk2
  have ht:decide ((k:Int) < 20)=true:=by simp;omega
  rcases hc.m with rfl | ⟨c,rfl,hci⟩
  ·obtain ⟨_,⟨g,_⟩,_⟩:=none_all h.sms h.ok hc 0 (⟨#[]⟩ : ByteArray) (⟨#[]⟩ : ByteArray) (⟨#[]⟩ : ByteArray)
   have ho:has[k].open_=false:=by
    rcases hr with ⟨q,_⟩ | ⟨_,d,d1,d2,_⟩
    ·exact q
    ·exfalso
     rw [hc.e] at d1
     simp only [List.nil_append,List.mem_append] at d1
     rcases d1 with w | w
     ·have:=hc.a d w;omega
     ·have:=hc.b d w;omega
   simp only [List.length_nil] at hm
   rw [p_law31_ConnsKeeps_l3,ht,cond_true,g,Option.bind_some,hat,Option.bind_some,ho]
   simp only [bne_self_eq_false,cond_false]
   rw [w64_succ (by omega)]
   exact look3_l h n (k + 1) F m (by omega) (by omega) (by rw [f2];omega)
  ·obtain ⟨_,⟨g,_⟩,_⟩:=one_all h.sms h.ok hc 0 (⟨#[]⟩ : ByteArray) (⟨#[]⟩ : ByteArray) (⟨#[]⟩ : ByteArray) (by show (0:Nat)≤_;omega) (by show (0:Nat)≤_;omega) (by show (0:Nat)≤_;omega)
   have hcx:c ∈ x:=by rw [hc.e];simp
   obtain ⟨o1,o2,o3⟩ : has[k].open_=true∧keyC c=has[k].key∧c.Credit=has[k].credit:=by
    rcases hr with ⟨_,_,q⟩ | ⟨q,d,d1,d2,d3,d4⟩
    ·exact absurd hci (q c hcx)
    ·have:d=c:=by
      rw [hc.e] at d1
      simp only [List.mem_append,List.mem_singleton] at d1
      rcases d1 with w | w | w
      ·have:=hc.a d w;omega
      ·exact w
      ·have:=hc.b d w;omega
     subst this
     exact ⟨q,d3,d4⟩
   simp only [List.length_singleton] at hm
   rw [p_law31_ConnsKeeps_l3,ht,cond_true,g,Option.bind_some,hat,Option.bind_some,o1]
   simp only [bne_self_eq_false,cond_false,cond_true,keyC_p (h.sm c hcx),Option.bind_some,o2,eqT_refl,o3]
   rw [w64_succ (by omega),w64_succ (by omega)]
   exact look3_l h n (k + 1) F (m + 1) (by omega) (by omega) (by rw [f2];omega)
theorem look3_p {x:List ConnsConn} {has:List Law31One} (h:TabK x has):p_law31_ConnsKeeps_l3 x has fuel (0:Int) (0:Int)=some (.inr ((x.length:Int),20)) :=
 look3_l h 20 0 fuel 0 (by omega) (by have:=fuel_pos;omega) (by rw [List.filter_eq_self.2 fun c hc=>by have:=(h.ids c hc).1;simp;omega];omega)
theorem look2_l {key:ByteArray} {has:List Law31One} (hl:has.length=20):∀ (n k F:Nat) (q:Bool),k + n=20→n < F→p_law31_ConnsKeeps_l2 key has F q (k:Int)=some (q && (has.drop k).all (fun o=>!(o.key.toList == key.toList)),20)
 | 0,k,F + 1,q,hk,hF=>by
  have e:k=20:=by omega
  subst e
  rw [p_law31_ConnsKeeps_l2,List.drop_of_length_le (by omega),List.all_nil,Bool.and_true];rfl
 | n + 1,k,F + 1,q,hk,hF=>by
  have hk2:k < has.length:=by omega
  have hat:arr? 20 has (k:Int)=some has[k]:=by unfold arr?;rw [if_pos hl,at_lt hk2]
  have ht:decide ((k:Int) < 20)=true:=by simp;omega
  rw [p_law31_ConnsKeeps_l2,ht,cond_true,hat,Option.bind_some,w64_succ (by omega),look2_l hl n (k + 1) F _ (by omega) (by omega),look2_l hl n (k + 1) F _ (by omega) (by omega),drop_at hk2,List.all_cons]
  cases q <;> rfl
theorem key_free {st:List ConnsConn} {has:List Law31One} (h:TabK st has) {key:ByteArray} (hk:emB key=false):has.all (fun o=>!(o.key.toList == key.toList))=true ↔ ∀ c ∈ st,hasK key c=false:=by
 rw [List.all_eq_true]
 constructor
 ·intro g c hc
  obtain ⟨i1,i2⟩:=h.ids c hc
  obtain ⟨k,hk'⟩ : ∃ k:Nat,c.ID=(k:Int):=⟨c.ID.toNat,by omega⟩
  have hk2:k < has.length:=by rw [h.len];omega
  have hg:=g _ (List.getElem_mem hk2)
  unfold hasK
  rw [hk,Bool.not_false,Bool.true_and]
  rcases h.row k hk2 with ⟨_,_,q⟩ | ⟨_,d,d1,d2,d3,_⟩
  ·exact absurd hk' (q c hc)
  ·have:d=c:=by
    obtain ⟨A,M,B,hcut⟩:=cutC (k:Int) h.ok.ord
    have hx:∀ z ∈ st,z.ID=k→z ∈ M:=fun z hz hzk=>by
     rw [hcut.e] at hz
     simp only [List.mem_append] at hz
     rcases hz with w | w | w
     ·have:=hcut.a z w;omega
     ·exact w
     ·have:=hcut.b z w;omega
    have m1:=hx d d1 d2
    have m2:=hx c hc hk'
    rcases hcut.m with rfl | ⟨e,rfl,_⟩
    ·cases m1
    ·rw [List.mem_singleton.1 m1,List.mem_singleton.1 m2]
   subst this
   rw [d3]
   simpa using hg
 ·intro g o ho
  obtain ⟨k,hk2,rfl⟩:=List.getElem_of_mem ho
  rcases h.row k hk2 with ⟨_,q,_⟩ | ⟨_,d,d1,d2,d3,_⟩
  ·unfold emB at q hk
   have e:has[k].key.toList=(⟨#[]⟩ : ByteArray).toList:=by simpa using q
   rw [e]
   have:((⟨#[]⟩ : ByteArray).toList == key.toList)=false:=by
    rw [beq_eq_false_iff_ne] at hk ⊢;exact fun e=>hk e.symm
   rw [this];rfl
  ·have:=g d d1
   unfold hasK at this
   rw [hk,Bool.not_false,Bool.true_and,d3] at this
   rw [this];rfl
def nameOk (w:Int):Bool :=
 match text? [IntKind.wrap .u8 ((97:Int) + (Int.tmod w (3:Int)))],text? [IntKind.wrap .u8 ((114:Int) + (Int.tmod (IntKind.wrap .u8 (Int.tdiv w (3:Int))) (3:Int)))] with
 | some s,some r=>!emB (s++⟨#[64,120]⟩) && !emB (keyL (s++⟨#[64,120]⟩) r) && decide (s.size≤100) && decide ((s++⟨#[64,120]⟩).size≤100) && decide (r.size≤100)
 | _,_=>false
theorem name_all:(List.range 256).all (fun w=>nameOk (w:Int))=true:=by kernel_rfl
theorem name_p {w:Int} (h:0≤w∧w≤255):∃ s u r,text? [IntKind.wrap .u8 ((97:Int) + (Int.tmod w (3:Int)))]=some s∧cat? s (⟨#[64,120]⟩ : ByteArray)=some u∧text? [IntKind.wrap .u8 ((114:Int) + (Int.tmod (IntKind.wrap .u8 (Int.tdiv w (3:Int))) (3:Int)))]=some r∧emB u=false∧emB (keyL u r)=false∧u.size≤100∧r.size≤100:=by
 obtain ⟨k,rfl⟩ : ∃ k:Nat,w=k:=⟨w.toNat,by omega⟩
 have:=List.all_eq_true.1 name_all k (List.mem_range.2 (by omega))
 unfold nameOk at this
 split at this
 ·rename_i s r e1 e2
  generalize hu:s++(⟨#[64,120]⟩ : ByteArray)=u at this
  generalize hq:keyL u r=q at this
  simp only [Bool.and_eq_true,Bool.not_eq_true',decide_eq_true_eq] at this
  obtain ⟨⟨⟨⟨t1,t2⟩,t3⟩,t4⟩,t5⟩:=this
  refine ⟨s,u,r,e1,?_,e2,t1,hq.symm ▸ t2,t4,t5⟩
  rw [← hu]
  unfold cat?
  rw [if_pos]
  have:(⟨#[64,120]⟩ : ByteArray).size=2:=rfl
  omega
 ·cases this
def deedF (y9 : List ConnsConn) (y11 : List Law31One) (kind id n : Int) (s16 s18 v19 : ByteArray) (x21 : Law31One) : Option (((List ConnsConn) × Bool × Bool × Law31One)) :=
        bif ((Int.tmod kind (5 : Int)) == (0 : Int)) then
          (p_conns_Open y9 id n).bind fun v25 =>
          bif x21.open_ then
            some (v25.1, (v25.2 == (0 : Int)), false, (Law31One.mk true (⟨#[]⟩ : ByteArray) (0 : Int)))
          else
          some (v25.1, (v25.2 == (0 : Int)), (decide ((y9.length : Int) < (16 : Int))), (Law31One.mk true (⟨#[]⟩ : ByteArray) (0 : Int)))
        else
        bif ((Int.tmod kind (5 : Int)) == (1 : Int)) then
          (p_conns_Close y9 id).bind fun v28 =>
          some (v28.1, v28.2.2, x21.open_, (Law31One.mk false (⟨#[]⟩ : ByteArray) (0 : Int)))
        else
        bif ((Int.tmod kind (5 : Int)) == (2 : Int)) then
          (p_conns_Login y9 id s16 s18).bind fun v30 =>
          ((
            bif x21.open_ then
              some (x21.key.toList == (⟨#[]⟩ : ByteArray).toList)
            else
            some false) : Option (Bool)).bind fun q33 =>
          (p_law31_ConnsKeeps_l2 v19 y11 fuel q33 (0 : Int)).bind fun q62 =>
          some (v30.1, (v30.2 == (0 : Int)), q62.1, (Law31One.mk x21.open_ v19 x21.credit))
        else
        bif ((Int.tmod kind (5 : Int)) == (3 : Int)) then
          (p_conns_Give y9 id n).bind fun v64 =>
          some (v64.1, v64.2, x21.open_, (Law31One.mk x21.open_ x21.key (if w64 (x21.credit + n) < (1048576 : Int) then w64 (x21.credit + n) else (1048576 : Int))))
        else
        (p_conns_Spend y9 id n).bind fun v65 =>
        bif x21.open_ then
          some (v65.1, v65.2, (decide (n ≤ x21.credit)), (Law31One.mk x21.open_ x21.key (w64 (x21.credit - n))))
        else
        some (v65.1, v65.2, false, (Law31One.mk x21.open_ x21.key (w64 (x21.credit - n))))
theorem deed_0 {st A B:List ConnsConn} {has:List Law31One} {i:Nat} (h:TabK st has) (hi:i < 20) (hc:CutC st A [] B i) {kind n:Int} (hn:0≤n∧n≤65535) {u r:ByteArray} (hk:emB (keyL u r)=false) (hil:i < has.length):∃ x ok c,deedF st has kind i n u r (keyL u r) has[i]=some (x,ok,ok,c)∧TabK x (if ok=true then has.set i c else has)∧(ok=false→x=st):=by
 obtain ⟨⟨a1,_⟩,⟨b1,_⟩,⟨c1,_⟩,⟨d1,_⟩,⟨e1,_⟩,⟨f1,_⟩,_⟩:=none_all h.sms h.ok hc n u r (⟨#[]⟩ : ByteArray)
 have ho:has[i].open_=false:=by
  rcases h.row i hil with ⟨q,_⟩ | ⟨_,d,d1,d2,_⟩
  ·exact q
  ·exfalso
   rw [hc.e] at d1
   simp only [List.nil_append,List.mem_append] at d1
   rcases d1 with w | w
   ·have:=hc.a d w;omega
   ·have:=hc.b d w;omega
 have l2:p_law31_ConnsKeeps_l2 (keyL u r) has fuel false (0:Int)=some (false && (has.drop 0).all (fun o=>!(o.key.toList == (keyL u r).toList)),20):=look2_l h.len 20 0 fuel false (by omega) (by have:=fuel_pos;omega)
 rw [Bool.false_and] at l2
 unfold deedF
 rw [a1,c1,d1,e1,f1,ho]
 simp only [Option.bind_some,cond_false,l2]
 have hl:=h.ok.len
 cases (Int.tmod kind 5 == 0) with
 | true =>
  have hin:(inB i 0 255 && inB n 0 65535)=true:=by unfold inB;simp;omega
  unfold opnC
  rw [if_neg (by rw [hin];simp)]
  by_cases h16:st.length=16
  ·rw [if_pos h16,decide_eq_false (by omega)]
   exact ⟨st,false,_,rfl,h,fun _=>rfl⟩
  ·rw [if_neg h16,decide_eq_true (by omega)]
   obtain ⟨g1,g2⟩:=opn_ok h.ok hc hin h16
   refine ⟨_,true,_,rfl,?_,fun e=>(by cases e)⟩
   rw [if_pos rfl]
   refine h.step hi hc g1 (fun c hcm=>by rw [List.mem_singleton.1 hcm];exact ⟨rfl,sm_newC _ _⟩) (.inr ⟨rfl,newC i n,by simp,rfl,key_new _ _,rfl⟩)
 | false =>
  cases (Int.tmod kind 5 == 1) with
  | true=>exact ⟨st,false,_,rfl,h,fun _=>rfl⟩
  | false =>
   cases (Int.tmod kind 5 == 2) with
   | true=>exact ⟨st,false,_,rfl,h,fun _=>rfl⟩
   | false =>
    cases (Int.tmod kind 5 == 3) with
    | true=>exact ⟨st,false,_,rfl,h,fun _=>rfl⟩
    | false=>exact ⟨st,false,_,rfl,h,fun _=>rfl⟩
theorem cred_eq {a n:Int} (h:0≤a∧a≤1048576) (hn:0≤n∧n≤65535):w64 (a + (if w64 ((1048576:Int) - a) < n then w64 ((1048576:Int) - a) else n))=(if w64 (a + n) < (1048576:Int) then w64 (a + n) else (1048576:Int))∧0≤w64 (a + (if w64 ((1048576:Int) - a) < n then w64 ((1048576:Int) - a) else n))∧w64 (a + (if w64 ((1048576:Int) - a) < n then w64 ((1048576:Int) - a) else n))≤1048576:=by
 rw [w64_id (r:=(1048576:Int) - a) (by omega),w64_id (r:=a + n) (by omega)]
 by_cases g:(1048576:Int) - a < n
 ·rw [if_pos g,if_neg (by omega),w64_id (by omega)];omega
 ·rw [if_neg g,w64_id (by omega)]
  by_cases g2:a + n < 1048576
  ·rw [if_pos g2];omega
  ·rw [if_neg g2];omega
theorem deed_1 {st A B:List ConnsConn} {has:List Law31One} {i:Nat} {c:ConnsConn} (h:TabK st has) (hi:i < 20) (hc:CutC st A [c] B i) {kind n:Int} (hn:0≤n∧n≤65535) {u r:ByteArray} (hu0:emB u=false) (hk:emB (keyL u r)=false) (hu:u.size≤100) (hr:r.size≤100) (hil:i < has.length):∃ x ok o,deedF st has kind i n u r (keyL u r) has[i]=some (x,ok,ok,o)∧TabK x (if ok=true then has.set i o else has)∧(ok=false→x=st):=by
 obtain ⟨⟨a1,_⟩,⟨b1,_⟩,⟨c1,_⟩,⟨d1,_⟩,⟨e1,_⟩,⟨f1,_⟩,_⟩:=one_all h.sms h.ok hc n u r (⟨#[]⟩ : ByteArray) (by omega) (by omega) (by show (0:Nat)≤_;omega)
 have hcx:c ∈ st:=by rw [hc.e];simp
 have hci:=hc.id1
 obtain ⟨o1,o2,o3⟩ : has[i].open_=true∧keyC c=has[i].key∧c.Credit=has[i].credit:=by
  rcases h.row i hil with ⟨_,_,q⟩ | ⟨q,d,d1,d2,d3,d4⟩
  ·exact absurd hci (q c hcx)
  ·have:d=c:=by
    rw [hc.e] at d1
    simp only [List.mem_append,List.mem_singleton] at d1
    rcases d1 with w | w | w
    ·have:=hc.a d w;omega
    ·exact w
    ·have:=hc.b d w;omega
   subst this
   exact ⟨q,d3,d4⟩
 have hl:=h.ok.len
 have hlen:=hc.len
 simp only [List.length_singleton] at hlen
 have hnum:=h.ok.num c hcx
 have hnam:=h.ok.nam c hcx
 have hdf:=h.ok.df c hcx
 have hsm:=h.sm c hcx
 have hap:=apart_mid h.ok hc.e
 have hcr:0≤c.Credit∧c.Credit≤1048576:=by
  unfold numC inB at hnum
  simp only [Bool.and_eq_true,decide_eq_true_eq] at hnum
  exact hnum.2.2
 have put:∀ d:ConnsConn,d.ID=i→numC d=true→namC d=true→dchk d.In=0→(∀ e ∈ A++B,apK e d)→smC d→∀ o:Law31One,o.open_=true→keyC d=o.key→d.Credit=o.credit→TabK (A++([d]++B)) (has.set i o):=fun d g1 g2 g3 g4 g5 g6 o p1 p2 p3=>by
  obtain ⟨q1,_⟩:=hc.put h.ok g1 (by omega) g2 g3 g4 g5
  exact h.step hi hc q1 (fun e he=>by rw [List.mem_singleton.1 he];exact ⟨g1,g6⟩) (.inr ⟨p1,d,by simp,g1,p2,p3⟩)
 have l2:∀ q:Bool,p_law31_ConnsKeeps_l2 (keyL u r) has fuel q (0:Int)=some (q && has.all (fun o=>!(o.key.toList == (keyL u r).toList)),20):=fun q=>look2_l h.len 20 0 fuel q (by omega) (by have:=fuel_pos;omega)
 unfold deedF
 rw [a1,c1,d1,e1,f1,o1]
 simp only [Option.bind_some,cond_true,l2]
 cases (Int.tmod kind 5 == 0) with
 | true =>
  have hin:(inB i 0 255 && inB n 0 65535)=true:=by unfold inB;simp;omega
  rw [hin]
  exact ⟨st,false,_,rfl,h,fun _=>rfl⟩
 | false =>
 cases (Int.tmod kind 5 == 1) with
 | true =>
  refine ⟨A++B,true,_,rfl,?_,fun e=>(by cases e)⟩
  rw [if_pos rfl]
  have:=h.step (M':=[]) hi hc (hc.out h.ok).1 (fun e he=>(by cases he)) (o:=Law31One.mk false (⟨#[]⟩ : ByteArray) (0:Int)) (.inl ⟨rfl,emZ,fun e he=>by
   simp only [List.nil_append,List.mem_append] at he
   rcases he with w | w
   ·have:=hc.a e w;omega
   ·have:=hc.b e w;omega⟩)
  exact this
 | false =>
 cases (Int.tmod kind 5 == 2) with
 | true =>
  simp only [cond_false,cond_true]
  unfold logC
  cases hcu:emB c.User with
  | false =>
   have hne:(has[i].key.toList == (⟨#[]⟩ : ByteArray).toList)=false:=by
    unfold namC at hnam
    rw [hcu,if_neg (by simp)] at hnam
    rw [← o2]
    unfold emB at hnam
    simpa using hnam
   rw [if_pos rfl,hne,Bool.false_and]
   exact ⟨st,false,_,rfl,h,fun _=>rfl⟩
  | true =>
   have hke:keyC c=(⟨#[]⟩ : ByteArray):=by unfold keyC;rw [if_pos hcu]
   have hye:(has[i].key.toList == (⟨#[]⟩ : ByteArray).toList)=true:=by rw [← o2,hke];exact eqT_refl _
   rw [if_neg (by simp),if_neg (by rw [hk];simp),hye,Bool.true_and]
   by_cases hx:0≤ixF (hasK (keyL u r)) st 0
   ·rw [if_pos hx]
    have:has.all (fun o=>!(o.key.toList == (keyL u r).toList))=false:=by
     cases ha:has.all (fun o=>!(o.key.toList == (keyL u r).toList)) with
     | false=>rfl
     | true=>rw [ixF_no ((key_free h hk).1 ha)] at hx;omega
    rw [this]
    exact ⟨st,false,_,rfl,h,fun _=>rfl⟩
   ·rw [if_neg hx]
    have hfree:∀ d ∈ st,hasK (keyL u r) d=false:=by
     rcases ixF_bd (hasK (keyL u r)) st 0 with ⟨_,g⟩ | g
     ·exact g
     ·omega
    rw [(key_free h hk).2 hfree]
    refine ⟨_,true,_,rfl,?_,fun e=>(by cases e)⟩
    rw [if_pos rfl]
    have kn:keyC (nameC c u r)=keyL u r:=by unfold keyC nameC;rw [if_neg (by simpa using hu0)]
    refine put (nameC c u r) hci hnum ?_ hdf (fun e he=>?_) ⟨by show u.size≤_;omega,by show r.size≤_;omega,hsm.2.2⟩ _ rfl kn o3
    ·unfold namC
     rw [if_neg (by show ¬ emB u=true;rw [hu0];simp),kn,hk];rfl
    ·unfold apK
     rw [kn]
     refine hfree e ?_
     rw [hc.e]
     rcases List.mem_append.1 he with w | w <;> simp [w]
 | false =>
 cases (Int.tmod kind 5 == 3) with
 | true =>
  simp only [cond_false,cond_true]
  rw [if_neg (by omega)]
  refine ⟨_,true,_,rfl,?_,fun e=>(by cases e)⟩
  rw [if_pos rfl]
  obtain ⟨q1,q2,q3⟩:=cred_eq hcr hn
  refine put (giveC c n) hci ?_ hnam hdf hap hsm _ rfl o2 ?_
  ·unfold numC inB at hnum ⊢
   simp only [Bool.and_eq_true,decide_eq_true_eq] at hnum ⊢
   exact ⟨hnum.1,hnum.2.1,q2,q3⟩
  ·rw [← o3];exact q1
 | false =>
  simp only [cond_false]
  by_cases hle:n≤c.Credit
  ·rw [if_pos ⟨hn.1,hle⟩,← o3,decide_eq_true hle]
   refine ⟨_,true,_,rfl,?_,fun e=>(by cases e)⟩
   rw [if_pos rfl]
   refine put (spendC c n) hci ?_ hnam hdf hap hsm _ rfl o2 rfl
   unfold numC inB at hnum ⊢
   simp only [Bool.and_eq_true,decide_eq_true_eq] at hnum ⊢
   refine ⟨hnum.1,hnum.2.1,?_⟩
   show 0≤w64 (c.Credit - n)∧w64 (c.Credit - n)≤1048576
   rw [w64_id (by omega)];omega
  ·rw [if_neg (by omega),← o3,decide_eq_false hle]
   exact ⟨st,false,_,rfl,h,fun _=>rfl⟩
structure DeedK (d:Law31Deed):Prop where
 id:0≤d.ID
 who:0≤d.Who∧d.Who≤255
 n:0≤d.N∧d.N≤65535
theorem keeps_l {l:List Law31Deed} (hl:l.length≤1000) (hd:∀ d ∈ l,DeedK d):∀ (n k F:Nat) (st:List ConnsConn) (has:List Law31One),k + n=l.length→n < F→TabK st has→∃ r,p_law31_ConnsKeeps_l1 l F st (k:Int) has=some (.inr r)
 | 0,k,F + 1,st,has,hk,hF,h=>by
  rw [p_law31_ConnsKeeps_l1,lt_ff (by omega)];exact ⟨_,rfl⟩
 | n + 1,k,F + 1,st,has,hk,hF,h=>by
  have hlt:k < l.length:=by omega
  have dk:=hd _ (List.getElem_mem hlt)
  obtain ⟨i1,i2⟩:=tmod20 dk.id
  obtain ⟨i,hi⟩ : ∃ i:Nat,w64 (Int.tmod l[k].ID 20)=(i:Int):=⟨(w64 (Int.tmod l[k].ID 20)).toNat,by omega⟩
  have hi20:i < 20:=by omega
  have hil:i < has.length:=by rw [h.len];exact hi20
  obtain ⟨s,u,r,s1,s2,s3,s4,s5,s6,s7⟩:=name_p dk.who
  have hat:arr? 20 has (i:Int)=some has[i]:=by unfold arr?;rw [if_pos h.len,at_lt hil]
  have wn:w64 l[k].N=l[k].N:=w64_id (by have:=dk.n;omega)
  obtain ⟨A,M,B,hc⟩:=cutC (i:Int) h.ok.ord
  obtain ⟨x,ok,c,e1,e2,e3⟩ : ∃ x ok c,deedF st has l[k].Kind i l[k].N u r (keyL u r) has[i]=some (x,ok,ok,c)∧TabK x (if ok=true then has.set i c else has)∧(ok=false→x=st):=by
   rcases hc.m with rfl | ⟨c,rfl,_⟩
   ·exact deed_0 h hi20 hc dk.n s5 hil
   ·exact deed_1 h hi20 hc dk.n s4 s5 s6 s7 hil
  have e1':=e1
  unfold deedF at e1'
  rw [p_law31_ConnsKeeps_l1,lt_tt hlt,cond_true,at_lt hlt]
  simp only [Option.bind_some,s1,s2,s3,key_p (show u.size≤100000 by omega) (show r.size≤100000 by omega),hi,hat,wn,e1']
  have ck:p_conns_Check x=some 0:=by rw [check_p e2.sms.1 e2.sms.2,ok_c.2 e2.ok]
  have nx:w64 ((k:Int) + 1)=((k + 1:Nat):Int):=w64_succ (by omega)
  have lk:=look3_p e2
  obtain ⟨rr,ih⟩:=keeps_l hl hd n (k + 1) F x _ (by omega) (by omega) e2
  simp only [bne_self_eq_false,cond_false,ck,Option.bind_some,nx]
  cases hok:ok with
  | true =>
   rw [hok,if_pos rfl] at lk ih
   simp only [cond_true,Option.bind_some,Int.toNat_natCast,lk,bne_self_eq_false,cond_false,ih]
   exact ⟨rr,rfl⟩
  | false =>
   rw [hok,if_neg (by simp)] at lk ih
   have hxs:=e3 hok
   rw [hxs] at lk ih ⊢
   simp only [cond_false,(cself_p h.sms.1).2,cond_true,Option.bind_some,lk,bne_self_eq_false,ih]
   exact ⟨rr,rfl⟩
theorem connsKeeps_pure (haw:p_law31_awake=some true) (l:List Law31Deed) (hd:∀ d ∈ l,DeedK d):p_law31_ConnsKeeps l=some true:=by
 unfold p_law31_ConnsKeeps
 by_cases h1:(100:Int) < (l.length:Int)
 ·rw [decide_eq_true h1,haw];rfl
 rw [decide_eq_false h1,cond_false]
 have t0:TabK [] (List.replicate 20 (Law31One.mk false (⟨#[]⟩ : ByteArray) (0:Int))) :=
  ⟨okC_of (by simp) (fun c hc=>(by cases hc)) (fun c hc=>(by cases hc)) (fun c hc=>(by cases hc)) .nil .nil,fun c hc=>(by cases hc),fun c hc=>(by cases hc),List.length_replicate ..,fun k hk=>.inl (by rw [List.getElem_replicate];exact ⟨rfl,emZ,fun c hc=>(by cases hc)⟩)⟩
 obtain ⟨r,e⟩:=keeps_l (l:=l) (by omega) hd l.length 0 fuel [] _ (by omega) (by have:=fuel_pos;omega) t0
 have e' : p_law31_ConnsKeeps_l1 l fuel [] (0:Int) (List.replicate 20 (Law31One.mk false (⟨#[]⟩ : ByteArray) (0:Int)))=_:=e
 rw [e',haw];rfl
end Go.Proofs.YtdbigmjlhkgeoaaGreat

