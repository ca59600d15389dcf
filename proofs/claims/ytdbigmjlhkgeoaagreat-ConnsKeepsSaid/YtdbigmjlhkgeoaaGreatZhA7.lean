/- A part of the proof: 13 texts joined. -/
import Derived.Test.YtdbigmjlhkgeoaaGreatZhA6
import Derived.Test.YtdbigmjlhkgeoaaGreatZhA4
import Derived.Test.YtdbigmjlhkgeoaaGreatZhA2
import Derived.Test.YtdbigmjlhkgeoaaGreatZhA5
import Derived.KernelRfl
set_option linter.all false
namespace Go.Proofs.YtdbigmjlhkgeoaaGreat
open Go.RowKit
def seenK:Int→Nat→Int
 | s,0=>s
 | s,k + 1=>seenK (w64 (s + 1)) k
theorem getS (l:List UInt8) (h:l.length≤100000):p_frame_Get (ba l)=some (outG (getR l)):=by
 have:=get_p (ba l) (by rw [ba_size];exact h)
 rwa [ba_list] at this
structure Good (buf:List UInt8) (bad seen:Int):Prop where
 seen:0≤seen
 len:buf.length≤50000
 out:bad=0∧getR buf=.cut∨bad≠0∧buf=[]
theorem check_good {buf:List UInt8} {bad seen:Int} (h:Good buf bad seen):p_deframe_Check (DeframeState.mk (ba buf) bad seen)=some 0:=by
 have hl:=h.len
 unfold p_deframe_Check
 rw [decide_eq_false (show ¬ seen < 0 by have:=h.seen;omega)]
 rcases h.out with ⟨rfl,hg⟩ | ⟨hb,rfl⟩
 ·rw [getS buf (by omega),hg];rfl
 ·have e:((ba []).toList == (⟨#[]⟩ : ByteArray).toList)=true:=eqT_refl _
  rw [show (bad != 0)=true by simpa using hb,cond_true,getS [] (by simp)]
  simp only [e,cond_true]
  rfl
theorem deaf_good {buf:List UInt8} {bad seen:Int} (h:Good buf bad seen):p_deframe_State_deaf (DeframeState.mk (ba buf) bad seen)=some (bad != 0):=by
 unfold p_deframe_State_deaf
 rw [check_good h]
 cases (bad != 0) <;> rfl
theorem texts_l:∀ (n:Nat) (l:List UInt8) (F:Nat) (acc:List ByteArray) (seen:Int),l.length < n→n≤F→l.length≤100000→acc.length + l.length≤100000 →
  p_deframe_Texts_l1 F acc (DeframeState.mk (ba l) 0 seen)=some (DeframeState.mk (ba (run l).2.1) (run l).2.2 (seenK seen (run l).1.length),acc++(run l).1.map ba)
 | n + 1,l,F + 1,acc,seen,h1,h2,h3,h4=>by
  rw [p_deframe_Texts_l1]
  show (p_frame_Get (ba l)).bind _=_
  rw [getS l h3,Option.bind_some]
  cases hg:getR l with
  | cut =>
   rw [run_cut hg]
   show some _=some _
   simp [seenK]
  | bad e =>
   have he:=getR_bad hg
   rw [run_bad hg]
   by_cases h33:e=3
   ·exfalso
    unfold getR at hg
    split at hg
    ·split at hg
     ·simp only [GR.bad.injEq] at hg;omega
     split at hg
     ·simp only [GR.bad.injEq] at hg;omega
     split at hg <;> cases hg
    ·cases hg
   ·show (bif (e == (3:Int)) then _ else bif (e != (0:Int)) then some (DeframeState.mk (⟨#[]⟩ : ByteArray) e seen,acc) else _)=_
    rw [show (e == 3)=false by simpa using h33,show (e != 0)=true by simpa using he]
    show some _=some _
    simp [seenK];rfl
  | ok t r =>
   obtain ⟨a,b,e,h5,h6,h7⟩:=getR_ok hg
   have hlt:=getR_lt hg
   rw [run_ok hg]
   show (app? acc [ba t]).bind _=_
   rw [app_ok (by simp;omega),Option.bind_some]
   show (sub? (ba l) (some ((2 + t.length:Nat):Int)) none).bind _=_
   rw [sub_from (by rw [ba_size,e];simp;omega),Option.bind_some,ba_list]
   have hd:l.drop (2 + t.length)=r:=by
    rw [e,show 2 + t.length=t.length + 1 + 1 by omega]
    show (t++r).drop t.length=r
    exact List.drop_left' rfl
   rw [hd]
   have:=texts_l n r F (acc++[ba t]) (w64 (seen + 1)) (by omega) (by omega) (by omega) (by simp;omega)
   show p_deframe_Texts_l1 F (acc++[ba t]) (DeframeState.mk (ba r) 0 (w64 (seen + 1)))=_
   rw [this]
   simp [seenK]
def itemR (t:List UInt8):DeframeItem:=DeframeItem.mk (stzTo (readL t).1) (readL t).2
theorem read_ba (t:List UInt8) (h:t.length≤100000):p_stanza_Read (ba t)=some (stzTo (readL t).1,(readL t).2):=by
 unfold p_stanza_Read
 rw [if_pos (by rw [ba_size];exact h),ba_list]
theorem items_l (ts:List (List UInt8)) (hn:ts.length≤100000) (ht:∀ t ∈ ts,t.length≤100000):∀ (n k F:Nat) (acc:List DeframeItem),k + n=ts.length→n < F→acc.length≤k→p_deframe_items_l1 (ts.map ba) ((ts.map ba).length:Int) F acc (k:Int)=some (acc++(ts.drop k).map itemR,((ts.map ba).length:Int))
 | 0,k,F + 1,acc,hk,hF,ha=>by
  rw [p_deframe_items_l1,lt_ff (by rw [List.length_map];omega),show k=(ts.map ba).length by rw [List.length_map];omega,List.drop_of_length_le (by rw [List.length_map];exact Nat.le_refl _)];simp
 | n + 1,k,F + 1,acc,hk,hF,ha=>by
  have hlt:k < ts.length:=by omega
  have hlt2:k < (ts.map ba).length:=by rw [List.length_map];exact hlt
  rw [p_deframe_items_l1,lt_tt hlt2,cond_true,at_lt hlt2,Option.bind_some,List.getElem_map,read_ba _ (ht _ (List.getElem_mem hlt)),Option.bind_some,app_ok (by simp;omega),Option.bind_some,w64_succ (by omega),items_l ts hn ht n (k + 1) F _ (by omega) (by omega) (by simp;omega),drop_at hlt,List.map_cons,List.append_assoc]
  rfl
theorem items_p (ts:List (List UInt8)) (hn:ts.length≤100000) (ht:∀ t ∈ ts,t.length≤100000):p_deframe_items (ts.map ba)=some (ts.map itemR):=by
 unfold p_deframe_items
 have e:=items_l ts hn ht ts.length 0 fuel [] (by omega) (by have:=fuel_pos;omega) (Nat.zero_le _)
 rw [List.drop_zero,List.nil_append] at e
 have e' : p_deframe_items_l1 (ts.map ba) ((ts.map ba).length:Int) fuel [] (0:Int)=_:=e
 rw [e'];rfl
theorem texts_good {buf:List UInt8} {seen:Int} (h:Good buf 0 seen) (s:ByteArray) (hs:s.size≤50000):p_deframe_Texts (DeframeState.mk (ba buf) 0 seen) s=some (DeframeState.mk (ba (run (buf++s.data.toList)).2.1) (run (buf++s.data.toList)).2.2 (seenK seen (run (buf++s.data.toList)).1.length),(run (buf++s.data.toList)).1.map ba):=by
 have hl:=h.len
 have hsl:=bl_len s
 have hc:cat? (ba buf) s=some (ba (buf++s.data.toList)):=by
  unfold cat?
  rw [if_pos (by rw [ba_size];omega)]
  rw [← ba_app,ba_of]
 unfold p_deframe_Texts
 rw [deaf_good h]
 show (cat? (ba buf) s).bind _=_
 rw [hc,Option.bind_some]
 have:=texts_l ((buf++s.data.toList).length + 1) (buf++s.data.toList) fuel [] seen (by omega) (by have:=fuel_pos;rw [List.length_append];omega) (by rw [List.length_append];omega) (by rw [List.length_append];simp;omega)
 rw [List.nil_append] at this
 show (p_deframe_Texts_l1 fuel [] (DeframeState.mk (ba (buf++s.data.toList)) 0 seen)).bind _=_
 rw [this];rfl
theorem run_good (l:List UInt8) (h:l.length≤50000):Good (run l).2.1 (run l).2.2 ((run l).1.length:Nat):=by
 obtain ⟨h1,h2,_,_⟩:=run_end (l.length + 1) l (by omega)
 exact ⟨by omega,by omega,h1⟩
end Go.Proofs.YtdbigmjlhkgeoaaGreat

namespace Go.Proofs.YtdbigmjlhkgeoaaGreat
def letterS (c:UInt8):Prop:=c=117∨c=114∨c=109∨c=115∨c=112∨c=99∨c=110
theorem letters (k:Nat):∀ c ∈ hasN k,letterS c:=hasN_in k
end Go.Proofs.YtdbigmjlhkgeoaaGreat

namespace Go.Proofs.YtdbigmjlhkgeoaaGreat
end Go.Proofs.YtdbigmjlhkgeoaaGreat

namespace Go.Proofs.YtdbigmjlhkgeoaaGreat
open Go.RowKit
theorem rget_p (s:ByteArray) (hs:s.size≤100000):p_ref11_Get s=some (outG (getR s.data.toList)):=by
 have hl:=bl_len s
 unfold p_ref11_Get
 match hL:s.data.toList with
 | [] =>
  rw [hL] at hl
  rw [show decide ((s.size:Int) < 2)=true by simp at hl ⊢;omega];rfl
 | [a] =>
  rw [hL] at hl
  rw [show decide ((s.size:Int) < 2)=true by simp at hl ⊢;omega];rfl
 | a :: b :: r =>
  rw [hL] at hl
  have hr:s.size=r.length + 2:=by simp at hl;omega
  have ha:=a.toNat_lt
  have hb:=b.toNat_lt
  have b0:byte? s (0:Int)=some (a.toNat:Int):=by
   have:=byte_at (s:=s) (k:=0) (by omega)
   rw [show ((0:Nat):Int)=0 from rfl] at this
   rw [this,← bl_get s 0 (by omega)];simp only [hL,List.getElem_cons_zero]
  have b1:byte? s (1:Int)=some (b.toNat:Int):=by
   have:=byte_at (s:=s) (k:=1) (by omega)
   rw [show ((1:Nat):Int)=1 from rfl] at this
   rw [this,← bl_get s 1 (by omega)];simp only [hL,List.getElem_cons_succ,List.getElem_cons_zero]
  have hw:w64 (w64 ((256:Int) * w64 (a.toNat:Int)) + w64 (b.toNat:Int))=((256 * a.toNat + b.toNat:Nat):Int):=by
   rw [w64_id (r:=(a.toNat:Int)) (by omega),w64_id (r:=(b.toNat:Int)) (by omega),w64_id (r:=256 * _) (by omega),w64_id (by omega)];omega
  rw [show decide ((s.size:Int) < 2)=false by simp;omega,b0,b1]
  simp only [cond_false,Option.bind_some,hw]
  rw [getR]
  generalize hn:256 * a.toNat + b.toNat=n at *
  by_cases h0:n=0
  ·rw [if_pos h0,h0];rfl
  rw [if_neg h0,show ((n:Int) == 0)=false by simpa using h0,cond_false]
  by_cases h1:128 < n
  ·rw [if_pos h1,show decide ((128:Int) < (n:Int))=true by simp;omega];rfl
  rw [if_neg h1,show decide ((128:Int) < (n:Int))=false by simp;omega,cond_false,w64_id (r:=(s.size:Int) - 2) (by omega)]
  by_cases h2:r.length < n
  ·rw [if_pos h2,decide_eq_true (show (s.size:Int) - 2 < (n:Int) by omega)];rfl
  rw [if_neg h2,decide_eq_false (show ¬ (s.size:Int) - 2 < (n:Int) by omega),cond_false]
  have e2:w64 ((2:Int) + (n:Int))=((2 + n:Nat):Int):=by rw [w64_id (by omega)];omega
  have s2:sub? s (some (2:Int)) (some ((2 + n:Nat):Int))=some (ba (r.take n)):=by
   have:=sub_p (s:=s) (i:=2) (j:=2 + n) (by omega) (by omega)
   rw [hL,show 2 + n - 2=n by omega] at this;exact this
  rw [e2,s2]
  show some (ba (r.take n),((2 + n:Nat):Int),(0:Int))=some (ba (r.take n),((2 + (r.take n).length:Nat):Int),(0:Int))
  rw [List.length_take,Nat.min_eq_left (by omega)]
def rdO (r:RdD):OctetRead:=OctetRead.mk r.s r.at_ r.bad
theorem rbad_p (r:RdD):p_ref01_bad (rdO r)=some (faultL r):=by
 unfold p_ref01_bad faultL rdO
 simp only
 by_cases h:r.bad=0
 ·rw [show (r.bad == 0)=true by simpa using h,cond_true]
  by_cases h1:r.at_ < 0
  ·rw [decide_eq_true h1,if_pos ⟨h,.inl h1⟩];rfl
  ·rw [decide_eq_false h1,cond_false]
   by_cases h2:(r.s.size:Int) < r.at_
   ·rw [decide_eq_true h2,if_pos ⟨h,.inr h2⟩];rfl
   ·rw [decide_eq_false h2,if_neg (fun g=>by rcases g.2 with g | g;exact h1 g;exact h2 g)];rfl
 ·rw [show (r.bad == 0)=false by simpa using h,if_neg (fun g=>h g.1)];rfl
theorem rleft_p (r:RdD) (hs:r.s.size≤100000):p_ref01_Left (rdO r)=some (leftL r):=by
 unfold p_ref01_Left leftL
 rw [rbad_p,Option.bind_some]
 by_cases h:faultL r=0
 ·obtain ⟨_,h1,h2⟩:=fault0 h
  rw [show (faultL r != 0)=false by simpa using h,if_neg (by simpa using h)]
  show some (w64 ((r.s.size:Int) - r.at_))=_
  rw [w64_id (by omega)]
 ·rw [show (faultL r != 0)=true by simpa using h,if_pos h];rfl
def beF (N:Nat) (l:List UInt8):Nat:=l.foldl (fun n b=>n * 256 + b.toNat) N
theorem rnum_l (s:ByteArray) (bad:Int) (w:Nat) (hw:w≤6) (hs:s.size≤100000):∀ (n j F a N:Nat),j + n=w→n < F→a + n≤s.size→N < 256 ^ j→p_ref01_Num_l1 (w:Int) F (N:Int) (j:Int) (OctetRead.mk s (a:Int) bad)=some ((beF N ((s.data.toList.drop a).take n):Int),(w:Int),OctetRead.mk s ((a + n:Nat):Int) bad)
 | 0,j,F + 1,a,N,hj,hF,ha,hN=>by
  rw [p_ref01_Num_l1,lt_ff (by omega),show j=w by omega];rfl
 | n + 1,j,F + 1,a,N,hj,hF,ha,hN=>by
  have hbl:=bl_len s
  have hlt:a < s.data.toList.length:=by omega
  have hb:=(s.data.toList[a]).toNat_lt
  have hp:(256:Nat) ^ j≤256 ^ 5:=Nat.pow_le_pow_right (by decide) (by omega)
  have h5:(256:Nat) ^ 5=1099511627776:=by decide
  have hN2:N * 256 + (s.data.toList[a]).toNat < 256 ^ (j + 1):=by rw [Nat.pow_succ];omega
  have bt:byte? s (a:Int)=some ((s.data.toList[a]).toNat:Int):=by rw [byte_at (by omega),← bl_get s a (by omega)]
  have hw2:w64 (w64 ((256:Int) * (N:Int)) + w64 ((s.data.toList[a]).toNat:Int))=((N * 256 + (s.data.toList[a]).toNat:Nat):Int):=by
   rw [w64_id (r:=((s.data.toList[a]).toNat:Int)) (by omega),w64_id (r:=256 * _) (by omega),w64_id (by omega)];omega
  rw [p_ref01_Num_l1,lt_tt (by omega),cond_true]
  simp only
  rw [bt,Option.bind_some,hw2,w64_succ (by omega),w64_succ (by omega),rnum_l s bad w hw hs n (j + 1) F (a + 1) _ (by omega) (by omega) (by omega) hN2,drop_at hlt,List.take_succ_cons,show a + 1 + n=a + (n + 1) by omega]
  rfl
theorem rnum_p (r:RdD) (w:Nat) (hw:w=1∨w=6) (hs:r.s.size≤100000):p_ref01_Num (rdO r) (w:Int)=some (rdO (numL r w).1,(numL r w).2):=by
 have hwd:p_ref01_wide (w:Int)=some true:=by rcases hw with rfl | rfl <;> rfl
 unfold p_ref01_Num
 rw [rbad_p,hwd,rleft_p r hs]
 simp only [Option.bind_some,cond_true]
 by_cases h:faultL r=0
 ·obtain ⟨h0,h1,h2⟩:=fault0 h
  rw [show (faultL r != 0)=false by simpa using h,cond_false]
  by_cases h3:leftL r < (w:Int)
  ·rw [decide_eq_true h3,numL_short h h3];rfl
  ·have hl:leftL r=r.s.size - r.at_:=if_neg (by simpa using h)
   rw [decide_eq_false h3,cond_false,numL_ok h h3]
   obtain ⟨s,at_,bad⟩:=r
   obtain ⟨a,rfl⟩:=Int.eq_ofNat_of_zero_le h1
   rw [hl] at h3
   simp only at h3
   have e:=rnum_l s bad w (by rcases hw with rfl | rfl <;> omega) hs w 0 fuel a 0 (by omega) (by have:=fuel_pos;rcases hw with rfl | rfl <;> omega) (by omega) (by decide)
   have e' : p_ref01_Num_l1 (w:Int) fuel (0:Int) (0:Int) (rdO ⟨s,(a:Int),bad⟩)=_:=e
   rw [e']
   show some (OctetRead.mk s ((a + w:Nat):Int) bad,_)=_
   rfl
 ·rw [show (faultL r != 0)=true by simpa using h,numL_bad h];rfl
theorem rtext_p (r:RdD) (m:Int) (hs:r.s.size≤100000):p_ref01_Text (rdO r) m=some (rdO (octTextL r m).1,(octTextL r m).2):=by
 have h1:=rnum_p r 1 (.inl rfl) hs
 have h1' : p_ref01_Num (rdO r) (1:Int)=_:=h1
 have hz:(numL r 1).1.s=r.s:=num_s r 1
 unfold p_ref01_Text octTextL
 rw [h1']
 simp only [Option.bind_some]
 by_cases hb:(numL r 1).1.bad=0
 ·obtain ⟨_,_,f3,f4,f5,f6,f7,f8,f9⟩:=num1_facts r hb
  rw [show ((rdO (numL r 1).1).Bad != 0)=false by show ((numL r 1).1.bad != 0)=false;simpa using hb,cond_false,if_neg (by simpa using hb),rleft_p _ (by rw [hz];exact hs)]
  by_cases h2:m < (numL r 1).2
  ·rw [decide_eq_true h2,if_pos h2];rfl
  rw [decide_eq_false h2,cond_false,if_neg h2,Option.bind_some]
  by_cases h3:leftL (numL r 1).1 < (numL r 1).2
  ·rw [decide_eq_true h3,if_pos h3];rfl
  rw [decide_eq_false h3,cond_false,if_neg h3]
  rw [f9] at h3
  have ha:0≤(numL r 1).1.at_:=by omega
  show (sub? (numL r 1).1.s (some (numL r 1).1.at_) (some (w64 ((numL r 1).1.at_ + (numL r 1).2)))).bind _=_
  rw [w64_id (by omega),hz]
  have:sub? r.s (some (numL r 1).1.at_) (some ((numL r 1).1.at_ + (numL r 1).2))=some (r.s.extract (numL r 1).1.at_.toNat ((numL r 1).1.at_ + (numL r 1).2).toNat):=by
   unfold sub?
   rw [if_pos ⟨ha,by show (numL r 1).1.at_≤(numL r 1).1.at_ + (numL r 1).2;omega,by show (numL r 1).1.at_ + (numL r 1).2≤(r.s.size:Int);omega⟩];rfl
  rw [this,Option.bind_some]
  show some (OctetRead.mk (numL r 1).1.s (w64 ((numL r 1).1.at_ + (numL r 1).2)) (numL r 1).1.bad,_)=_
  rw [w64_id (by omega),hz];rfl
 ·rw [show ((rdO (numL r 1).1).Bad != 0)=true by show ((numL r 1).1.bad != 0)=true;simpa using hb,if_pos hb];rfl
theorem rdone_p (r:RdD) (hs:r.s.size≤100000):p_ref01_Done (rdO r)=some (doneL r):=by
 unfold p_ref01_Done doneL
 rw [rbad_p,rleft_p r hs]
 simp only [Option.bind_some]
 by_cases h:faultL r=0
 ·have hl:leftL r=r.s.size - r.at_:=if_neg (by simpa using h)
  rw [show (faultL r == 0)=true by simpa using h,cond_true,if_neg (by simpa using h),hl]
  by_cases h2:r.at_ < (r.s.size:Int)
  ·rw [decide_eq_true (show (0:Int) < (r.s.size:Int) - r.at_ by omega),if_pos h2];rfl
  ·rw [decide_eq_false (show ¬ (0:Int) < (r.s.size:Int) - r.at_ by omega),if_neg h2,h];rfl
 ·rw [show (faultL r == 0)=false by simpa using h,if_pos h];rfl
theorem rkh_all:(List.range 256).all (fun k=>(p_ref10_known (k:Int) == some (knownN k)) && ((p_ref10_Has (k:Int)).map (·.data.toList) == some (hasN k)))=true:=by kernel_rfl
theorem rkh_p (k:UInt8):p_ref10_known (k.toNat:Int)=some (knownN k.toNat)∧p_ref10_Has (k.toNat:Int)=some (ba (hasN k.toNat)):=by
 have:=List.all_eq_true.1 rkh_all k.toNat (List.mem_range.2 k.toNat_lt)
 simp only [Bool.and_eq_true,beq_iff_eq] at this
 refine ⟨this.1,?_⟩
 cases h:p_ref10_Has (k.toNat:Int) with
 | none=>rw [h] at this;cases this.2
 | some b=>rw [h] at this;have:=Option.some.inj this.2;rw [← this,ba_of]
theorem of_to (s:StzD):stzOf (stzTo s)=s:=by
 unfold stzOf stzTo
 simp only [Int.toNat_natCast,UInt8.ofNat_toNat]
theorem rcheck_s (s:StzD) (hu:s.user.size≤100000) (hr:s.res.size≤100000) (hn:s.name.size≤100000):p_ref10_Check (stzTo s)=some (checkS s):=by
 have hk:=s.kind.toNat_lt
 unfold p_ref10_Check
 rw [if_pos ⟨by show 0≤(s.kind.toNat:Int)∧(s.kind.toNat:Int)≤255;omega,hu,hr,hn⟩,of_to]
theorem rread_l (L:List UInt8) (hL:∀ c ∈ L,letterS c) (hn:L.length≤1000):∀ (n k F:Nat) (x:RdD × StzD),k + n=L.length→n < F→x.1.s.size≤100000→p_ref10_Read_l1 (ba L) F (k:Int) (stzTo x.2) (rdO x.1)=some ((L.length:Int),stzTo ((L.drop k).foldl readF x).2,rdO ((L.drop k).foldl readF x).1)
 | 0,k,F + 1,x,hk,hF,hs=>by
  rw [p_ref10_Read_l1,ba_size,lt_ff (by omega),show k=L.length by omega,List.drop_length];rfl
 | n + 1,k,F + 1,x,hk,hF,hs=>by
  have hlt:k < L.length:=by omega
  have hc:=hL _ (List.getElem_mem hlt)
  have bt:byte? (ba L) (k:Int)=some ((L[k]).toNat:Int):=by
   rw [byte_at (by rw [ba_size];exact hlt),← bl_get (ba L) k (by rw [ba_size];exact hlt)]
   simp only [ba_list]
  have nx:=rread_l L hL hn n (k + 1) F (readF x L[k]) (by omega) (by omega) (by rw [(readF_s x _).1];exact hs)
  have e1:=rnum_p x.1 1 (.inl rfl) hs
  have e1' : p_ref01_Num (rdO x.1) (1:Int)=_:=e1
  have e6:=rnum_p x.1 6 (.inr rfl) hs
  have e6' : p_ref01_Num (rdO x.1) (6:Int)=_:=e6
  have r1:=num_range x.1 1 (by omega)
  rw [p_ref10_Read_l1,ba_size,lt_tt hlt,cond_true,bt,Option.bind_some,w64_succ (by omega),drop_at hlt,List.foldl_cons]
  generalize hcc:L[k]=c at *
  obtain ⟨r,s⟩:=x
  simp only at r1 e1' e6' hs
  rcases hc with rfl | rfl | rfl | rfl | rfl | rfl | rfl
  ·rw [rf117] at nx ⊢
   simp only [rtext_p r 33 hs]
   exact nx
  ·rw [rf114] at nx ⊢
   simp only [rtext_p r 12 hs]
   exact nx
  ·rw [rf109] at nx ⊢
   simp only [rtext_p r 24 hs]
   exact nx
  ·rw [rf115] at nx ⊢
   simp only [e1',Int.sub_zero] at nx ⊢
   exact nx
  ·rw [rf112] at nx ⊢
   simp only [e1'] at nx ⊢
   refine Eq.trans ?_ nx
   show p_ref10_Read_l1 (ba L) F _ (StanzaStanza.mk _ _ _ _ _ (w64 ((numL r 1).2 - 128)) _ _) _=_
   rw [w64_id (show -9223372036854775808≤(numL r 1).2 - 128∧(numL r 1).2 - 128≤9223372036854775807 by omega)]
   rfl
  ·rw [rf99] at nx ⊢
   simp only [e1',Int.sub_zero] at nx ⊢
   exact nx
  ·rw [rf110] at nx ⊢
   simp only [e6',Int.sub_zero] at nx ⊢
   exact nx
theorem rread_p (b:ByteArray) (hb:b.size≤100000):p_ref10_Read b=some (stzTo (readL b.data.toList).1,(readL b.data.toList).2):=by
 have hbl:=bl_len b
 unfold p_ref10_Read
 match hL:b.data.toList with
 | [] =>
  have e:b=⟨#[]⟩:=by rw [← ba_of b,hL];rfl
  have e2:((⟨#[]⟩ : ByteArray).toList == (⟨#[]⟩ : ByteArray).toList)=true:=eqT_refl _
  rw [e,e2];rfl
 | k :: rest =>
  rw [hL] at hbl
  have hr:b.size=rest.length + 1:=by simp at hbl;omega
  have e1:(b.toList == (⟨#[]⟩ : ByteArray).toList)=false:=by
   rw [Bool.eq_false_iff]
   intro g
   have g2:=eqT_iff.1 g
   rw [g2] at hr
   have:(⟨#[]⟩ : ByteArray).size=0:=rfl
   omega
  have b0:byte? b (0:Int)=some (k.toNat:Int):=by
   have:=byte_at (s:=b) (k:=0) (by omega)
   rw [show ((0:Nat):Int)=0 from rfl] at this
   rw [this,← bl_get b 0 (by omega)];simp only [hL,List.getElem_cons_zero]
  have s1:sub? b (some (1:Int)) none=some (ba rest):=by
   have:=sub_from (s:=b) (i:=1) (by omega)
   rw [hL] at this;exact this
  obtain ⟨hk,hh⟩:=rkh_p k
  rw [e1,cond_false,b0,Option.bind_some,hk,Option.bind_some]
  cases hkn:knownN k.toNat with
  | false=>rw [readL_u hkn];rfl
  | true =>
   have hrs:(ba rest).size≤100000:=by rw [ba_size];omega
   have hlen:(hasN k.toNat).length≤1000:=by have:=hasN_len k.toNat;omega
   have hloop:=rread_l (hasN k.toNat) (letters k.toNat) hlen (hasN k.toNat).length 0 fuel (⟨ba rest,0,0⟩,kS k) (by omega) (by have:=fuel_pos;omega) hrs
   rw [List.drop_zero] at hloop
   have hF:(hasN k.toNat).foldl readF (⟨ba rest,0,0⟩,kS k)=foldR k rest:=rfl
   rw [hF] at hloop
   have hloop' : p_ref10_Read_l1 (ba (hasN k.toNat)) fuel (0:Int) (StanzaStanza.mk (k.toNat:Int) (⟨#[]⟩ : ByteArray) (⟨#[]⟩ : ByteArray) (⟨#[]⟩ : ByteArray) (0:Int) (0:Int) (0:Int) (0:Int)) (OctetRead.mk (ba rest) 0 0)=_:=hloop
   have hsz:=fold_sz 100000 (hasN k.toNat) (⟨ba rest,0,0⟩,kS k) hrs ⟨Nat.zero_le _,Nat.zero_le _,Nat.zero_le _⟩
   rw [hF] at hsz
   have hfs:=(fold_s (hasN k.toNat) (⟨ba rest,0,0⟩,kS k)).1
   rw [hF] at hfs
   have hd:=rdone_p (foldR k rest).1 (by rw [hfs];exact hrs)
   have hck:=rcheck_s (foldR k rest).2 hsz.1 hsz.2.1 hsz.2.2
   unfold p_ref01_Open
   simp only [cond_true,s1,hh,Option.bind_some]
   rw [hloop']
   simp only [Option.bind_some,hd]
   by_cases h2:doneL (foldR k rest).1=0
   ·rw [show (doneL (foldR k rest).1 == 0)=true by simpa using h2,cond_true,hck,Option.bind_some]
    by_cases h3:checkS (foldR k rest).2=0
    ·rw [show (checkS (foldR k rest).2 != 0)=false by simpa using h3,readL_o hkn h2 h3];rfl
    ·rw [show (checkS (foldR k rest).2 != 0)=true by simpa using h3,readL_c hkn h2 h3];rfl
   ·rw [show (doneL (foldR k rest).1 == 0)=false by simpa using h2,show (doneL (foldR k rest).1 != 0)=true by simpa using h2,readL_d hkn h2];rfl
end Go.Proofs.YtdbigmjlhkgeoaaGreat

namespace Go.Proofs.YtdbigmjlhkgeoaaGreat
open Go.RowKit
theorem rcheck12 (st:DeframeState) (h:st.Buf.size≤100000):p_ref12_Check st=p_deframe_Check st∧∃ e,p_deframe_Check st=some e∧(e=0→st.Bad=0→getR st.Buf.data.toList=.cut∧0≤st.Seen):=by
 unfold p_ref12_Check p_deframe_Check
 rw [rget_p st.Buf h,get_p st.Buf h]
 simp only [Option.bind_some]
 have hc:((outG (getR st.Buf.data.toList)).2.2 != 3)=false→getR st.Buf.data.toList=.cut:=fun hh=>by
  cases hg:getR st.Buf.data.toList with
  | cut=>rfl
  | bad e =>
   rw [hg] at hh
   have:e=3:=by simpa [outG] using hh
   exfalso
   unfold getR at hg
   split at hg
   ·split at hg
    ·simp only [GR.bad.injEq] at hg;omega
    split at hg
    ·simp only [GR.bad.injEq] at hg;omega
    split at hg <;> cases hg
   ·cases hg
  | ok t r=>rw [hg] at hh;cases hh
 by_cases hb:st.Bad=0
 ·rw [show (st.Bad != 0)=false by simpa using hb]
  simp only [cond_false]
  cases hq:((outG (getR st.Buf.data.toList)).2.2 != 3) with
  | true=>exact ⟨trivial,5,rfl,fun e=>(by cases e)⟩
  | false =>
   simp only [cond_false]
   by_cases hs:st.Seen < 0
   ·rw [decide_eq_true hs];exact ⟨trivial,8,rfl,fun e=>(by cases e)⟩
   ·rw [decide_eq_false hs];exact ⟨trivial,0,rfl,fun _ _=>⟨hc hq,by omega⟩⟩
 ·rw [show (st.Bad != 0)=true by simpa using hb]
  simp only [cond_true]
  cases (st.Buf.toList == (⟨#[]⟩ : ByteArray).toList) with
  | false=>exact ⟨trivial,4,rfl,fun e=>(by cases e)⟩
  | true =>
   simp only [cond_true]
   cases ((outG (getR st.Buf.data.toList)).2.2 != 3) with
   | true=>exact ⟨trivial,5,rfl,fun e=>(by cases e)⟩
   | false =>
    simp only [cond_false]
    by_cases hs:st.Seen < 0
    ·rw [decide_eq_true hs];exact ⟨trivial,8,rfl,fun e=>(by cases e)⟩
    ·rw [decide_eq_false hs];exact ⟨trivial,0,rfl,fun _ g=>absurd g hb⟩
theorem run_cnt {l:List UInt8} (h:getR l=.cut) (m:List UInt8):(run (l++m)).1.length≤m.length:=by
 cases hg:getR (l++m) with
 | cut=>rw [run_cut hg];simp
 | bad e=>rw [run_bad hg];simp
 | ok t r =>
  obtain ⟨a,b,he,h0,h1,h2⟩:=getR_ok hg
  have hr:r.length < m.length:=by
   rcases Nat.lt_or_ge r.length m.length with q | q
   ·exact q
   ·exfalso
    have hlen:=congrArg List.length he
    simp only [List.length_append,List.length_cons] at hlen
    clear hg
    match l,h,he,hlen with
    | [],_,_,hlen=>simp at hlen;omega
    | [x],_,_,hlen=>simp at hlen;omega
    | x :: y :: q',h,he,hlen =>
     simp only [List.cons_append,List.cons.injEq] at he
     obtain ⟨rfl,rfl,_⟩:=he
     rw [getR] at h
     simp only [List.length_cons] at hlen
     rw [if_neg (by omega),if_neg (by omega),if_neg (by omega)] at h
     cases h
  obtain ⟨_,_,k3,_⟩:=run_end (r.length + 1) r (by omega)
  rw [run_ok hg]
  show (run r).1.length + 1≤_
  omega
theorem rtexts_l (b:ByteArray) (hb:b.size≤50000):∀ (m F:Nat) (l:List UInt8) (acc:List ByteArray) (k:Nat) (st:DeframeState),l.length < m→m≤F→(run l).1.length + k≤b.size→l.length≤100000→acc.length + l.length≤100000 →
  p_ref12_Texts_l1 b F (ba l) acc (k:Int) st=if (run l).2.2=0 then some (.inl (ba (run l).2.1,acc++(run l).1.map ba,((k + (run l).1.length:Nat):Int),DeframeState.mk st.Buf st.Bad (seenK st.Seen (run l).1.length))) else some (.inr (DeframeState.mk (⟨#[]⟩ : ByteArray) (run l).2.2 (seenK st.Seen (run l).1.length),acc++(run l).1.map ba))
 | m + 1,F + 1,l,acc,k,st,h1,h2,h3,h4,h5=>by
  have hg0:=rget_p (ba l) (by rw [ba_size];exact h4)
  rw [ba_list] at hg0
  rw [p_ref12_Texts_l1,decide_eq_true (show (k:Int)≤(b.size:Int) by omega),cond_true,hg0,Option.bind_some]
  cases hg:getR l with
  | cut=>rw [run_cut hg,if_pos rfl];simp [outG,seenK]
  | bad e =>
   have he:=getR_bad hg
   have h33:e≠3:=by
    intro h33
    unfold getR at hg
    split at hg
    ·split at hg
     ·simp only [GR.bad.injEq] at hg;omega
     split at hg
     ·simp only [GR.bad.injEq] at hg;omega
     split at hg <;> cases hg
    ·cases hg
   rw [run_bad hg,if_neg he]
   simp only [outG]
   rw [show (e == 3)=false by simpa using h33,show (e != 0)=true by simpa using he]
   simp [seenK]
  | ok t r =>
   obtain ⟨a,c,e,h6,h7,h8⟩:=getR_ok hg
   have hlt:=getR_lt hg
   have hrun:=run_ok hg
   rw [hrun] at h3
   simp only [List.length_cons] at h3
   rw [hrun]
   simp only [outG]
   rw [show ((0:Int) == 3)=false from rfl,show ((0:Int) != 0)=false from rfl,cond_false,cond_false,app_ok (by simp;omega),Option.bind_some]
   have hd:l.drop (2 + t.length)=r:=by
    rw [e,show 2 + t.length=t.length + 1 + 1 by omega]
    show (t++r).drop t.length=r
    exact List.drop_left' rfl
   rw [sub_from (by rw [ba_size,e];simp;omega),Option.bind_some,ba_list,hd,w64_succ (by omega)]
   rw [rtexts_l b hb m F r (acc++[ba t]) (k + 1) (DeframeState.mk st.Buf st.Bad (w64 (st.Seen + 1))) (by omega) (by omega) (by omega) (by omega) (by simp;omega)]
   simp only [List.length_cons,List.map_cons,seenK,List.append_assoc,List.singleton_append]
   rw [show k + 1 + (run r).1.length=k + ((run r).1.length + 1) by omega]
theorem rtexts_p (st:DeframeState) (s:ByteArray) (h:st.Buf.size≤40000) (hs:s.size≤40000):∃ x,p_deframe_Texts st s=some x∧p_ref12_Texts st s=some x∧((x=(st,[]) )∨∃ l:List UInt8,l.length≤80000∧x=(DeframeState.mk (ba (run l).2.1) (run l).2.2 (seenK st.Seen (run l).1.length),(run l).1.map ba)):=by
 obtain ⟨h1,e,h2,h3⟩:=rcheck12 st (by omega)
 have hbl:=bl_len st.Buf
 have hsl:=bl_len s
 by_cases hb:st.Bad=0
 ·by_cases he:e=0
  ·obtain ⟨h4,h5⟩:=h3 he hb
   obtain ⟨buf,bad,seen⟩:=st
   simp only at hb h4 h5 h hbl
   subst hb
   subst he
   have hg:Good buf.data.toList 0 seen:=⟨h5,by omega,.inl ⟨rfl,h4⟩⟩
   have t1:=texts_good hg s (by omega)
   rw [ba_of] at t1
   have hc:cat? buf s=some (ba (buf.data.toList++s.data.toList)):=by
    unfold cat?
    rw [if_pos (by omega),← ba_app,ba_of,ba_of]
   have t2:=rtexts_l s (by omega) ((buf.data.toList++s.data.toList).length + 1) fuel (buf.data.toList++s.data.toList) [] 0 (DeframeState.mk buf 0 seen) (by omega) (by have:=fuel_pos;rw [List.length_append];omega) (by have:=run_cnt h4 s.data.toList;omega) (by rw [List.length_append];omega) (by rw [List.length_append];simp;omega)
   have t2' : p_ref12_Texts_l1 s fuel (ba (buf.data.toList++s.data.toList)) [] (0:Int) (DeframeState.mk buf 0 seen)=_:=t2
   refine ⟨_,t1,?_,.inr ⟨buf.data.toList++s.data.toList,by rw [List.length_append];omega,rfl⟩⟩
   unfold p_ref12_Texts
   rw [h1,h2]
   simp only [bne_self_eq_false,cond_false,Option.bind_some,hc]
   rw [t2']
   obtain ⟨k1,_⟩:=run_end ((buf.data.toList++s.data.toList).length + 1) (buf.data.toList++s.data.toList) (by omega)
   by_cases hz:(run (buf.data.toList++s.data.toList)).2.2=0
   ·rw [if_pos hz,hz];rfl
   ·rw [if_neg hz]
    rcases k1 with ⟨k1,_⟩ | ⟨_,k1⟩
    ·exact absurd k1 hz
    ·rw [k1];rfl
  ·refine ⟨_,?_,?_,.inl rfl⟩
   ·unfold p_deframe_Texts p_deframe_State_deaf
    rw [h2,show (st.Bad != 0)=false by simpa using hb]
    simp only [cond_false,Option.bind_some]
    rw [show (e != 0)=true by simpa using he];rfl
   ·unfold p_ref12_Texts
    rw [h1,h2,show (st.Bad != 0)=false by simpa using hb]
    simp only [cond_false,Option.bind_some]
    rw [show (e != 0)=true by simpa using he];rfl
 ·refine ⟨_,?_,?_,.inl rfl⟩
  ·unfold p_deframe_Texts p_deframe_State_deaf
   rw [show (st.Bad != 0)=true by simpa using hb];rfl
  ·unfold p_ref12_Texts
   rw [show (st.Bad != 0)=true by simpa using hb];rfl
theorem ritems_l (ts:List (List UInt8)) (hn:ts.length≤100000) (ht:∀ t ∈ ts,t.length≤100000):∀ (n k F:Nat) (acc:List DeframeItem),k + n=ts.length→n < F→acc.length≤k→p_ref12_Feed_l1 (ts.map ba) F acc (k:Int)=some (acc++(ts.drop k).map itemR,((ts.map ba).length:Int))
 | 0,k,F + 1,acc,hk,hF,ha=>by
  rw [p_ref12_Feed_l1,lt_ff (by rw [List.length_map];omega),show k=(ts.map ba).length by rw [List.length_map];omega,List.drop_of_length_le (by rw [List.length_map];exact Nat.le_refl _)];simp
 | n + 1,k,F + 1,acc,hk,hF,ha=>by
  have hlt:k < ts.length:=by omega
  have hlt2:k < (ts.map ba).length:=by rw [List.length_map];exact hlt
  have hr:=rread_p (ba ts[k]) (by rw [ba_size];exact ht _ (List.getElem_mem hlt))
  rw [ba_list] at hr
  rw [p_ref12_Feed_l1,lt_tt hlt2,cond_true,at_lt hlt2,Option.bind_some,List.getElem_map,hr,Option.bind_some,app_ok (by simp;omega),Option.bind_some,w64_succ (by omega),ritems_l ts hn ht n (k + 1) F _ (by omega) (by omega) (by simp;omega),drop_at hlt,List.map_cons,List.append_assoc]
  rfl
theorem rfeed_p (st:DeframeState) (s:ByteArray) (h:st.Buf.size≤40000) (hs:s.size≤40000):∃ x,p_deframe_Feed st s=some x∧p_ref12_Feed st s=some x∧x.1.Buf.size≤80000∧x.2.length≤80000:=by
 obtain ⟨x,h1,h2,h3⟩:=rtexts_p st s h hs
 unfold p_deframe_Feed p_ref12_Feed
 rw [h1,h2]
 simp only [Option.bind_some]
 rcases h3 with rfl | ⟨l,hl,rfl⟩
 ·have e1:p_deframe_items []=some []:=items_p [] (by simp) (fun t ht=>by cases ht)
  have e2:p_ref12_Feed_l1 [] fuel [] (0:Int)=some ([],0):=ritems_l [] (by simp) (fun t ht=>by cases ht) 0 0 fuel [] rfl (by have:=fuel_pos;omega) (Nat.zero_le _)
  exact ⟨(st,[]),by rw [e1];rfl,by rw [e2];rfl,by show st.Buf.size≤_;omega,Nat.zero_le _⟩
 ·obtain ⟨_,k2,k3,k4⟩:=run_end (l.length + 1) l (by omega)
  have e1:=items_p (run l).1 (by omega) (fun t ht=>by have:=k4 t ht;omega)
  have e2:=ritems_l (run l).1 (by omega) (fun t ht=>by have:=k4 t ht;omega) (run l).1.length 0 fuel [] (by omega) (by have:=fuel_pos;omega) (Nat.zero_le _)
  rw [List.drop_zero,List.nil_append] at e2
  have e2' : p_ref12_Feed_l1 ((run l).1.map ba) fuel [] (0:Int)=_:=e2
  refine ⟨(DeframeState.mk (ba (run l).2.1) (run l).2.2 (seenK st.Seen (run l).1.length),(run l).1.map itemR),by rw [e1];rfl,by rw [e2'];rfl,by show (ba (run l).2.1).size≤_;rw [ba_size];omega,by show ((run l).1.map itemR).length≤_;rw [List.length_map];omega⟩
end Go.Proofs.YtdbigmjlhkgeoaaGreat

namespace Go.Proofs.YtdbigmjlhkgeoaaGreat
open Go.RowKit
instance:Inhabited ConnsConn:=⟨⟨0,0,⟨#[]⟩,⟨#[]⟩,0,⟨⟨#[]⟩,0,0⟩⟩⟩
def emB (b:ByteArray):Bool:=b.toList == (⟨#[]⟩ : ByteArray).toList
def namedL (u r:ByteArray):Bool:=decide (resL r.data.toList=0) && isBareL u.data.toList
def keyL (u r:ByteArray):ByteArray:=if namedL u r=true then u++⟨#[32]⟩++r else ⟨#[]⟩
def keyC (c:ConnsConn):ByteArray:=if emB c.User=true then ⟨#[]⟩ else keyL c.User c.Res
def hasK (k:ByteArray) (c:ConnsConn):Bool:=!emB k && ((keyC c).toList == k.toList)
def inB (n a b:Int):Bool:=decide (a≤n) && decide (n≤b)
def numC (c:ConnsConn):Bool:=inB c.ID 0 255 && (inB c.Source 0 65535 && inB c.Credit 0 1048576)
def namC (c:ConnsConn):Bool:=if emB c.User=true then emB c.Res else !emB (keyC c)
def smC (c:ConnsConn):Prop:=c.User.size≤100000∧c.Res.size≤100000∧c.In.Buf.size≤40000
def dchk (s:DeframeState):Int:=(p_deframe_Check s).getD 0
def dfE:List ConnsConn→Int
 | []=>0
 | c :: t=>if dchk c.In≠0 then dchk c.In else dfE t
def ordB:List ConnsConn→Bool
 | a :: b :: t=>decide (a.ID < b.ID) && ordB (b :: t)
 | _=>true
def ixF (p:ConnsConn→Bool):List ConnsConn→Nat→Int
 | [],_=>-1
 | c :: t,k=>if p c=true then (k:Int) else ixF p t (k + 1)
theorem ixF_bd (p:ConnsConn→Bool):∀ (l:List ConnsConn) (k:Nat),ixF p l k=-1∧(∀ c ∈ l,p c=false)∨((k:Int)≤ixF p l k∧ixF p l k < k + l.length)
 | [],k=>.inl ⟨rfl,fun c h=>by cases h⟩
 | c :: t,k=>by
  rw [ixF]
  cases hc:p c with
  | true=>rw [if_pos rfl];right;simp;omega
  | false =>
   rw [if_neg (by simp)]
   rcases ixF_bd p t (k + 1) with ⟨h,g⟩ | h
   ·refine .inl ⟨h,fun d hd=>?_⟩
    rcases List.mem_cons.1 hd with rfl | hd
    ·exact hc
    ·exact g d hd
   ·right;simp;omega
theorem ixF_no {p:ConnsConn→Bool}:∀ {l:List ConnsConn} {k:Nat},(∀ c ∈ l,p c=false)→ixF p l k=-1
 | [],_,_=>rfl
 | c :: t,k,h=>by
  rw [ixF,h c (List.mem_cons_self ..),if_neg (by simp),ixF_no fun d hd=>h d (List.mem_cons_of_mem _ hd)]
theorem ixF_app (p:ConnsConn→Bool):∀ (X Y:List ConnsConn) (k:Nat),ixF p (X++Y) k=if ixF p X k < 0 then ixF p Y (k + X.length) else ixF p X k
 | [],Y,k=>by rw [ixF,if_pos (by omega)];rfl
 | c :: t,Y,k=>by
  show ixF p (c :: (t++Y)) k=_
  rw [ixF,ixF]
  cases p c with
  | true=>simp;omega
  | false =>
   have:=ixF_app p t Y (k + 1)
   rw [show k + 1 + t.length=k + (t.length + 1) by omega] at this
   simpa using this
def thrF (st:List ConnsConn):Nat→Nat→Bool
 | 0,_=>false
 | n + 1,k=>(st.take k).any (hasK (keyC (st.getD k default))) || thrF st n (k + 1)
def chkC (st:List ConnsConn):Int :=
 if 16 < st.length then 5 else if st.any (fun c=>!numC c)=true then 8 else if st.any (fun c=>!namC c)=true then 11
 else if dfE st≠0 then dfE st else if ordB st=false then 10 else if thrF st st.length 0=true then 13 else 0
structure OkC (st:List ConnsConn):Prop where
 len:st.length≤16
 num:∀ c ∈ st,numC c=true
 nam:∀ c ∈ st,namC c=true
 df:∀ c ∈ st,dchk c.In=0
 ord:st.Pairwise fun a b=>a.ID < b.ID
 dup:∀ j,(h:j < st.length)→(st.take j).any (hasK (keyC st[j]))=false
theorem dfE_0:∀ {l:List ConnsConn},dfE l=0 ↔ ∀ c ∈ l,dchk c.In=0
 | []=>⟨fun _ c h=>(by cases h),fun _=>rfl⟩
 | c :: t=>by
  rw [dfE]
  by_cases h:dchk c.In=0
  ·rw [if_neg (by simpa using h),dfE_0];simp [h]
  ·rw [if_pos h];simp [h]
theorem ordB_1:∀ {l:List ConnsConn},ordB l=true ↔ l.Pairwise fun a b=>a.ID < b.ID
 | []=>⟨fun _=>.nil,fun _=>rfl⟩
 | [c]=>⟨fun _=>by simp,fun _=>rfl⟩
 | a :: b :: t=>by
  rw [ordB,Bool.and_eq_true,ordB_1,decide_eq_true_eq,List.pairwise_cons (a:=a)]
  constructor
  ·intro ⟨h,g⟩
   refine ⟨fun c hc=>?_,g⟩
   rcases List.mem_cons.1 hc with rfl | hc
   ·exact h
   ·have:=(List.pairwise_cons.1 g).1 c hc;omega
  ·intro ⟨h,g⟩
   exact ⟨h b (List.mem_cons_self ..),g⟩
theorem thrF_no {st:List ConnsConn}:∀ {n k:Nat},k + n=st.length→(thrF st n k=false ↔ ∀ j,k≤j→(h:j < st.length)→(st.take j).any (hasK (keyC st[j]))=false)
 | 0,k,hk=>⟨fun _ j h1 h2=>by omega,fun _=>rfl⟩
 | n + 1,k,hk=>by
  have hg:st.getD k default=st[k]'(by omega):=by rw [List.getD_eq_getElem?_getD,List.getElem?_eq_getElem (by omega),Option.getD_some]
  rw [thrF,Bool.or_eq_false_iff,thrF_no (by omega),hg]
  constructor
  ·intro ⟨h1,h2⟩ j hj hl
   rcases Nat.lt_or_eq_of_le hj with h | rfl
   ·exact h2 j h hl
   ·exact h1
  ·intro h
   exact ⟨h k (Nat.le_refl _) (by omega),fun j hj hl=>h j (by omega) hl⟩
theorem any_no {α:Type} {l:List α} {p:α→Bool}:l.any (fun c=>!p c)=true ↔ ¬ ∀ c ∈ l,p c=true:=by
 rw [List.any_eq_true]
 constructor
 ·rintro ⟨c,hc,h⟩ g;rw [g c hc] at h;cases h
 ·intro h
  refine Classical.byContradiction fun g=>h fun c hc=>?_
  cases hp:p c with
  | true=>rfl
  | false=>exact absurd ⟨c,hc,by rw [hp];rfl⟩ g
theorem ok_c {st:List ConnsConn}:chkC st=0 ↔ OkC st:=by
 unfold chkC
 by_cases h1:16 < st.length
 ·rw [if_pos h1];exact ⟨fun h=>by omega,fun h=>by have:=h.len;omega⟩
 rw [if_neg h1]
 by_cases h2:st.any (fun c=>!numC c)=true
 ·rw [if_pos h2];exact ⟨fun h=>by omega,fun h=>absurd h.num (any_no.1 h2)⟩
 rw [if_neg h2]
 by_cases h3:st.any (fun c=>!namC c)=true
 ·rw [if_pos h3];exact ⟨fun h=>by omega,fun h=>absurd h.nam (any_no.1 h3)⟩
 rw [if_neg h3]
 by_cases h4:dfE st≠0
 ·rw [if_pos h4];exact ⟨fun h=>absurd h h4,fun h=>absurd (dfE_0.2 h.df) h4⟩
 rw [if_neg h4]
 by_cases h5:ordB st=false
 ·rw [if_pos h5];exact ⟨fun h=>by omega,fun h=>by rw [ordB_1.2 h.ord] at h5;cases h5⟩
 rw [if_neg h5]
 by_cases h6:thrF st st.length 0=true
 ·rw [if_pos h6];refine ⟨fun h=>by omega,fun h=>?_⟩
  rw [(thrF_no (by omega)).2 fun j _ hl=>h.dup j hl] at h6;cases h6
 rw [if_neg h6]
 refine ⟨fun _=>⟨by omega,?_,?_,dfE_0.1 (by simpa using h4),ordB_1.1 (by simpa using h5),fun j hl=>(thrF_no (n:=st.length) (k:=0) (by omega)).1 (by simpa using h6) j (Nat.zero_le _) hl⟩,fun _=>rfl⟩
 ·exact Classical.byContradiction fun g=>h2 (any_no.2 g)
 ·exact Classical.byContradiction fun g=>h3 (any_no.2 g)
structure CutC (st A M B:List ConnsConn) (id:Int):Prop where
 e:st=A++(M++B)
 a:∀ c ∈ A,c.ID < id
 b:∀ c ∈ B,id < c.ID
 m:M=[]∨∃ c,M=[c]∧c.ID=id
theorem cutC (id:Int):∀ {st:List ConnsConn},(st.Pairwise fun a b=>a.ID < b.ID)→∃ A M B,CutC st A M B id
 | [],_=>⟨[],[],[],rfl,fun c h=>(by cases h),fun c h=>(by cases h),.inl rfl⟩
 | c :: t,h=>by
  obtain ⟨h1,h2⟩:=List.pairwise_cons.1 h
  rcases Int.lt_trichotomy c.ID id with g | g | g
  ·obtain ⟨A,M,B,e,a,b,m⟩:=cutC id h2
   refine ⟨c :: A,M,B,by rw [e];rfl,fun d hd=>?_,b,m⟩
   rcases List.mem_cons.1 hd with rfl | hd
   ·exact g
   ·exact a d hd
  ·exact ⟨[],[c],t,rfl,fun d hd=>(by cases hd),fun d hd=>by have:=h1 d hd;omega,.inr ⟨c,rfl,g⟩⟩
  ·refine ⟨[],[],c :: t,rfl,fun d hd=>(by cases hd),fun d hd=>?_,.inl rfl⟩
   rcases List.mem_cons.1 hd with rfl | hd
   ·exact g
   ·have:=h1 d hd;omega
def idP (id:Int) (c:ConnsConn):Bool:=c.ID == id
theorem CutC.place {st A M B:List ConnsConn} {id:Int} (h:CutC st A M B id):ixF (idP id) st 0=if M=[] then -1 else (A.length:Int):=by
 have hA:ixF (idP id) A 0=-1:=ixF_no fun c hc=>by have:=h.a c hc;simp [idP];omega
 have hB:∀ k,ixF (idP id) B k=-1:=fun k=>ixF_no fun c hc=>by have:=h.b c hc;simp [idP];omega
 rw [h.e,ixF_app,hA,if_pos (by omega)]
 rcases h.m with rfl | ⟨c,rfl,hc⟩
 ·rw [if_pos rfl];exact hB _
 ·rw [if_neg (by simp)]
  show ixF _ (c :: B) _=_
  rw [ixF,if_pos (by simp [idP,hc])];simp
def apK (a b:ConnsConn):Prop:=hasK (keyC b) a=false
theorem apK_symm {a b:ConnsConn} (h:apK a b):apK b a:=by
 unfold apK hasK at *
 cases h1:((keyC a).toList == (keyC b).toList) with
 | false =>
  have:((keyC b).toList == (keyC a).toList)=false:=by
   rw [beq_eq_false_iff_ne] at h1 ⊢;exact fun e=>h1 e.symm
  rw [this,Bool.and_false]
 | true =>
  rw [h1,Bool.and_true] at h
  have e:(keyC a).toList=(keyC b).toList:=by simpa using h1
  unfold emB at *
  rw [e,h,Bool.false_and]
theorem pw_app {α:Type} {R:α→α→Prop}:∀ {l:List α},l.Pairwise R ↔ ∀ j,(h:j < l.length)→∀ a ∈ l.take j,R a l[j]
 | l=>by
  rw [List.pairwise_iff_getElem]
  constructor
  ·intro h j hj a ha
   obtain ⟨i,hi,rfl⟩:=List.getElem_of_mem ha
   rw [List.length_take] at hi
   rw [List.getElem_take]
   exact h i j (by omega) hj (by omega)
  ·intro h i j hi hj hij
   refine h j hj _ ?_
   rw [← List.getElem_take (j:=j) (h:=by rw [List.length_take];omega)]
   exact List.getElem_mem _
theorem OkC.apart {st:List ConnsConn} (h:OkC st):st.Pairwise apK:=pw_app.2 fun j hj a ha=>by
 have:=List.any_eq_false.1 (h.dup j hj) a ha
 unfold apK;simpa using this
theorem okC_of {st:List ConnsConn} (h1:st.length≤16) (h2:∀ c ∈ st,numC c=true) (h3:∀ c ∈ st,namC c=true) (h4:∀ c ∈ st,dchk c.In=0) (h5:st.Pairwise fun a b=>a.ID < b.ID) (h6:st.Pairwise apK):OkC st :=
 ⟨h1,h2,h3,h4,h5,fun j hj=>List.any_eq_false.2 fun a ha=>by have:=pw_app.1 h6 j hj a ha;unfold apK at this;rw [this];simp⟩
theorem OkC.sub {st st' : List ConnsConn} (h:OkC st) (hs:st'.Sublist st):OkC st' :=
 okC_of (by have:=hs.length_le;have:=h.len;omega) (fun c hc=>h.num c (hs.subset hc)) (fun c hc=>h.nam c (hs.subset hc)) (fun c hc=>h.df c (hs.subset hc)) (h.ord.sublist hs) (h.apart.sublist hs)
theorem CutC.out {st A M B:List ConnsConn} {id:Int} (h:OkC st) (hc:CutC st A M B id):OkC (A++B)∧CutC (A++B) A [] B id :=
 ⟨h.sub (by rw [hc.e];exact List.Sublist.append (List.Sublist.refl _) (List.sublist_append_right _ _)),rfl,hc.a,hc.b,.inl rfl⟩
theorem CutC.put {st A M B:List ConnsConn} {id:Int} (h:OkC st) (hc:CutC st A M B id) {c:ConnsConn} (hi:c.ID=id) (h1:A.length + B.length < 16) (h2:numC c=true) (h3:namC c=true) (h4:dchk c.In=0) (h5:∀ d ∈ A++B,apK d c):OkC (A++([c]++B))∧CutC (A++([c]++B)) A [c] B id:=by
 have ho:=(hc.out h).1
 have hm:∀ d ∈ A++([c]++B),d=c∨d ∈ A++B:=fun d hd=>by
  simp only [List.mem_append,List.mem_singleton] at hd ⊢
  rcases hd with g | g | g
  ·exact .inr (.inl g)
  ·exact .inl g
  ·exact .inr (.inr g)
 have o:=List.pairwise_append.1 ho.ord
 have a:=List.pairwise_append.1 ho.apart
 refine ⟨okC_of (by simp;omega) (fun d hd=>?_) (fun d hd=>?_) (fun d hd=>?_) ?_ ?_,rfl,hc.a,hc.b,.inr ⟨c,rfl,hi⟩⟩
 ·rcases hm d hd with rfl | g
  ·exact h2
  ·exact ho.num d g
 ·rcases hm d hd with rfl | g
  ·exact h3
  ·exact ho.nam d g
 ·rcases hm d hd with rfl | g
  ·exact h4
  ·exact ho.df d g
 ·refine List.pairwise_append.2 ⟨o.1,List.pairwise_cons.2 ⟨fun d hd=>by have:=hc.b d hd;omega,o.2.1⟩,fun d hd e he=>?_⟩
  rcases List.mem_cons.1 he with rfl | he
  ·have:=hc.a d hd;omega
  ·exact o.2.2 d hd e he
 ·refine List.pairwise_append.2 ⟨a.1,List.pairwise_cons.2 ⟨fun d hd=>apK_symm (h5 d (List.mem_append_right _ hd)),a.2.1⟩,fun d hd e he=>?_⟩
  rcases List.mem_cons.1 he with rfl | he
  ·exact h5 d (List.mem_append_left _ hd)
  ·exact a.2.2 d hd e he
theorem keyed_first (st:List ConnsConn) (j:Nat) (h:j < st.length):(!emB (keyC st[j]) && (ixF (hasK (keyC st[j])) st 0 != (j:Int)))=(st.take j).any (hasK (keyC st[j])):=by
 cases hk:emB (keyC st[j]) with
 | true =>
  have:hasK (keyC st[j])=fun _=>false:=by funext c;unfold hasK;rw [hk];rfl
  rw [this]
  symm
  rw [Bool.not_true,Bool.false_and,List.any_eq_false];intro c _;simp
 | false =>
  have hs:st=st.take j++(st[j] :: st.drop (j + 1)):=by rw [List.getElem_cons_drop,List.take_append_drop]
  have hj:hasK (keyC st[j]) st[j]=true:=by unfold hasK;rw [hk];simp
  have hl:(st.take j).length=j:=by rw [List.length_take];omega
  generalize hasK (keyC st[j])=p at hj ⊢
  have hx:ixF p st 0=if ixF p (st.take j) 0 < 0 then (j:Int) else ixF p (st.take j) 0:=by
   have:=ixF_app p (st.take j) (st[j] :: st.drop (j + 1)) 0
   rw [← hs,ixF,if_pos hj,hl,Nat.zero_add] at this
   exact this
  rw [hx]
  rcases ixF_bd p (st.take j) 0 with ⟨g1,g2⟩ | g
  ·rw [g1,if_pos (by omega)]
   have:(st.take j).any p=false:=List.any_eq_false.2 fun c hc=>by rw [g2 c hc];simp
   rw [this];simp
  ·rw [if_neg (by omega)]
   have:(st.take j).any p=true:=by
    cases ha:(st.take j).any p with
    | true=>rfl
    | false =>
     have:=ixF_no (k:=0) fun c hc=>by simpa using List.any_eq_false.1 ha c hc
     rw [this] at g;omega
   rw [this]
   rw [hl] at g
   simp;omega
end Go.Proofs.YtdbigmjlhkgeoaaGreat

namespace Go.Proofs.YtdbigmjlhkgeoaaGreat
open Go.RowKit
theorem catK_sz (u r:ByteArray) (hu:u.size≤100000) (hr:r.size≤100000):u.size + (⟨#[32]⟩ : ByteArray).size≤4611686018427387904∧(u++(⟨#[32]⟩ : ByteArray)).size + r.size≤4611686018427387904:=by
 rw [ByteArray.size_append]
 have:(⟨#[32]⟩ : ByteArray).size=1:=rfl
 omega
theorem named_p {u r:ByteArray} (hu:u.size≤100000) (hr:r.size≤100000):p_pres_named u r=some (namedL u r):=by
 unfold p_pres_named p_addr_Resource p_addr_IsBare namedL
 rw [if_pos hr,if_pos hu]
 by_cases h:resL r.data.toList=0
 ·simp [h]
 ·have e:(resL r.data.toList == 0)=false:=by simpa using h
  simp [h,e]
theorem key_p {u r:ByteArray} (hu:u.size≤100000) (hr:r.size≤100000):p_pres_Key u r=some (keyL u r):=by
 unfold p_pres_Key cat? keyL
 rw [named_p hu hr]
 obtain ⟨h1,h2⟩:=catK_sz u r hu hr
 cases namedL u r
 ·rfl
 ·simp only [Option.bind_some,cond_true,if_pos h1,if_pos h2,if_true]
theorem rnamed_p {u r:ByteArray} (hu:u.size≤100000) (hr:r.size≤100000):p_ref23_named u r=some (namedL u r):=by
 unfold p_ref23_named p_ref09_Resource p_ref09_IsBare namedL
 rw [if_pos hr,if_pos hu]
 by_cases h:resL r.data.toList=0
 ·cases isBareL u.data.toList <;> simp [h]
 ·have e:(resL r.data.toList == 0)=false:=by simpa using h
  cases isBareL u.data.toList <;> simp [h,e]
theorem rkey_p {u r:ByteArray} (hu:u.size≤100000) (hr:r.size≤100000):p_ref23_Key u r=some (keyL u r):=by
 unfold p_ref23_Key cat? keyL
 rw [rnamed_p hu hr]
 obtain ⟨h1,h2⟩:=catK_sz u r hu hr
 cases namedL u r
 ·rfl
 ·simp only [Option.bind_some,cond_true,if_pos h1,if_pos h2,if_true]
theorem keyC_p {c:ConnsConn} (h:smC c):p_conns_Key c=some (keyC c):=by
 unfold p_conns_Key keyC emB
 rw [key_p h.1 h.2.1]
 cases (c.User.toList == (⟨#[]⟩ : ByteArray).toList) <;> rfl
theorem rkeyC_p {c:ConnsConn} (h:smC c):p_ref31_Key c=some (keyC c):=by
 unfold p_ref31_Key keyC emB
 rw [rkey_p h.1 h.2.1]
 cases (c.User.toList == (⟨#[]⟩ : ByteArray).toList) <;> rfl
theorem inC_p (n a b:Int):p_conns_in n a b=some (inB n a b):=by
 unfold p_conns_in inB
 cases decide (a≤n) <;> rfl
theorem rinC_p (n a b:Int):p_ref31_in n a b=some (inB n a b):=by
 unfold p_ref31_in inB
 cases decide (a≤n) <;> rfl
theorem numC_p (c:ConnsConn):p_conns_Conn_numbered c=some (numC c):=by
 unfold p_conns_Conn_numbered numC
 simp only [inC_p,Option.bind_some]
 cases inB c.ID 0 255 <;> cases inB c.Source 0 65535 <;> rfl
theorem namC_p {c:ConnsConn} (h:smC c):p_conns_Conn_named c=some (namC c):=by
 unfold p_conns_Conn_named namC
 rw [keyC_p h]
 unfold emB
 cases (c.User.toList == (⟨#[]⟩ : ByteArray).toList) <;> rfl
theorem idx_l {f:ConnsConn→Option Bool} {p:ConnsConn→Bool} {l:List ConnsConn} (hn:l.length≤1000) (h:∀ c ∈ l,f c=some (p c)):∀ (n k F:Nat),k + n=l.length→n < F →
  p_slices_IndexFunc_conns_State_conns_Conn__l1 f l (l.length:Int) F (k:Int)=some (if ixF p (l.drop k) k < 0 then .inr (l.length:Int) else .inl (ixF p (l.drop k) k))
 | 0,k,F + 1,hk,hF=>by
  have e:k=l.length:=by omega
  rw [p_slices_IndexFunc_conns_State_conns_Conn__l1,lt_ff (by omega),e,List.drop_length];rfl
 | n + 1,k,F + 1,hk,hF=>by
  have hlt:k < l.length:=by omega
  rw [p_slices_IndexFunc_conns_State_conns_Conn__l1,lt_tt hlt,cond_true,at_lt hlt,Option.bind_some,h _ (List.getElem_mem hlt),Option.bind_some,drop_at hlt,ixF]
  cases p l[k] with
  | true=>rw [cond_true,if_pos rfl,if_neg (by omega)]
  | false=>rw [cond_false,w64_succ (by omega),idx_l hn h n (k + 1) F (by omega) (by omega)];rfl
theorem ixF_any (p:ConnsConn→Bool) (l:List ConnsConn) (k:Nat):decide ((0:Int)≤ixF p l k)=l.any p:=by
 rcases ixF_bd p l k with ⟨h,g⟩ | h
 ·rw [h]
  have:l.any p=false:=List.any_eq_false.2 fun c hc=>by rw [g c hc];simp
  rw [this];rfl
 ·cases ha:l.any p with
  | true=>simp;omega
  | false =>
   have:=ixF_no (p:=p) (k:=k) fun c hc=>by simpa using List.any_eq_false.1 ha c hc
   omega
theorem conts_p {f:ConnsConn→Option Bool} {p:ConnsConn→Bool} {l:List ConnsConn} (hn:l.length≤1000) (h:∀ c ∈ l,f c=some (p c)):p_slices_ContainsFunc_conns_State_conns_Conn_ l f=some (l.any p):=by
 unfold p_slices_ContainsFunc_conns_State_conns_Conn_ p_slices_IndexFunc_conns_State_conns_Conn_
 have e:=idx_l hn h l.length 0 fuel (by omega) (by have:=fuel_pos;omega)
 have e' : p_slices_IndexFunc_conns_State_conns_Conn__l1 f l (l.length:Int) fuel (0:Int)=_:=e
 rw [e',List.drop_zero,← ixF_any p l 0]
 rcases ixF_bd p l 0 with ⟨h,g⟩ | g
 ·rw [h];rfl
 ·rw [if_neg (by omega)];rfl
theorem keyed_l {l:List ConnsConn} {key:ByteArray} (hn:l.length≤1000) (h:∀ c ∈ l,smC c):∀ (n k F:Nat),k + n=l.length→n < F →
  p_conns_State_keyed_l1 key l (l.length:Int) F (0:Int) false (k:Int)=some (if ixF (hasK key) (l.drop k) k < 0 then ((0:Int),false,(l.length:Int)) else (ixF (hasK key) (l.drop k) k,true,ixF (hasK key) (l.drop k) k))
 | 0,k,F + 1,hk,hF=>by
  have e:k=l.length:=by omega
  rw [p_conns_State_keyed_l1,lt_ff (by omega),e,List.drop_length];rfl
 | n + 1,k,F + 1,hk,hF=>by
  have hlt:k < l.length:=by omega
  have ih:=keyed_l (key:=key) hn h n (k + 1) F (by omega) (by omega)
  rw [p_conns_State_keyed_l1,lt_tt hlt,cond_true,at_lt hlt,Option.bind_some,w64_succ (by omega),ih,drop_at hlt,ixF,keyC_p (h _ (List.getElem_mem hlt)),Option.bind_some]
  unfold hasK emB
  cases (key.toList == (⟨#[]⟩ : ByteArray).toList) with
  | true=>rfl
  | false =>
   cases ((keyC l[k]).toList == key.toList) with
   | true=>simp only [cond_true,cond_false,Bool.not_false,Bool.and_self,if_true];rw [if_neg (by omega)]
   | false=>rfl
theorem keyed_p {l:List ConnsConn} {key:ByteArray} (hn:l.length≤1000) (h:∀ c ∈ l,smC c):p_conns_State_keyed l key=some (if ixF (hasK key) l 0 < 0 then ((0:Int),false) else (ixF (hasK key) l 0,true)):=by
 unfold p_conns_State_keyed
 have e:=keyed_l (key:=key) hn h l.length 0 fuel (by omega) (by have:=fuel_pos;omega)
 have e' : p_conns_State_keyed_l1 key l (l.length:Int) fuel (0:Int) false (0:Int)=_:=e
 rw [e',List.drop_zero,Option.bind_some]
 split <;> rfl
theorem rkeyed_l {l:List ConnsConn} {key:ByteArray} (hn:l.length≤1000) (h:∀ c ∈ l,smC c):∀ (n k F:Nat),k + n=l.length→n < F →
  p_ref31_keyed_l1 l key F (k:Int)=some (if ixF (hasK key) (l.drop k) k < 0 then .inr (l.length:Int) else .inl (ixF (hasK key) (l.drop k) k))
 | 0,k,F + 1,hk,hF=>by
  have e:k=l.length:=by omega
  rw [p_ref31_keyed_l1,lt_ff (by omega),e,List.drop_length];rfl
 | n + 1,k,F + 1,hk,hF=>by
  have hlt:k < l.length:=by omega
  have ih:=rkeyed_l (key:=key) hn h n (k + 1) F (by omega) (by omega)
  rw [p_ref31_keyed_l1,lt_tt hlt,cond_true,at_lt hlt,Option.bind_some,w64_succ (by omega),ih,drop_at hlt,ixF,rkeyC_p (h _ (List.getElem_mem hlt)),Option.bind_some]
  unfold hasK emB
  cases (key.toList == (⟨#[]⟩ : ByteArray).toList) with
  | true=>rfl
  | false =>
   cases ((keyC l[k]).toList == key.toList) with
   | true=>simp only [cond_true,cond_false,Bool.not_false,Bool.and_self,if_true];rw [if_neg (by omega)]
   | false=>rfl
theorem rkeyed_p {l:List ConnsConn} {key:ByteArray} (hn:l.length≤1000) (h:∀ c ∈ l,smC c):p_ref31_keyed l key=some (ixF (hasK key) l 0):=by
 unfold p_ref31_keyed
 have e:=rkeyed_l (key:=key) hn h l.length 0 fuel (by omega) (by have:=fuel_pos;omega)
 have e' : p_ref31_keyed_l1 l key fuel (0:Int)=_:=e
 rw [e',List.drop_zero,Option.bind_some]
 rcases ixF_bd (hasK key) l 0 with ⟨h,g⟩ | g
 ·rw [h];rfl
 ·rw [if_neg (by omega)]
theorem place_l {l:List ConnsConn} {id:Int} (hn:l.length≤1000):∀ (n k F:Nat),k + n=l.length→n < F →
  p_ref31_place_l1 l id F (k:Int)=some (if ixF (idP id) (l.drop k) k < 0 then .inr (l.length:Int) else .inl (ixF (idP id) (l.drop k) k))
 | 0,k,F + 1,hk,hF=>by
  have e:k=l.length:=by omega
  rw [p_ref31_place_l1,lt_ff (by omega),e,List.drop_length];rfl
 | n + 1,k,F + 1,hk,hF=>by
  have hlt:k < l.length:=by omega
  rw [p_ref31_place_l1,lt_tt hlt,cond_true,at_lt hlt,Option.bind_some,w64_succ (by omega),place_l hn n (k + 1) F (by omega) (by omega),drop_at hlt,ixF]
  unfold idP
  cases (l[k].ID == id) with
  | true=>rw [cond_true,if_pos rfl,if_neg (by omega)]
  | false=>rfl
theorem place_p {l:List ConnsConn} {id:Int} (hn:l.length≤1000):p_ref31_place l id=some (ixF (idP id) l 0):=by
 unfold p_ref31_place
 have e:=place_l (id:=id) hn l.length 0 fuel (by omega) (by have:=fuel_pos;omega)
 have e' : p_ref31_place_l1 l id fuel (0:Int)=_:=e
 rw [e',List.drop_zero,Option.bind_some]
 rcases ixF_bd (idP id) l 0 with ⟨h,g⟩ | g
 ·rw [h];rfl
 ·rw [if_neg (by omega)]
theorem chk1_l {l:List ConnsConn} (hn:l.length≤1000) (h:∀ c ∈ l,smC c):∀ (n k F:Nat),k + n=l.length→n < F→p_conns_Check_l1 l (l.length:Int) F (k:Int)=some (if dfE (l.drop k)≠0 then .inl (dfE (l.drop k)) else .inr (l.length:Int))
 | 0,k,F + 1,hk,hF=>by
  have e:k=l.length:=by omega
  rw [p_conns_Check_l1,lt_ff (by omega),e,List.drop_length];rfl
 | n + 1,k,F + 1,hk,hF=>by
  have hlt:k < l.length:=by omega
  obtain ⟨_,e,h2,_⟩:=rcheck12 l[k].In (by have:=(h _ (List.getElem_mem hlt)).2.2;omega)
  have hd:dchk l[k].In=e:=by unfold dchk;rw [h2];rfl
  rw [p_conns_Check_l1,lt_tt hlt,cond_true,at_lt hlt,Option.bind_some,h2,Option.bind_some,w64_succ (by omega),chk1_l hn h n (k + 1) F (by omega) (by omega),drop_at hlt,dfE,hd]
  by_cases he:e=0
  ·subst he;rfl
  ·rw [show (e != 0)=true by simpa using he,if_pos he,if_pos he];rfl
theorem rchk1_l {l:List ConnsConn} (hn:l.length≤1000) (h:∀ c ∈ l,smC c):∀ (n k F:Nat),k + n=l.length→n < F→p_ref31_Check_l1 l F (k:Int)=some (if dfE (l.drop k)≠0 then .inl (dfE (l.drop k)) else .inr (l.length:Int))
 | 0,k,F + 1,hk,hF=>by
  have e:k=l.length:=by omega
  rw [p_ref31_Check_l1,lt_ff (by omega),e,List.drop_length];rfl
 | n + 1,k,F + 1,hk,hF=>by
  have hlt:k < l.length:=by omega
  obtain ⟨h1,e,h2,_⟩:=rcheck12 l[k].In (by have:=(h _ (List.getElem_mem hlt)).2.2;omega)
  have hd:dchk l[k].In=e:=by unfold dchk;rw [h2];rfl
  rw [p_ref31_Check_l1,lt_tt hlt,cond_true,at_lt hlt,Option.bind_some,h1,h2,Option.bind_some,w64_succ (by omega),rchk1_l hn h n (k + 1) F (by omega) (by omega),drop_at hlt,dfE,hd]
  by_cases he:e=0
  ·subst he;rfl
  ·rw [show (e != 0)=true by simpa using he,if_pos he,if_pos he,cond_true]
   simp only [Option.bind_some,h1,h2]
theorem chk2_l {l:List ConnsConn} (hn:l.length≤1000):∀ (n k F:Nat),k + 1 + n=l.length→n < F→p_conns_Check_l2 l F ((k + 1:Nat):Int)=some (if ordB (l.drop k)=false then .inl (10:Int) else .inr (l.length:Int))
 | 0,k,F + 1,hk,hF=>by
  have e:l.drop k=[l[k]'(by omega)]:=by rw [drop_at (by omega),List.drop_of_length_le (by omega)]
  rw [p_conns_Check_l2,lt_ff (by omega),e,show k + 1=l.length by omega];rfl
 | n + 1,k,F + 1,hk,hF=>by
  have h1:k + 1 < l.length:=by omega
  have e:l.drop k=l[k]'(by omega) :: l[k + 1] :: l.drop (k + 1 + 1):=by rw [drop_at (by omega),drop_at h1]
  have e1:l.drop (k + 1)=l[k + 1] :: l.drop (k + 1 + 1):=drop_at h1
  rw [p_conns_Check_l2,lt_tt h1,cond_true,at_lt h1,Option.bind_some,w64_id (by omega),show ((k + 1:Nat):Int) - 1=(k:Int) by omega,at_lt (by omega),Option.bind_some,w64_succ (by omega),chk2_l hn n (k + 1) F (by omega) (by omega),e,ordB,← e1]
  by_cases hg:l[k + 1].ID≤(l[k]'(by omega)).ID
  ·rw [decide_eq_true hg,decide_eq_false (by omega)];rfl
  ·rw [decide_eq_false hg,decide_eq_true (by omega)];rfl
theorem rchk2_l {l:List ConnsConn} (hn:l.length≤1000):∀ (n k F:Nat),k + 1 + n=l.length→n < F→p_ref31_Check_l2 l F ((k + 1:Nat):Int)=some (if ordB (l.drop k)=false then .inl (10:Int) else .inr (l.length:Int))
 | 0,k,F + 1,hk,hF=>by
  have e:l.drop k=[l[k]'(by omega)]:=by rw [drop_at (by omega),List.drop_of_length_le (by omega)]
  rw [p_ref31_Check_l2,lt_ff (by omega),e,show k + 1=l.length by omega];rfl
 | n + 1,k,F + 1,hk,hF=>by
  have h1:k + 1 < l.length:=by omega
  have e:l.drop k=l[k]'(by omega) :: l[k + 1] :: l.drop (k + 1 + 1):=by rw [drop_at (by omega),drop_at h1]
  have e1:l.drop (k + 1)=l[k + 1] :: l.drop (k + 1 + 1):=drop_at h1
  rw [p_ref31_Check_l2,lt_tt h1,cond_true,w64_id (by omega),show ((k + 1:Nat):Int) - 1=(k:Int) by omega,at_lt (show k < l.length by omega),Option.bind_some,at_lt h1,Option.bind_some,w64_succ (by omega),rchk2_l hn n (k + 1) F (by omega) (by omega),e,ordB,← e1]
  by_cases hg:l[k + 1].ID≤(l[k]'(by omega)).ID
  ·rw [decide_eq_true hg,decide_eq_false (by omega)];rfl
  ·rw [decide_eq_false hg,decide_eq_true (by omega)];rfl
theorem ixF_lt0 (p:ConnsConn→Bool) (l:List ConnsConn) (k:Nat):(if ixF p l k < 0 then ((0:Int),false) else (ixF p l k,true)).2=l.any p:=by
 rw [← ixF_any p l k]
 by_cases h:ixF p l k < 0
 ·rw [if_pos h,decide_eq_false (by omega)]
 ·rw [if_neg h,decide_eq_true (by omega)]
theorem chk3_l {l:List ConnsConn} (hn:l.length≤1000) (h:∀ c ∈ l,smC c):∀ (n k F:Nat),k + n=l.length→n < F→p_conns_Check_l3 l l (l.length:Int) F (k:Int)=some (if thrF l n k=true then .inl (13:Int) else .inr (l.length:Int))
 | 0,k,F + 1,hk,hF=>by
  have e:k=l.length:=by omega
  rw [p_conns_Check_l3,lt_ff (by omega),e];rfl
 | n + 1,k,F + 1,hk,hF=>by
  have hlt:k < l.length:=by omega
  have hg:l.getD k default=l[k]:=by rw [List.getD_eq_getElem?_getD,List.getElem?_eq_getElem hlt,Option.getD_some]
  have hk2:=keyed_p (l:=l.take k) (key:=keyC l[k]) (by rw [List.length_take];omega) fun c hc=>h c (List.mem_of_mem_take hc)
  rw [p_conns_Check_l3,lt_tt hlt,cond_true,at_lt hlt,Option.bind_some,cutTo (by omega),Option.bind_some,keyC_p (h _ (List.getElem_mem hlt)),Option.bind_some,hk2,Option.bind_some,ixF_lt0,w64_succ (by omega),chk3_l hn h n (k + 1) F (by omega) (by omega),thrF,hg]
  cases (l.take k).any (hasK (keyC l[k])) <;> rfl
theorem rchk3_l {l:List ConnsConn} (hn:l.length≤1000) (h:∀ c ∈ l,smC c):∀ (n k F:Nat),k + n=l.length→n < F→p_ref31_Check_l3 l F (k:Int)=some (if thrF l n k=true then .inl (13:Int) else .inr (l.length:Int))
 | 0,k,F + 1,hk,hF=>by
  have e:k=l.length:=by omega
  rw [p_ref31_Check_l3,lt_ff (by omega),e];rfl
 | n + 1,k,F + 1,hk,hF=>by
  have hlt:k < l.length:=by omega
  have hg:l.getD k default=l[k]:=by rw [List.getD_eq_getElem?_getD,List.getElem?_eq_getElem hlt,Option.getD_some]
  rw [p_ref31_Check_l3,lt_tt hlt,cond_true,at_lt hlt]
  simp only [Option.bind_some,rkeyC_p (h _ (List.getElem_mem hlt)),rkeyed_p hn h]
  rw [w64_succ (by omega),rchk3_l hn h n (k + 1) F (by omega) (by omega),thrF,hg,← keyed_first l k hlt]
  unfold emB
  cases ((keyC l[k]).toList == (⟨#[]⟩ : ByteArray).toList) with
  | true=>rfl
  | false=>cases (ixF (hasK (keyC l[k])) l 0 != (k:Int)) <;> rfl
theorem num_l {l:List ConnsConn} (hn:l.length≤1000):∀ (n k F:Nat),k + n=l.length→n < F→p_ref31_numbers_l1 l F (k:Int)=some (if (l.drop k).any (fun c=>!numC c)=true then .inl (8:Int) else .inr (l.length:Int))
 | 0,k,F + 1,hk,hF=>by
  have e:k=l.length:=by omega
  rw [p_ref31_numbers_l1,lt_ff (by omega),e,List.drop_length];rfl
 | n + 1,k,F + 1,hk,hF=>by
  have hlt:k < l.length:=by omega
  rw [p_ref31_numbers_l1,lt_tt hlt,cond_true,at_lt hlt]
  simp only [Option.bind_some,rinC_p]
  rw [w64_succ (by omega),num_l hn n (k + 1) F (by omega) (by omega),drop_at hlt,List.any_cons]
  unfold numC
  cases inB l[k].ID 0 255 with
  | false=>rfl
  | true =>
   cases inB l[k].Source 0 65535 with
   | false=>rfl
   | true=>cases inB l[k].Credit 0 1048576 <;> rfl
theorem nam_l {l:List ConnsConn} (hn:l.length≤1000) (h:∀ c ∈ l,smC c):∀ (n k F:Nat),k + n=l.length→n < F→p_ref31_numbers_l2 l F (k:Int)=some (if (l.drop k).any (fun c=>!namC c)=true then .inl (11:Int) else .inr (l.length:Int))
 | 0,k,F + 1,hk,hF=>by
  have e:k=l.length:=by omega
  rw [p_ref31_numbers_l2,lt_ff (by omega),e,List.drop_length];rfl
 | n + 1,k,F + 1,hk,hF=>by
  have hlt:k < l.length:=by omega
  rw [p_ref31_numbers_l2,lt_tt hlt,cond_true,at_lt hlt]
  simp only [Option.bind_some,rkeyC_p (h _ (List.getElem_mem hlt))]
  rw [w64_succ (by omega),nam_l hn h n (k + 1) F (by omega) (by omega),drop_at hlt,List.any_cons]
  unfold namC emB
  cases (l[k].User.toList == (⟨#[]⟩ : ByteArray).toList) with
  | true=>cases (l[k].Res.toList == (⟨#[]⟩ : ByteArray).toList) <;> rfl
  | false=>cases ((keyC l[k]).toList == (⟨#[]⟩ : ByteArray).toList) <;> rfl
theorem numbers_p {l:List ConnsConn} (hn:l.length≤1000) (h:∀ c ∈ l,smC c):p_ref31_numbers l=some (if l.any (fun c=>!numC c)=true then 8 else if l.any (fun c=>!namC c)=true then 11 else 0):=by
 have hf:=fuel_pos
 have e1:p_ref31_numbers_l1 l fuel (0:Int)=_:=num_l hn l.length 0 fuel (by omega) (by omega)
 have e2:p_ref31_numbers_l2 l fuel (0:Int)=_:=nam_l hn h l.length 0 fuel (by omega) (by omega)
 unfold p_ref31_numbers
 rw [e1,List.drop_zero]
 cases l.any (fun c=>!numC c) with
 | true=>rfl
 | false =>
  rw [if_neg (by simp),Option.bind_some]
  simp only [e2,List.drop_zero]
  cases l.any (fun c=>!namC c) <;> rfl
theorem ord_e {l:List ConnsConn} (hn:l.length≤1000):p_conns_Check_l2 l fuel (1:Int)=some (if ordB l=false then .inl (10:Int) else .inr (if l=[] then 1 else (l.length:Int)))∧p_ref31_Check_l2 l fuel (1:Int)=some (if ordB l=false then .inl (10:Int) else .inr (if l=[] then 1 else (l.length:Int))):=by
 have hf:=fuel_pos
 cases l with
 | nil =>
  obtain ⟨F,hF⟩ : ∃ F,fuel=F + 1:=⟨fuel - 1,by omega⟩
  rw [hF];exact ⟨rfl,rfl⟩
 | cons c t =>
  have e1:p_conns_Check_l2 (c :: t) fuel (1:Int)=_:=chk2_l hn t.length 0 fuel (by simp;omega) (by simp at hn;omega)
  have e2:p_ref31_Check_l2 (c :: t) fuel (1:Int)=_:=rchk2_l hn t.length 0 fuel (by simp;omega) (by simp at hn;omega)
  rw [e1,e2,if_neg (show ¬ (c :: t=[]) by simp),List.drop_zero]
  exact ⟨rfl,rfl⟩
theorem check_p {l:List ConnsConn} (hn:l.length≤1000) (h:∀ c ∈ l,smC c):p_conns_Check l=some (chkC l):=by
 have hf:=fuel_pos
 have e1:p_conns_Check_l1 l (l.length:Int) fuel (0:Int)=_:=chk1_l hn h l.length 0 fuel (by omega) (by omega)
 have e2:=(ord_e hn).1
 have e3:p_conns_Check_l3 l l (l.length:Int) fuel (0:Int)=_:=chk3_l hn h l.length 0 fuel (by omega) (by omega)
 rw [List.drop_zero] at e1
 have c1:=conts_p (f:=fun x0=>p_conns_Check_1 x0) (p:=fun c=>!numC c) hn fun c hc=>by unfold p_conns_Check_1;rw [numC_p];rfl
 have c2:=conts_p (f:=fun x0=>p_conns_Check_2 x0) (p:=fun c=>!namC c) hn fun c hc=>by unfold p_conns_Check_2;rw [namC_p (h c hc)];rfl
 unfold p_conns_Check chkC
 by_cases h1:16 < l.length
 ·rw [if_pos h1,decide_eq_true (by omega)];rfl
 rw [if_neg h1,decide_eq_false (by omega),cond_false,c1,Option.bind_some,c2,Option.bind_some,e1]
 cases l.any (fun c=>!numC c) with
 | true=>rfl
 | false =>
  cases l.any (fun c=>!namC c) with
  | true=>rfl
  | false =>
   simp only [cond_false,Option.bind_some,Bool.false_eq_true,if_false]
   by_cases h4:dfE l≠0
   ·rw [if_pos h4,if_pos h4]
   rw [if_neg h4,if_neg h4]
   simp only [e2,Option.bind_some]
   cases ordB l with
   | false=>rfl
   | true =>
    simp only [Bool.true_eq_false,if_false,e3,Option.bind_some]
    cases thrF l l.length 0 <;> rfl
theorem rcheck_p {l:List ConnsConn} (hn:l.length≤1000) (h:∀ c ∈ l,smC c):p_ref31_Check l=some (chkC l):=by
 have hf:=fuel_pos
 have e1:p_ref31_Check_l1 l fuel (0:Int)=_:=rchk1_l hn h l.length 0 fuel (by omega) (by omega)
 have e2:=(ord_e hn).2
 have e3:p_ref31_Check_l3 l fuel (0:Int)=_:=rchk3_l hn h l.length 0 fuel (by omega) (by omega)
 rw [List.drop_zero] at e1
 unfold p_ref31_Check chkC
 by_cases h1:16 < l.length
 ·rw [if_pos h1,decide_eq_true (by omega)];rfl
 rw [if_neg h1,decide_eq_false (by omega),cond_false,numbers_p hn h,Option.bind_some,Option.bind_some,e1]
 cases l.any (fun c=>!numC c) with
 | true=>rfl
 | false =>
  cases l.any (fun c=>!namC c) with
  | true=>rfl
  | false =>
   simp only [bne_self_eq_false,cond_false,Option.bind_some,Bool.false_eq_true,if_false]
   by_cases h4:dfE l≠0
   ·rw [if_pos h4,if_pos h4]
   rw [if_neg h4,if_neg h4]
   simp only [e2,Option.bind_some]
   cases ordB l with
   | false=>rfl
   | true =>
    simp only [Bool.true_eq_false,if_false,e3,Option.bind_some]
    cases thrF l l.length 0 <;> rfl
end Go.Proofs.YtdbigmjlhkgeoaaGreat

namespace Go.Proofs.YtdbigmjlhkgeoaaGreat
open Go.RowKit
def zdC:DeframeState:=DeframeState.mk (⟨#[]⟩ : ByteArray) (0:Int) (0:Int)
def newC (id src:Int):ConnsConn:=ConnsConn.mk id src (⟨#[]⟩ : ByteArray) (⟨#[]⟩ : ByteArray) (0:Int) zdC
def SmS (l:List ConnsConn):Prop:=l.length≤1000∧∀ c ∈ l,smC c
theorem clone_c1 {l:List ConnsConn} (h:l.length≤1000):clone? l=some l:=by unfold clone?;rw [if_pos (by omega)]
theorem at_midC {l r:List ConnsConn} {y:ConnsConn}:at? (l++y :: r) (l.length:Int)=some y:=by
 rw [at_nat,List.getElem?_append_right (Nat.le_refl _)];simp
theorem CutC.find_l {st A M B:List ConnsConn} {id:Int} (h:CutC st A M B id) (hn:st.length≤1000):∀ (n k F:Nat),k + n=A.length→n < F→p_conns_State_find_l1 st id F (k:Int)=some (A.length:Int)∧p_ref31_Open_l1 st id F (k:Int)=some (A.length:Int)
 | 0,k,F + 1,hk,hF=>by
  have e:k=A.length:=by omega
  subst e
  rw [p_conns_State_find_l1,p_ref31_Open_l1]
  have hl:st.length=A.length + (M.length + B.length):=by rw [h.e];simp
  by_cases hlt:A.length < st.length
  ·have hx:¬ st[A.length].ID < id:=by
    have hm:st[A.length] ∈ M++B:=by
     have e:st[A.length]=(A++(M++B))[A.length]'(by rw [← h.e];exact hlt):=by congr 1;exact h.e
     rw [e,List.getElem_append_right (Nat.le_refl _)]
     exact List.getElem_mem _
    rcases List.mem_append.1 hm with g | g
    ·rcases h.m with rfl | ⟨c,rfl,hc⟩
     ·cases g
     ·rw [List.mem_singleton.1 g];omega
    ·have:=h.b _ g;omega
   rw [lt_tt hlt,cond_true,cond_true,at_lt hlt,Option.bind_some,Option.bind_some,decide_eq_false hx]
   exact ⟨rfl,rfl⟩
  ·rw [lt_ff (by omega)];exact ⟨rfl,rfl⟩
 | n + 1,k,F + 1,hk,hF=>by
  have hl:st.length=A.length + (M.length + B.length):=by rw [h.e];simp
  have hlt:k < st.length:=by omega
  have hx:st[k].ID < id:=by
   have e:st[k]=(A++(M++B))[k]'(by rw [← h.e];exact hlt):=by congr 1;exact h.e
   rw [e,List.getElem_append_left (by omega)]
   exact h.a _ (List.getElem_mem _)
  obtain ⟨i1,i2⟩:=h.find_l hn n (k + 1) F (by omega) (by omega)
  rw [p_conns_State_find_l1,p_ref31_Open_l1,lt_tt hlt,cond_true,cond_true,at_lt hlt,Option.bind_some,Option.bind_some,decide_eq_true hx,cond_true,cond_true,w64_succ (by omega),i1,i2]
  exact ⟨rfl,rfl⟩
theorem CutC.find_0 {st A B:List ConnsConn} {id:Int} (h:CutC st A [] B id) (hn:st.length≤1000):p_conns_State_find st id=some ((A.length:Int),false):=by
 have e:p_conns_State_find_l1 st id fuel (0:Int)=some (A.length:Int):=(h.find_l hn A.length 0 fuel (by omega) (by have:=fuel_pos;have:=congrArg List.length h.e;simp at this;omega)).1
 unfold p_conns_State_find
 rw [e,Option.bind_some]
 have hl:st.length=A.length + B.length:=by rw [h.e];simp
 cases B with
 | nil=>rw [lt_ff (by simp at hl;omega)];rfl
 | cons b t =>
  have hb:=h.b b (List.mem_cons_self ..)
  have e2:at? st (A.length:Int)=some b:=by rw [h.e];exact at_midC
  rw [lt_tt (by simp at hl;omega),cond_true,e2,Option.bind_some,show (b.ID == id)=false by simp;omega]
theorem CutC.find_1 {st A B:List ConnsConn} {c:ConnsConn} {id:Int} (h:CutC st A [c] B id) (hn:st.length≤1000):p_conns_State_find st id=some ((A.length:Int),true)∧at? st (A.length:Int)=some c:=by
 have e:p_conns_State_find_l1 st id fuel (0:Int)=some (A.length:Int):=(h.find_l hn A.length 0 fuel (by omega) (by have:=fuel_pos;have:=congrArg List.length h.e;simp at this;omega)).1
 have hc:c.ID=id:=by rcases h.m with g | ⟨d,g,hd⟩ <;> simp_all
 have hl:st.length=A.length + (1 + B.length):=by rw [h.e];simp;omega
 have e2:at? st (A.length:Int)=some c:=by rw [h.e];exact at_midC
 unfold p_conns_State_find
 rw [e,Option.bind_some,lt_tt (by omega),cond_true,e2,Option.bind_some,show (c.ID == id)=true by simpa using hc]
 exact ⟨rfl,rfl⟩
theorem CutC.len {st A M B:List ConnsConn} {id:Int} (h:CutC st A M B id):st.length=A.length + (M.length + B.length):=by rw [h.e];simp
theorem CutC.id1 {st A B:List ConnsConn} {c:ConnsConn} {id:Int} (h:CutC st A [c] B id):c.ID=id:=by
 rcases h.m with g | ⟨d,g,hd⟩
 ·cases g
 ·simp only [List.cons.injEq,and_true] at g;rw [g,hd]
theorem CutC.with_p {st A B:List ConnsConn} {c0:ConnsConn} {id:Int} (h:CutC st A [c0] B id) (hn:st.length≤1000) (c:ConnsConn) (hc:c.ID=id):p_conns_State_with st c=some (A++([c]++B))∧p_ref31_with st (A.length:Int) c=some (A++([c]++B)):=by
 obtain ⟨f1,f2⟩:=h.find_1 hn
 have hs:List.set st A.length c=A++([c]++B):=by rw [h.e];simp
 unfold p_conns_State_with p_ref31_with
 rw [clone_c1 hn,hc,Option.bind_some,f1,Option.bind_some,f2,Option.bind_some,app_ok (by simp;omega),List.nil_append,Option.bind_some,f2,Option.bind_some,Int.toNat_natCast,hs]
 exact ⟨rfl,rfl⟩
def opnC (st A B:List ConnsConn) (id n:Int):List ConnsConn × Int :=
 if (inB id 0 255 && inB n 0 65535)=false then (st,8) else if st.length=16 then (st,7) else (A++([newC id n]++B),0)
theorem num_new (id n:Int):numC (newC id n)=(inB id 0 255 && inB n 0 65535):=by
 unfold numC newC
 simp only [show inB 0 0 1048576=true from rfl,Bool.and_true]
theorem none_all {st A B:List ConnsConn} {id:Int} (hs:SmS st) (hk:OkC st) (hc:CutC st A [] B id) (n:Int) (u r b:ByteArray) :
  (p_conns_Open st id n=some (opnC st A B id n)∧p_ref31_Open st id n=some (opnC st A B id n)) ∧
  (p_conns_Find st id=some (newC 0 0,false)∧p_ref31_Find st id=some (newC 0 0,false)) ∧
  (p_conns_Close st id=some (st,newC 0 0,false)∧p_ref31_Close st id=some (st,newC 0 0,false)) ∧
  (p_conns_Login st id u r=some (st,6)∧p_ref31_Login st id u r=some (st,6)) ∧
  (p_conns_Give st id n=some (st,false)∧p_ref31_Give st id n=some (st,false)) ∧
  (p_conns_Spend st id n=some (st,false)∧p_ref31_Spend st id n=some (st,false)) ∧
  (p_conns_Feed st id b=some (st,[],6)∧p_ref31_Feed st id b=some (st,[],6)):=by
 obtain ⟨hn,h⟩:=hs
 have c1:=check_p hn h
 have c2:=rcheck_p hn h
 rw [ok_c.2 hk] at c1 c2
 have pl:=place_p (id:=id) hn
 rw [hc.place,if_pos rfl] at pl
 have fd:=hc.find_0 hn
 have f1:p_conns_Find st id=some (newC 0 0,false):=by unfold p_conns_Find;rw [c1,fd];rfl
 have f2:p_ref31_Find st id=some (newC 0 0,false):=by unfold p_ref31_Find;rw [pl,c2];rfl
 have hl:=hk.len
 have hlen:=hc.len
 refine ⟨⟨?_,?_⟩,⟨f1,f2⟩,⟨?_,?_⟩,⟨?_,?_⟩,⟨?_,?_⟩,⟨?_,?_⟩,⟨?_,?_⟩⟩
 ·have hn1:=numC_p (newC id n)
  unfold newC zdC at hn1
  unfold p_conns_Open opnC
  rw [c1,fd,hn1]
  have hq:=num_new id n
  unfold newC zdC at hq
  rw [hq]
  simp only [Option.bind_some,bne_self_eq_false,cond_false]
  cases (inB id 0 255 && inB n 0 65535) with
  | false=>rfl
  | true =>
   simp only [cond_true,Bool.true_eq_false,if_false]
   by_cases h16:st.length=16
   ·rw [if_pos h16,show ((st.length:Int) == 16)=true by simp;omega];rfl
   ·rw [if_neg h16,show ((st.length:Int) == 16)=false by simp;omega,cond_false,clone_c1 hn,Option.bind_some]
    unfold insAt?
    rw [if_pos (by omega),Int.toNat_natCast,hc.e]
    simp [newC,zdC]
 ·unfold p_ref31_Open opnC
  rw [c2,pl]
  simp only [Option.bind_some,rinC_p,bne_self_eq_false,cond_false]
  cases inB id 0 255 with
  | false=>rfl
  | true =>
   cases inB n 0 65535 with
   | false=>rfl
   | true =>
    simp only [cond_true,Bool.and_self,Bool.true_eq_false,if_false]
    rw [show decide ((0:Int)≤-1)=false from rfl,cond_false]
    by_cases h16:st.length=16
    ·rw [if_pos h16,decide_eq_true (by omega)];rfl
    ·rw [if_neg h16,decide_eq_false (by omega),cond_false]
     have e:p_ref31_Open_l1 st id fuel (0:Int)=some (A.length:Int):=(hc.find_l hn A.length 0 fuel (by omega) (by have:=fuel_pos;omega)).2
     rw [e,Option.bind_some,cutTo (by omega),Option.bind_some,app_ok (by simp;omega),Option.bind_some,app_ok (by simp;omega),Option.bind_some,cutFrom (by omega),Option.bind_some,app_ok (by simp;omega),Option.bind_some]
     rw [hc.e]
     simp [newC,zdC]
 ·unfold p_conns_Close;rw [f1];rfl
 ·unfold p_ref31_Close;rw [f2];rfl
 ·unfold p_conns_Login;rw [c1,f1];rfl
 ·unfold p_ref31_Login;rw [pl,c2];rfl
 ·unfold p_conns_Give;rw [f1];rfl
 ·unfold p_ref31_Give;rw [f2];rfl
 ·unfold p_conns_Spend;rw [f1];rfl
 ·unfold p_ref31_Spend;rw [f2];rfl
 ·unfold p_conns_Feed;rw [c1,f1];rfl
 ·unfold p_ref31_Feed;rw [f2,c2];rfl
def giveC (c:ConnsConn) (n:Int):ConnsConn:=ConnsConn.mk c.ID c.Source c.User c.Res (w64 (c.Credit + (if w64 ((1048576:Int) - c.Credit) < n then w64 ((1048576:Int) - c.Credit) else n))) c.In
def spendC (c:ConnsConn) (n:Int):ConnsConn:=ConnsConn.mk c.ID c.Source c.User c.Res (w64 (c.Credit - n)) c.In
def nameC (c:ConnsConn) (u r:ByteArray):ConnsConn:=ConnsConn.mk c.ID c.Source u r c.Credit c.In
def inC (c:ConnsConn) (s:DeframeState):ConnsConn:=ConnsConn.mk c.ID c.Source c.User c.Res c.Credit s
def logC (st A B:List ConnsConn) (c:ConnsConn) (u r:ByteArray):List ConnsConn × Int :=
 if emB c.User=false then (st,9) else if emB (keyL u r)=true then (st,11) else if 0≤ixF (hasK (keyL u r)) st 0 then (st,13) else (A++([nameC c u r]++B),0)
theorem one_all {st A B:List ConnsConn} {id:Int} {c:ConnsConn} (hs:SmS st) (hk:OkC st) (hc:CutC st A [c] B id) (n:Int) (u r b:ByteArray) (hu:u.size≤100000) (hr:r.size≤100000) (hb:b.size≤40000) :
  (p_conns_Open st id n=some (st,if (inB id 0 255 && inB n 0 65535)=false then 8 else 13)∧p_ref31_Open st id n=some (st,if (inB id 0 255 && inB n 0 65535)=false then 8 else 13)) ∧
  (p_conns_Find st id=some (c,true)∧p_ref31_Find st id=some (c,true)) ∧
  (p_conns_Close st id=some (A++B,c,true)∧p_ref31_Close st id=some (A++B,c,true)) ∧
  (p_conns_Login st id u r=some (logC st A B c u r)∧p_ref31_Login st id u r=some (logC st A B c u r)) ∧
  (p_conns_Give st id n=some (if n < 0 then (st,false) else (A++([giveC c n]++B),true))∧p_ref31_Give st id n=some (if n < 0 then (st,false) else (A++([giveC c n]++B),true))) ∧
  (p_conns_Spend st id n=some (if 0≤n∧n≤c.Credit then (A++([spendC c n]++B),true) else (st,false))∧p_ref31_Spend st id n=some (if 0≤n∧n≤c.Credit then (A++([spendC c n]++B),true) else (st,false))) ∧
  (∃ x,p_deframe_Feed c.In b=some x∧x.2.length≤80000∧p_conns_Feed st id b=some (A++([inC c x.1]++B),x.2,x.1.Bad)∧p_ref31_Feed st id b=some (A++([inC c x.1]++B),x.2,x.1.Bad)):=by
 obtain ⟨hn,h⟩:=hs
 have c1:=check_p hn h
 have c2:=rcheck_p hn h
 rw [ok_c.2 hk] at c1 c2
 have pl:=place_p (id:=id) hn
 rw [hc.place,if_neg (by simp)] at pl
 have hid:=hc.id1
 obtain ⟨fd,fa⟩:=hc.find_1 hn
 have f1:p_conns_Find st id=some (c,true):=by unfold p_conns_Find;rw [c1,fd];simp only [Option.bind_some,bne_self_eq_false,cond_false,cond_true,fa]
 have nn:decide ((A.length:Int) < 0)=false:=decide_eq_false (by omega)
 have f2:p_ref31_Find st id=some (c,true):=by unfold p_ref31_Find;rw [pl,c2];simp only [Option.bind_some,bne_self_eq_false,cond_false,cond_true,nn,fa]
 have hl:=hk.len
 have hlen:=hc.len
 simp only [List.length_singleton] at hlen
 have wp:=fun d (hd:d.ID=id)=>hc.with_p hn d hd
 refine ⟨⟨?_,?_⟩,⟨f1,f2⟩,⟨?_,?_⟩,⟨?_,?_⟩,⟨?_,?_⟩,⟨?_,?_⟩,?_⟩
 ·have hn1:=numC_p (newC id n)
  unfold newC zdC at hn1
  unfold p_conns_Open
  rw [c1,fd,hn1]
  have hq:=num_new id n
  unfold newC zdC at hq
  rw [hq]
  cases (inB id 0 255 && inB n 0 65535) <;> rfl
 ·unfold p_ref31_Open
  rw [c2,pl]
  simp only [Option.bind_some,rinC_p,bne_self_eq_false,cond_false]
  rw [decide_eq_true (show (0:Int)≤(A.length:Int) by omega)]
  cases inB id 0 255 <;> cases inB n 0 65535 <;> rfl
 ·unfold p_conns_Close
  rw [f1]
  simp only [Option.bind_some,cond_true,clone_c1 hn]
  have hd:delF? (fun x0=>p_conns_Close_1 x0 id) st=some (A++B):=by
   unfold delF?
   rw [if_pos ⟨by omega,List.all_eq_true.2 fun x _=>rfl⟩]
   congr 1
   have e:∀ x:ConnsConn,(!((p_conns_Close_1 x id).getD false))=!(x.ID == id):=fun x=>rfl
   simp only [e]
   rw [hc.e,List.filter_append,List.filter_append,List.filter_eq_self.2 fun x hx=>by have:=hc.a x hx;simp;omega,List.filter_eq_self (l:=B) |>.2 fun x hx=>by have:=hc.b x hx;simp;omega]
   simp [hid]
  rw [hd];rfl
 ·unfold p_ref31_Close
  rw [f2]
  simp only [Option.bind_some,cond_true,pl]
  rw [cutTo (by omega),Option.bind_some,app_ok (by simp;omega),Option.bind_some,w64_succ (by omega),cutFrom (by omega),Option.bind_some,app_ok (by simp;omega),Option.bind_some,hc.e]
  simp
 ·have k1:=keyed_p (key:=keyL u r) hn h
  unfold p_conns_Login logC
  rw [c1,f1]
  simp only [Option.bind_some,bne_self_eq_false,cond_false,cond_true,key_p hu hr,k1]
  unfold emB
  cases (c.User.toList == (⟨#[]⟩ : ByteArray).toList) with
  | false=>rfl
  | true =>
   cases ((keyL u r).toList == (⟨#[]⟩ : ByteArray).toList) with
   | true=>rfl
   | false =>
    simp only [cond_true,cond_false,Bool.true_eq_false,Bool.false_eq_true,if_false]
    by_cases hx:ixF (hasK (keyL u r)) st 0 < 0
    ·rw [if_pos hx,if_neg (by omega)]
     have:=(wp (nameC c u r) hid).1
     unfold nameC at this
     simp only [cond_false,this];rfl
    ·rw [if_neg hx,if_pos (by omega)];rfl
 ·have k1:=rkeyed_p (key:=keyL u r) hn h
  unfold p_ref31_Login logC
  rw [c2,pl]
  simp only [Option.bind_some,bne_self_eq_false,cond_false,cond_true,rkey_p hu hr,k1,nn,fa]
  unfold emB
  cases (c.User.toList == (⟨#[]⟩ : ByteArray).toList) with
  | false=>rfl
  | true =>
   cases ((keyL u r).toList == (⟨#[]⟩ : ByteArray).toList) with
   | true=>rfl
   | false =>
    simp only [cond_true,cond_false,Bool.true_eq_false,Bool.false_eq_true,if_false]
    by_cases hx:ixF (hasK (keyL u r)) st 0 < 0
    ·rw [decide_eq_false (by omega),if_neg (by omega)]
     have:=(wp (nameC c u r) hid).2
     unfold nameC at this
     simp only [cond_false,this];rfl
    ·rw [decide_eq_true (by omega),if_pos (by omega)];rfl
 ·unfold p_conns_Give
  rw [f1]
  simp only [Option.bind_some,cond_true]
  by_cases hn0:n < 0
  ·rw [decide_eq_true hn0,if_pos hn0];rfl
  ·have:=(wp (giveC c n) hid).1
   unfold giveC at this
   rw [decide_eq_false hn0,if_neg hn0]
   simp only [cond_false,this];rfl
 ·unfold p_ref31_Give
  rw [f2]
  simp only [Option.bind_some,cond_true,pl]
  by_cases hn0:n < 0
  ·rw [decide_eq_true hn0,if_pos hn0];rfl
  ·have:=(wp (giveC c n) hid).2
   unfold giveC at this
   rw [decide_eq_false hn0,if_neg hn0]
   simp only [cond_false,this];rfl
 ·unfold p_conns_Spend
  rw [f1]
  simp only [Option.bind_some,cond_true,inC_p]
  unfold inB
  have:=(wp (spendC c n) hid).1
  unfold spendC at this
  by_cases h0:0≤n
  ·by_cases h1:n≤c.Credit
   ·rw [decide_eq_true h0,decide_eq_true h1,if_pos ⟨h0,h1⟩]
    simp only [Bool.and_self,cond_true,this];rfl
   ·rw [decide_eq_false h1,if_neg (by omega),Bool.and_false];rfl
  ·rw [decide_eq_false h0,if_neg (by omega),Bool.false_and];rfl
 ·unfold p_ref31_Spend
  rw [f2]
  simp only [Option.bind_some,cond_true,pl]
  have:=(wp (spendC c n) hid).2
  unfold spendC at this
  by_cases h0:n < 0
  ·rw [decide_eq_true h0,if_neg (by omega)];rfl
  ·rw [decide_eq_false h0]
   by_cases h1:c.Credit < n
   ·rw [decide_eq_true h1,if_neg (by omega)];rfl
   ·rw [decide_eq_false h1,if_pos (by omega)]
    simp only [cond_false,this];rfl
 ·have hm:c ∈ st:=by rw [hc.e];simp
  obtain ⟨x,x1,x2,_,x4⟩:=rfeed_p c.In b (h c hm).2.2 hb
  refine ⟨x,x1,x4,?_,?_⟩
  ·unfold p_conns_Feed
   rw [c1,f1]
   have:=(wp (inC c x.1) hid).1
   unfold inC at this
   simp only [Option.bind_some,bne_self_eq_false,cond_false,cond_true,x1,this];rfl
  ·unfold p_ref31_Feed
   rw [f2,c2]
   have:=(wp (inC c x.1) hid).2
   unfold inC at this
   simp only [Option.bind_some,bne_self_eq_false,cond_false,cond_true,x2,pl,this];rfl
end Go.Proofs.YtdbigmjlhkgeoaaGreat

namespace Go.Proofs.YtdbigmjlhkgeoaaGreat
open Go.RowKit
end Go.Proofs.YtdbigmjlhkgeoaaGreat

namespace Go.Proofs.YtdbigmjlhkgeoaaGreat
open Go.RowKit
theorem cself_l (z:List ConnsConn) (hn:z.length≤1000):∀ (n k F:Nat),k + n=z.length→n < F→p_ref31_Same_l1 z z F (k:Int)=some (.inr (z.length:Int))∧p_slices_Equal_conns_State_conns_Conn__l1 z z (z.length:Int) F (k:Int)=some (.inr (z.length:Int))
 | 0,k,F + 1,hk,hF=>by
  rw [p_ref31_Same_l1,p_slices_Equal_conns_State_conns_Conn__l1,lt_ff (by omega),show k=z.length by omega];exact ⟨rfl,rfl⟩
 | n + 1,k,F + 1,hk,hF=>by
  have hlt:k < z.length:=by omega
  obtain ⟨i1,i2⟩:=cself_l z hn n (k + 1) F (by omega) (by omega)
  rw [p_ref31_Same_l1,p_slices_Equal_conns_State_conns_Conn__l1,lt_tt hlt,cond_true,cond_true,at_lt hlt]
  simp only [Option.bind_some,eqT_refl,beq_self_eq_true,Bool.and_self,cond_true]
  rw [w64_succ (by omega),i1,i2];exact ⟨rfl,rfl⟩
theorem cself_p {z:List ConnsConn} (hn:z.length≤1000):p_ref31_Same z z=some true∧p_conns_Same z z=some true:=by
 obtain ⟨e1,e2⟩:=cself_l z hn z.length 0 fuel (by omega) (by have:=fuel_pos;omega)
 have e1' : p_ref31_Same_l1 z z fuel (0:Int)=_:=e1
 have e2' : p_slices_Equal_conns_State_conns_Conn__l1 z z (z.length:Int) fuel (0:Int)=_:=e2
 unfold p_ref31_Same p_conns_Same p_slices_Equal_conns_State_conns_Conn_
 rw [bne_self_eq_false,cond_false,cond_false,e1',e2']
 exact ⟨rfl,rfl⟩
structure Both (st:List ConnsConn) (id n:Int) (u r b:ByteArray):Prop where
 open_:∃ x,p_conns_Open st id n=some x∧p_ref31_Open st id n=some x∧x.1.length≤1000
 find:∃ x,p_conns_Find st id=some x∧p_ref31_Find st id=some x∧smC x.1
 close:∃ x,p_conns_Close st id=some x∧p_ref31_Close st id=some x∧x.1.length≤1000
 login:∃ x,p_conns_Login st id u r=some x∧p_ref31_Login st id u r=some x∧x.1.length≤1000
 give:∃ x,p_conns_Give st id n=some x∧p_ref31_Give st id n=some x∧x.1.length≤1000
 spend:∃ x,p_conns_Spend st id n=some x∧p_ref31_Spend st id n=some x∧x.1.length≤1000
 feed:∃ x,p_conns_Feed st id b=some x∧p_ref31_Feed st id b=some x∧x.1.length≤1000∧x.2.1.length≤100000
end Go.Proofs.YtdbigmjlhkgeoaaGreat

namespace Go.Proofs.YtdbigmjlhkgeoaaGreat
open Go.RowKit
def stR (l:List UInt8):DeframeState:=DeframeState.mk (ba (run l).2.1) (run l).2.2 ((run l).1.length:Nat)
end Go.Proofs.YtdbigmjlhkgeoaaGreat

namespace Go.Proofs.YtdbigmjlhkgeoaaGreat
open Go.RowKit
end Go.Proofs.YtdbigmjlhkgeoaaGreat

namespace Go.Proofs.YtdbigmjlhkgeoaaGreat
open Go.RowKit
structure FrsC (st:List ConnsConn):Prop where
 ok:OkC st
 new:∀ c ∈ st,∃ i n:Int,c=newC i n∧0≤i∧i < 20
theorem emZ:emB (⟨#[]⟩ : ByteArray)=true:=eqT_refl _
theorem key_new (i n:Int):keyC (newC i n)=⟨#[]⟩:=by unfold keyC newC;rw [if_pos emZ]
theorem nam_new (i n:Int):namC (newC i n)=true:=by unfold namC newC;rw [if_pos emZ];exact emZ
theorem hasK_new {c:ConnsConn} {i n:Int}:apK c (newC i n):=by unfold apK hasK;rw [key_new,emZ];rfl
theorem chk_stR (l:List UInt8) (h:l.length≤50000):dchk (stR l)=0:=by
 have:=check_good (run_good l h)
 unfold dchk stR
 rw [this];rfl
theorem chk_z:dchk zdC=0:=chk_stR [] (by simp)
theorem sm_newC (i n:Int):smC (newC i n):=by
 unfold smC newC zdC
 simp only [show (⟨#[]⟩ : ByteArray).size=0 from rfl]
 omega
theorem FrsC.sm {st:List ConnsConn} (h:FrsC st):SmS st:=⟨by have:=h.ok.len;omega,fun c hc=>by obtain ⟨i,n,rfl,_⟩:=h.new c hc;exact sm_newC i n⟩
theorem opn_ok {st A B:List ConnsConn} {id n:Int} (h:OkC st) (hc:CutC st A [] B id) (hr:(inB id 0 255 && inB n 0 65535)=true) (h16:st.length≠16):OkC (A++([newC id n]++B))∧CutC (A++([newC id n]++B)) A [newC id n] B id:=by
 have hl:=hc.len
 have:=h.len
 simp at hl
 exact hc.put h rfl (by omega) (by rw [num_new];exact hr) (nam_new _ _) chk_z fun d _=>hasK_new
theorem FrsC.open_ {st:List ConnsConn} (h:FrsC st) (id n:Int) (hi:0≤id∧id < 20):∃ r,p_conns_Open st id n=some r∧FrsC r.1:=by
 obtain ⟨A,M,B,hc⟩:=cutC id h.ok.ord
 rcases hc.m with rfl | ⟨c,rfl,_⟩
 ·obtain ⟨⟨a1,_⟩,_⟩:=none_all h.sm h.ok hc n (⟨#[]⟩ : ByteArray) (⟨#[]⟩ : ByteArray) (⟨#[]⟩ : ByteArray)
  refine ⟨_,a1,?_⟩
  unfold opnC
  split
  ·exact h
  split
  ·exact h
  ·rename_i h1 h2
   obtain ⟨g1,_⟩:=opn_ok h.ok hc (by simpa using h1) h2
   refine ⟨g1,fun c hc2=>?_⟩
   simp only [List.mem_append,List.mem_singleton] at hc2
   rcases hc2 with g | rfl | g
   ·exact h.new c (by rw [hc.e];simp [g])
   ·exact ⟨id,n,rfl,hi.1,hi.2⟩
   ·exact h.new c (by rw [hc.e];simp [g])
 ·obtain ⟨⟨a1,_⟩,_⟩:=one_all h.sm h.ok hc n (⟨#[]⟩ : ByteArray) (⟨#[]⟩ : ByteArray) (⟨#[]⟩ : ByteArray) (by show (0:Nat)≤_;omega) (by show (0:Nat)≤_;omega) (by show (0:Nat)≤_;omega)
  exact ⟨_,a1,h⟩
theorem tmod20 {x:Int} (h:0≤x):0≤w64 (Int.tmod x 20)∧w64 (Int.tmod x 20) < 20:=by
 have h1:=Int.tmod_nonneg 20 h
 have h2:=Int.tmod_lt_of_pos x (show (0:Int) < 20 by omega)
 rw [w64_id (by omega)]
 exact ⟨h1,h2⟩
end Go.Proofs.YtdbigmjlhkgeoaaGreat

