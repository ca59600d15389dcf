/- A part of the proof: 8 texts joined. -/
import Derived.Test.YtmmmcpeickfolaaGreatZcA16
import Derived.Test.YtmmmcpeickfolaaGreatZcA19
import Derived.Test.YtmmmcpeickfolaaGreatZcA25
import Derived.KernelRfl
import Derived.Test.YtmmmcpeickfolaaGreatZcA23
set_option linter.all false
namespace Go.Proofs.YtmmmcpeickfolaaGreat
open Go.RowKit
inductive GR where
 | cut
 | bad (e:Int)
 | ok (t r:List UInt8)
def getR:List UInt8→GR
 | a :: b :: r=>if 256 * a.toNat + b.toNat=0 then .bad 4 else if 128 < 256 * a.toNat + b.toNat then .bad 5 else if r.length < 256 * a.toNat + b.toNat then .cut else .ok (r.take (256 * a.toNat + b.toNat)) (r.drop (256 * a.toNat + b.toNat))
 | _=>.cut
theorem or_n (a:Nat) (b:UInt8) (h:a < 256 ^ 6):orI .i64 ((a * 256:Nat):Int) (b.toNat:Int)=((a * 256 + b.toNat:Nat):Int):=by
 have:=or_step a b h
 simp only [intB,Option.some.injEq,Value.int.injEq,true_and] at this
 exact this
theorem shl_n (a:Nat) (h:a < 256 ^ 6):shlI .i64 (a:Int) (8:Int)=((a * 256:Nat):Int):=by
 have:=shl_step a h
 simp only [intSh] at this
 rw [if_neg (by decide)] at this
 simp only [Option.some.injEq,Value.int.injEq,true_and] at this
 exact this
theorem sub_p {s:ByteArray} {i j:Nat} (hi:i≤j) (hj:j≤s.size):sub? s (some (i:Int)) (some (j:Int))=some (ba ((s.data.toList.drop i).take (j - i))):=by
 unfold sub?
 rw [if_pos ⟨by show (0:Int)≤i;omega,by show (i:Int)≤j;omega,by show (j:Int)≤s.size;omega⟩]
 show some (s.extract (i:Int).toNat (j:Int).toNat)=_
 rw [Int.toNat_natCast,Int.toNat_natCast,← ext_list s i j hj,ba_of]
theorem sub_from {s:ByteArray} {i:Nat} (hi:i≤s.size):sub? s (some (i:Int)) none=some (ba (s.data.toList.drop i)):=by
 unfold sub?
 rw [if_pos ⟨by show (0:Int)≤i;omega,by show (i:Int)≤(s.size:Int);omega,Int.le_refl _⟩]
 show some (s.extract (i:Int).toNat (s.size:Int).toNat)=_
 rw [Int.toNat_natCast,Int.toNat_natCast]
 have:=ext_list s i s.size (Nat.le_refl _)
 rw [← ba_of (s.extract i s.size),this,List.take_of_length_le (by rw [List.length_drop,bl_len];omega)]
theorem num2 (a b:UInt8):p_octet_Num_l1 [(a.toNat:Int),(b.toNat:Int)] 2 fuel 0 0=some (((256 * a.toNat + b.toNat:Nat):Int),2):=by
 have ha:=a.toNat_lt
 have hb:=b.toNat_lt
 have key:∀ F,p_octet_Num_l1 [(a.toNat:Int),(b.toNat:Int)] 2 (F + 3) 0 0=some (((256 * a.toNat + b.toNat:Nat):Int),2):=fun F=>by
  have s0:shlI .i64 (0:Int) (8:Int)=((0 * 256:Nat):Int):=shl_n 0 (by decide)
  have o0:=or_n 0 a (by decide)
  have s1:=shl_n (0 * 256 + a.toNat) (by omega)
  have o1:=or_n (0 * 256 + a.toNat) b (by omega)
  rw [p_octet_Num_l1,show decide ((0:Int) < 2)=true from rfl,cond_true,show at? [(a.toNat:Int),(b.toNat:Int)] (0:Int)=some (a.toNat:Int) from rfl,Option.bind_some,show w64 ((0:Int) + 1)=1 from rfl,s0,w64_id (r:=(a.toNat:Int)) (by omega),o0]
  rw [p_octet_Num_l1,show decide ((1:Int) < 2)=true from rfl,cond_true,show at? [(a.toNat:Int),(b.toNat:Int)] (1:Int)=some (b.toNat:Int) from rfl,Option.bind_some,show w64 ((1:Int) + 1)=2 from rfl,s1,w64_id (r:=(b.toNat:Int)) (by omega),o1]
  rw [p_octet_Num_l1,show decide ((2:Int) < 2)=false from rfl,cond_false]
  rw [show (0 * 256 + a.toNat) * 256 + b.toNat=256 * a.toNat + b.toNat by omega]
 exact key (fuel - 3)
def outG:GR→ByteArray × Int × Int
 | .cut=>(⟨#[]⟩,0,3)
 | .bad e=>(⟨#[]⟩,0,e)
 | .ok t _=>(ba t,((2 + t.length:Nat):Int),0)
theorem get_p (s:ByteArray) (hs:s.size≤100000):p_frame_Get s=some (outG (getR s.data.toList)):=by
 have hl:=bl_len s
 have f0:p_octet_Read_fault (OctetRead.mk s 0 0)=some 0:=by
  unfold p_octet_Read_fault
  rw [show decide ((s.size:Int) < 0)=false by simp];rfl
 have left0:p_octet_Left (OctetRead.mk s 0 0)=some (s.size:Int):=by
  unfold p_octet_Left
  rw [f0]
  show some (w64 ((s.size:Int) - 0))=_
  rw [show w64 ((s.size:Int) - 0)=(s.size:Int) by rw [Int.sub_zero];exact w64_id (by omega)]
 have hw:p_octet_wide 2=some true:=rfl
 unfold p_frame_Get p_octet_Open p_octet_Num
 simp only [Option.bind_some,f0,hw,left0,bne_self_eq_false,cond_false,cond_true]
 match hL:s.data.toList with
 | [] =>
  rw [hL] at hl
  rw [show decide ((s.size:Int) < 2)=true by simp at hl ⊢;omega];rfl
 | [a] =>
  rw [hL] at hl
  rw [show decide ((s.size:Int) < 2)=true by simp at hl ⊢;omega];rfl
 | a :: b :: r =>
  rw [hL] at hl
  have hr:s.size=r.length + 2:=by simp at hl;omega
  have ha:=a.toNat_lt
  have hb:=b.toNat_lt
  rw [show decide ((s.size:Int) < 2)=false by simp;omega,show (w64 ((0:Int) + 2))=((2:Nat):Int) from rfl]
  have s1:sub? s (some (0:Int)) (some ((2:Nat):Int))=some (ba [a,b]):=by
   have:=sub_p (s:=s) (i:=0) (j:=2) (by omega) (by omega)
   rw [hL] at this;exact this
  have b1:bytesI (ba [a,b])=[(a.toNat:Int),(b.toNat:Int)]:=by unfold bytesI;rw [ba_list];rfl
  simp only [cond_false,s1,Option.bind_some,b1]
  have n2:p_octet_Num_l1 [(a.toNat:Int),(b.toNat:Int)] (([(a.toNat:Int),(b.toNat:Int)].length:Nat):Int) fuel 0 0=_:=num2 a b
  rw [n2]
  simp only [Option.bind_some,bne_self_eq_false,cond_false]
  rw [getR]
  generalize hn:256 * a.toNat + b.toNat=n at *
  by_cases h0:n=0
  ·rw [if_pos h0,h0];rfl
  rw [if_neg h0,show ((n:Int) == 0)=false by simpa using h0,cond_false]
  by_cases h1:128 < n
  ·rw [if_pos h1,show decide ((128:Int) < (n:Int))=true by simp;omega];rfl
  rw [if_neg h1,show decide ((128:Int) < (n:Int))=false by simp;omega,cond_false]
  have left1:p_octet_Left (OctetRead.mk s ((2:Nat):Int) 0)=some (r.length:Int):=by
   unfold p_octet_Left p_octet_Read_fault
   rw [show decide ((s.size:Int) < ((2:Nat):Int))=false by simp;omega]
   show some (w64 ((s.size:Int) - 2))=_
   rw [w64_id (by omega)];congr 1;omega
  rw [left1,Option.bind_some]
  by_cases h2:r.length < n
  ·rw [if_pos h2,show decide ((r.length:Int) < (n:Int))=true by simp;omega];rfl
  rw [if_neg h2,show decide ((r.length:Int) < (n:Int))=false by simp;omega,cond_false]
  have e2:w64 ((2:Int) + (n:Int))=((2 + n:Nat):Int):=by rw [w64_id (by omega)];omega
  have s2:sub? s (some (2:Int)) (some ((2 + n:Nat):Int))=some (ba (r.take n)):=by
   have:=sub_p (s:=s) (i:=2) (j:=2 + n) (by omega) (by omega)
   rw [hL,show 2 + n - 2=n by omega] at this;exact this
  rw [e2,s2]
  show some (ba (r.take n),((2 + n:Nat):Int),(0:Int))=some (ba (r.take n),((2 + (r.take n).length:Nat):Int),(0:Int))
  rw [List.length_take,Nat.min_eq_left (by omega)]
def runF:Nat→List UInt8→List (List UInt8) × List UInt8 × Int
 | 0,l=>([],l,0)
 | n + 1,l=>match getR l with
  | .cut=>([],l,0)
  | .bad e=>([],[],e)
  | .ok t r=>(t :: (runF n r).1,(runF n r).2)
theorem getR_ok {l t r:List UInt8} (h:getR l=.ok t r):∃ a b,l=a :: b :: (t++r)∧256 * a.toNat + b.toNat=t.length∧0 < t.length∧t.length≤128:=by
 unfold getR at h
 split at h
 ·rename_i a b q
  split at h
  ·cases h
  split at h
  ·cases h
  split at h
  ·cases h
  rename_i h1 h2 h3
  simp only [GR.ok.injEq] at h
  obtain ⟨rfl,rfl⟩:=h
  refine ⟨a,b,by rw [List.take_append_drop],?_⟩
  rw [List.length_take,Nat.min_eq_left (by omega)];omega
 ·cases h
theorem getR_lt {l t r:List UInt8} (h:getR l=.ok t r):r.length + 2 < l.length:=by
 obtain ⟨a,b,e,_,h1,_⟩:=getR_ok h
 rw [e];simp;omega
theorem getR_bad {l:List UInt8} {e:Int} (h:getR l=.bad e):e≠0:=by
 unfold getR at h
 split at h
 ·split at h
  ·simp only [GR.bad.injEq] at h;omega
  split at h
  ·simp only [GR.bad.injEq] at h;omega
  split at h <;> cases h
 ·cases h
theorem runF_enough:∀ (n m:Nat) (l:List UInt8),l.length < n→l.length < m→runF n l=runF m l
 | n + 1,m + 1,l,h1,h2=>by
  rw [runF,runF]
  cases hg:getR l with
  | cut=>rfl
  | bad e=>rfl
  | ok t r =>
   have:=getR_lt hg
   simp only
   rw [runF_enough n m r (by omega) (by omega)]
def run (l:List UInt8):List (List UInt8) × List UInt8 × Int:=runF (l.length + 1) l
theorem run_cut {l:List UInt8} (h:getR l=.cut):run l=([],l,0):=by unfold run;rw [runF,h]
theorem run_bad {l:List UInt8} {e:Int} (h:getR l=.bad e):run l=([],[],e):=by unfold run;rw [runF,h]
theorem run_ok {l t r:List UInt8} (h:getR l=.ok t r):run l=(t :: (run r).1,(run r).2):=by
 have:=getR_lt h
 unfold run
 rw [runF,h]
 simp only
 rw [runF_enough l.length (r.length + 1) r (by omega) (by omega)]
theorem run_end:∀ (n:Nat) (l:List UInt8),l.length < n→((run l).2.2=0∧getR (run l).2.1=.cut∨(run l).2.2≠0∧(run l).2.1=[])∧(run l).2.1.length≤l.length∧3 * (run l).1.length + (run l).2.1.length≤l.length∧∀ t ∈ (run l).1,t.length≤128
 | n + 1,l,h=>by
  cases hg:getR l with
  | cut=>rw [run_cut hg];exact ⟨.inl ⟨rfl,hg⟩,Nat.le_refl _,by simp,fun t ht=>by cases ht⟩
  | bad e=>rw [run_bad hg];exact ⟨.inr ⟨getR_bad hg,rfl⟩,Nat.zero_le _,by simp,fun t ht=>by cases ht⟩
  | ok t r =>
   have h1:=getR_lt hg
   obtain ⟨a,b,e,_,h4,h5⟩:=getR_ok hg
   obtain ⟨i1,i2,i3,i4⟩:=run_end n r (by omega)
   rw [run_ok hg]
   refine ⟨i1,by show (run r).2.1.length≤_;omega,by show 3 * ((run r).1.length + 1) + (run r).2.1.length≤_;omega,fun x hx=>?_⟩
   rcases List.mem_cons.1 hx with rfl | hx
   ·exact h5
   ·exact i4 x hx
end Go.Proofs.YtmmmcpeickfolaaGreat

namespace Go.Proofs.YtmmmcpeickfolaaGreat
open Go.RowKit
def seenK:Int→Nat→Int
 | s,0=>s
 | s,k + 1=>seenK (w64 (s + 1)) k
theorem getS (l:List UInt8) (h:l.length≤100000):p_frame_Get (ba l)=some (outG (getR l)):=by
 have:=get_p (ba l) (by rw [ba_size];exact h)
 rwa [ba_list] at this
structure Good (buf:List UInt8) (bad seen:Int):Prop where
 seen:0≤seen
 len:buf.length≤50000
 out:bad=0∧getR buf=.cut∨bad≠0∧buf=[]
theorem check_good {buf:List UInt8} {bad seen:Int} (h:Good buf bad seen):p_deframe_Check (DeframeState.mk (ba buf) bad seen)=some 0:=by
 have hl:=h.len
 unfold p_deframe_Check
 rw [decide_eq_false (show ¬ seen < 0 by have:=h.seen;omega)]
 rcases h.out with ⟨rfl,hg⟩ | ⟨hb,rfl⟩
 ·rw [getS buf (by omega),hg];rfl
 ·have e:((ba []).toList == (⟨#[]⟩ : ByteArray).toList)=true:=eqT_refl _
  rw [show (bad != 0)=true by simpa using hb,cond_true,getS [] (by simp)]
  simp only [e,cond_true]
  rfl
theorem deaf_good {buf:List UInt8} {bad seen:Int} (h:Good buf bad seen):p_deframe_State_deaf (DeframeState.mk (ba buf) bad seen)=some (bad != 0):=by
 unfold p_deframe_State_deaf
 rw [check_good h]
 cases (bad != 0) <;> rfl
theorem texts_l:∀ (n:Nat) (l:List UInt8) (F:Nat) (acc:List ByteArray) (seen:Int),l.length < n→n≤F→l.length≤100000→acc.length + l.length≤100000 →
  p_deframe_Texts_l1 F acc (DeframeState.mk (ba l) 0 seen)=some (DeframeState.mk (ba (run l).2.1) (run l).2.2 (seenK seen (run l).1.length),acc++(run l).1.map ba)
 | n + 1,l,F + 1,acc,seen,h1,h2,h3,h4=>by
  rw [p_deframe_Texts_l1]
  show (p_frame_Get (ba l)).bind _=_
  rw [getS l h3,Option.bind_some]
  cases hg:getR l with
  | cut =>
   rw [run_cut hg]
   show some _=some _
   simp [seenK]
  | bad e =>
   have he:=getR_bad hg
   rw [run_bad hg]
   by_cases h33:e=3
   ·exfalso
    unfold getR at hg
    split at hg
    ·split at hg
     ·simp only [GR.bad.injEq] at hg;omega
     split at hg
     ·simp only [GR.bad.injEq] at hg;omega
     split at hg <;> cases hg
    ·cases hg
   ·show (bif (e == (3:Int)) then _ else bif (e != (0:Int)) then some (DeframeState.mk (⟨#[]⟩ : ByteArray) e seen,acc) else _)=_
    rw [show (e == 3)=false by simpa using h33,show (e != 0)=true by simpa using he]
    show some _=some _
    simp [seenK];rfl
  | ok t r =>
   obtain ⟨a,b,e,h5,h6,h7⟩:=getR_ok hg
   have hlt:=getR_lt hg
   rw [run_ok hg]
   show (app? acc [ba t]).bind _=_
   rw [app_ok (by simp;omega),Option.bind_some]
   show (sub? (ba l) (some ((2 + t.length:Nat):Int)) none).bind _=_
   rw [sub_from (by rw [ba_size,e];simp;omega),Option.bind_some,ba_list]
   have hd:l.drop (2 + t.length)=r:=by
    rw [e,show 2 + t.length=t.length + 1 + 1 by omega]
    show (t++r).drop t.length=r
    exact List.drop_left' rfl
   rw [hd]
   have:=texts_l n r F (acc++[ba t]) (w64 (seen + 1)) (by omega) (by omega) (by omega) (by simp;omega)
   show p_deframe_Texts_l1 F (acc++[ba t]) (DeframeState.mk (ba r) 0 (w64 (seen + 1)))=_
   rw [this]
   simp [seenK]
def itemR (t:List UInt8):DeframeItem:=DeframeItem.mk (stzTo (readL t).1) (readL t).2
theorem read_ba (t:List UInt8) (h:t.length≤100000):p_stanza_Read (ba t)=some (stzTo (readL t).1,(readL t).2):=by
 unfold p_stanza_Read
 rw [if_pos (by rw [ba_size];exact h),ba_list]
theorem items_l (ts:List (List UInt8)) (hn:ts.length≤100000) (ht:∀ t ∈ ts,t.length≤100000):∀ (n k F:Nat) (acc:List DeframeItem),k + n=ts.length→n < F→acc.length≤k→p_deframe_items_l1 (ts.map ba) ((ts.map ba).length:Int) F acc (k:Int)=some (acc++(ts.drop k).map itemR,((ts.map ba).length:Int))
 | 0,k,F + 1,acc,hk,hF,ha=>by
  rw [p_deframe_items_l1,lt_ff (by rw [List.length_map];omega),show k=(ts.map ba).length by rw [List.length_map];omega,List.drop_of_length_le (by rw [List.length_map];exact Nat.le_refl _)];simp
 | n + 1,k,F + 1,acc,hk,hF,ha=>by
  have hlt:k < ts.length:=by omega
  have hlt2:k < (ts.map ba).length:=by rw [List.length_map];exact hlt
  rw [p_deframe_items_l1,lt_tt hlt2,cond_true,at_lt hlt2,Option.bind_some,List.getElem_map,read_ba _ (ht _ (List.getElem_mem hlt)),Option.bind_some,app_ok (by simp;omega),Option.bind_some,w64_succ (by omega),items_l ts hn ht n (k + 1) F _ (by omega) (by omega) (by simp;omega),drop_at hlt,List.map_cons,List.append_assoc]
  rfl
theorem items_p (ts:List (List UInt8)) (hn:ts.length≤100000) (ht:∀ t ∈ ts,t.length≤100000):p_deframe_items (ts.map ba)=some (ts.map itemR):=by
 unfold p_deframe_items
 have e:=items_l ts hn ht ts.length 0 fuel [] (by omega) (by have:=fuel_pos;omega) (Nat.zero_le _)
 rw [List.drop_zero,List.nil_append] at e
 have e' : p_deframe_items_l1 (ts.map ba) ((ts.map ba).length:Int) fuel [] (0:Int)=_:=e
 rw [e'];rfl
theorem texts_good {buf:List UInt8} {seen:Int} (h:Good buf 0 seen) (s:ByteArray) (hs:s.size≤50000):p_deframe_Texts (DeframeState.mk (ba buf) 0 seen) s=some (DeframeState.mk (ba (run (buf++s.data.toList)).2.1) (run (buf++s.data.toList)).2.2 (seenK seen (run (buf++s.data.toList)).1.length),(run (buf++s.data.toList)).1.map ba):=by
 have hl:=h.len
 have hsl:=bl_len s
 have hc:cat? (ba buf) s=some (ba (buf++s.data.toList)):=by
  unfold cat?
  rw [if_pos (by rw [ba_size];omega)]
  rw [← ba_app,ba_of]
 unfold p_deframe_Texts
 rw [deaf_good h]
 show (cat? (ba buf) s).bind _=_
 rw [hc,Option.bind_some]
 have:=texts_l ((buf++s.data.toList).length + 1) (buf++s.data.toList) fuel [] seen (by omega) (by have:=fuel_pos;rw [List.length_append];omega) (by rw [List.length_append];omega) (by rw [List.length_append];simp;omega)
 rw [List.nil_append] at this
 show (p_deframe_Texts_l1 fuel [] (DeframeState.mk (ba (buf++s.data.toList)) 0 seen)).bind _=_
 rw [this];rfl
theorem citems_l (z:List DeframeItem) (hn:z.length≤100000):∀ (n k F:Nat) (acc:List DeframeItem),k + n=z.length→n < F→acc.length=k→p_law12_Items_l1 z F acc (k:Int)=some (acc++z.drop k,(z.length:Int))
 | 0,k,F + 1,acc,hk,hF,ha=>by
  rw [p_law12_Items_l1,lt_ff (by omega),show k=z.length by omega,List.drop_length,List.append_nil];rfl
 | n + 1,k,F + 1,acc,hk,hF,ha=>by
  have hlt:k < z.length:=by omega
  rw [p_law12_Items_l1,lt_tt hlt,cond_true,at_lt hlt]
  simp only [Option.bind_some]
  rw [app_ok (by simp;omega),Option.bind_some,w64_succ (by omega),citems_l z hn n (k + 1) F _ (by omega) (by omega) (by simp;omega),drop_at hlt,List.append_assoc]
  rfl
theorem citems_p (z:List DeframeItem) (hn:z.length≤100000):p_law12_Items z=some z:=by
 unfold p_law12_Items
 have e:p_law12_Items_l1 z fuel [] (0:Int)=some (z,(z.length:Int)):=citems_l z hn z.length 0 fuel [] (by omega) (by have:=fuel_pos;omega) rfl
 rw [e];rfl
theorem sitems_l (z:List DeframeItem) (hn:z.length≤100000):∀ (n k F:Nat),k + n=z.length→n < F→p_ref12_SameItems_l1 z z F (k:Int)=some (.inr (z.length:Int))
 | 0,k,F + 1,hk,hF=>by
  rw [p_ref12_SameItems_l1,lt_ff (by omega),show k=z.length by omega];rfl
 | n + 1,k,F + 1,hk,hF=>by
  have hlt:k < z.length:=by omega
  rw [p_ref12_SameItems_l1,lt_tt hlt,cond_true,at_lt hlt]
  simp only [Option.bind_some,eqT_refl,beq_self_eq_true,Bool.and_self,Bool.and_true,cond_true]
  rw [w64_succ (by omega),sitems_l z hn n (k + 1) F (by omega) (by omega)]
theorem sitems_p (z:List DeframeItem) (hn:z.length≤100000):p_ref12_SameItems z z=some true:=by
 unfold p_ref12_SameItems
 rw [bne_self_eq_false,cond_false]
 have e:p_ref12_SameItems_l1 z z fuel (0:Int)=_:=sitems_l z hn z.length 0 fuel (by omega) (by have:=fuel_pos;omega)
 rw [e];rfl
end Go.Proofs.YtmmmcpeickfolaaGreat

namespace Go.Proofs.YtmmmcpeickfolaaGreat
def letterS (c:UInt8):Prop:=c=117∨c=114∨c=109∨c=115∨c=112∨c=99∨c=110
theorem letters (k:Nat):∀ c ∈ hasN k,letterS c:=hasN_in k
end Go.Proofs.YtmmmcpeickfolaaGreat

namespace Go.Proofs.YtmmmcpeickfolaaGreat
end Go.Proofs.YtmmmcpeickfolaaGreat

namespace Go.Proofs.YtmmmcpeickfolaaGreat
open Go.RowKit
theorem rget_p (s:ByteArray) (hs:s.size≤100000):p_ref11_Get s=some (outG (getR s.data.toList)):=by
 have hl:=bl_len s
 unfold p_ref11_Get
 match hL:s.data.toList with
 | [] =>
  rw [hL] at hl
  rw [show decide ((s.size:Int) < 2)=true by simp at hl ⊢;omega];rfl
 | [a] =>
  rw [hL] at hl
  rw [show decide ((s.size:Int) < 2)=true by simp at hl ⊢;omega];rfl
 | a :: b :: r =>
  rw [hL] at hl
  have hr:s.size=r.length + 2:=by simp at hl;omega
  have ha:=a.toNat_lt
  have hb:=b.toNat_lt
  have b0:byte? s (0:Int)=some (a.toNat:Int):=by
   have:=byte_at (s:=s) (k:=0) (by omega)
   rw [show ((0:Nat):Int)=0 from rfl] at this
   rw [this,← bl_get s 0 (by omega)];simp only [hL,List.getElem_cons_zero]
  have b1:byte? s (1:Int)=some (b.toNat:Int):=by
   have:=byte_at (s:=s) (k:=1) (by omega)
   rw [show ((1:Nat):Int)=1 from rfl] at this
   rw [this,← bl_get s 1 (by omega)];simp only [hL,List.getElem_cons_succ,List.getElem_cons_zero]
  have hw:w64 (w64 ((256:Int) * w64 (a.toNat:Int)) + w64 (b.toNat:Int))=((256 * a.toNat + b.toNat:Nat):Int):=by
   rw [w64_id (r:=(a.toNat:Int)) (by omega),w64_id (r:=(b.toNat:Int)) (by omega),w64_id (r:=256 * _) (by omega),w64_id (by omega)];omega
  rw [show decide ((s.size:Int) < 2)=false by simp;omega,b0,b1]
  simp only [cond_false,Option.bind_some,hw]
  rw [getR]
  generalize hn:256 * a.toNat + b.toNat=n at *
  by_cases h0:n=0
  ·rw [if_pos h0,h0];rfl
  rw [if_neg h0,show ((n:Int) == 0)=false by simpa using h0,cond_false]
  by_cases h1:128 < n
  ·rw [if_pos h1,show decide ((128:Int) < (n:Int))=true by simp;omega];rfl
  rw [if_neg h1,show decide ((128:Int) < (n:Int))=false by simp;omega,cond_false,w64_id (r:=(s.size:Int) - 2) (by omega)]
  by_cases h2:r.length < n
  ·rw [if_pos h2,decide_eq_true (show (s.size:Int) - 2 < (n:Int) by omega)];rfl
  rw [if_neg h2,decide_eq_false (show ¬ (s.size:Int) - 2 < (n:Int) by omega),cond_false]
  have e2:w64 ((2:Int) + (n:Int))=((2 + n:Nat):Int):=by rw [w64_id (by omega)];omega
  have s2:sub? s (some (2:Int)) (some ((2 + n:Nat):Int))=some (ba (r.take n)):=by
   have:=sub_p (s:=s) (i:=2) (j:=2 + n) (by omega) (by omega)
   rw [hL,show 2 + n - 2=n by omega] at this;exact this
  rw [e2,s2]
  show some (ba (r.take n),((2 + n:Nat):Int),(0:Int))=some (ba (r.take n),((2 + (r.take n).length:Nat):Int),(0:Int))
  rw [List.length_take,Nat.min_eq_left (by omega)]
def rdO (r:RdD):OctetRead:=OctetRead.mk r.s r.at_ r.bad
theorem rbad_p (r:RdD):p_ref01_bad (rdO r)=some (faultL r):=by
 unfold p_ref01_bad faultL rdO
 simp only
 by_cases h:r.bad=0
 ·rw [show (r.bad == 0)=true by simpa using h,cond_true]
  by_cases h1:r.at_ < 0
  ·rw [decide_eq_true h1,if_pos ⟨h,.inl h1⟩];rfl
  ·rw [decide_eq_false h1,cond_false]
   by_cases h2:(r.s.size:Int) < r.at_
   ·rw [decide_eq_true h2,if_pos ⟨h,.inr h2⟩];rfl
   ·rw [decide_eq_false h2,if_neg (fun g=>by rcases g.2 with g | g;exact h1 g;exact h2 g)];rfl
 ·rw [show (r.bad == 0)=false by simpa using h,if_neg (fun g=>h g.1)];rfl
theorem rleft_p (r:RdD) (hs:r.s.size≤100000):p_ref01_Left (rdO r)=some (leftL r):=by
 unfold p_ref01_Left leftL
 rw [rbad_p,Option.bind_some]
 by_cases h:faultL r=0
 ·obtain ⟨_,h1,h2⟩:=fault0 h
  rw [show (faultL r != 0)=false by simpa using h,if_neg (by simpa using h)]
  show some (w64 ((r.s.size:Int) - r.at_))=_
  rw [w64_id (by omega)]
 ·rw [show (faultL r != 0)=true by simpa using h,if_pos h];rfl
def beF (N:Nat) (l:List UInt8):Nat:=l.foldl (fun n b=>n * 256 + b.toNat) N
theorem rnum_l (s:ByteArray) (bad:Int) (w:Nat) (hw:w≤6) (hs:s.size≤100000):∀ (n j F a N:Nat),j + n=w→n < F→a + n≤s.size→N < 256 ^ j→p_ref01_Num_l1 (w:Int) F (N:Int) (j:Int) (OctetRead.mk s (a:Int) bad)=some ((beF N ((s.data.toList.drop a).take n):Int),(w:Int),OctetRead.mk s ((a + n:Nat):Int) bad)
 | 0,j,F + 1,a,N,hj,hF,ha,hN=>by
  rw [p_ref01_Num_l1,lt_ff (by omega),show j=w by omega];rfl
 | n + 1,j,F + 1,a,N,hj,hF,ha,hN=>by
  have hbl:=bl_len s
  have hlt:a < s.data.toList.length:=by omega
  have hb:=(s.data.toList[a]).toNat_lt
  have hp:(256:Nat) ^ j≤256 ^ 5:=Nat.pow_le_pow_right (by decide) (by omega)
  have h5:(256:Nat) ^ 5=1099511627776:=by decide
  have hN2:N * 256 + (s.data.toList[a]).toNat < 256 ^ (j + 1):=by rw [Nat.pow_succ];omega
  have bt:byte? s (a:Int)=some ((s.data.toList[a]).toNat:Int):=by rw [byte_at (by omega),← bl_get s a (by omega)]
  have hw2:w64 (w64 ((256:Int) * (N:Int)) + w64 ((s.data.toList[a]).toNat:Int))=((N * 256 + (s.data.toList[a]).toNat:Nat):Int):=by
   rw [w64_id (r:=((s.data.toList[a]).toNat:Int)) (by omega),w64_id (r:=256 * _) (by omega),w64_id (by omega)];omega
  rw [p_ref01_Num_l1,lt_tt (by omega),cond_true]
  simp only
  rw [bt,Option.bind_some,hw2,w64_succ (by omega),w64_succ (by omega),rnum_l s bad w hw hs n (j + 1) F (a + 1) _ (by omega) (by omega) (by omega) hN2,drop_at hlt,List.take_succ_cons,show a + 1 + n=a + (n + 1) by omega]
  rfl
theorem rnum_p (r:RdD) (w:Nat) (hw:w=1∨w=6) (hs:r.s.size≤100000):p_ref01_Num (rdO r) (w:Int)=some (rdO (numL r w).1,(numL r w).2):=by
 have hwd:p_ref01_wide (w:Int)=some true:=by rcases hw with rfl | rfl <;> rfl
 unfold p_ref01_Num
 rw [rbad_p,hwd,rleft_p r hs]
 simp only [Option.bind_some,cond_true]
 by_cases h:faultL r=0
 ·obtain ⟨h0,h1,h2⟩:=fault0 h
  rw [show (faultL r != 0)=false by simpa using h,cond_false]
  by_cases h3:leftL r < (w:Int)
  ·rw [decide_eq_true h3,numL_short h h3];rfl
  ·have hl:leftL r=r.s.size - r.at_:=if_neg (by simpa using h)
   rw [decide_eq_false h3,cond_false,numL_ok h h3]
   obtain ⟨s,at_,bad⟩:=r
   obtain ⟨a,rfl⟩:=Int.eq_ofNat_of_zero_le h1
   rw [hl] at h3
   simp only at h3
   have e:=rnum_l s bad w (by rcases hw with rfl | rfl <;> omega) hs w 0 fuel a 0 (by omega) (by have:=fuel_pos;rcases hw with rfl | rfl <;> omega) (by omega) (by decide)
   have e' : p_ref01_Num_l1 (w:Int) fuel (0:Int) (0:Int) (rdO ⟨s,(a:Int),bad⟩)=_:=e
   rw [e']
   show some (OctetRead.mk s ((a + w:Nat):Int) bad,_)=_
   rfl
 ·rw [show (faultL r != 0)=true by simpa using h,numL_bad h];rfl
theorem rtext_p (r:RdD) (m:Int) (hs:r.s.size≤100000):p_ref01_Text (rdO r) m=some (rdO (octTextL r m).1,(octTextL r m).2):=by
 have h1:=rnum_p r 1 (.inl rfl) hs
 have h1' : p_ref01_Num (rdO r) (1:Int)=_:=h1
 have hz:(numL r 1).1.s=r.s:=num_s r 1
 unfold p_ref01_Text octTextL
 rw [h1']
 simp only [Option.bind_some]
 by_cases hb:(numL r 1).1.bad=0
 ·obtain ⟨_,_,f3,f4,f5,f6,f7,f8,f9⟩:=num1_facts r hb
  rw [show ((rdO (numL r 1).1).Bad != 0)=false by show ((numL r 1).1.bad != 0)=false;simpa using hb,cond_false,if_neg (by simpa using hb),rleft_p _ (by rw [hz];exact hs)]
  by_cases h2:m < (numL r 1).2
  ·rw [decide_eq_true h2,if_pos h2];rfl
  rw [decide_eq_false h2,cond_false,if_neg h2,Option.bind_some]
  by_cases h3:leftL (numL r 1).1 < (numL r 1).2
  ·rw [decide_eq_true h3,if_pos h3];rfl
  rw [decide_eq_false h3,cond_false,if_neg h3]
  rw [f9] at h3
  have ha:0≤(numL r 1).1.at_:=by omega
  show (sub? (numL r 1).1.s (some (numL r 1).1.at_) (some (w64 ((numL r 1).1.at_ + (numL r 1).2)))).bind _=_
  rw [w64_id (by omega),hz]
  have:sub? r.s (some (numL r 1).1.at_) (some ((numL r 1).1.at_ + (numL r 1).2))=some (r.s.extract (numL r 1).1.at_.toNat ((numL r 1).1.at_ + (numL r 1).2).toNat):=by
   unfold sub?
   rw [if_pos ⟨ha,by show (numL r 1).1.at_≤(numL r 1).1.at_ + (numL r 1).2;omega,by show (numL r 1).1.at_ + (numL r 1).2≤(r.s.size:Int);omega⟩];rfl
  rw [this,Option.bind_some]
  show some (OctetRead.mk (numL r 1).1.s (w64 ((numL r 1).1.at_ + (numL r 1).2)) (numL r 1).1.bad,_)=_
  rw [w64_id (by omega),hz];rfl
 ·rw [show ((rdO (numL r 1).1).Bad != 0)=true by show ((numL r 1).1.bad != 0)=true;simpa using hb,if_pos hb];rfl
theorem rdone_p (r:RdD) (hs:r.s.size≤100000):p_ref01_Done (rdO r)=some (doneL r):=by
 unfold p_ref01_Done doneL
 rw [rbad_p,rleft_p r hs]
 simp only [Option.bind_some]
 by_cases h:faultL r=0
 ·have hl:leftL r=r.s.size - r.at_:=if_neg (by simpa using h)
  rw [show (faultL r == 0)=true by simpa using h,cond_true,if_neg (by simpa using h),hl]
  by_cases h2:r.at_ < (r.s.size:Int)
  ·rw [decide_eq_true (show (0:Int) < (r.s.size:Int) - r.at_ by omega),if_pos h2];rfl
  ·rw [decide_eq_false (show ¬ (0:Int) < (r.s.size:Int) - r.at_ by omega),if_neg h2,h];rfl
 ·rw [show (faultL r == 0)=false by simpa using h,if_pos h];rfl
theorem rkh_all:(List.range 256).all (fun k=>(p_ref10_known (k:Int) == some (knownN k)) && ((p_ref10_Has (k:Int)).map (·.data.toList) == some (hasN k)))=true:=by kernel_rfl
theorem rkh_p (k:UInt8):p_ref10_known (k.toNat:Int)=some (knownN k.toNat)∧p_ref10_Has (k.toNat:Int)=some (ba (hasN k.toNat)):=by
 have:=List.all_eq_true.1 rkh_all k.toNat (List.mem_range.2 k.toNat_lt)
 simp only [Bool.and_eq_true,beq_iff_eq] at this
 refine ⟨this.1,?_⟩
 cases h:p_ref10_Has (k.toNat:Int) with
 | none=>rw [h] at this;cases this.2
 | some b=>rw [h] at this;have:=Option.some.inj this.2;rw [← this,ba_of]
theorem of_to (s:StzD):stzOf (stzTo s)=s:=by
 unfold stzOf stzTo
 simp only [Int.toNat_natCast,UInt8.ofNat_toNat]
theorem rcheck_s (s:StzD) (hu:s.user.size≤100000) (hr:s.res.size≤100000) (hn:s.name.size≤100000):p_ref10_Check (stzTo s)=some (checkS s):=by
 have hk:=s.kind.toNat_lt
 unfold p_ref10_Check
 rw [if_pos ⟨by show 0≤(s.kind.toNat:Int)∧(s.kind.toNat:Int)≤255;omega,hu,hr,hn⟩,of_to]
theorem rread_l (L:List UInt8) (hL:∀ c ∈ L,letterS c) (hn:L.length≤1000):∀ (n k F:Nat) (x:RdD × StzD),k + n=L.length→n < F→x.1.s.size≤100000→p_ref10_Read_l1 (ba L) F (k:Int) (stzTo x.2) (rdO x.1)=some ((L.length:Int),stzTo ((L.drop k).foldl readF x).2,rdO ((L.drop k).foldl readF x).1)
 | 0,k,F + 1,x,hk,hF,hs=>by
  rw [p_ref10_Read_l1,ba_size,lt_ff (by omega),show k=L.length by omega,List.drop_length];rfl
 | n + 1,k,F + 1,x,hk,hF,hs=>by
  have hlt:k < L.length:=by omega
  have hc:=hL _ (List.getElem_mem hlt)
  have bt:byte? (ba L) (k:Int)=some ((L[k]).toNat:Int):=by
   rw [byte_at (by rw [ba_size];exact hlt),← bl_get (ba L) k (by rw [ba_size];exact hlt)]
   simp only [ba_list]
  have nx:=rread_l L hL hn n (k + 1) F (readF x L[k]) (by omega) (by omega) (by rw [(readF_s x _).1];exact hs)
  have e1:=rnum_p x.1 1 (.inl rfl) hs
  have e1' : p_ref01_Num (rdO x.1) (1:Int)=_:=e1
  have e6:=rnum_p x.1 6 (.inr rfl) hs
  have e6' : p_ref01_Num (rdO x.1) (6:Int)=_:=e6
  have r1:=num_range x.1 1 (by omega)
  rw [p_ref10_Read_l1,ba_size,lt_tt hlt,cond_true,bt,Option.bind_some,w64_succ (by omega),drop_at hlt,List.foldl_cons]
  generalize hcc:L[k]=c at *
  obtain ⟨r,s⟩:=x
  simp only at r1 e1' e6' hs
  rcases hc with rfl | rfl | rfl | rfl | rfl | rfl | rfl
  ·rw [rf117] at nx ⊢
   simp only [rtext_p r 33 hs]
   exact nx
  ·rw [rf114] at nx ⊢
   simp only [rtext_p r 12 hs]
   exact nx
  ·rw [rf109] at nx ⊢
   simp only [rtext_p r 24 hs]
   exact nx
  ·rw [rf115] at nx ⊢
   simp only [e1',Int.sub_zero] at nx ⊢
   exact nx
  ·rw [rf112] at nx ⊢
   simp only [e1'] at nx ⊢
   refine Eq.trans ?_ nx
   show p_ref10_Read_l1 (ba L) F _ (StanzaStanza.mk _ _ _ _ _ (w64 ((numL r 1).2 - 128)) _ _) _=_
   rw [w64_id (show -9223372036854775808≤(numL r 1).2 - 128∧(numL r 1).2 - 128≤9223372036854775807 by omega)]
   rfl
  ·rw [rf99] at nx ⊢
   simp only [e1',Int.sub_zero] at nx ⊢
   exact nx
  ·rw [rf110] at nx ⊢
   simp only [e6',Int.sub_zero] at nx ⊢
   exact nx
theorem rread_p (b:ByteArray) (hb:b.size≤100000):p_ref10_Read b=some (stzTo (readL b.data.toList).1,(readL b.data.toList).2):=by
 have hbl:=bl_len b
 unfold p_ref10_Read
 match hL:b.data.toList with
 | [] =>
  have e:b=⟨#[]⟩:=by rw [← ba_of b,hL];rfl
  have e2:((⟨#[]⟩ : ByteArray).toList == (⟨#[]⟩ : ByteArray).toList)=true:=eqT_refl _
  rw [e,e2];rfl
 | k :: rest =>
  rw [hL] at hbl
  have hr:b.size=rest.length + 1:=by simp at hbl;omega
  have e1:(b.toList == (⟨#[]⟩ : ByteArray).toList)=false:=by
   rw [Bool.eq_false_iff]
   intro g
   have g2:=eqT_iff.1 g
   rw [g2] at hr
   have:(⟨#[]⟩ : ByteArray).size=0:=rfl
   omega
  have b0:byte? b (0:Int)=some (k.toNat:Int):=by
   have:=byte_at (s:=b) (k:=0) (by omega)
   rw [show ((0:Nat):Int)=0 from rfl] at this
   rw [this,← bl_get b 0 (by omega)];simp only [hL,List.getElem_cons_zero]
  have s1:sub? b (some (1:Int)) none=some (ba rest):=by
   have:=sub_from (s:=b) (i:=1) (by omega)
   rw [hL] at this;exact this
  obtain ⟨hk,hh⟩:=rkh_p k
  rw [e1,cond_false,b0,Option.bind_some,hk,Option.bind_some]
  cases hkn:knownN k.toNat with
  | false=>rw [readL_u hkn];rfl
  | true =>
   have hrs:(ba rest).size≤100000:=by rw [ba_size];omega
   have hlen:(hasN k.toNat).length≤1000:=by have:=hasN_len k.toNat;omega
   have hloop:=rread_l (hasN k.toNat) (letters k.toNat) hlen (hasN k.toNat).length 0 fuel (⟨ba rest,0,0⟩,kS k) (by omega) (by have:=fuel_pos;omega) hrs
   rw [List.drop_zero] at hloop
   have hF:(hasN k.toNat).foldl readF (⟨ba rest,0,0⟩,kS k)=foldR k rest:=rfl
   rw [hF] at hloop
   have hloop' : p_ref10_Read_l1 (ba (hasN k.toNat)) fuel (0:Int) (StanzaStanza.mk (k.toNat:Int) (⟨#[]⟩ : ByteArray) (⟨#[]⟩ : ByteArray) (⟨#[]⟩ : ByteArray) (0:Int) (0:Int) (0:Int) (0:Int)) (OctetRead.mk (ba rest) 0 0)=_:=hloop
   have hsz:=fold_sz 100000 (hasN k.toNat) (⟨ba rest,0,0⟩,kS k) hrs ⟨Nat.zero_le _,Nat.zero_le _,Nat.zero_le _⟩
   rw [hF] at hsz
   have hfs:=(fold_s (hasN k.toNat) (⟨ba rest,0,0⟩,kS k)).1
   rw [hF] at hfs
   have hd:=rdone_p (foldR k rest).1 (by rw [hfs];exact hrs)
   have hck:=rcheck_s (foldR k rest).2 hsz.1 hsz.2.1 hsz.2.2
   unfold p_ref01_Open
   simp only [cond_true,s1,hh,Option.bind_some]
   rw [hloop']
   simp only [Option.bind_some,hd]
   by_cases h2:doneL (foldR k rest).1=0
   ·rw [show (doneL (foldR k rest).1 == 0)=true by simpa using h2,cond_true,hck,Option.bind_some]
    by_cases h3:checkS (foldR k rest).2=0
    ·rw [show (checkS (foldR k rest).2 != 0)=false by simpa using h3,readL_o hkn h2 h3];rfl
    ·rw [show (checkS (foldR k rest).2 != 0)=true by simpa using h3,readL_c hkn h2 h3];rfl
   ·rw [show (doneL (foldR k rest).1 == 0)=false by simpa using h2,show (doneL (foldR k rest).1 != 0)=true by simpa using h2,readL_d hkn h2];rfl
end Go.Proofs.YtmmmcpeickfolaaGreat

namespace Go.Proofs.YtmmmcpeickfolaaGreat
open Go.RowKit
theorem rcheck12 (st:DeframeState) (h:st.Buf.size≤100000):p_ref12_Check st=p_deframe_Check st∧∃ e,p_deframe_Check st=some e∧(e=0→st.Bad=0→getR st.Buf.data.toList=.cut∧0≤st.Seen):=by
 unfold p_ref12_Check p_deframe_Check
 rw [rget_p st.Buf h,get_p st.Buf h]
 simp only [Option.bind_some]
 have hc:((outG (getR st.Buf.data.toList)).2.2 != 3)=false→getR st.Buf.data.toList=.cut:=fun hh=>by
  cases hg:getR st.Buf.data.toList with
  | cut=>rfl
  | bad e =>
   rw [hg] at hh
   have:e=3:=by simpa [outG] using hh
   exfalso
   unfold getR at hg
   split at hg
   ·split at hg
    ·simp only [GR.bad.injEq] at hg;omega
    split at hg
    ·simp only [GR.bad.injEq] at hg;omega
    split at hg <;> cases hg
   ·cases hg
  | ok t r=>rw [hg] at hh;cases hh
 by_cases hb:st.Bad=0
 ·rw [show (st.Bad != 0)=false by simpa using hb]
  simp only [cond_false]
  cases hq:((outG (getR st.Buf.data.toList)).2.2 != 3) with
  | true=>exact ⟨trivial,5,rfl,fun e=>(by cases e)⟩
  | false =>
   simp only [cond_false]
   by_cases hs:st.Seen < 0
   ·rw [decide_eq_true hs];exact ⟨trivial,8,rfl,fun e=>(by cases e)⟩
   ·rw [decide_eq_false hs];exact ⟨trivial,0,rfl,fun _ _=>⟨hc hq,by omega⟩⟩
 ·rw [show (st.Bad != 0)=true by simpa using hb]
  simp only [cond_true]
  cases (st.Buf.toList == (⟨#[]⟩ : ByteArray).toList) with
  | false=>exact ⟨trivial,4,rfl,fun e=>(by cases e)⟩
  | true =>
   simp only [cond_true]
   cases ((outG (getR st.Buf.data.toList)).2.2 != 3) with
   | true=>exact ⟨trivial,5,rfl,fun e=>(by cases e)⟩
   | false =>
    simp only [cond_false]
    by_cases hs:st.Seen < 0
    ·rw [decide_eq_true hs];exact ⟨trivial,8,rfl,fun e=>(by cases e)⟩
    ·rw [decide_eq_false hs];exact ⟨trivial,0,rfl,fun _ g=>absurd g hb⟩
theorem need_p (st:DeframeState) (h:st.Buf.size≤100000):∃ n,p_deframe_Need st=some n∧p_ref12_Need st=some n:=by
 obtain ⟨h1,e,h2,_⟩:=rcheck12 st h
 unfold p_deframe_Need p_deframe_State_deaf p_ref12_Need
 rw [h1,h2]
 simp only [Option.bind_some]
 cases (st.Bad != 0) with
 | true=>exact ⟨0,rfl,rfl⟩
 | false =>
  simp only [cond_false,Option.bind_some]
  cases (e != 0) with
  | true=>exact ⟨0,rfl,rfl⟩
  | false =>
   simp only [cond_false]
   by_cases hl:st.Buf.size < 2
   ·rw [decide_eq_true (show (st.Buf.size:Int) < 2 by omega),decide_eq_false (show ¬ (2:Int)≤(st.Buf.size:Int) by omega)]
    exact ⟨_,rfl,rfl⟩
   ·rw [decide_eq_false (show ¬ (st.Buf.size:Int) < 2 by omega),decide_eq_true (show (2:Int)≤(st.Buf.size:Int) by omega)]
    have b0:=byte_at (s:=st.Buf) (k:=0) (by omega)
    have b1:=byte_at (s:=st.Buf) (k:=1) (by omega)
    rw [show ((0:Nat):Int)=0 from rfl] at b0
    rw [show ((1:Nat):Int)=1 from rfl] at b1
    rw [b0,b1]
    simp only [Option.bind_some,cond_true,cond_false]
    generalize st.Buf[0]=a
    generalize st.Buf[1]=b
    have ha:=a.toNat_lt
    have hb:=b.toNat_lt
    have s0:=shl_n a.toNat (by omega)
    have o0:=or_n a.toNat b (by omega)
    refine ⟨_,rfl,?_⟩
    rw [w64_id (r:=(a.toNat:Int)) (by omega),w64_id (r:=(b.toNat:Int)) (by omega),s0,o0,w64_id (r:=256 * _) (by omega),w64_id (r:=2 + 256 * _) (by omega),w64_id (r:=2 + 256 * _ + _) (by omega),w64_id (r:=2 + _) (by omega)]
    congr 2
    omega
theorem run_cnt {l:List UInt8} (h:getR l=.cut) (m:List UInt8):(run (l++m)).1.length≤m.length:=by
 cases hg:getR (l++m) with
 | cut=>rw [run_cut hg];simp
 | bad e=>rw [run_bad hg];simp
 | ok t r =>
  obtain ⟨a,b,he,h0,h1,h2⟩:=getR_ok hg
  have hr:r.length < m.length:=by
   rcases Nat.lt_or_ge r.length m.length with q | q
   ·exact q
   ·exfalso
    have hlen:=congrArg List.length he
    simp only [List.length_append,List.length_cons] at hlen
    clear hg
    match l,h,he,hlen with
    | [],_,_,hlen=>simp at hlen;omega
    | [x],_,_,hlen=>simp at hlen;omega
    | x :: y :: q',h,he,hlen =>
     simp only [List.cons_append,List.cons.injEq] at he
     obtain ⟨rfl,rfl,_⟩:=he
     rw [getR] at h
     simp only [List.length_cons] at hlen
     rw [if_neg (by omega),if_neg (by omega),if_neg (by omega)] at h
     cases h
  obtain ⟨_,_,k3,_⟩:=run_end (r.length + 1) r (by omega)
  rw [run_ok hg]
  show (run r).1.length + 1≤_
  omega
theorem rtexts_l (b:ByteArray) (hb:b.size≤50000):∀ (m F:Nat) (l:List UInt8) (acc:List ByteArray) (k:Nat) (st:DeframeState),l.length < m→m≤F→(run l).1.length + k≤b.size→l.length≤100000→acc.length + l.length≤100000 →
  p_ref12_Texts_l1 b F (ba l) acc (k:Int) st=if (run l).2.2=0 then some (.inl (ba (run l).2.1,acc++(run l).1.map ba,((k + (run l).1.length:Nat):Int),DeframeState.mk st.Buf st.Bad (seenK st.Seen (run l).1.length))) else some (.inr (DeframeState.mk (⟨#[]⟩ : ByteArray) (run l).2.2 (seenK st.Seen (run l).1.length),acc++(run l).1.map ba))
 | m + 1,F + 1,l,acc,k,st,h1,h2,h3,h4,h5=>by
  have hg0:=rget_p (ba l) (by rw [ba_size];exact h4)
  rw [ba_list] at hg0
  rw [p_ref12_Texts_l1,decide_eq_true (show (k:Int)≤(b.size:Int) by omega),cond_true,hg0,Option.bind_some]
  cases hg:getR l with
  | cut=>rw [run_cut hg,if_pos rfl];simp [outG,seenK]
  | bad e =>
   have he:=getR_bad hg
   have h33:e≠3:=by
    intro h33
    unfold getR at hg
    split at hg
    ·split at hg
     ·simp only [GR.bad.injEq] at hg;omega
     split at hg
     ·simp only [GR.bad.injEq] at hg;omega
     split at hg <;> cases hg
    ·cases hg
   rw [run_bad hg,if_neg he]
   simp only [outG]
   rw [show (e == 3)=false by simpa using h33,show (e != 0)=true by simpa using he]
   simp [seenK]
  | ok t r =>
   obtain ⟨a,c,e,h6,h7,h8⟩:=getR_ok hg
   have hlt:=getR_lt hg
   have hrun:=run_ok hg
   rw [hrun] at h3
   simp only [List.length_cons] at h3
   rw [hrun]
   simp only [outG]
   rw [show ((0:Int) == 3)=false from rfl,show ((0:Int) != 0)=false from rfl,cond_false,cond_false,app_ok (by simp;omega),Option.bind_some]
   have hd:l.drop (2 + t.length)=r:=by
    rw [e,show 2 + t.length=t.length + 1 + 1 by omega]
    show (t++r).drop t.length=r
    exact List.drop_left' rfl
   rw [sub_from (by rw [ba_size,e];simp;omega),Option.bind_some,ba_list,hd,w64_succ (by omega)]
   rw [rtexts_l b hb m F r (acc++[ba t]) (k + 1) (DeframeState.mk st.Buf st.Bad (w64 (st.Seen + 1))) (by omega) (by omega) (by omega) (by omega) (by simp;omega)]
   simp only [List.length_cons,List.map_cons,seenK,List.append_assoc,List.singleton_append]
   rw [show k + 1 + (run r).1.length=k + ((run r).1.length + 1) by omega]
theorem rtexts_p (st:DeframeState) (s:ByteArray) (h:st.Buf.size≤40000) (hs:s.size≤40000):∃ x,p_deframe_Texts st s=some x∧p_ref12_Texts st s=some x∧((x=(st,[]) )∨∃ l:List UInt8,l.length≤80000∧x=(DeframeState.mk (ba (run l).2.1) (run l).2.2 (seenK st.Seen (run l).1.length),(run l).1.map ba)):=by
 obtain ⟨h1,e,h2,h3⟩:=rcheck12 st (by omega)
 have hbl:=bl_len st.Buf
 have hsl:=bl_len s
 by_cases hb:st.Bad=0
 ·by_cases he:e=0
  ·obtain ⟨h4,h5⟩:=h3 he hb
   obtain ⟨buf,bad,seen⟩:=st
   simp only at hb h4 h5 h hbl
   subst hb
   subst he
   have hg:Good buf.data.toList 0 seen:=⟨h5,by omega,.inl ⟨rfl,h4⟩⟩
   have t1:=texts_good hg s (by omega)
   rw [ba_of] at t1
   have hc:cat? buf s=some (ba (buf.data.toList++s.data.toList)):=by
    unfold cat?
    rw [if_pos (by omega),← ba_app,ba_of,ba_of]
   have t2:=rtexts_l s (by omega) ((buf.data.toList++s.data.toList).length + 1) fuel (buf.data.toList++s.data.toList) [] 0 (DeframeState.mk buf 0 seen) (by omega) (by have:=fuel_pos;rw [List.length_append];omega) (by have:=run_cnt h4 s.data.toList;omega) (by rw [List.length_append];omega) (by rw [List.length_append];simp;omega)
   have t2' : p_ref12_Texts_l1 s fuel (ba (buf.data.toList++s.data.toList)) [] (0:Int) (DeframeState.mk buf 0 seen)=_:=t2
   refine ⟨_,t1,?_,.inr ⟨buf.data.toList++s.data.toList,by rw [List.length_append];omega,rfl⟩⟩
   unfold p_ref12_Texts
   rw [h1,h2]
   simp only [bne_self_eq_false,cond_false,Option.bind_some,hc]
   rw [t2']
   obtain ⟨k1,_⟩:=run_end ((buf.data.toList++s.data.toList).length + 1) (buf.data.toList++s.data.toList) (by omega)
   by_cases hz:(run (buf.data.toList++s.data.toList)).2.2=0
   ·rw [if_pos hz,hz];rfl
   ·rw [if_neg hz]
    rcases k1 with ⟨k1,_⟩ | ⟨_,k1⟩
    ·exact absurd k1 hz
    ·rw [k1];rfl
  ·refine ⟨_,?_,?_,.inl rfl⟩
   ·unfold p_deframe_Texts p_deframe_State_deaf
    rw [h2,show (st.Bad != 0)=false by simpa using hb]
    simp only [cond_false,Option.bind_some]
    rw [show (e != 0)=true by simpa using he];rfl
   ·unfold p_ref12_Texts
    rw [h1,h2,show (st.Bad != 0)=false by simpa using hb]
    simp only [cond_false,Option.bind_some]
    rw [show (e != 0)=true by simpa using he];rfl
 ·refine ⟨_,?_,?_,.inl rfl⟩
  ·unfold p_deframe_Texts p_deframe_State_deaf
   rw [show (st.Bad != 0)=true by simpa using hb];rfl
  ·unfold p_ref12_Texts
   rw [show (st.Bad != 0)=true by simpa using hb];rfl
theorem ritems_l (ts:List (List UInt8)) (hn:ts.length≤100000) (ht:∀ t ∈ ts,t.length≤100000):∀ (n k F:Nat) (acc:List DeframeItem),k + n=ts.length→n < F→acc.length≤k→p_ref12_Feed_l1 (ts.map ba) F acc (k:Int)=some (acc++(ts.drop k).map itemR,((ts.map ba).length:Int))
 | 0,k,F + 1,acc,hk,hF,ha=>by
  rw [p_ref12_Feed_l1,lt_ff (by rw [List.length_map];omega),show k=(ts.map ba).length by rw [List.length_map];omega,List.drop_of_length_le (by rw [List.length_map];exact Nat.le_refl _)];simp
 | n + 1,k,F + 1,acc,hk,hF,ha=>by
  have hlt:k < ts.length:=by omega
  have hlt2:k < (ts.map ba).length:=by rw [List.length_map];exact hlt
  have hr:=rread_p (ba ts[k]) (by rw [ba_size];exact ht _ (List.getElem_mem hlt))
  rw [ba_list] at hr
  rw [p_ref12_Feed_l1,lt_tt hlt2,cond_true,at_lt hlt2,Option.bind_some,List.getElem_map,hr,Option.bind_some,app_ok (by simp;omega),Option.bind_some,w64_succ (by omega),ritems_l ts hn ht n (k + 1) F _ (by omega) (by omega) (by simp;omega),drop_at hlt,List.map_cons,List.append_assoc]
  rfl
theorem rfeed_p (st:DeframeState) (s:ByteArray) (h:st.Buf.size≤40000) (hs:s.size≤40000):∃ x,p_deframe_Feed st s=some x∧p_ref12_Feed st s=some x∧x.1.Buf.size≤80000∧x.2.length≤80000:=by
 obtain ⟨x,h1,h2,h3⟩:=rtexts_p st s h hs
 unfold p_deframe_Feed p_ref12_Feed
 rw [h1,h2]
 simp only [Option.bind_some]
 rcases h3 with rfl | ⟨l,hl,rfl⟩
 ·have e1:p_deframe_items []=some []:=items_p [] (by simp) (fun t ht=>by cases ht)
  have e2:p_ref12_Feed_l1 [] fuel [] (0:Int)=some ([],0):=ritems_l [] (by simp) (fun t ht=>by cases ht) 0 0 fuel [] rfl (by have:=fuel_pos;omega) (Nat.zero_le _)
  exact ⟨(st,[]),by rw [e1];rfl,by rw [e2];rfl,by show st.Buf.size≤_;omega,Nat.zero_le _⟩
 ·obtain ⟨_,k2,k3,k4⟩:=run_end (l.length + 1) l (by omega)
  have e1:=items_p (run l).1 (by omega) (fun t ht=>by have:=k4 t ht;omega)
  have e2:=ritems_l (run l).1 (by omega) (fun t ht=>by have:=k4 t ht;omega) (run l).1.length 0 fuel [] (by omega) (by have:=fuel_pos;omega) (Nat.zero_le _)
  rw [List.drop_zero,List.nil_append] at e2
  have e2' : p_ref12_Feed_l1 ((run l).1.map ba) fuel [] (0:Int)=_:=e2
  refine ⟨(DeframeState.mk (ba (run l).2.1) (run l).2.2 (seenK st.Seen (run l).1.length),(run l).1.map itemR),by rw [e1];rfl,by rw [e2'];rfl,by show (ba (run l).2.1).size≤_;rw [ba_size];omega,by show ((run l).1.map itemR).length≤_;rw [List.length_map];omega⟩
theorem stexts_l (z:List ByteArray) (hn:z.length≤100000):∀ (n k F:Nat),k + n=z.length→n < F→p_ref01_SameTexts_l1 z z F (k:Int)=some (.inr (z.length:Int))
 | 0,k,F + 1,hk,hF=>by
  rw [p_ref01_SameTexts_l1,lt_ff (by omega),show k=z.length by omega];rfl
 | n + 1,k,F + 1,hk,hF=>by
  have hlt:k < z.length:=by omega
  rw [p_ref01_SameTexts_l1,lt_tt hlt,cond_true,at_lt hlt]
  simp only [Option.bind_some,eqT_refl,cond_true]
  rw [w64_succ (by omega),stexts_l z hn n (k + 1) F (by omega) (by omega)]
theorem stexts_p (z:List ByteArray) (hn:z.length≤100000):p_ref01_SameTexts z z=some true:=by
 unfold p_ref01_SameTexts
 rw [bne_self_eq_false,cond_false]
 have e:p_ref01_SameTexts_l1 z z fuel (0:Int)=_:=stexts_l z hn z.length 0 fuel (by omega) (by have:=fuel_pos;omega)
 rw [e];rfl
theorem deframeFeeds_pure (haw:p_law12_awake=some true) (st:DeframeState) (b:ByteArray):p_law12_DeframeFeeds st b=some true:=by
 unfold p_law12_DeframeFeeds
 by_cases h1:(300:Int) < (st.Buf.size:Int)
 ·rw [decide_eq_true h1,haw];rfl
 rw [decide_eq_false h1,cond_false]
 by_cases h2:(300:Int) < (b.size:Int)
 ·rw [decide_eq_true h2,haw];rfl
 rw [decide_eq_false h2,cond_false]
 obtain ⟨x,f1,f2,f3,f4⟩:=rfeed_p st b (by omega) (by omega)
 obtain ⟨y,t1,t2,t3⟩:=rtexts_p st b (by omega) (by omega)
 obtain ⟨c1,e,c2,_⟩:=rcheck12 st (by omega)
 obtain ⟨n1,m1,m2⟩:=need_p st (by omega)
 obtain ⟨n2,m3,m4⟩:=need_p x.1 (by omega)
 have hy:y.2.length≤100000:=by
  rcases t3 with rfl | ⟨l,hl,rfl⟩
  ·exact Nat.zero_le _
  ·obtain ⟨_,_,k3,_⟩:=run_end (l.length + 1) l (by omega)
   show ((run l).1.map ba).length≤_
   rw [List.length_map];omega
 unfold p_law12_back
 rw [c1]
 simp only [f1,f2,t1,t2,c2,m1,m2,m3,m4,Option.bind_some,eqT_refl,beq_self_eq_true,Bool.and_self,cond_true,citems_p x.2 (by omega),sitems_p x.2 (by omega),stexts_p y.2 hy,haw]
end Go.Proofs.YtmmmcpeickfolaaGreat

namespace Go.Proofs.YtmmmcpeickfolaaGreat
open Go.RowKit
structure Fine (x:StanzaStanza):Prop where
 kind:0≤x.Kind∧x.Kind≤255
 user:x.User.size≤100
 res:x.Res.size≤100
 name:x.Name.size≤100
end Go.Proofs.YtmmmcpeickfolaaGreat

namespace Go.Proofs.YtmmmcpeickfolaaGreat
open Go.RowKit
abbrev toI (l:List UInt8):List Int:=l.map fun b=>(b.toNat:Int)
end Go.Proofs.YtmmmcpeickfolaaGreat

