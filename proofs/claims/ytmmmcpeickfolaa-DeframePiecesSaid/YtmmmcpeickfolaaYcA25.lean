/- A part of the proof: 6 texts joined. -/
import Derived.Test.YtmmmcpeickfolaaYcA24
import Derived.Test.YtmmmcpeickfolaaYcA22
import Derived.Test.YtmmmcpeickfolaaYcA13
import Derived.KernelRfl
set_option linter.all false
namespace Go.Proofs.Ytmmmcpeickfolaa
open Go.RowKit
def seenK:Int→Nat→Int
 | s,0=>s
 | s,k + 1=>seenK (w64 (s + 1)) k
theorem seenK_id:∀ (k:Nat) (s:Int),0≤s→s + k≤1000000→seenK s k=s + k
 | 0,s,_,_=>by simp [seenK]
 | k + 1,s,h,h2=>by
  rw [seenK,w64_id (by omega),seenK_id k (s + 1) (by omega) (by omega)];omega
theorem getS (l:List UInt8) (h:l.length≤100000):p_frame_Get (ba l)=some (outG (getR l)):=by
 have:=get_p (ba l) (by rw [ba_size];exact h)
 rwa [ba_list] at this
structure Good (buf:List UInt8) (bad seen:Int):Prop where
 seen:0≤seen
 len:buf.length≤50000
 out:bad=0∧getR buf=.cut∨bad≠0∧buf=[]
theorem check_good {buf:List UInt8} {bad seen:Int} (h:Good buf bad seen):p_deframe_Check (DeframeState.mk (ba buf) bad seen)=some 0:=by
 have hl:=h.len
 unfold p_deframe_Check
 rw [decide_eq_false (show ¬ seen < 0 by have:=h.seen;omega)]
 rcases h.out with ⟨rfl,hg⟩ | ⟨hb,rfl⟩
 ·rw [getS buf (by omega),hg];rfl
 ·have e:((ba []).toList == (⟨#[]⟩ : ByteArray).toList)=true:=eqT_refl _
  rw [show (bad != 0)=true by simpa using hb,cond_true,getS [] (by simp)]
  simp only [e,cond_true]
  rfl
theorem deaf_good {buf:List UInt8} {bad seen:Int} (h:Good buf bad seen):p_deframe_State_deaf (DeframeState.mk (ba buf) bad seen)=some (bad != 0):=by
 unfold p_deframe_State_deaf
 rw [check_good h]
 cases (bad != 0) <;> rfl
theorem texts_l:∀ (n:Nat) (l:List UInt8) (F:Nat) (acc:List ByteArray) (seen:Int),l.length < n→n≤F→l.length≤100000→acc.length + l.length≤100000 →
  p_deframe_Texts_l1 F acc (DeframeState.mk (ba l) 0 seen)=some (DeframeState.mk (ba (run l).2.1) (run l).2.2 (seenK seen (run l).1.length),acc++(run l).1.map ba)
 | n + 1,l,F + 1,acc,seen,h1,h2,h3,h4=>by
  rw [p_deframe_Texts_l1]
  show (p_frame_Get (ba l)).bind _=_
  rw [getS l h3,Option.bind_some]
  cases hg:getR l with
  | cut =>
   rw [run_cut hg]
   show some _=some _
   simp [seenK]
  | bad e =>
   have he:=getR_bad hg
   rw [run_bad hg]
   by_cases h33:e=3
   ·exfalso
    unfold getR at hg
    split at hg
    ·split at hg
     ·simp only [GR.bad.injEq] at hg;omega
     split at hg
     ·simp only [GR.bad.injEq] at hg;omega
     split at hg <;> cases hg
    ·cases hg
   ·show (bif (e == (3:Int)) then _ else bif (e != (0:Int)) then some (DeframeState.mk (⟨#[]⟩ : ByteArray) e seen,acc) else _)=_
    rw [show (e == 3)=false by simpa using h33,show (e != 0)=true by simpa using he]
    show some _=some _
    simp [seenK];rfl
  | ok t r =>
   obtain ⟨a,b,e,h5,h6,h7⟩:=getR_ok hg
   have hlt:=getR_lt hg
   rw [run_ok hg]
   show (app? acc [ba t]).bind _=_
   rw [app_ok (by simp;omega),Option.bind_some]
   show (sub? (ba l) (some ((2 + t.length:Nat):Int)) none).bind _=_
   rw [sub_from (by rw [ba_size,e];simp;omega),Option.bind_some,ba_list]
   have hd:l.drop (2 + t.length)=r:=by
    rw [e,show 2 + t.length=t.length + 1 + 1 by omega]
    show (t++r).drop t.length=r
    exact List.drop_left' rfl
   rw [hd]
   have:=texts_l n r F (acc++[ba t]) (w64 (seen + 1)) (by omega) (by omega) (by omega) (by simp;omega)
   show p_deframe_Texts_l1 F (acc++[ba t]) (DeframeState.mk (ba r) 0 (w64 (seen + 1)))=_
   rw [this]
   simp [seenK]
def itemR (t:List UInt8):DeframeItem:=DeframeItem.mk (stzTo (readL t).1) (readL t).2
theorem read_ba (t:List UInt8) (h:t.length≤100000):p_stanza_Read (ba t)=some (stzTo (readL t).1,(readL t).2):=by
 unfold p_stanza_Read
 rw [if_pos (by rw [ba_size];exact h),ba_list]
theorem items_l (ts:List (List UInt8)) (hn:ts.length≤100000) (ht:∀ t ∈ ts,t.length≤100000):∀ (n k F:Nat) (acc:List DeframeItem),k + n=ts.length→n < F→acc.length≤k→p_deframe_items_l1 (ts.map ba) ((ts.map ba).length:Int) F acc (k:Int)=some (acc++(ts.drop k).map itemR,((ts.map ba).length:Int))
 | 0,k,F + 1,acc,hk,hF,ha=>by
  rw [p_deframe_items_l1,lt_ff (by rw [List.length_map];omega),show k=(ts.map ba).length by rw [List.length_map];omega,List.drop_of_length_le (by rw [List.length_map];exact Nat.le_refl _)];simp
 | n + 1,k,F + 1,acc,hk,hF,ha=>by
  have hlt:k < ts.length:=by omega
  have hlt2:k < (ts.map ba).length:=by rw [List.length_map];exact hlt
  rw [p_deframe_items_l1,lt_tt hlt2,cond_true,at_lt hlt2,Option.bind_some,List.getElem_map,read_ba _ (ht _ (List.getElem_mem hlt)),Option.bind_some,app_ok (by simp;omega),Option.bind_some,w64_succ (by omega),items_l ts hn ht n (k + 1) F _ (by omega) (by omega) (by simp;omega),drop_at hlt,List.map_cons,List.append_assoc]
  rfl
theorem items_p (ts:List (List UInt8)) (hn:ts.length≤100000) (ht:∀ t ∈ ts,t.length≤100000):p_deframe_items (ts.map ba)=some (ts.map itemR):=by
 unfold p_deframe_items
 have e:=items_l ts hn ht ts.length 0 fuel [] (by omega) (by have:=fuel_pos;omega) (Nat.zero_le _)
 rw [List.drop_zero,List.nil_append] at e
 have e' : p_deframe_items_l1 (ts.map ba) ((ts.map ba).length:Int) fuel [] (0:Int)=_:=e
 rw [e'];rfl
theorem texts_good {buf:List UInt8} {seen:Int} (h:Good buf 0 seen) (s:ByteArray) (hs:s.size≤50000):p_deframe_Texts (DeframeState.mk (ba buf) 0 seen) s=some (DeframeState.mk (ba (run (buf++s.data.toList)).2.1) (run (buf++s.data.toList)).2.2 (seenK seen (run (buf++s.data.toList)).1.length),(run (buf++s.data.toList)).1.map ba):=by
 have hl:=h.len
 have hsl:=bl_len s
 have hc:cat? (ba buf) s=some (ba (buf++s.data.toList)):=by
  unfold cat?
  rw [if_pos (by rw [ba_size];omega)]
  rw [← ba_app,ba_of]
 unfold p_deframe_Texts
 rw [deaf_good h]
 show (cat? (ba buf) s).bind _=_
 rw [hc,Option.bind_some]
 have:=texts_l ((buf++s.data.toList).length + 1) (buf++s.data.toList) fuel [] seen (by omega) (by have:=fuel_pos;rw [List.length_append];omega) (by rw [List.length_append];omega) (by rw [List.length_append];simp;omega)
 rw [List.nil_append] at this
 show (p_deframe_Texts_l1 fuel [] (DeframeState.mk (ba (buf++s.data.toList)) 0 seen)).bind _=_
 rw [this];rfl
theorem texts_bad {buf:List UInt8} {bad seen:Int} (h:Good buf bad seen) (hb:bad≠0) (s:ByteArray):p_deframe_Texts (DeframeState.mk (ba buf) bad seen) s=some (DeframeState.mk (ba buf) bad seen,[]):=by
 unfold p_deframe_Texts
 rw [deaf_good h,show (bad != 0)=true by simpa using hb];rfl
theorem feed_good {buf:List UInt8} {seen:Int} (h:Good buf 0 seen) (s:ByteArray) (hs:s.size≤50000):p_deframe_Feed (DeframeState.mk (ba buf) 0 seen) s=some (DeframeState.mk (ba (run (buf++s.data.toList)).2.1) (run (buf++s.data.toList)).2.2 (seenK seen (run (buf++s.data.toList)).1.length),(run (buf++s.data.toList)).1.map itemR):=by
 have hl:=h.len
 have hsl:=bl_len s
 obtain ⟨_,_,h3,h4⟩:=run_end ((buf++s.data.toList).length + 1) (buf++s.data.toList) (by omega)
 have hll:(buf++s.data.toList).length≤100000:=by rw [List.length_append];omega
 unfold p_deframe_Feed
 rw [texts_good h s hs,Option.bind_some]
 show (p_deframe_items ((run (buf++s.data.toList)).1.map ba)).bind _=_
 rw [items_p _ (by omega) (fun t ht=>by have:=h4 t ht;omega)];rfl
theorem feed_bad {buf:List UInt8} {bad seen:Int} (h:Good buf bad seen) (hb:bad≠0) (s:ByteArray):p_deframe_Feed (DeframeState.mk (ba buf) bad seen) s=some (DeframeState.mk (ba buf) bad seen,[]):=by
 unfold p_deframe_Feed
 rw [texts_bad h hb s,Option.bind_some];rfl
theorem run_good (l:List UInt8) (h:l.length≤50000):Good (run l).2.1 (run l).2.2 ((run l).1.length:Nat):=by
 obtain ⟨h1,h2,_,_⟩:=run_end (l.length + 1) l (by omega)
 exact ⟨by omega,by omega,h1⟩
theorem citems_l (z:List DeframeItem) (hn:z.length≤100000):∀ (n k F:Nat) (acc:List DeframeItem),k + n=z.length→n < F→acc.length=k→p_law12_Items_l1 z F acc (k:Int)=some (acc++z.drop k,(z.length:Int))
 | 0,k,F + 1,acc,hk,hF,ha=>by
  rw [p_law12_Items_l1,lt_ff (by omega),show k=z.length by omega,List.drop_length,List.append_nil];rfl
 | n + 1,k,F + 1,acc,hk,hF,ha=>by
  have hlt:k < z.length:=by omega
  rw [p_law12_Items_l1,lt_tt hlt,cond_true,at_lt hlt]
  simp only [Option.bind_some]
  rw [app_ok (by simp;omega),Option.bind_some,w64_succ (by omega),citems_l z hn n (k + 1) F _ (by omega) (by omega) (by simp;omega),drop_at hlt,List.append_assoc]
  rfl
theorem citems_p (z:List DeframeItem) (hn:z.length≤100000):p_law12_Items z=some z:=by
 unfold p_law12_Items
 have e:p_law12_Items_l1 z fuel [] (0:Int)=some (z,(z.length:Int)):=citems_l z hn z.length 0 fuel [] (by omega) (by have:=fuel_pos;omega) rfl
 rw [e];rfl
theorem sitems_l (z:List DeframeItem) (hn:z.length≤100000):∀ (n k F:Nat),k + n=z.length→n < F→p_ref12_SameItems_l1 z z F (k:Int)=some (.inr (z.length:Int))
 | 0,k,F + 1,hk,hF=>by
  rw [p_ref12_SameItems_l1,lt_ff (by omega),show k=z.length by omega];rfl
 | n + 1,k,F + 1,hk,hF=>by
  have hlt:k < z.length:=by omega
  rw [p_ref12_SameItems_l1,lt_tt hlt,cond_true,at_lt hlt]
  simp only [Option.bind_some,eqT_refl,beq_self_eq_true,Bool.and_self,Bool.and_true,cond_true]
  rw [w64_succ (by omega),sitems_l z hn n (k + 1) F (by omega) (by omega)]
theorem sitems_p (z:List DeframeItem) (hn:z.length≤100000):p_ref12_SameItems z z=some true:=by
 unfold p_ref12_SameItems
 rw [bne_self_eq_false,cond_false]
 have e:p_ref12_SameItems_l1 z z fuel (0:Int)=_:=sitems_l z hn z.length 0 fuel (by omega) (by have:=fuel_pos;omega)
 rw [e];rfl
end Go.Proofs.Ytmmmcpeickfolaa

namespace Go.Proofs.Ytmmmcpeickfolaa
open Go.RowKit
def stR (l:List UInt8):DeframeState:=DeframeState.mk (ba (run l).2.1) (run l).2.2 ((run l).1.length:Nat)
def itR (l:List UInt8):List DeframeItem:=(run l).1.map itemR
theorem feed_st (l:List UInt8) (s:ByteArray) (h:l.length + s.size≤50000):∃ m,p_deframe_Feed (stR l) s=some (stR (l++s.data.toList),m)∧itR (l++s.data.toList)=itR l++m∧(s.size=1→m.length≤1):=by
 have hg:=run_good l (by omega)
 have hsl:=bl_len s
 have ha:=run_app (l.length + 1) l s.data.toList (by omega)
 obtain ⟨h1,h2,h3,_⟩:=run_end (l.length + 1) l (by omega)
 by_cases h0:(run l).2.2=0
 ·rw [if_pos h0] at ha
  rw [h0] at hg
  obtain ⟨_,_,k3,_⟩:=run_end (((run l).2.1++s.data.toList).length + 1) ((run l).2.1++s.data.toList) (by omega)
  rw [List.length_append] at k3
  refine ⟨(run ((run l).2.1++s.data.toList)).1.map itemR,?_,?_,fun h11=>?_⟩
  ·unfold stR
   rw [h0,feed_good hg s (by omega),seenK_id _ _ (by omega) (by omega),ha]
   simp only [List.length_append]
   rfl
  ·unfold itR;rw [ha,List.map_append]
  ·rw [List.length_map]
   obtain ⟨c,hc⟩ : ∃ c,s.data.toList=[c]:=by
    match hL:s.data.toList with
    | []=>rw [hL] at hsl;simp at hsl;omega
    | [c]=>exact ⟨c,rfl⟩
    | a :: b :: r=>rw [hL] at hsl;simp at hsl;omega
   rw [hc]
   rcases h1 with ⟨_,hcut⟩ | ⟨hb,_⟩
   ·exact run_one hcut c
   ·exact absurd h0 hb
 ·rw [if_neg h0] at ha
  refine ⟨[],?_,?_,fun _=>Nat.zero_le _⟩
  ·unfold stR
   rw [feed_bad hg h0 s,ha]
  ·unfold itR;rw [ha,List.append_nil]
theorem st_nil:stR []=DeframeState.mk (⟨#[]⟩ : ByteArray) 0 0:=rfl
theorem pieces_l (b:ByteArray) (hb:b.size≤300):∀ (n k F:Nat),k + n=b.size→n < F→p_law12_DeframePieces_l1 b F (itR (b.data.toList.take k)) (k:Int) (stR (b.data.toList.take k))=some (.inr (itR b.data.toList,(b.size:Int),stR b.data.toList))
 | 0,k,F + 1,hk,hF=>by
  rw [p_law12_DeframePieces_l1,lt_ff (by omega),show k=b.size by omega,← bl_len,List.take_length];rfl
 | n + 1,k,F + 1,hk,hF=>by
  have hbl:=bl_len b
  have hlt:k < b.size:=by omega
  have hlt2:k < b.data.toList.length:=by omega
  have hs:sub? b (some (k:Int)) (some ((k + 1:Nat):Int))=some (ba [b.data.toList[k]]):=by
   rw [sub_p (by omega) (by omega),show k + 1 - k=1 by omega,drop_at hlt2];rfl
  have htl:(b.data.toList.take k).length=k:=by rw [List.length_take];omega
  obtain ⟨m,e1,e2,e3⟩:=feed_st (b.data.toList.take k) (ba [b.data.toList[k]]) (by rw [ba_size];simp;omega)
  have ht:b.data.toList.take k++(ba [b.data.toList[k]]).data.toList=b.data.toList.take (k + 1):=by rw [ba_list,List.take_succ_eq_append_getElem hlt2]
  rw [ht] at e1 e2
  have hm:=e3 (by rw [ba_size];rfl)
  have hc:=check_good (run_good (b.data.toList.take (k + 1)) (by rw [List.length_take];omega))
  have hc2:p_deframe_Check (stR (b.data.toList.take (k + 1)))=some 0:=hc
  have hil:(itR (b.data.toList.take (k + 1))).length≤300:=by
   unfold itR
   obtain ⟨_,_,k3,_⟩:=run_end ((b.data.toList.take (k + 1)).length + 1) (b.data.toList.take (k + 1)) (by omega)
   rw [List.length_take] at k3
   rw [List.length_map];omega
  have hap:app? (itR (b.data.toList.take k)) m=some (itR (b.data.toList.take (k + 1))):=by
   rw [app_ok (by rw [e2,List.length_append] at hil;omega),e2]
  rw [p_law12_DeframePieces_l1,lt_tt hlt,cond_true,w64_succ (by omega),hs,Option.bind_some,e1,Option.bind_some]
  simp only
  rw [show decide ((1:Int) < (m.length:Int))=false by simp;omega,cond_false,hc2,Option.bind_some,bne_self_eq_false,cond_false,hap,Option.bind_some]
  exact pieces_l b hb n (k + 1) F (by omega) (by omega)
theorem deframePieces_pure (haw:p_law12_awake=some true) (b:ByteArray) (c:Int) (hc:0≤c∧c≤255):p_law12_DeframePieces b c=some true:=by
 unfold p_law12_DeframePieces
 by_cases h:(300:Int) < (b.size:Int)
 ·rw [decide_eq_true h,haw];rfl
 rw [decide_eq_false h,cond_false]
 have hb:b.size≤300:=by omega
 have hbl:=bl_len b
 have w1:w64 ((b.size:Int) + 1)=((b.size + 1:Nat):Int):=w64_succ (by omega)
 have w2:w64 c=c:=w64_id (by omega)
 have n0:ne0? ((b.size + 1:Nat):Int)=some ():=by unfold ne0?;rw [if_pos (by omega)]
 obtain ⟨k,hk,ek⟩ : ∃ k:Nat,k≤b.size∧Int.tmod c ((b.size + 1:Nat):Int)=(k:Int):=by
  obtain ⟨q,rfl⟩ : ∃ q:Nat,c=q:=⟨c.toNat,by omega⟩
  exact ⟨q % (b.size + 1),by have:=Nat.mod_lt q (show 0 < b.size + 1 by omega);omega,rfl⟩
 rw [w1,w2,n0,ek,sub_to hk,sub_from hk]
 obtain ⟨m0,a1,a2,_⟩:=feed_st [] b (by simp;omega)
 obtain ⟨m1,b1,b2,_⟩:=feed_st [] (ba (b.data.toList.take k)) (by rw [ba_size,List.length_take];simp;omega)
 rw [ba_list,List.nil_append] at b1 b2
 rw [List.nil_append] at a1 a2
 obtain ⟨m2,c1,c2,_⟩:=feed_st (b.data.toList.take k) (ba (b.data.toList.drop k)) (by rw [ba_size,List.length_take,List.length_drop];omega)
 rw [ba_list,List.take_append_drop] at c1 c2
 rw [st_nil] at a1 b1
 have i0:itR []=[]:=rfl
 rw [i0,List.nil_append] at a2 b2
 have hl:=pieces_l b hb b.size 0 fuel (by omega) (by have:=fuel_pos;omega)
 rw [List.take_zero,i0,st_nil] at hl
 have hl' : p_law12_DeframePieces_l1 b fuel [] (0:Int) (DeframeState.mk (⟨#[]⟩ : ByteArray) 0 0)=_:=hl
 obtain ⟨_,_,k3,_⟩:=run_end (b.data.toList.length + 1) b.data.toList (by omega)
 have hil:(itR b.data.toList).length≤300:=by unfold itR;rw [List.length_map];omega
 have hml:m1.length + m2.length≤300:=by rw [c2,b2,List.length_append] at hil;omega
 simp only [Option.bind_some,a1,b1,c1,hl']
 rw [app_ok (by simp;omega),Option.bind_some,List.nil_append,app_ok (by omega),Option.bind_some]
 have e12:m1++m2=itR b.data.toList:=by rw [c2,b2]
 rw [e12,← a2]
 simp only [eqT_refl,beq_self_eq_true,Bool.and_self,Bool.and_true,cond_true,citems_p _ (show (itR b.data.toList).length≤100000 by omega),Option.bind_some,sitems_p _ (show (itR b.data.toList).length≤100000 by omega)]
 have hse:((stR b.data.toList).Seen == ((itR b.data.toList).length:Int))=true:=by
  unfold stR itR;rw [List.length_map];simp
 rw [hse,cond_true,haw];rfl
end Go.Proofs.Ytmmmcpeickfolaa

namespace Go.Proofs.Ytmmmcpeickfolaa
end Go.Proofs.Ytmmmcpeickfolaa

namespace Go.Proofs.Ytmmmcpeickfolaa
end Go.Proofs.Ytmmmcpeickfolaa

namespace Go.Proofs.Ytmmmcpeickfolaa
open Go.RowKit
structure Fine (x:StanzaStanza):Prop where
 kind:0≤x.Kind∧x.Kind≤255
 user:x.User.size≤100
 res:x.Res.size≤100
 name:x.Name.size≤100
end Go.Proofs.Ytmmmcpeickfolaa

namespace Go.Proofs.Ytmmmcpeickfolaa
open Go.RowKit
set_option maxRecDepth 100000
set_option maxHeartbeats 4000000
def gc9:BCode:=(.seq (R_ 1 [O_ 1 (.bx (t_ 0)) 0,O_ 2 (.mv (i_ 0)) 1]) (.seq (.seq (R_ 0 [O_ 6 (.fa 1 (t_ 1)) 0,O_ 7 (.ld 1 false (t_ 6)) 0,O_ 8 (.bin .neq (t_ 7) (i_ 0)) 0,O_ 9 (.mv (t_ 8)) 0,⟨(some 10),.fa 0 (t_ 1),(some (9,true)),0⟩,⟨(some 11),.ld 1 false (t_ 10),(some (9,true)),0⟩,⟨(some 12),.bin .neq (t_ 11) (.const (.string ⟨#[]⟩)),(some (9,true)),0⟩,O_ 13 (.pick (t_ 9) (t_ 12) (b_ false)) 0]) (.cond (t_ 13) (.seq (R_ 0 [O_ 2 (.mv (i_ 4)) 0]) .ret) .skip)) (.seq (.seq (R_ 0 [O_ 15 (.fa 0 (t_ 1)) 0,O_ 16 (.ld 1 false (t_ 15)) 0,O_ 17 (.cl 34 [(t_ 16)]) 0,O_ 14 (.mv (t_ 17)) 0,O_ 18 (.ex (t_ 14) 0) 0,O_ 19 (.ex (t_ 14) 1) 0,O_ 20 (.ex (t_ 14) 2) 0,O_ 3 (.mv (t_ 18)) 0,O_ 4 (.mv (t_ 19)) 0,O_ 5 (.mv (t_ 20)) 0]) (.seq (R_ 0 [O_ 21 (.mv (t_ 5)) 0,O_ 22 (.bin .neq (t_ 21) (i_ 3)) 0]) (.cond (t_ 22) (.seq (R_ 0 [O_ 2 (.mv (i_ 5)) 0]) .ret) .skip))) (.seq (.seq (R_ 0 [O_ 23 (.fa 2 (t_ 1)) 0,O_ 24 (.ld 1 false (t_ 23)) 0,O_ 25 (.bin .lss (t_ 24) (i_ 0)) 0]) (.cond (t_ 25) (.seq (R_ 0 [O_ 2 (.mv (i_ 8)) 0]) .ret) .skip)) (.seq (R_ 0 [O_ 2 (.mv (i_ 0)) 0]) .ret)))))
theorem gc9_ok:compF Try.prog Try.f9=some (gc9.er,26,[.tmp 2]):=by unfold gc9;kernel_rfl
theorem p_deframe_Check_v (a0:DeframeState):CallsO Try.prog 9 [.agg [.s a0.Buf,.i a0.Bad,.i a0.Seen]] V.i (p_deframe_Check a0):=by
 refine callsO_comp mix Try.func9 gc9_ok fun r H=>?_
 rw [p_deframe_Check] at H
 conv=>whnf
 refine tst_d H (fun b1 H=>?_) (fun b1 H=>?_)
 ·conv=>whnf
  iterate 4 (refine Tst.F ?_;conv=>whnf)
  refine ask_c (p_frame_Get_v _) H rfl rfl (fun v6 H=>?_);conv=>whnf
  refine tst_c H (fun b7 H=>?_) (fun b7 H=>?_)
  ·conv=>whnf
   exact fi_ H
  conv=>whnf
  refine tst_c H (fun b8 H=>?_) (fun b8 H=>?_)
  ·conv=>whnf
   exact fi_ H
  conv=>whnf
  exact fi_ H
 conv=>whnf
 iterate 3 (refine Tst.T ?_;conv=>whnf)
 refine Tst.not ?_
 refine tst_d H (fun b2 H=>?_) (fun b2 H=>?_)
 ·conv=>whnf
  exact fi_ H
 conv=>whnf
 refine ask_c (p_frame_Get_v _) H rfl rfl (fun v3 H=>?_);conv=>whnf
 refine tst_c H (fun b4 H=>?_) (fun b4 H=>?_)
 ·conv=>whnf
  exact fi_ H
 conv=>whnf
 refine tst_c H (fun b5 H=>?_) (fun b5 H=>?_)
 ·conv=>whnf
  exact fi_ H
 conv=>whnf
 exact fi_ H
def gc44:BCode:=(.seq (R_ 1 [O_ 1 (.bx (t_ 0)) 0,O_ 2 (.mv (b_ false)) 1]) (.seq (R_ 0 [O_ 3 (.fa 1 (t_ 1)) 0,O_ 4 (.ld 1 false (t_ 3)) 0,O_ 5 (.bin .neq (t_ 4) (i_ 0)) 0,O_ 6 (.mv (t_ 5)) 0,⟨(some 7),.ld 3 true (t_ 1),(some (6,false)),0⟩,⟨(some 8),.cl 9 [(t_ 7)],(some (6,false)),0⟩,⟨(some 9),.bin .neq (t_ 8) (i_ 0),(some (6,false)),0⟩,O_ 10 (.pick (t_ 6) (b_ true) (t_ 9)) 0,O_ 2 (.mv (t_ 10)) 0]) .ret))
theorem gc44_ok:compF Try.prog Try.f44=some (gc44.er,11,[.tmp 2]):=by unfold gc44;kernel_rfl
theorem p_deframe_State_deaf_v (a0:DeframeState):CallsO Try.prog 44 [.agg [.s a0.Buf,.i a0.Bad,.i a0.Seen]] V.b (p_deframe_State_deaf a0):=by
 refine callsO_comp mix Try.func44 gc44_ok fun r H=>?_
 rw [p_deframe_State_deaf] at H
 conv=>whnf
 refine tst_c H (fun b1 H=>?_) (fun b1 H=>?_)
 ·conv=>whnf
  iterate 3 (refine Tst.T ?_;conv=>whnf)
  exact fb_ H
 conv=>whnf
 refine Tst.F ?_;conv=>whnf
 refine ask_c (p_deframe_Check_v _) H rfl rfl (fun v2 H=>?_);conv=>whnf
 iterate 2 (refine Tst.F ?_;conv=>whnf)
 exact fb_ H
def gc32:BCode:=(.seq (R_ 2 [O_ 2 (.bx (t_ 0)) 0,O_ 4 (.al (.agg [(.lit (.string ⟨#[]⟩)),(.lit (.int .i64 0)),(.lit (.int .i64 0))])) 1,O_ 5 (.mv (.const (.slice none 0 0))) 2]) (.seq (.seq (R_ 0 [O_ 10 (.ld 3 true (t_ 2)) 0,O_ 11 (.cl 44 [(t_ 10)]) 0]) (.cond (t_ 11) (.seq (R_ 0 [O_ 12 (.ld 3 true (t_ 2)) 0,U_ (.st 3 (t_ 4) (t_ 12)) 0,O_ 5 (.mv (.const (.slice none 0 0))) 0]) .ret) .skip)) (.seq (R_ 0 [O_ 13 (.fa 0 (t_ 2)) 0,O_ 14 (.ld 1 false (t_ 13)) 0,O_ 15 (.mv (t_ 1)) 0,O_ 16 (.bin .add (t_ 14) (t_ 15)) 0,O_ 17 (.fa 0 (t_ 2)) 0,U_ (.st 1 (t_ 17) (t_ 16)) 0]) (.seq (R_ 0 [O_ 6 (.mv (.const (.slice none 0 0))) 0]) (.block 0 (.loop (.block 1 (.seq (R_ 0 [O_ 19 (.fa 0 (t_ 2)) 0,O_ 20 (.ld 1 false (t_ 19)) 0,O_ 21 (.cl 34 [(t_ 20)]) 0,O_ 18 (.mv (t_ 21)) 0,O_ 22 (.ex (t_ 18) 0) 0,O_ 23 (.ex (t_ 18) 1) 0,O_ 24 (.ex (t_ 18) 2) 0,O_ 7 (.mv (t_ 22)) 0,O_ 8 (.mv (t_ 23)) 0,O_ 9 (.mv (t_ 24)) 0]) (.seq (.seq (R_ 0 [O_ 25 (.mv (t_ 9)) 0,O_ 26 (.bin .eql (t_ 25) (i_ 3)) 0]) (.cond (t_ 26) (.seq (R_ 0 [O_ 27 (.ld 3 true (t_ 2)) 0,O_ 28 (.mv (t_ 6)) 0,U_ (.st 3 (t_ 4) (t_ 27)) 0,O_ 5 (.mv (t_ 28)) 0]) .ret) .skip)) (.seq (.seq (R_ 0 [O_ 29 (.mv (t_ 9)) 0,O_ 30 (.bin .neq (t_ 29) (i_ 0)) 0]) (.cond (t_ 30) (.seq (R_ 0 [O_ 31 (.mv (t_ 9)) 0,O_ 32 (.fa 0 (t_ 2)) 0,U_ (.st 1 (t_ 32) (.const (.string ⟨#[]⟩))) 0,O_ 33 (.fa 1 (t_ 2)) 0,U_ (.st 1 (t_ 33) (t_ 31)) 0]) (.seq (R_ 0 [O_ 34 (.ld 3 true (t_ 2)) 0,O_ 35 (.mv (t_ 6)) 0,U_ (.st 3 (t_ 4) (t_ 34)) 0,O_ 5 (.mv (t_ 35)) 0]) .ret)) .skip)) (.seq (R_ 2 [O_ 36 (.mv (t_ 6)) 0,O_ 37 (.mv (t_ 7)) 0,O_ 38 (.bs 1 1 [(.lit (.string ⟨#[]⟩))] [(0,(t_ 37))]) 0,O_ 39 (.ap 1 16 (t_ 36) (t_ 38)) 1,O_ 6 (.mv (t_ 39)) 2]) (.seq (R_ 0 [O_ 40 (.fa 0 (t_ 2)) 0,O_ 41 (.ld 1 false (t_ 40)) 0,O_ 42 (.mv (t_ 8)) 0,O_ 43 (.slt (t_ 41) (some (t_ 42)) none) 0,O_ 44 (.fa 0 (t_ 2)) 0,U_ (.st 1 (t_ 44) (t_ 43)) 0]) (R_ 0 [O_ 45 (.fa 2 (t_ 2)) 0,O_ 46 (.ld 1 false (t_ 45)) 0,O_ 47 (.bin .add (t_ 46) (i_ 1)) 0,O_ 48 (.fa 2 (t_ 2)) 0,U_ (.st 1 (t_ 48) (t_ 47)) 0])))))))))))))
theorem gc32_ok:compF Try.prog Try.f32=some (gc32.er,49,[.cell 4 3 true,.tmp 5]):=by unfold gc32;kernel_rfl
theorem p_deframe_Texts_v (a0:DeframeState) (a1:ByteArray):CallsO Try.prog 32 [.agg [.s a0.Buf,.i a0.Bad,.i a0.Seen],.s a1] (fun r:DeframeState × (List ByteArray)=>.tup [DeframeState.v r.1,(fun l:List ByteArray=>V.sl (l.map V.s) false) r.2]) (p_deframe_Texts a0 a1):=by
 refine callsO_comp mix Try.func32 gc32_ok fun r H=>?_
 rw [p_deframe_Texts] at H
 conv=>whnf
 refine ask_c (p_deframe_State_deaf_v _) H rfl rfl (fun v1 H=>?_);conv=>whnf
 refine tst_c H (fun b2 H=>?_) (fun b2 H=>?_)
 ·conv=>whnf
  refine lq_ ?_;conv=>whnf
  refine finR_c (enc:=(fun r:DeframeState × (List ByteArray)=>.tup [DeframeState.v r.1,(fun l:List ByteArray=>V.sl (l.map V.s) false) r.2])) H ?_;conv=>whnf
  exact ⟨_,.tup (.cons (fzagg (.cons (.id rfl) (.cons (.id rfl) (.cons (.id rfl) (.nil)))) rfl) (.cons (.c (.slw)) (.nil)))⟩
 conv=>whnf
 refine cat_c H (fun s3 H=>?_);conv=>whnf
 refine lq_ ?_;conv=>whnf
 obtain ⟨o5,HL6,HQ7⟩:=bind_c H
 refine loop_c [5,6] [7,8,9,18,19,20,21,22,23,24,25,26,27,28,29,30,31,32,33,34,35,36,37,38,39,40,41,42,43,44,45,46,47,48,13,17] [7,8,9,18,19,20,21,22,23,24,25,26,27,28,29,30,31,32,33,34,35,36,37,38,39,40,41,42,43,44,45,46,47,48,13,17] (fun n vals st=>(∃ y9,p_deframe_Texts_l1  n [] y9=some o5∧vals=[.sl (List.map V.s []) true,.sl (List.map V.s []) true]∧st=[.live [.s y9.Buf,.i y9.Bad,.i y9.Seen] 0,.live [.s (⟨#[]⟩ : ByteArray),.i (0:Int),.i (0:Int)] 0])∨(∃ y15 y16,p_deframe_Texts_l1  n y15 y16=some o5∧vals=[.sl (List.map V.s []) true,.osl 2 0 (List.length y15) 1 false]∧st=[.live [.s y16.Buf,.i y16.Bad,.i y16.Seen] 0,.live [.s (⟨#[]⟩ : ByteArray),.i (0:Int),.i (0:Int)] 0,.live (cellsM V.s y15) (cellsM V.s y15).length])) fuel 2 [] (.inl (⟨_,HL6,rfl,rfl⟩)) (Nat.zero_le _) rfl (by kernel_rfl) (by kernel_rfl) rfl ⟨⟨rfl,rfl,rfl⟩,⟨⟨rfl,rfl,rfl⟩,trivial⟩⟩ ?_
 rintro (_ | n8) _ _ (⟨y9,H,rfl,rfl⟩ | ⟨y15,y16,H,rfl,rfl⟩)
 ·rw [p_deframe_Texts_l1] at H;cases H
 ·rw [p_deframe_Texts_l1] at H;cases H
 ·rw [p_deframe_Texts_l1] at H
  conv=>whnf
  refine ask_c (p_frame_Get_v _) H rfl rfl (fun v10 H=>?_);conv=>whnf
  refine tst_c H (fun b11 H=>?_) (fun b11 H=>?_)
  ·conv=>whnf
   refine lq_ ?_;conv=>whnf
   obtain rfl:=Option.some.inj H
   have H:=HQ7
   try dsimp only at H
   refine finR_c (enc:=(fun r:DeframeState × (List ByteArray)=>.tup [DeframeState.v r.1,(fun l:List ByteArray=>V.sl (l.map V.s) false) r.2])) H ?_;conv=>whnf
   exact ⟨_,.tup (.cons (fzagg (.cons (.id rfl) (.cons (.id rfl) (.cons (.id rfl) (.nil)))) rfl) (.cons (.c (.slw)) (.nil)))⟩
  conv=>whnf
  refine tst_c H (fun b12 H=>?_) (fun b12 H=>?_)
  ·conv=>whnf
   refine lq_ ?_;conv=>whnf
   refine lq_ ?_;conv=>whnf
   refine lq_ ?_;conv=>whnf
   obtain rfl:=Option.some.inj H
   have H:=HQ7
   try dsimp only at H
   refine finR_c (enc:=(fun r:DeframeState × (List ByteArray)=>.tup [DeframeState.v r.1,(fun l:List ByteArray=>V.sl (l.map V.s) false) r.2])) H ?_;conv=>whnf
   exact ⟨_,.tup (.cons (fzagg (.cons (.id rfl) (.cons (.id rfl) (.cons (.id rfl) (.nil)))) rfl) (.cons (.c (.slw)) (.nil)))⟩
  conv=>whnf
  refine appN_c (f:=V.s) H (fun _=>rfl) (srcM (f:=V.s) (fun _=>rfl) [] true) rfl (.v (srcOwn (f:=V.s) (l:=[v10.1]) (fun _=>rfl) rfl rfl rfl)) (by decide) rfl (by simp) (fun l13 H=>?_);conv=>whnf
  refine slt_c H (fun s14 H=>?_);conv=>whnf
  refine lq_ ?_;conv=>whnf
  refine Ari.w ?_;conv=>whnf
  refine lq_ ?_;conv=>whnf
  exact again_c [7,8,9,18,19,20,21,22,23,24,25,26,27,28,29,30,31,32,33,34,35,36,37,38,39,40,41,42,43,44,45,46,47,48,13,17] n8 3 [0,1,3] (.inr (⟨_,_,H,rfl,rfl⟩)) (Nat.lt_succ_self _) (Nat.zero_le _) rfl (by kernel_rfl) (by kernel_rfl) rfl ⟨⟨rfl,rfl,rfl⟩,⟨⟨rfl,rfl,rfl⟩,wkB_live0 rfl (cellsM_idlt (f:=V.s) (fun _=>rfl) _) rfl trivial⟩⟩
 rw [p_deframe_Texts_l1] at H
 conv=>whnf
 refine ask_c (p_frame_Get_v _) H rfl rfl (fun v17 H=>?_);conv=>whnf
 refine tst_c H (fun b18 H=>?_) (fun b18 H=>?_)
 ·conv=>whnf
  refine lq_ ?_;conv=>whnf
  obtain rfl:=Option.some.inj H
  have H:=HQ7
  try dsimp only at H
  refine finR_c (enc:=(fun r:DeframeState × (List ByteArray)=>.tup [DeframeState.v r.1,(fun l:List ByteArray=>V.sl (l.map V.s) false) r.2])) H ?_;conv=>whnf
  exact ⟨_,.tup (.cons (fzagg (.cons (.id rfl) (.cons (.id rfl) (.cons (.id rfl) (.nil)))) rfl) (.cons (.c (fzown (f:=V.s) (l:=y15) rfl rfl (fun _=>rfl) (fun _=>rfl))) (.nil)))⟩
 conv=>whnf
 refine tst_c H (fun b19 H=>?_) (fun b19 H=>?_)
 ·conv=>whnf
  refine lq_ ?_;conv=>whnf
  refine lq_ ?_;conv=>whnf
  refine lq_ ?_;conv=>whnf
  obtain rfl:=Option.some.inj H
  have H:=HQ7
  try dsimp only at H
  refine finR_c (enc:=(fun r:DeframeState × (List ByteArray)=>.tup [DeframeState.v r.1,(fun l:List ByteArray=>V.sl (l.map V.s) false) r.2])) H ?_;conv=>whnf
  exact ⟨_,.tup (.cons (fzagg (.cons (.id rfl) (.cons (.id rfl) (.cons (.id rfl) (.nil)))) rfl) (.cons (.c (fzown (f:=V.s) (l:=y15) rfl rfl (fun _=>rfl) (fun _=>rfl))) (.nil)))⟩
 conv=>whnf
 refine appO_c (f:=V.s) H (fun _=>rfl) rfl (Nat.le_refl _) (.v (srcOwn (f:=V.s) (l:=[v17.1]) (fun _=>rfl) rfl rfl rfl)) (by decide) rfl (by simp) (fun l20 H=>?_);conv=>whnf
 refine slt_c H (fun s21 H=>?_);conv=>whnf
 refine lq_ ?_;conv=>whnf
 refine Ari.w ?_;conv=>whnf
 refine lq_ ?_;conv=>whnf
 exact again_c [7,8,9,18,19,20,21,22,23,24,25,26,27,28,29,30,31,32,33,34,35,36,37,38,39,40,41,42,43,44,45,46,47,48,13,17] n8 3 [0,1,4] (.inr (⟨_,_,H,rfl,rfl⟩)) (Nat.lt_succ_self _) (Nat.zero_le _) rfl (by kernel_rfl) (by kernel_rfl) rfl ⟨⟨rfl,rfl,rfl⟩,⟨⟨rfl,rfl,rfl⟩,wkB_live0 rfl (cellsM_idlt (f:=V.s) (fun _=>rfl) _) rfl trivial⟩⟩
def gc33:BCode:=(.seq (R_ 0 [O_ 2 (.mv (.const (.slice none 0 0))) 0]) (.seq (R_ 0 [O_ 3 (.mv (.const (.slice none 0 0))) 0]) (.seq (.seq (R_ 0 [O_ 8 (.mv (t_ 0)) 0,O_ 9 (.lens (t_ 8)) 0,O_ 10 (.mv (i_ 0)) 0]) (.block 0 (.loop (.seq (R_ 0 [O_ 11 (.bin .lss (t_ 10) (t_ 9)) 0]) (.seq (.cond (t_ 11) .skip (.exit 0)) (.seq (.block 1 (.seq (R_ 0 [O_ 12 (.ixs 1 (t_ 8) (t_ 10)) 0,O_ 13 (.ld 1 false (t_ 12)) 0,O_ 5 (.mv (t_ 13)) 0]) (.seq (R_ 1 [O_ 15 (.mv (t_ 5)) 0,O_ 16 (.cl 70 [(t_ 15)]) 0,O_ 14 (.mv (t_ 16)) 0,O_ 17 (.ex (t_ 14) 0) 0,O_ 18 (.ex (t_ 14) 1) 0,O_ 6 (.al (.agg [(.lit (.int .u8 0)),(.lit (.string ⟨#[]⟩)),(.lit (.string ⟨#[]⟩)),(.lit (.string ⟨#[]⟩)),(.lit (.int .i64 0)),(.lit (.int .i64 0)),(.lit (.int .i64 0)),(.lit (.int .i64 0))])) 0,U_ (.st 8 (t_ 6) (t_ 17)) 1,O_ 7 (.mv (t_ 18)) 1]) (R_ 2 [O_ 19 (.mv (t_ 3)) 0,O_ 20 (.ld 8 true (t_ 6)) 0,O_ 21 (.mv (t_ 7)) 0,O_ 22 (.bd [(.lit (.int .u8 0)),(.lit (.string ⟨#[]⟩)),(.lit (.string ⟨#[]⟩)),(.lit (.string ⟨#[]⟩)),(.lit (.int .i64 0)),(.lit (.int .i64 0)),(.lit (.int .i64 0)),(.lit (.int .i64 0)),(.lit (.int .i64 0))] [(0,8,(t_ 20)),(8,1,(t_ 21))]) 0,O_ 23 (.bs 9 1 [(.lit (.int .u8 0)),(.lit (.string ⟨#[]⟩)),(.lit (.string ⟨#[]⟩)),(.lit (.string ⟨#[]⟩)),(.lit (.int .i64 0)),(.lit (.int .i64 0)),(.lit (.int .i64 0)),(.lit (.int .i64 0)),(.lit (.int .i64 0))] [(0,(t_ 22))]) 0,O_ 24 (.ap 9 96 (t_ 19) (t_ 23)) 1,O_ 3 (.mv (t_ 24)) 2])))) (R_ 0 [O_ 25 (.bin .add (t_ 10) (i_ 1)) 0,O_ 10 (.mv (t_ 25)) 0]))))))) (.seq (R_ 0 [O_ 26 (.mv (t_ 3)) 0,O_ 2 (.mv (t_ 26)) 0]) .ret))))
theorem gc33_ok:compF Try.prog Try.f33=some (gc33.er,27,[.tmp 2]):=by unfold gc33;kernel_rfl
theorem p_deframe_items_v {u1:Bool} (a0:List ByteArray):CallsO Try.prog 33 [.sl (List.map V.s a0) u1] (fun l:List DeframeItem=>V.sl (l.map DeframeItem.v) false) (p_deframe_items a0):=by
 refine callsO_comp mix Try.func33 gc33_ok fun r H=>?_
 rw [p_deframe_items] at H
 conv=>whnf
 refine LenQ.M ?_;conv=>whnf
 obtain ⟨o2,HL3,HQ4⟩:=bind_c H
 refine loop_c [3,10] [5,6,7,11,12,13,14,15,16,17,18,19,20,21,22,23,24,25] [5,6,7,11,12,13,14,15,16,17,18,19,20,21,22,23,24,25] (fun n vals st=>(∃ y6,p_deframe_items_l1  a0 (a0.length:Int) n [] y6=some o2∧vals=[.sl (List.map DeframeItem.v []) true,.i y6]∧st=[])∨(∃ y11 y12,p_deframe_items_l1  a0 (a0.length:Int) n y11 y12=some o2∧vals=[.osl 0 0 (List.length y11) 9 false,.i y12]∧st=[.live (cellsM DeframeItem.v y11) (cellsM DeframeItem.v y11).length])) fuel 0 [] (.inl (⟨_,HL3,rfl,rfl⟩)) (Nat.zero_le _) rfl (by kernel_rfl) (by kernel_rfl) rfl trivial ?_
 rintro (_ | n5) _ _ (⟨y6,H,rfl,rfl⟩ | ⟨y11,y12,H,rfl,rfl⟩)
 ·rw [p_deframe_items_l1] at H;cases H
 ·rw [p_deframe_items_l1] at H;cases H
 ·rw [p_deframe_items_l1] at H
  conv=>whnf
  refine tst_d H (fun b7 H=>?_) (fun b7 H=>?_)
  ·conv=>whnf
   obtain rfl:=Option.some.inj H
   have H:=HQ4
   try dsimp only at H
   refine finR_c (enc:=(fun l:List DeframeItem=>V.sl (l.map DeframeItem.v) false)) H ?_;conv=>whnf
   exact ⟨_,.v (.c (.slw))⟩
  conv=>whnf
  refine ixs_c (f:=V.s) H (fun _=>rfl) (fun x8 H=>?_);conv=>whnf
  refine ask_c (p_stanza_Read_v _) H rfl rfl (fun v9 H=>?_);conv=>whnf
  refine lq_ ?_;conv=>whnf
  refine appN_c (f:=DeframeItem.v) H (fun _=>rfl) (srcM (f:=DeframeItem.v) (fun _=>rfl) [] true) rfl (.v (srcOwn (f:=DeframeItem.v) (l:=[(DeframeItem.mk v9.1 v9.2)]) (fun _=>rfl) rfl rfl rfl)) (by decide) rfl (by simp) (fun l10 H=>?_);conv=>whnf
  refine Ari.w ?_;conv=>whnf
  exact again_c [5,6,7,11,12,13,14,15,16,17,18,19,20,21,22,23,24,25] n5 1 [2] (.inr (⟨_,_,H,rfl,rfl⟩)) (Nat.lt_succ_self _) (Nat.zero_le _) rfl (by kernel_rfl) (by kernel_rfl) rfl (wkB_live0 rfl (cellsM_idlt (f:=DeframeItem.v) (fun _=>rfl) _) rfl trivial)
 rw [p_deframe_items_l1] at H
 conv=>whnf
 refine tst_d H (fun b13 H=>?_) (fun b13 H=>?_)
 ·conv=>whnf
  obtain rfl:=Option.some.inj H
  have H:=HQ4
  try dsimp only at H
  refine finR_c (enc:=(fun l:List DeframeItem=>V.sl (l.map DeframeItem.v) false)) H ?_;conv=>whnf
  exact ⟨_,.v (.c (fzown (f:=DeframeItem.v) (l:=y11) rfl rfl (fun _=>rfl) (fun _=>rfl)))⟩
 conv=>whnf
 refine ixs_c (f:=V.s) H (fun _=>rfl) (fun x14 H=>?_);conv=>whnf
 refine ask_c (p_stanza_Read_v _) H rfl rfl (fun v15 H=>?_);conv=>whnf
 refine lq_ ?_;conv=>whnf
 refine appO_c (f:=DeframeItem.v) H (fun _=>rfl) rfl (Nat.le_refl _) (.v (srcOwn (f:=DeframeItem.v) (l:=[(DeframeItem.mk v15.1 v15.2)]) (fun _=>rfl) rfl rfl rfl)) (by decide) rfl (by simp) (fun l16 H=>?_);conv=>whnf
 refine Ari.w ?_;conv=>whnf
 exact again_c [5,6,7,11,12,13,14,15,16,17,18,19,20,21,22,23,24,25] n5 1 [3] (.inr (⟨_,_,H,rfl,rfl⟩)) (Nat.lt_succ_self _) (Nat.zero_le _) rfl (by kernel_rfl) (by kernel_rfl) rfl (wkB_live0 rfl (cellsM_idlt (f:=DeframeItem.v) (fun _=>rfl) _) rfl trivial)
def gc8:BCode:=(.seq (R_ 2 [O_ 2 (.bx (t_ 0)) 0,O_ 4 (.al (.agg [(.lit (.string ⟨#[]⟩)),(.lit (.int .i64 0)),(.lit (.int .i64 0))])) 1,O_ 5 (.mv (.const (.slice none 0 0))) 2]) (.seq (R_ 1 [O_ 9 (.ld 3 true (t_ 2)) 0,O_ 10 (.mv (t_ 1)) 0,O_ 11 (.cl 32 [(t_ 9),(t_ 10)]) 0,O_ 8 (.mv (t_ 11)) 0,O_ 12 (.ex (t_ 8) 0) 0,O_ 13 (.ex (t_ 8) 1) 0,O_ 6 (.al (.agg [(.lit (.string ⟨#[]⟩)),(.lit (.int .i64 0)),(.lit (.int .i64 0))])) 0,U_ (.st 3 (t_ 6) (t_ 12)) 1,O_ 7 (.mv (t_ 13)) 1]) (.seq (.reg 0 [O_ 14 (.ld 3 true (t_ 6)) 0,O_ 15 (.mv (t_ 7)) 0,O_ 16 (.cl 33 [(t_ 15)]) 0,U_ (.st 3 (t_ 4) (t_ 14)) 0,O_ 5 (.mv (t_ 16)) 0] (some [[],[],[1],[1,2,0],[0,3,1,2]]) 0 []) .ret)))
theorem gc8_ok:compF Try.prog Try.f8=some (gc8.er,17,[.cell 4 3 true,.tmp 5]):=by unfold gc8;kernel_rfl
theorem p_deframe_Feed_v (a0:DeframeState) (a1:ByteArray):CallsO Try.prog 8 [.agg [.s a0.Buf,.i a0.Bad,.i a0.Seen],.s a1] (fun r:DeframeState × (List DeframeItem)=>.tup [DeframeState.v r.1,(fun l:List DeframeItem=>V.sl (l.map DeframeItem.v) false) r.2]) (p_deframe_Feed a0 a1):=by
 refine callsO_comp mix Try.func8 gc8_ok fun r H=>?_
 rw [p_deframe_Feed] at H
 conv=>whnf
 refine ask_c (p_deframe_Texts_v _ _) H rfl rfl (fun v1 H=>?_);conv=>whnf
 refine lq_ ?_;conv=>whnf
 refine ask_c (p_deframe_items_v _) H rfl rfl (fun v2 H=>?_);conv=>whnf
 refine lq_ ?_;conv=>whnf
 refine FootQ.mk ⟨rfl,?_⟩;conv=>whnf
 exact fin0_c (enc:=(fun r:DeframeState × (List DeframeItem)=>.tup [DeframeState.v r.1,(fun l:List DeframeItem=>V.sl (l.map DeframeItem.v) false) r.2])) H (.inr rfl) (.cons (.cell rfl rfl (Nat.le_of_ble_eq_true rfl)) (.cons (.tmp rfl) (.nil))) rfl rfl
def gc14:BCode:=(.seq (R_ 0 [O_ 2 (.mv (.const (.string ⟨#[]⟩))) 0,O_ 3 (.mv (i_ 0)) 0]) (.seq (R_ 0 [O_ 4 (.mv (.const (.slice none 0 0))) 0]) (.seq (.seq (R_ 0 [O_ 9 (.mv (t_ 0)) 0,O_ 10 (.lens (t_ 9)) 0,O_ 11 (.mv (i_ 0)) 0]) (.block 0 (.loop (.seq (R_ 0 [O_ 12 (.bin .lss (t_ 11) (t_ 10)) 0]) (.seq (.cond (t_ 12) .skip (.exit 0)) (.seq (.block 1 (.seq (R_ 1 [O_ 13 (.ixs 8 (t_ 9) (t_ 11)) 0,O_ 14 (.ld 8 true (t_ 13)) 0,O_ 6 (.al (.agg [(.lit (.int .u8 0)),(.lit (.string ⟨#[]⟩)),(.lit (.string ⟨#[]⟩)),(.lit (.string ⟨#[]⟩)),(.lit (.int .i64 0)),(.lit (.int .i64 0)),(.lit (.int .i64 0)),(.lit (.int .i64 0))])) 0,U_ (.st 8 (t_ 6) (t_ 14)) 1]) (.seq (R_ 0 [O_ 16 (.ld 8 true (t_ 6)) 0,O_ 17 (.cl 42 [(t_ 16)]) 0,O_ 15 (.mv (t_ 17)) 0,O_ 18 (.ex (t_ 15) 0) 0,O_ 19 (.ex (t_ 15) 1) 0,O_ 7 (.mv (t_ 18)) 0,O_ 8 (.mv (t_ 19)) 0]) (.seq (.seq (R_ 0 [O_ 20 (.mv (t_ 8)) 0,O_ 21 (.bin .neq (t_ 20) (i_ 0)) 0]) (.cond (t_ 21) (.seq (R_ 0 [O_ 22 (.mv (t_ 8)) 0,O_ 2 (.mv (.const (.string ⟨#[]⟩))) 0,O_ 3 (.mv (t_ 22)) 0]) .ret) .skip)) (R_ 2 [O_ 23 (.mv (t_ 4)) 0,O_ 24 (.mv (t_ 7)) 0,O_ 25 (.bs 1 1 [(.lit (.string ⟨#[]⟩))] [(0,(t_ 24))]) 0,O_ 26 (.ap 1 16 (t_ 23) (t_ 25)) 1,O_ 4 (.mv (t_ 26)) 2]))))) (R_ 0 [O_ 27 (.bin .add (t_ 11) (i_ 1)) 0,O_ 11 (.mv (t_ 27)) 0]))))))) (.seq (R_ 0 [O_ 28 (.mv (t_ 4)) 0,O_ 29 (.cl 43 [(t_ 28)]) 0,O_ 30 (.ex (t_ 29) 0) 0,O_ 31 (.ex (t_ 29) 1) 0,O_ 2 (.mv (t_ 30)) 0,O_ 3 (.mv (t_ 31)) 0]) .ret))))
theorem gc14_ok:compF Try.prog Try.f14=some (gc14.er,32,[.tmp 2,.tmp 3]):=by unfold gc14;kernel_rfl
theorem p_deframe_Encode_v {u1:Bool} (a0:List StanzaStanza):CallsO Try.prog 14 [.sl (List.map StanzaStanza.v a0) u1] (fun r:ByteArray × Int=>.tup [V.s r.1,V.i r.2]) (p_deframe_Encode a0):=by
 refine callsO_comp mix Try.func14 gc14_ok fun r H=>?_
 rw [p_deframe_Encode] at H
 conv=>whnf
 refine LenQ.M ?_;conv=>whnf
 obtain ⟨o2,HL3,HQ4⟩:=bind_c H
 refine loop_c [2,3,4,11] [6,7,8,12,13,14,15,16,17,18,19,20,21,22,23,24,25,26,27] [6,7,8,12,13,14,15,16,17,18,19,20,21,22,23,24,25,26,27] (fun n vals st=>(∃ y6,p_deframe_Encode_l1  a0 (a0.length:Int) n [] y6=some o2∧vals=[.s (⟨#[]⟩ : ByteArray),.i (0:Int),.sl (List.map V.s []) true,.i y6]∧st=[])∨(∃ y12 y13,p_deframe_Encode_l1  a0 (a0.length:Int) n y12 y13=some o2∧vals=[.s (⟨#[]⟩ : ByteArray),.i (0:Int),.osl 0 0 (List.length y12) 1 false,.i y13]∧st=[.live (cellsM V.s y12) (cellsM V.s y12).length])) fuel 0 [] (.inl (⟨_,HL3,rfl,rfl⟩)) (Nat.zero_le _) rfl (by kernel_rfl) (by kernel_rfl) rfl trivial ?_
 rintro (_ | n5) _ _ (⟨y6,H,rfl,rfl⟩ | ⟨y12,y13,H,rfl,rfl⟩)
 ·rw [p_deframe_Encode_l1] at H;cases H
 ·rw [p_deframe_Encode_l1] at H;cases H
 ·rw [p_deframe_Encode_l1] at H
  conv=>whnf
  refine tst_d H (fun b7 H=>?_) (fun b7 H=>?_)
  ·conv=>whnf
   obtain rfl:=Option.some.inj H
   have H:=HQ4
   try dsimp only at H
   refine ask_c (p_frame_Join_v _) H rfl rfl (fun v14 H=>?_);conv=>whnf
   exact fin0_c (enc:=(fun r:ByteArray × Int=>.tup [V.s r.1,V.i r.2])) H (.inr rfl) (.cons (.tmp rfl) (.cons (.tmp rfl) (.nil))) rfl rfl
  conv=>whnf
  refine ixs_c (f:=StanzaStanza.v) H (fun _=>rfl) (fun x8 H=>?_);conv=>whnf
  refine lq_ ?_;conv=>whnf
  refine ask_c (p_stanza_Put_v _) H rfl rfl (fun v9 H=>?_);conv=>whnf
  refine tst_c H (fun b10 H=>?_) (fun b10 H=>?_)
  ·conv=>whnf
   obtain rfl:=Option.some.inj H
   have H:=HQ4
   try dsimp only at H
   exact fin0_c (enc:=(fun r:ByteArray × Int=>.tup [V.s r.1,V.i r.2])) H (.inr rfl) (.cons (.tmp rfl) (.cons (.tmp rfl) (.nil))) rfl rfl
  conv=>whnf
  refine appN_c (f:=V.s) H (fun _=>rfl) (srcM (f:=V.s) (fun _=>rfl) [] true) rfl (.v (srcOwn (f:=V.s) (l:=[v9.1]) (fun _=>rfl) rfl rfl rfl)) (by decide) rfl (by simp) (fun l11 H=>?_);conv=>whnf
  refine Ari.w ?_;conv=>whnf
  exact again_c [6,7,8,12,13,14,15,16,17,18,19,20,21,22,23,24,25,26,27] n5 1 [2] (.inr (⟨_,_,H,rfl,rfl⟩)) (Nat.lt_succ_self _) (Nat.zero_le _) rfl (by kernel_rfl) (by kernel_rfl) rfl (wkB_live0 rfl (cellsM_idlt (f:=V.s) (fun _=>rfl) _) rfl trivial)
 rw [p_deframe_Encode_l1] at H
 conv=>whnf
 refine tst_d H (fun b15 H=>?_) (fun b15 H=>?_)
 ·conv=>whnf
  obtain rfl:=Option.some.inj H
  have H:=HQ4
  try dsimp only at H
  refine askF_c (p_frame_Join_v _) H (.cons (.c (fzown (f:=V.s) (l:=y12) rfl rfl (fun _=>rfl) (fun _=>rfl))) (.nil)) (fun v20 H=>?_);conv=>whnf
  exact fin0_c (enc:=(fun r:ByteArray × Int=>.tup [V.s r.1,V.i r.2])) H (.inr rfl) (.cons (.tmp rfl) (.cons (.tmp rfl) (.nil))) rfl rfl
 conv=>whnf
 refine ixs_c (f:=StanzaStanza.v) H (fun _=>rfl) (fun x16 H=>?_);conv=>whnf
 refine lq_ ?_;conv=>whnf
 refine ask_c (p_stanza_Put_v _) H rfl rfl (fun v17 H=>?_);conv=>whnf
 refine tst_c H (fun b18 H=>?_) (fun b18 H=>?_)
 ·conv=>whnf
  obtain rfl:=Option.some.inj H
  have H:=HQ4
  try dsimp only at H
  exact fin0_c (enc:=(fun r:ByteArray × Int=>.tup [V.s r.1,V.i r.2])) H (.inr rfl) (.cons (.tmp rfl) (.cons (.tmp rfl) (.nil))) rfl rfl
 conv=>whnf
 refine appO_c (f:=V.s) H (fun _=>rfl) rfl (Nat.le_refl _) (.v (srcOwn (f:=V.s) (l:=[v17.1]) (fun _=>rfl) rfl rfl rfl)) (by decide) rfl (by simp) (fun l19 H=>?_);conv=>whnf
 refine Ari.w ?_;conv=>whnf
 exact again_c [6,7,8,12,13,14,15,16,17,18,19,20,21,22,23,24,25,26,27] n5 1 [3] (.inr (⟨_,_,H,rfl,rfl⟩)) (Nat.lt_succ_self _) (Nat.zero_le _) rfl (by kernel_rfl) (by kernel_rfl) rfl (wkB_live0 rfl (cellsM_idlt (f:=V.s) (fun _=>rfl) _) rfl trivial)
end Go.Proofs.Ytmmmcpeickfolaa

