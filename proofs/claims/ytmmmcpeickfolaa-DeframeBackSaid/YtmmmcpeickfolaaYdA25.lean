/- A part of the proof: 6 texts joined. -/
import Derived.Test.YtmmmcpeickfolaaYdA24
import Derived.Test.YtmmmcpeickfolaaYdA22
import Derived.Test.YtmmmcpeickfolaaYdA13
import Derived.KernelRfl
set_option linter.all false
namespace Go.Proofs.Ytmmmcpeickfolaa
open Go.RowKit
def seenK:Int→Nat→Int
 | s,0=>s
 | s,k + 1=>seenK (w64 (s + 1)) k
theorem seenK_id:∀ (k:Nat) (s:Int),0≤s→s + k≤1000000→seenK s k=s + k
 | 0,s,_,_=>by simp [seenK]
 | k + 1,s,h,h2=>by
  rw [seenK,w64_id (by omega),seenK_id k (s + 1) (by omega) (by omega)];omega
theorem getS (l:List UInt8) (h:l.length≤100000):p_frame_Get (ba l)=some (outG (getR l)):=by
 have:=get_p (ba l) (by rw [ba_size];exact h)
 rwa [ba_list] at this
structure Good (buf:List UInt8) (bad seen:Int):Prop where
 seen:0≤seen
 len:buf.length≤50000
 out:bad=0∧getR buf=.cut∨bad≠0∧buf=[]
theorem check_good {buf:List UInt8} {bad seen:Int} (h:Good buf bad seen):p_deframe_Check (DeframeState.mk (ba buf) bad seen)=some 0:=by
 have hl:=h.len
 unfold p_deframe_Check
 rw [decide_eq_false (show ¬ seen < 0 by have:=h.seen;omega)]
 rcases h.out with ⟨rfl,hg⟩ | ⟨hb,rfl⟩
 ·rw [getS buf (by omega),hg];rfl
 ·have e:((ba []).toList == (⟨#[]⟩ : ByteArray).toList)=true:=eqT_refl _
  rw [show (bad != 0)=true by simpa using hb,cond_true,getS [] (by simp)]
  simp only [e,cond_true]
  rfl
theorem deaf_good {buf:List UInt8} {bad seen:Int} (h:Good buf bad seen):p_deframe_State_deaf (DeframeState.mk (ba buf) bad seen)=some (bad != 0):=by
 unfold p_deframe_State_deaf
 rw [check_good h]
 cases (bad != 0) <;> rfl
theorem texts_l:∀ (n:Nat) (l:List UInt8) (F:Nat) (acc:List ByteArray) (seen:Int),l.length < n→n≤F→l.length≤100000→acc.length + l.length≤100000 →
  p_deframe_Texts_l1 F acc (DeframeState.mk (ba l) 0 seen)=some (DeframeState.mk (ba (run l).2.1) (run l).2.2 (seenK seen (run l).1.length),acc++(run l).1.map ba)
 | n + 1,l,F + 1,acc,seen,h1,h2,h3,h4=>by
  rw [p_deframe_Texts_l1]
  show (p_frame_Get (ba l)).bind _=_
  rw [getS l h3,Option.bind_some]
  cases hg:getR l with
  | cut =>
   rw [run_cut hg]
   show some _=some _
   simp [seenK]
  | bad e =>
   have he:=getR_bad hg
   rw [run_bad hg]
   by_cases h33:e=3
   ·exfalso
    unfold getR at hg
    split at hg
    ·split at hg
     ·simp only [GR.bad.injEq] at hg;omega
     split at hg
     ·simp only [GR.bad.injEq] at hg;omega
     split at hg <;> cases hg
    ·cases hg
   ·show (bif (e == (3:Int)) then _ else bif (e != (0:Int)) then some (DeframeState.mk (⟨#[]⟩ : ByteArray) e seen,acc) else _)=_
    rw [show (e == 3)=false by simpa using h33,show (e != 0)=true by simpa using he]
    show some _=some _
    simp [seenK];rfl
  | ok t r =>
   obtain ⟨a,b,e,h5,h6,h7⟩:=getR_ok hg
   have hlt:=getR_lt hg
   rw [run_ok hg]
   show (app? acc [ba t]).bind _=_
   rw [app_ok (by simp;omega),Option.bind_some]
   show (sub? (ba l) (some ((2 + t.length:Nat):Int)) none).bind _=_
   rw [sub_from (by rw [ba_size,e];simp;omega),Option.bind_some,ba_list]
   have hd:l.drop (2 + t.length)=r:=by
    rw [e,show 2 + t.length=t.length + 1 + 1 by omega]
    show (t++r).drop t.length=r
    exact List.drop_left' rfl
   rw [hd]
   have:=texts_l n r F (acc++[ba t]) (w64 (seen + 1)) (by omega) (by omega) (by omega) (by simp;omega)
   show p_deframe_Texts_l1 F (acc++[ba t]) (DeframeState.mk (ba r) 0 (w64 (seen + 1)))=_
   rw [this]
   simp [seenK]
def itemR (t:List UInt8):DeframeItem:=DeframeItem.mk (stzTo (readL t).1) (readL t).2
theorem read_ba (t:List UInt8) (h:t.length≤100000):p_stanza_Read (ba t)=some (stzTo (readL t).1,(readL t).2):=by
 unfold p_stanza_Read
 rw [if_pos (by rw [ba_size];exact h),ba_list]
theorem items_l (ts:List (List UInt8)) (hn:ts.length≤100000) (ht:∀ t ∈ ts,t.length≤100000):∀ (n k F:Nat) (acc:List DeframeItem),k + n=ts.length→n < F→acc.length≤k→p_deframe_items_l1 (ts.map ba) ((ts.map ba).length:Int) F acc (k:Int)=some (acc++(ts.drop k).map itemR,((ts.map ba).length:Int))
 | 0,k,F + 1,acc,hk,hF,ha=>by
  rw [p_deframe_items_l1,lt_ff (by rw [List.length_map];omega),show k=(ts.map ba).length by rw [List.length_map];omega,List.drop_of_length_le (by rw [List.length_map];exact Nat.le_refl _)];simp
 | n + 1,k,F + 1,acc,hk,hF,ha=>by
  have hlt:k < ts.length:=by omega
  have hlt2:k < (ts.map ba).length:=by rw [List.length_map];exact hlt
  rw [p_deframe_items_l1,lt_tt hlt2,cond_true,at_lt hlt2,Option.bind_some,List.getElem_map,read_ba _ (ht _ (List.getElem_mem hlt)),Option.bind_some,app_ok (by simp;omega),Option.bind_some,w64_succ (by omega),items_l ts hn ht n (k + 1) F _ (by omega) (by omega) (by simp;omega),drop_at hlt,List.map_cons,List.append_assoc]
  rfl
theorem items_p (ts:List (List UInt8)) (hn:ts.length≤100000) (ht:∀ t ∈ ts,t.length≤100000):p_deframe_items (ts.map ba)=some (ts.map itemR):=by
 unfold p_deframe_items
 have e:=items_l ts hn ht ts.length 0 fuel [] (by omega) (by have:=fuel_pos;omega) (Nat.zero_le _)
 rw [List.drop_zero,List.nil_append] at e
 have e' : p_deframe_items_l1 (ts.map ba) ((ts.map ba).length:Int) fuel [] (0:Int)=_:=e
 rw [e'];rfl
theorem texts_good {buf:List UInt8} {seen:Int} (h:Good buf 0 seen) (s:ByteArray) (hs:s.size≤50000):p_deframe_Texts (DeframeState.mk (ba buf) 0 seen) s=some (DeframeState.mk (ba (run (buf++s.data.toList)).2.1) (run (buf++s.data.toList)).2.2 (seenK seen (run (buf++s.data.toList)).1.length),(run (buf++s.data.toList)).1.map ba):=by
 have hl:=h.len
 have hsl:=bl_len s
 have hc:cat? (ba buf) s=some (ba (buf++s.data.toList)):=by
  unfold cat?
  rw [if_pos (by rw [ba_size];omega)]
  rw [← ba_app,ba_of]
 unfold p_deframe_Texts
 rw [deaf_good h]
 show (cat? (ba buf) s).bind _=_
 rw [hc,Option.bind_some]
 have:=texts_l ((buf++s.data.toList).length + 1) (buf++s.data.toList) fuel [] seen (by omega) (by have:=fuel_pos;rw [List.length_append];omega) (by rw [List.length_append];omega) (by rw [List.length_append];simp;omega)
 rw [List.nil_append] at this
 show (p_deframe_Texts_l1 fuel [] (DeframeState.mk (ba (buf++s.data.toList)) 0 seen)).bind _=_
 rw [this];rfl
theorem feed_good {buf:List UInt8} {seen:Int} (h:Good buf 0 seen) (s:ByteArray) (hs:s.size≤50000):p_deframe_Feed (DeframeState.mk (ba buf) 0 seen) s=some (DeframeState.mk (ba (run (buf++s.data.toList)).2.1) (run (buf++s.data.toList)).2.2 (seenK seen (run (buf++s.data.toList)).1.length),(run (buf++s.data.toList)).1.map itemR):=by
 have hl:=h.len
 have hsl:=bl_len s
 obtain ⟨_,_,h3,h4⟩:=run_end ((buf++s.data.toList).length + 1) (buf++s.data.toList) (by omega)
 have hll:(buf++s.data.toList).length≤100000:=by rw [List.length_append];omega
 unfold p_deframe_Feed
 rw [texts_good h s hs,Option.bind_some]
 show (p_deframe_items ((run (buf++s.data.toList)).1.map ba)).bind _=_
 rw [items_p _ (by omega) (fun t ht=>by have:=h4 t ht;omega)];rfl
end Go.Proofs.Ytmmmcpeickfolaa

namespace Go.Proofs.Ytmmmcpeickfolaa
open Go.RowKit
end Go.Proofs.Ytmmmcpeickfolaa

namespace Go.Proofs.Ytmmmcpeickfolaa
def rdA (S:ByteArray) (a:Nat):RdD:=⟨S,a,0⟩
theorem num_at (S:ByteArray) (a w:Nat) (bs rest:List UInt8) (h:S.data.toList.drop a=bs++rest) (hl:bs.length=w) (ha:a≤S.size):numL (rdA S a) w=(rdA S (a + w),(beN bs:Int)):=by
 have hsz:S.size=a + bs.length + rest.length:=by
  have:=congrArg List.length h
  rw [List.length_drop,bl_len,List.length_append] at this
  omega
 have hf:faultL (rdA S a)=0:=faultL_ok rfl (by simp [rdA]) (by simp only [rdA];omega)
 have el:leftL (rdA S a)=S.size - (a:Int):=if_neg (by rw [hf];simp)
 have h2:¬ leftL (rdA S a) < w:=by rw [el];omega
 rw [numL_ok hf h2]
 have e:(((rdA S a).s.data.toList.drop (rdA S a).at_.toNat).take w)=bs:=by
  show (S.data.toList.drop (a:Int).toNat).take w=bs
  rw [Int.toNat_natCast,h,← hl,List.take_left]
 rw [e];rfl
theorem beN_one (n:Nat) (h:n < 256):beN [UInt8.ofNat n]=n:=by
 simp only [beN,List.foldl_cons,List.foldl_nil,UInt8.toNat_ofNat'];omega
theorem sayB_one (t:ByteArray):sayB t=[UInt8.ofNat t.size]++t.data.toList:=rfl
theorem text_at (S:ByteArray) (a most:Nat) (t:ByteArray) (rest:List UInt8) (h:S.data.toList.drop a=sayB t++rest) (ht:t.size≤most) (hm:most≤255) (ha:a≤S.size):octTextL (rdA S a) most=(rdA S (a + (sayB t).length),t):=by
 rw [sayB_one,List.append_assoc] at h
 have hn:=num_at S a 1 _ _ h rfl ha
 rw [beN_one _ (by omega)] at hn
 have hsz:S.size=a + 1 + t.size + rest.length:=by
  have:=congrArg List.length h
  rw [List.length_drop,bl_len,List.length_append,List.length_append,bl_len,List.length_singleton] at this
  omega
 have hb:(numL (rdA S a) 1).1.bad=0:=by rw [hn];rfl
 obtain ⟨_,_,_,_,_,_,_,_,hleft⟩:=num1_facts _ hb
 unfold octTextL
 rw [hleft,hn]
 rw [if_neg (by simp [rdA]),if_neg (by simp only;omega),if_neg (by show ¬ ((S.size:Int) - ((a:Int) + 1) < (t.size:Int));omega)]
 have e2:(rdA S a).s.extract (rdA S (a + 1)).at_.toNat ((rdA S (a + 1)).at_ + (t.size:Int)).toNat=t:=by
  show S.extract ((a + 1:Nat):Int).toNat (((a + 1:Nat):Int) + (t.size:Int)).toNat=t
  rw [Int.toNat_natCast,show (((a + 1:Nat):Int) + (t.size:Int)).toNat=a + 1 + t.size by omega]
  apply bl_inj
  rw [ext_list _ _ _ (by omega),Nat.add_sub_cancel_left,← List.drop_drop,h]
  simp only [List.singleton_append,List.drop_succ_cons,List.drop_zero]
  rw [← bl_len t,List.take_left]
 rw [e2,sayB_len]
 simp only [rdA,Prod.mk.injEq,RdD.mk.injEq,true_and,and_true]
 omega
theorem beL1 (n:Nat):beL n 1=[UInt8.ofNat n]:=by simp [beL]
theorem beN_L6 (n:Nat) (h:n < 256 ^ 6):beN (beL n 6)=n:=by
 rw [p256] at h
 simp only [beL,beN,List.foldl_cons,List.foldl_nil,UInt8.toNat_ofNat',Nat.reducePow]
 omega
def setF1 (s x:StzD) (c:UInt8):StzD :=
 if c=117 then { x with user:=s.user } else if c=114 then { x with res:=s.res } else if c=109 then { x with name:=s.name } else if c=115 then { x with show_:=s.show_ } else if c=112 then { x with prio:=s.prio } else if c=99 then { x with code:=s.code } else { x with n:=s.n }
def letterS (c:UInt8):Prop:=c=117∨c=114∨c=109∨c=115∨c=112∨c=99∨c=110
theorem readF_at (S:ByteArray) (a:Nat) (s x:StzD) (c:UInt8) (rest:List UInt8) (hc:letterS c) (ho:okF s c) (h:S.data.toList.drop a=fieldB s c++rest) (ha:a≤S.size):readF (rdA S a,x) c=(rdA S (a + (fieldB s c).length),setF1 s x c):=by
 rcases hc with rfl | rfl | rfl | rfl | rfl | rfl | rfl
 ·rw [fld117] at h ⊢;rw [rf117,show octTextL (rdA S a) 33=_ from text_at S a 33 _ _ h (ok117 ho) (by decide) ha];rfl
 ·rw [fld114] at h ⊢;rw [rf114,show octTextL (rdA S a) 12=_ from text_at S a 12 _ _ h (ok114 ho) (by decide) ha];rfl
 ·rw [fld109] at h ⊢;rw [rf109,show octTextL (rdA S a) 24=_ from text_at S a 24 _ _ h (ok109 ho) (by decide) ha];rfl
 ·obtain ⟨g1,g2,g3⟩:=lay_show (ok115 ho)
  rw [fld115] at h ⊢;rw [rf115,num_at S a 1 _ _ h rfl ha,beL1,beN_one _ g3]
  simp only [List.length_singleton,Prod.mk.injEq,true_and]
  show { x with show_:=(s.show_.toNat:Int) - 0 }={ x with show_:=s.show_ }
  rw [← g1,Int.add_sub_cancel]
 ·obtain ⟨g1,g2,g3⟩:=lay_prio (ok112 ho)
  rw [fld112] at h ⊢;rw [rf112,num_at S a 1 _ _ h rfl ha,beL1,beN_one _ g3]
  simp only [List.length_singleton,Prod.mk.injEq,true_and]
  show { x with prio:=((s.prio + 128).toNat:Int) - 128 }={ x with prio:=s.prio }
  rw [← g1,Int.add_sub_cancel]
 ·obtain ⟨g1,g2,g3⟩:=lay_code (ok99 ho)
  rw [fld99] at h ⊢;rw [rf99,num_at S a 1 _ _ h rfl ha,beL1,beN_one _ g3]
  simp only [List.length_singleton,Prod.mk.injEq,true_and]
  show { x with code:=(s.code.toNat:Int) - 0 }={ x with code:=s.code }
  rw [← g1,Int.add_sub_cancel]
 ·obtain ⟨g1,g2⟩:=lay_n (ok110 ho)
  rw [fld110] at h ⊢;rw [rf110,num_at S a 6 _ _ h rfl ha,beN_L6 _ g2]
  refine Prod.ext rfl ?_
  show { x with n:=(s.n.toNat:Int) - 0 }={ x with n:=s.n }
  rw [← g1,Int.add_sub_cancel]
theorem fold_at (s:StzD):∀ (L:List UInt8) (S:ByteArray) (a:Nat) (x:StzD) (rest:List UInt8),(∀ c ∈ L,letterS c∧okF s c)→S.data.toList.drop a=bodyB s L++rest→a≤S.size→L.foldl readF (rdA S a,x)=(rdA S (a + (bodyB s L).length),L.foldl (setF1 s) x)
 | [],S,a,x,rest,_,_,_=>by simp [bodyB]
 | c :: L,S,a,x,rest,hL,h,ha=>by
  have e:bodyB s (c :: L)=fieldB s c++bodyB s L:=by simp [bodyB]
  rw [e,List.append_assoc] at h
  obtain ⟨h1,h2⟩:=hL c (by simp)
  have hsz:a + (fieldB s c).length≤S.size:=by
   have:=congrArg List.length h
   rw [List.length_drop,bl_len,List.length_append] at this
   have:=(field_len h2).1
   omega
  rw [List.foldl_cons,readF_at S a s x c _ h1 h2 h ha,fold_at s L S _ _ rest (fun d hd=>hL d (List.mem_cons_of_mem _ hd)) (by rw [← List.drop_drop,h,List.drop_left]) hsz,e,List.length_append,Nat.add_assoc]
  rfl
theorem set_fold (s:StzD) (L:List UInt8) (hL:∀ c ∈ L,letterS c):∀ x:StzD,L.foldl (setF1 s) x=⟨x.kind,if L.any (· == 117) then s.user else x.user,if L.any (· == 114) then s.res else x.res,if L.any (· == 109) then s.name else x.name,if L.any (· == 115) then s.show_ else x.show_,if L.any (· == 112) then s.prio else x.prio,if L.any (· == 99) then s.code else x.code,if L.any (· == 110) then s.n else x.n⟩:=by
 induction L with
 | nil=>intro x;rfl
 | cons c L ih =>
  intro x
  rw [List.foldl_cons,ih (fun d hd=>hL d (by simp [hd]))]
  simp only [List.any_cons]
  rcases hL c (by simp) with rfl | rfl | rfl | rfl | rfl | rfl | rfl
  all_goals simp [setF1]
theorem letters (k:Nat):∀ c ∈ hasN k,letterS c:=hasN_in k
theorem set_all {s:StzD} (h:extraL s=false):(hasN s.kind.toNat).foldl (setF1 s) (kS s.kind)=s:=by
 rw [set_fold s _ (letters _)]
 simp only [extraL,Bool.or_eq_false_iff,Bool.and_eq_false_iff,hasC] at h
 obtain ⟨⟨⟨h1,h2⟩,h3⟩,⟨⟨h4,h5⟩,h6⟩,h7⟩:=h
 have emp:∀ {u:ByteArray} {b:Bool},(!u.toList.isEmpty)=false∨(!b)=false→(if b=true then u else (⟨#[]⟩ : ByteArray))=u:=by
  intro u b hh
  cases b with
  | true=>rfl
  | false =>
   rcases hh with hh | hh
   ·simp only [Bool.false_eq_true,if_false]
    apply bl_inj
    rw [ByteArray.toList_eq] at hh
    simp only [Bool.not_eq_false',List.isEmpty_iff] at hh
    rw [hh]
   ·cases hh
 have num:∀ {n:Int} {b:Bool},(n != 0)=false∨(!b)=false→(if b=true then n else (0:Int))=n:=by
  intro n b hh
  cases b with
  | true=>rfl
  | false =>
   rcases hh with hh | hh
   ·simp only [bne_eq_false_iff_eq] at hh;simp [hh]
   ·cases hh
 show (⟨s.kind,if _ then s.user else ⟨#[]⟩,if _ then s.res else ⟨#[]⟩,if _ then s.name else ⟨#[]⟩,if _ then s.show_ else 0,if _ then s.prio else 0,if _ then s.code else 0,if _ then s.n else 0⟩ : StzD)=s
 rw [emp h1,emp h2,emp h3,num h4,num h5,num h6,num h7]
end Go.Proofs.Ytmmmcpeickfolaa

namespace Go.Proofs.Ytmmmcpeickfolaa
def encS (s:StzD):List UInt8:=s.kind :: bodyB s (hasN s.kind.toNat)
theorem let_ok {s:StzD} (h:checkS s=0):∀ c ∈ hasN s.kind.toNat,letterS c∧okF s c:=fun c hc=>⟨letters _ c hc,check_ok h c hc⟩
theorem foldR_enc {s:StzD} (h:checkS s=0) (w:List UInt8):foldR s.kind (bodyB s (hasN s.kind.toNat)++w)=(rdA (ba (bodyB s (hasN s.kind.toNat)++w)) (bodyB s (hasN s.kind.toNat)).length,s):=by
 have:=fold_at s (hasN s.kind.toNat) (ba (bodyB s (hasN s.kind.toNat)++w)) 0 (kS s.kind) w (let_ok h) (by rw [ba_list,List.drop_zero]) (Nat.zero_le _)
 rw [set_all (check_parts h).2.1,Nat.zero_add] at this
 exact this
theorem done_at (S:ByteArray) (n:Nat) (h:n≤S.size):doneL (rdA S n)=if n < S.size then 4 else 0:=by
 have hf:faultL (rdA S n)=0:=faultL_ok rfl (by simp [rdA]) (by simp only [rdA];omega)
 unfold doneL
 rw [if_neg (by rw [hf];simp)]
 by_cases hl:n < S.size
 ·rw [if_pos hl];exact if_pos (show (n:Int) < (S.size:Int) by omega)
 ·rw [if_neg hl];exact if_neg (show ¬ (n:Int) < (S.size:Int) by omega)
theorem read_enc {s:StzD} (h:checkS s=0):readL (encS s)=(s,0):=by
 have hf:=foldR_enc h []
 rw [List.append_nil] at hf
 have hd:doneL (foldR s.kind (bodyB s (hasN s.kind.toNat))).1=0:=by
  rw [hf,done_at _ _ (by rw [ba_size];exact Nat.le_refl _),if_neg (by rw [ba_size];omega)]
 have:=readL_o (k:=s.kind) (rest:=bodyB s (hasN s.kind.toNat)) (check_parts h).1 hd (by rw [hf];exact h)
 rw [hf] at this
 exact this
def fmax (c:UInt8):Nat:=if c=117 then 34 else if c=114 then 13 else if c=109 then 25 else if c=110 then 6 else 1
theorem field_max {s:StzD} {c:UInt8} (hc:letterS c) (h:okF s c):(fieldB s c).length≤fmax c:=by
 have b1:∀ n,(beL n 1).length=1:=fun _=>rfl
 have b6:∀ n,(beL n 6).length=6:=fun _=>rfl
 rcases hc with rfl | rfl | rfl | rfl | rfl | rfl | rfl
 ·rw [fld117,sayB_len];have:=ok117 h;show _≤34;omega
 ·rw [fld114,sayB_len];have:=ok114 h;show _≤13;omega
 ·rw [fld109,sayB_len];have:=ok109 h;show _≤25;omega
 ·rw [fld115,b1];decide
 ·rw [fld112,b1];decide
 ·rw [fld99,b1];decide
 ·rw [fld110,b6];decide
theorem body_max {s:StzD}:∀ {L:List UInt8},(∀ c ∈ L,letterS c∧okF s c)→(bodyB s L).length≤(L.map fmax).sum
 | [],_=>by simp [bodyB]
 | c :: L,h=>by
  have h1:=body_max (s:=s) (L:=L) (fun d hd=>h d (List.mem_cons_of_mem _ hd))
  have h2:=field_max (h c (by simp)).1 (h c (by simp)).2
  have e:bodyB s (c :: L)=fieldB s c++bodyB s L:=by simp [bodyB]
  rw [e,List.length_append,List.map_cons,List.sum_cons];omega
theorem ite_p {p:Prop} [Decidable p] {a b:List UInt8} {Q:List UInt8→Prop} (ha:Q a) (hb:Q b):Q (if p then a else b):=by split <;> assumption
theorem sum_max (k:Nat):((hasN k).map fmax).sum≤80:=by
 have:(fun l:List UInt8=>(l.map fmax).sum≤80) (hasN k):=by
  unfold hasN
  repeat' (refine ite_p (Q:=fun l:List UInt8=>(l.map fmax).sum≤80) ?_ ?_)
  all_goals decide
 exact this
theorem enc_len {s:StzD} (h:checkS s=0):0 < (encS s).length∧(encS s).length≤81:=by
 have:=body_max (let_ok h)
 have:=sum_max s.kind.toNat
 unfold encS
 rw [List.length_cons];omega
end Go.Proofs.Ytmmmcpeickfolaa

namespace Go.Proofs.Ytmmmcpeickfolaa
open Go.RowKit
theorem u8_fit {n:Int} (h:0≤n∧n≤255):IntKind.wrap .u8 n=n:=by
 obtain ⟨k,rfl⟩ : ∃ k:Nat,n=k:=⟨n.toNat,by omega⟩
 show (k:Int) % 256=k
 omega
def frm (t:List UInt8):List UInt8:=0 :: UInt8.ofNat t.length :: t
theorem lay2 {n:Nat} (h:n≤255):p_octet_Lay (n:Int) 2=some ([0,(n:Int)],0):=by
 have key:∀ F,p_octet_Lay_l1 2 n 2 2 (F + 3) 0 [0,0]=some (2,[0,(n:Int)]):=fun F=>by
  have u0:IntKind.wrap .u8 (shrI .i64 (n:Int) 0)=(n:Int):=by
   have e:shrI .i64 (n:Int) 0=(n:Int):=by
    show (n:Int).fdiv (2 ^ (min (0:Int).toNat 64))=_
    simp
   rw [e]
   exact u8_fit (by omega)
  have u1:IntKind.wrap .u8 (shrI .i64 (n:Int) 8)=0:=by
   have e:shrI .i64 (n:Int) 8=0:=by
    show (n:Int).fdiv (2 ^ 8)=_
    rw [fdivN]
    have:n / 2 ^ 8=0:=Nat.div_eq_of_lt (by omega)
    rw [this];rfl
   rw [e];rfl
  rw [p_octet_Lay_l1]
  show p_octet_Lay_l1 2 n 2 2 (F + 2) 1 (List.set [0,0] 1 (IntKind.wrap .u8 (shrI .i64 (n:Int) 0)))=_
  rw [u0,p_octet_Lay_l1]
  show p_octet_Lay_l1 2 n 2 2 (F + 1) 2 (List.set [0,(n:Int)] 0 (IntKind.wrap .u8 (shrI .i64 (n:Int) 8)))=_
  rw [u1,p_octet_Lay_l1];rfl
 have k2:p_octet_Lay_l1 2 n 2 2 fuel 0 [0,0]=_:=key (fuel - 3)
 have s0:(shrI .i64 (n:Int) 16 != 0)=false:=by
  have e:shrI .i64 (n:Int) 16=0:=by
   show (n:Int).fdiv (2 ^ 16)=_
   rw [fdivN]
   have:n / 2 ^ 16=0:=Nat.div_eq_of_lt (by omega)
   rw [this];rfl
  rw [e];rfl
 unfold p_octet_Lay
 rw [show p_octet_wide 2=some true from rfl]
 simp only [Option.bind_some,cond_true]
 rw [show decide ((n:Int) < 0)=false by simp,cond_false,show pos? (w64 ((8:Int) * 2))=some () from rfl,Option.bind_some,show w64 ((8:Int) * 2)=16 from rfl,s0,cond_false,show mk? (2:Int) (0:Int)=some [0,0] from rfl,Option.bind_some,k2]
 rfl
theorem put_frm (t:List UInt8) (h0:0 < t.length) (h:t.length≤128):p_frame_Put (ba t)=some (ba (frm t),0):=by
 have e1:((ba t).toList == (⟨#[]⟩ : ByteArray).toList)=false:=by
  rw [Bool.eq_false_iff]
  intro g
  have:=eqT_iff.1 g
  have:=congrArg ByteArray.size this
  rw [ba_size] at this
  have e:(⟨#[]⟩ : ByteArray).size=0:=rfl
  omega
 have tx:text? [0,(t.length:Int)]=some (ba [0,UInt8.ofNat t.length]):=by
  unfold text?
  rw [if_pos (by simp;omega)];rfl
 have ct:cat? (ba [0,UInt8.ofNat t.length]) (ba t)=some (ba (frm t)):=by
  unfold cat?
  rw [if_pos (by rw [ba_size,ba_size];simp;omega),ba_app];rfl
 unfold p_frame_Put
 rw [e1,cond_false,ba_size,decide_eq_false (show ¬ (128:Int) < (t.length:Int) by omega),cond_false,lay2 (by omega),Option.bind_some,tx,Option.bind_some,ct];rfl
theorem join_frm:∀ (ts:List (List UInt8)) (acc:List UInt8),(∀ t ∈ ts,0 < t.length∧t.length≤128)→acc.length + 200 * ts.length≤1000000→joinL p_frame_Put (ts.map ba) acc=some (ba (acc++(ts.map frm).flatten),0)
 | [],acc,_,_=>by simp [joinL,ba]
 | t :: ts,acc,h,hl=>by
  obtain ⟨h0,h1⟩:=h t (List.mem_cons_self ..)
  rw [List.length_cons] at hl
  have hf:(ba (frm t)).size=t.length + 2:=by rw [ba_size];rfl
  rw [List.map_cons,joinL,put_frm t h0 h1]
  rw [Option.bind_some,if_neg (by simp),if_pos (show acc.length + (ba (frm t)).size≤1000000000 by omega),show (ba (frm t),(0:Int)).1=ba (frm t) from rfl,ba_list,join_frm ts _ (fun x hx=>h x (List.mem_cons_of_mem _ hx)) (by rw [List.length_append];show acc.length + (t.length + 2) + _≤_;omega)]
  simp
structure Fine (x:StanzaStanza):Prop where
 kind:0≤x.Kind∧x.Kind≤255
 user:x.User.size≤100
 res:x.Res.size≤100
 name:x.Name.size≤100
theorem Fine.fits {x:StanzaStanza} (h:Fine x):stzFits x:=⟨h.kind,by have:=h.user;omega,by have:=h.res;omega,by have:=h.name;omega⟩
theorem to_of {x:StanzaStanza} (h:Fine x):stzTo (stzOf x)=x:=by
 unfold stzTo stzOf
 simp only [u8_of h.kind]
def encX (x:StanzaStanza):List UInt8:=encS (stzOf x)
theorem put_fine {x:StanzaStanza} (h:Fine x) (hc:checkS (stzOf x)=0):p_stanza_Put x=some (ba (encX x),0):=by
 unfold p_stanza_Put putP
 rw [if_pos h.fits,if_neg (by simpa using hc)];rfl
theorem item_fine {x:StanzaStanza} (h:Fine x) (hc:checkS (stzOf x)=0):itemR (encX x)=DeframeItem.mk x 0:=by
 unfold itemR encX
 rw [read_enc hc,to_of h]
theorem encode_l (ws:List StanzaStanza) (hw:∀ x ∈ ws,Fine x∧checkS (stzOf x)=0) (hn:ws.length≤1000):∀ (n k F:Nat) (acc:List ByteArray),k + n=ws.length→n < F→acc.length≤k→p_deframe_Encode_l1 ws (ws.length:Int) F acc (k:Int)=some (.inr (acc++(ws.drop k).map fun x=>ba (encX x),(ws.length:Int)))
 | 0,k,F + 1,acc,hk,hF,ha=>by
  rw [p_deframe_Encode_l1,lt_ff (by omega),show k=ws.length by omega,List.drop_length];simp
 | n + 1,k,F + 1,acc,hk,hF,ha=>by
  have hlt:k < ws.length:=by omega
  obtain ⟨f1,f2⟩:=hw _ (List.getElem_mem hlt)
  rw [p_deframe_Encode_l1,lt_tt hlt,cond_true,at_lt hlt,Option.bind_some,put_fine f1 f2,Option.bind_some]
  simp only [bne_self_eq_false,cond_false]
  rw [app_ok (by simp;omega),Option.bind_some,w64_succ (by omega),encode_l ws hw hn n (k + 1) F _ (by omega) (by omega) (by simp;omega),drop_at hlt,List.map_cons,List.append_assoc]
  rfl
theorem encode_p (ws:List StanzaStanza) (hw:∀ x ∈ ws,Fine x∧checkS (stzOf x)=0) (hn:ws.length≤1000):p_deframe_Encode ws=some (ba ((ws.map fun x=>frm (encX x)).flatten),0):=by
 unfold p_deframe_Encode
 have e:=encode_l ws hw hn ws.length 0 fuel [] (by omega) (by have:=fuel_pos;omega) (Nat.zero_le _)
 rw [List.drop_zero,List.nil_append] at e
 have e' : p_deframe_Encode_l1 ws (ws.length:Int) fuel [] (0:Int)=_:=e
 rw [e']
 simp only [Option.bind_some]
 have hm:(ws.map fun x=>ba (encX x))=(ws.map encX).map ba:=by rw [List.map_map];rfl
 have hj:=join_frm (ws.map encX) [] (fun t ht=>by
  obtain ⟨x,hx,rfl⟩:=List.mem_map.1 ht
  have:=enc_len (hw x hx).2
  exact ⟨this.1,by have:=this.2;show (encS (stzOf x)).length≤128;omega⟩) (by rw [List.length_map];simp;omega)
 unfold p_frame_Join
 rw [if_pos (by rw [List.length_map];omega),hm,hj,List.nil_append,List.map_map]
 rfl
theorem need_0 (i:Nat):p_deframe_Need (DeframeState.mk (⟨#[]⟩ : ByteArray) 0 (i:Int))=some 2:=by
 have hg:Good [] 0 (i:Int):=⟨by omega,Nat.zero_le _,.inl ⟨rfl,rfl⟩⟩
 have hd:=deaf_good hg
 have hd2:p_deframe_State_deaf (DeframeState.mk (⟨#[]⟩ : ByteArray) 0 (i:Int))=some ((0:Int) != 0):=hd
 unfold p_deframe_Need
 rw [hd2];rfl
theorem cut2 {L:Nat} (h0:0 < L) (h1:L≤128):getR [0,UInt8.ofNat L]=.cut:=by
 have hb:(UInt8.ofNat L).toNat=L:=by rw [UInt8.toNat_ofNat'];omega
 rw [getR,hb]
 have z:(0:UInt8).toNat=0:=rfl
 rw [z,if_neg (by omega),if_neg (by omega),if_pos (by simp;omega)]
theorem need_2 (i L:Nat) (h0:0 < L) (h1:L≤128):p_deframe_Need (DeframeState.mk (ba [0,UInt8.ofNat L]) 0 (i:Int))=some (L:Int):=by
 have hb:(UInt8.ofNat L).toNat=L:=by rw [UInt8.toNat_ofNat'];omega
 have hg:Good [0,UInt8.ofNat L] 0 (i:Int):=⟨by omega,by simp,.inl ⟨rfl,cut2 h0 h1⟩⟩
 have s0:shlI .i64 (0:Int) (8:Int)=((0 * 256:Nat):Int):=shl_n 0 (by decide)
 have o0:=or_n 0 (UInt8.ofNat L) (by decide)
 rw [hb] at o0
 unfold p_deframe_Need
 rw [deaf_good hg]
 simp only [Option.bind_some,bne_self_eq_false,cond_false]
 rw [show decide ((2:Int)≤((ba [0,UInt8.ofNat L]).size:Int))=true from rfl,cond_true,show byte? (ba [0,UInt8.ofNat L]) (0:Int)=some 0 from rfl,show byte? (ba [0,UInt8.ofNat L]) (1:Int)=some ((UInt8.ofNat L).toNat:Int) from rfl,hb]
 simp only [Option.bind_some]
 rw [show w64 (0:Int)=0 from rfl,s0,w64_id (r:=(L:Int)) (by omega),o0,show ((ba [0,UInt8.ofNat L]).size:Int)=2 from rfl,w64_id (r:=2 + _) (by omega),w64_id (by omega)]
 congr 1;omega
theorem run_frm (t:List UInt8) (h0:0 < t.length) (h1:t.length≤128):run (0 :: UInt8.ofNat t.length :: t)=([t],[],0):=by
 have hb:(UInt8.ofNat t.length).toNat=t.length:=by rw [UInt8.toNat_ofNat'];omega
 have hg:getR (0 :: UInt8.ofNat t.length :: t)=.ok t []:=by
  have z:(0:UInt8).toNat=0:=rfl
  rw [getR,hb,z,if_neg (by omega),if_neg (by omega),if_neg (by omega),show 256 * 0 + t.length=t.length by omega,List.take_length,List.drop_length]
 rw [run_ok hg,run_nil]
theorem back_l2 (ws:List StanzaStanza) (hw:∀ x ∈ ws,Fine x∧checkS (stzOf x)=0) (hn:ws.length≤12):∀ (n i F:Nat),i + n=ws.length→2 * n < F →
  p_law12_DeframeBack_l2 ws (ba ((ws.map fun x=>frm (encX x)).flatten)) F (i:Int) ((((ws.take i).map fun x=>frm (encX x)).flatten.length:Nat):Int) (DeframeState.mk (⟨#[]⟩ : ByteArray) 0 (i:Int)) =
   some (.inr ((ws.length:Int),((((ws.map fun x=>frm (encX x)).flatten).length:Nat):Int),DeframeState.mk (⟨#[]⟩ : ByteArray) 0 (ws.length:Int))):=by
 have hsize:∀ l:List StanzaStanza,(∀ x ∈ l,Fine x∧checkS (stzOf x)=0)→((l.map fun x=>frm (encX x)).flatten).length≤83 * l.length:=by
  intro l
  induction l with
  | nil=>intro _;simp
  | cons x l ih =>
   intro h
   have:=ih fun y hy=>h y (List.mem_cons_of_mem _ hy)
   have h2:=(enc_len (h x (List.mem_cons_self ..)).2).2
   rw [List.map_cons,List.flatten_cons,List.length_append,List.length_cons]
   have:(frm (encX x)).length=(encS (stzOf x)).length + 2:=rfl
   omega
 have hS:=hsize ws hw
 intro n
 induction n with
 | zero =>
  intro i F hi hF
  obtain ⟨F,rfl⟩ : ∃ G,F=G + 1:=⟨F - 1,by omega⟩
  have e:i=ws.length:=by omega
  subst e
  rw [p_law12_DeframeBack_l2,ba_size,List.take_length,lt_ff (Nat.le_refl _)];rfl
 | succ n ih =>
  intro i F hi hF
  obtain ⟨F,rfl⟩ : ∃ G,F=G + 2:=⟨F - 2,by omega⟩
  have hlt:i < ws.length:=by omega
  obtain ⟨f1,f2⟩:=hw _ (List.getElem_mem hlt)
  obtain ⟨hL0,hL1⟩:=enc_len f2
  have nxt:=ih (i + 1) F (by omega) (by omega)
  have hdrop:((ws.map fun x=>frm (encX x)).flatten)=((ws.take i).map fun x=>frm (encX x)).flatten++(frm (encX ws[i])++((ws.drop (i + 1)).map fun x=>frm (encX x)).flatten):=by
   conv=>lhs;rw [← List.take_append_drop i ws,drop_at hlt]
   rw [List.map_append,List.flatten_append,List.map_cons,List.flatten_cons]
  have htk:((ws.take (i + 1)).map fun x=>frm (encX x)).flatten=((ws.take i).map fun x=>frm (encX x)).flatten++frm (encX ws[i]):=by
   rw [List.take_succ_eq_append_getElem hlt,List.map_append,List.flatten_append];simp
  rw [htk] at nxt
  generalize hA:((ws.take i).map fun x=>frm (encX x)).flatten=A at *
  generalize hZ:((ws.drop (i + 1)).map fun x=>frm (encX x)).flatten=Z at *
  generalize hW:(ws.map fun x=>frm (encX x)).flatten=W at *
  have hitem:=item_fine f1 f2
  have hl0:(encX ws[i]).length=(encS (stzOf ws[i])).length:=rfl
  generalize encX ws[i]=t at *
  have hf:(frm t).length=t.length + 2:=rfl
  rw [List.length_append,hf] at nxt
  have hWl:W.length=A.length + (t.length + 2 + Z.length):=by rw [hdrop,List.length_append,List.length_append,hf]
  have hd1:W.drop A.length=frm t++Z:=by rw [hdrop];exact List.drop_left' rfl
  have hd2:W.drop (A.length + 2)=t++Z:=by rw [← List.drop_drop,hd1];rfl
  have s1:sub? (ba W) (some (A.length:Int)) (some ((A.length + 2:Nat):Int))=some (ba [0,UInt8.ofNat t.length]):=by
   rw [sub_p (by omega) (by rw [ba_size];omega),ba_list,hd1,show A.length + 2 - A.length=2 by omega];rfl
  have s2:sub? (ba W) (some ((A.length + 2:Nat):Int)) (some ((A.length + 2 + t.length:Nat):Int))=some (ba t):=by
   rw [sub_p (by omega) (by rw [ba_size];omega),ba_list,hd2,show A.length + 2 + t.length - (A.length + 2)=t.length by omega,List.take_left' rfl]
  have g0:Good [] 0 (i:Int):=⟨by omega,Nat.zero_le _,.inl ⟨rfl,rfl⟩⟩
  have g2:Good [0,UInt8.ofNat t.length] 0 (i:Int):=⟨by omega,by simp,.inl ⟨rfl,cut2 (by omega) (by omega)⟩⟩
  have fd1:=feed_good g0 (ba [0,UInt8.ofNat t.length]) (by rw [ba_size];simp)
  rw [ba_list,List.nil_append,run_cut (cut2 (by omega) (by omega))] at fd1
  have fd2:=feed_good g2 (ba t) (by rw [ba_size];omega)
  rw [ba_list,show [0,UInt8.ofNat t.length]++t=0 :: UInt8.ofNat t.length :: t from rfl,run_frm t (by omega) (by omega)] at fd2
  have fd1' : p_deframe_Feed (DeframeState.mk (⟨#[]⟩ : ByteArray) 0 (i:Int)) (ba [0,UInt8.ofNat t.length])=some (DeframeState.mk (ba [0,UInt8.ofNat t.length]) 0 (i:Int),[]):=fd1
  have hsk:seenK (i:Int) 1=((i + 1:Nat):Int):=seenK_id 1 i (by omega) (by omega)
  have fd2' : p_deframe_Feed (DeframeState.mk (ba [0,UInt8.ofNat t.length]) 0 (i:Int)) (ba t)=some (DeframeState.mk (⟨#[]⟩ : ByteArray) 0 ((i + 1:Nat):Int),[DeframeItem.mk ws[i] 0]):=by
   rw [fd2]
   simp only [List.length_singleton,List.map_cons,List.map_nil,hsk,hitem]
   rfl
  have l30:p_law12_DeframeBack_l3 ws [] fuel (i:Int) 0=some (.inr ((i:Int),0)):=by rw [show fuel=(fuel - 1) + 1 from rfl,p_law12_DeframeBack_l3];rfl
  have l31:p_law12_DeframeBack_l3 ws [DeframeItem.mk ws[i] 0] fuel (i:Int) 0=some (.inr (((i + 1:Nat):Int),1)):=by
   have key:∀ G,p_law12_DeframeBack_l3 ws [DeframeItem.mk ws[i] 0] (G + 2) (i:Int) 0=some (.inr (((i + 1:Nat):Int),1)):=fun G=>by
    rw [p_law12_DeframeBack_l3]
    rw [show decide ((0:Int) < ([DeframeItem.mk ws[i] 0].length:Int))=true from rfl,cond_true,decide_eq_false (show ¬ (ws.length:Int)≤(i:Int) by omega),cond_false,show at? [DeframeItem.mk ws[i] 0] (0:Int)=some (DeframeItem.mk ws[i] 0) from rfl,at_lt hlt]
    simp only [cond_false,bne_self_eq_false,Option.bind_some,eqT_refl,beq_self_eq_true,Bool.and_self,Bool.and_true,cond_true]
    show (p_law12_DeframeBack_l3 ws [DeframeItem.mk ws[i] 0] (G + 1) (w64 ((i:Int) + 1)) (w64 ((0:Int) + 1)))=_
    rw [w64_succ (by omega),p_law12_DeframeBack_l3];rfl
   exact key (fuel - 2)
  rw [p_law12_DeframeBack_l2,ba_size,lt_tt (show A.length < W.length by omega),cond_true,need_0,Option.bind_some]
  simp only [show decide ((2:Int) < 1)=false from rfl,cond_false]
  rw [w64_id (r:=(W.length:Int) - (A.length:Int)) (by omega),decide_eq_false (show ¬ (W.length:Int) - (A.length:Int) < 2 by omega),cond_false,show w64 ((A.length:Int) + 2)=((A.length + 2:Nat):Int) by rw [w64_id (by omega)];rfl,s1,Option.bind_some,fd1',Option.bind_some]
  simp only
  rw [l30]
  simp only [Option.bind_some]
  rw [p_law12_DeframeBack_l2,ba_size,lt_tt (show A.length + 2 < W.length by omega),cond_true,need_2 i t.length (by omega) (by omega),Option.bind_some,decide_eq_false (show ¬ (t.length:Int) < 1 by omega),cond_false,w64_id (r:=(W.length:Int) - ((A.length + 2:Nat):Int)) (by omega),decide_eq_false (show ¬ (W.length:Int) - ((A.length + 2:Nat):Int) < (t.length:Int) by omega),cond_false,show w64 (((A.length + 2:Nat):Int) + (t.length:Int))=((A.length + 2 + t.length:Nat):Int) by rw [w64_id (by omega)];rfl,s2,Option.bind_some,fd2',Option.bind_some]
  simp only
  rw [l31]
  simp only [Option.bind_some]
  rw [show A.length + 2 + t.length=A.length + (t.length + 2) by omega]
  exact nxt
theorem light_x (x:StanzaStanza):p_ref10_Light x=some (decide (x.User.size≤100) && (decide (x.Res.size≤100) && decide (x.Name.size≤100))):=by
 unfold p_ref10_Light
 rw [show decide ((x.User.size:Int)≤100)=decide (x.User.size≤100) by congr 1;simp;omega,show decide ((x.Res.size:Int)≤100)=decide (x.Res.size≤100) by congr 1;simp;omega,show decide ((x.Name.size:Int)≤100)=decide (x.Name.size≤100) by congr 1;simp;omega]
 cases decide (x.User.size≤100) <;> cases decide (x.Res.size≤100) <;> rfl
theorem back_l1 (haw:p_law12_awake=some true) (l:List StanzaStanza) (hk:∀ x ∈ l,0≤x.Kind∧x.Kind≤255) (hn:l.length≤12):∀ (n k F:Nat) (acc:List StanzaStanza),k + n=l.length→n < F→acc.length≤k→(∀ x ∈ acc,Fine x∧checkS (stzOf x)=0) →
  p_law12_DeframeBack_l1 l F acc (k:Int)=some (.inl true)∨∃ ws z,p_law12_DeframeBack_l1 l F acc (k:Int)=some (.inr (ws,z))∧ws.length≤12∧∀ x ∈ ws,Fine x∧checkS (stzOf x)=0
 | 0,k,F + 1,acc,h1,hF,ha,hw=>by
  right
  refine ⟨acc,(k:Int),?_,by omega,hw⟩
  rw [p_law12_DeframeBack_l1,lt_ff (by omega)];rfl
 | n + 1,k,F + 1,acc,h1,hF,ha,hw=>by
  have hlt:k < l.length:=by omega
  rw [p_law12_DeframeBack_l1,lt_tt hlt,cond_true,at_lt hlt]
  simp only [Option.bind_some]
  rw [light_x,Option.bind_some]
  cases hL:(decide (l[k].User.size≤100) && (decide (l[k].Res.size≤100) && decide (l[k].Name.size≤100))) with
  | false=>left;rw [cond_false,haw];rfl
  | true =>
   simp only [Bool.and_eq_true,decide_eq_true_eq] at hL
   have hf:Fine l[k]:=⟨hk _ (List.getElem_mem hlt),hL.1,hL.2.1,hL.2.2⟩
   have hc:p_stanza_Check l[k]=some (checkS (stzOf l[k])):=by unfold p_stanza_Check;rw [if_pos hf.fits]
   rw [cond_true,hc,Option.bind_some,w64_succ (by omega)]
   by_cases h0:checkS (stzOf l[k])=0
   ·rw [show (checkS (stzOf l[k]) == 0)=true by simpa using h0,cond_true,app_ok (by simp;omega),Option.bind_some]
    refine back_l1 haw l hk hn n (k + 1) F _ (by omega) (by omega) (by simp;omega) fun x hx=>?_
    rcases List.mem_append.1 hx with hx | hx
    ·exact hw x hx
    ·rw [List.mem_singleton.1 hx];exact ⟨hf,h0⟩
   ·rw [show (checkS (stzOf l[k]) == 0)=false by simpa using h0,cond_false]
    exact back_l1 haw l hk hn n (k + 1) F _ (by omega) (by omega) (by omega) hw
theorem deframeBack_pure (haw:p_law12_awake=some true) (l:List StanzaStanza) (hk:∀ x ∈ l,0≤x.Kind∧x.Kind≤255):p_law12_DeframeBack l=some true:=by
 unfold p_law12_DeframeBack
 by_cases h:(12:Int) < (l.length:Int)
 ·rw [decide_eq_true h,haw];rfl
 rw [decide_eq_false h,cond_false]
 have h1:=back_l1 haw l hk (by omega) l.length 0 fuel [] (by omega) (by have:=fuel_pos;omega) (Nat.zero_le _) (fun x hx=>by cases hx)
 have z0:((0:Nat):Int)=0:=rfl
 rw [z0] at h1
 rcases h1 with h1 | ⟨ws,z,h1,h2,h3⟩
 ·rw [h1];rfl
 ·rw [h1]
  simp only [Option.bind_some]
  have h4:=back_l2 ws h3 h2 ws.length 0 fuel (by omega) (by have:=fuel_pos;omega)
  have h4' : p_law12_DeframeBack_l2 ws (ba ((ws.map fun x=>frm (encX x)).flatten)) fuel (0:Int) (0:Int) (DeframeState.mk (⟨#[]⟩ : ByteArray) 0 0)=_:=h4
  rw [encode_p ws h3 (by omega)]
  simp only [Option.bind_some,bne_self_eq_false,cond_false]
  rw [h4']
  simp only [Option.bind_some,beq_self_eq_true,cond_true,eqT_refl,Bool.and_self,haw]
end Go.Proofs.Ytmmmcpeickfolaa

namespace Go.Proofs.Ytmmmcpeickfolaa
open Go.RowKit
set_option maxRecDepth 100000
set_option maxHeartbeats 4000000
def gc9:BCode:=(.seq (R_ 1 [O_ 1 (.bx (t_ 0)) 0,O_ 2 (.mv (i_ 0)) 1]) (.seq (.seq (R_ 0 [O_ 6 (.fa 1 (t_ 1)) 0,O_ 7 (.ld 1 false (t_ 6)) 0,O_ 8 (.bin .neq (t_ 7) (i_ 0)) 0,O_ 9 (.mv (t_ 8)) 0,⟨(some 10),.fa 0 (t_ 1),(some (9,true)),0⟩,⟨(some 11),.ld 1 false (t_ 10),(some (9,true)),0⟩,⟨(some 12),.bin .neq (t_ 11) (.const (.string ⟨#[]⟩)),(some (9,true)),0⟩,O_ 13 (.pick (t_ 9) (t_ 12) (b_ false)) 0]) (.cond (t_ 13) (.seq (R_ 0 [O_ 2 (.mv (i_ 4)) 0]) .ret) .skip)) (.seq (.seq (R_ 0 [O_ 15 (.fa 0 (t_ 1)) 0,O_ 16 (.ld 1 false (t_ 15)) 0,O_ 17 (.cl 34 [(t_ 16)]) 0,O_ 14 (.mv (t_ 17)) 0,O_ 18 (.ex (t_ 14) 0) 0,O_ 19 (.ex (t_ 14) 1) 0,O_ 20 (.ex (t_ 14) 2) 0,O_ 3 (.mv (t_ 18)) 0,O_ 4 (.mv (t_ 19)) 0,O_ 5 (.mv (t_ 20)) 0]) (.seq (R_ 0 [O_ 21 (.mv (t_ 5)) 0,O_ 22 (.bin .neq (t_ 21) (i_ 3)) 0]) (.cond (t_ 22) (.seq (R_ 0 [O_ 2 (.mv (i_ 5)) 0]) .ret) .skip))) (.seq (.seq (R_ 0 [O_ 23 (.fa 2 (t_ 1)) 0,O_ 24 (.ld 1 false (t_ 23)) 0,O_ 25 (.bin .lss (t_ 24) (i_ 0)) 0]) (.cond (t_ 25) (.seq (R_ 0 [O_ 2 (.mv (i_ 8)) 0]) .ret) .skip)) (.seq (R_ 0 [O_ 2 (.mv (i_ 0)) 0]) .ret)))))
theorem gc9_ok:compF Try.prog Try.f9=some (gc9.er,26,[.tmp 2]):=by unfold gc9;kernel_rfl
theorem p_deframe_Check_v (a0:DeframeState):CallsO Try.prog 9 [.agg [.s a0.Buf,.i a0.Bad,.i a0.Seen]] V.i (p_deframe_Check a0):=by
 refine callsO_comp mix Try.func9 gc9_ok fun r H=>?_
 rw [p_deframe_Check] at H
 conv=>whnf
 refine tst_d H (fun b1 H=>?_) (fun b1 H=>?_)
 ·conv=>whnf
  iterate 4 (refine Tst.F ?_;conv=>whnf)
  refine ask_c (p_frame_Get_v _) H rfl rfl (fun v6 H=>?_);conv=>whnf
  refine tst_c H (fun b7 H=>?_) (fun b7 H=>?_)
  ·conv=>whnf
   exact fi_ H
  conv=>whnf
  refine tst_c H (fun b8 H=>?_) (fun b8 H=>?_)
  ·conv=>whnf
   exact fi_ H
  conv=>whnf
  exact fi_ H
 conv=>whnf
 iterate 3 (refine Tst.T ?_;conv=>whnf)
 refine Tst.not ?_
 refine tst_d H (fun b2 H=>?_) (fun b2 H=>?_)
 ·conv=>whnf
  exact fi_ H
 conv=>whnf
 refine ask_c (p_frame_Get_v _) H rfl rfl (fun v3 H=>?_);conv=>whnf
 refine tst_c H (fun b4 H=>?_) (fun b4 H=>?_)
 ·conv=>whnf
  exact fi_ H
 conv=>whnf
 refine tst_c H (fun b5 H=>?_) (fun b5 H=>?_)
 ·conv=>whnf
  exact fi_ H
 conv=>whnf
 exact fi_ H
def gc44:BCode:=(.seq (R_ 1 [O_ 1 (.bx (t_ 0)) 0,O_ 2 (.mv (b_ false)) 1]) (.seq (R_ 0 [O_ 3 (.fa 1 (t_ 1)) 0,O_ 4 (.ld 1 false (t_ 3)) 0,O_ 5 (.bin .neq (t_ 4) (i_ 0)) 0,O_ 6 (.mv (t_ 5)) 0,⟨(some 7),.ld 3 true (t_ 1),(some (6,false)),0⟩,⟨(some 8),.cl 9 [(t_ 7)],(some (6,false)),0⟩,⟨(some 9),.bin .neq (t_ 8) (i_ 0),(some (6,false)),0⟩,O_ 10 (.pick (t_ 6) (b_ true) (t_ 9)) 0,O_ 2 (.mv (t_ 10)) 0]) .ret))
theorem gc44_ok:compF Try.prog Try.f44=some (gc44.er,11,[.tmp 2]):=by unfold gc44;kernel_rfl
theorem p_deframe_State_deaf_v (a0:DeframeState):CallsO Try.prog 44 [.agg [.s a0.Buf,.i a0.Bad,.i a0.Seen]] V.b (p_deframe_State_deaf a0):=by
 refine callsO_comp mix Try.func44 gc44_ok fun r H=>?_
 rw [p_deframe_State_deaf] at H
 conv=>whnf
 refine tst_c H (fun b1 H=>?_) (fun b1 H=>?_)
 ·conv=>whnf
  iterate 3 (refine Tst.T ?_;conv=>whnf)
  exact fb_ H
 conv=>whnf
 refine Tst.F ?_;conv=>whnf
 refine ask_c (p_deframe_Check_v _) H rfl rfl (fun v2 H=>?_);conv=>whnf
 iterate 2 (refine Tst.F ?_;conv=>whnf)
 exact fb_ H
def gc32:BCode:=(.seq (R_ 2 [O_ 2 (.bx (t_ 0)) 0,O_ 4 (.al (.agg [(.lit (.string ⟨#[]⟩)),(.lit (.int .i64 0)),(.lit (.int .i64 0))])) 1,O_ 5 (.mv (.const (.slice none 0 0))) 2]) (.seq (.seq (R_ 0 [O_ 10 (.ld 3 true (t_ 2)) 0,O_ 11 (.cl 44 [(t_ 10)]) 0]) (.cond (t_ 11) (.seq (R_ 0 [O_ 12 (.ld 3 true (t_ 2)) 0,U_ (.st 3 (t_ 4) (t_ 12)) 0,O_ 5 (.mv (.const (.slice none 0 0))) 0]) .ret) .skip)) (.seq (R_ 0 [O_ 13 (.fa 0 (t_ 2)) 0,O_ 14 (.ld 1 false (t_ 13)) 0,O_ 15 (.mv (t_ 1)) 0,O_ 16 (.bin .add (t_ 14) (t_ 15)) 0,O_ 17 (.fa 0 (t_ 2)) 0,U_ (.st 1 (t_ 17) (t_ 16)) 0]) (.seq (R_ 0 [O_ 6 (.mv (.const (.slice none 0 0))) 0]) (.block 0 (.loop (.block 1 (.seq (R_ 0 [O_ 19 (.fa 0 (t_ 2)) 0,O_ 20 (.ld 1 false (t_ 19)) 0,O_ 21 (.cl 34 [(t_ 20)]) 0,O_ 18 (.mv (t_ 21)) 0,O_ 22 (.ex (t_ 18) 0) 0,O_ 23 (.ex (t_ 18) 1) 0,O_ 24 (.ex (t_ 18) 2) 0,O_ 7 (.mv (t_ 22)) 0,O_ 8 (.mv (t_ 23)) 0,O_ 9 (.mv (t_ 24)) 0]) (.seq (.seq (R_ 0 [O_ 25 (.mv (t_ 9)) 0,O_ 26 (.bin .eql (t_ 25) (i_ 3)) 0]) (.cond (t_ 26) (.seq (R_ 0 [O_ 27 (.ld 3 true (t_ 2)) 0,O_ 28 (.mv (t_ 6)) 0,U_ (.st 3 (t_ 4) (t_ 27)) 0,O_ 5 (.mv (t_ 28)) 0]) .ret) .skip)) (.seq (.seq (R_ 0 [O_ 29 (.mv (t_ 9)) 0,O_ 30 (.bin .neq (t_ 29) (i_ 0)) 0]) (.cond (t_ 30) (.seq (R_ 0 [O_ 31 (.mv (t_ 9)) 0,O_ 32 (.fa 0 (t_ 2)) 0,U_ (.st 1 (t_ 32) (.const (.string ⟨#[]⟩))) 0,O_ 33 (.fa 1 (t_ 2)) 0,U_ (.st 1 (t_ 33) (t_ 31)) 0]) (.seq (R_ 0 [O_ 34 (.ld 3 true (t_ 2)) 0,O_ 35 (.mv (t_ 6)) 0,U_ (.st 3 (t_ 4) (t_ 34)) 0,O_ 5 (.mv (t_ 35)) 0]) .ret)) .skip)) (.seq (R_ 2 [O_ 36 (.mv (t_ 6)) 0,O_ 37 (.mv (t_ 7)) 0,O_ 38 (.bs 1 1 [(.lit (.string ⟨#[]⟩))] [(0,(t_ 37))]) 0,O_ 39 (.ap 1 16 (t_ 36) (t_ 38)) 1,O_ 6 (.mv (t_ 39)) 2]) (.seq (R_ 0 [O_ 40 (.fa 0 (t_ 2)) 0,O_ 41 (.ld 1 false (t_ 40)) 0,O_ 42 (.mv (t_ 8)) 0,O_ 43 (.slt (t_ 41) (some (t_ 42)) none) 0,O_ 44 (.fa 0 (t_ 2)) 0,U_ (.st 1 (t_ 44) (t_ 43)) 0]) (R_ 0 [O_ 45 (.fa 2 (t_ 2)) 0,O_ 46 (.ld 1 false (t_ 45)) 0,O_ 47 (.bin .add (t_ 46) (i_ 1)) 0,O_ 48 (.fa 2 (t_ 2)) 0,U_ (.st 1 (t_ 48) (t_ 47)) 0])))))))))))))
theorem gc32_ok:compF Try.prog Try.f32=some (gc32.er,49,[.cell 4 3 true,.tmp 5]):=by unfold gc32;kernel_rfl
theorem p_deframe_Texts_v (a0:DeframeState) (a1:ByteArray):CallsO Try.prog 32 [.agg [.s a0.Buf,.i a0.Bad,.i a0.Seen],.s a1] (fun r:DeframeState × (List ByteArray)=>.tup [DeframeState.v r.1,(fun l:List ByteArray=>V.sl (l.map V.s) false) r.2]) (p_deframe_Texts a0 a1):=by
 refine callsO_comp mix Try.func32 gc32_ok fun r H=>?_
 rw [p_deframe_Texts] at H
 conv=>whnf
 refine ask_c (p_deframe_State_deaf_v _) H rfl rfl (fun v1 H=>?_);conv=>whnf
 refine tst_c H (fun b2 H=>?_) (fun b2 H=>?_)
 ·conv=>whnf
  refine lq_ ?_;conv=>whnf
  refine finR_c (enc:=(fun r:DeframeState × (List ByteArray)=>.tup [DeframeState.v r.1,(fun l:List ByteArray=>V.sl (l.map V.s) false) r.2])) H ?_;conv=>whnf
  exact ⟨_,.tup (.cons (fzagg (.cons (.id rfl) (.cons (.id rfl) (.cons (.id rfl) (.nil)))) rfl) (.cons (.c (.slw)) (.nil)))⟩
 conv=>whnf
 refine cat_c H (fun s3 H=>?_);conv=>whnf
 refine lq_ ?_;conv=>whnf
 obtain ⟨o5,HL6,HQ7⟩:=bind_c H
 refine loop_c [5,6] [7,8,9,18,19,20,21,22,23,24,25,26,27,28,29,30,31,32,33,34,35,36,37,38,39,40,41,42,43,44,45,46,47,48,13,17] [7,8,9,18,19,20,21,22,23,24,25,26,27,28,29,30,31,32,33,34,35,36,37,38,39,40,41,42,43,44,45,46,47,48,13,17] (fun n vals st=>(∃ y9,p_deframe_Texts_l1  n [] y9=some o5∧vals=[.sl (List.map V.s []) true,.sl (List.map V.s []) true]∧st=[.live [.s y9.Buf,.i y9.Bad,.i y9.Seen] 0,.live [.s (⟨#[]⟩ : ByteArray),.i (0:Int),.i (0:Int)] 0])∨(∃ y15 y16,p_deframe_Texts_l1  n y15 y16=some o5∧vals=[.sl (List.map V.s []) true,.osl 2 0 (List.length y15) 1 false]∧st=[.live [.s y16.Buf,.i y16.Bad,.i y16.Seen] 0,.live [.s (⟨#[]⟩ : ByteArray),.i (0:Int),.i (0:Int)] 0,.live (cellsM V.s y15) (cellsM V.s y15).length])) fuel 2 [] (.inl (⟨_,HL6,rfl,rfl⟩)) (Nat.zero_le _) rfl (by kernel_rfl) (by kernel_rfl) rfl ⟨⟨rfl,rfl,rfl⟩,⟨⟨rfl,rfl,rfl⟩,trivial⟩⟩ ?_
 rintro (_ | n8) _ _ (⟨y9,H,rfl,rfl⟩ | ⟨y15,y16,H,rfl,rfl⟩)
 ·rw [p_deframe_Texts_l1] at H;cases H
 ·rw [p_deframe_Texts_l1] at H;cases H
 ·rw [p_deframe_Texts_l1] at H
  conv=>whnf
  refine ask_c (p_frame_Get_v _) H rfl rfl (fun v10 H=>?_);conv=>whnf
  refine tst_c H (fun b11 H=>?_) (fun b11 H=>?_)
  ·conv=>whnf
   refine lq_ ?_;conv=>whnf
   obtain rfl:=Option.some.inj H
   have H:=HQ7
   try dsimp only at H
   refine finR_c (enc:=(fun r:DeframeState × (List ByteArray)=>.tup [DeframeState.v r.1,(fun l:List ByteArray=>V.sl (l.map V.s) false) r.2])) H ?_;conv=>whnf
   exact ⟨_,.tup (.cons (fzagg (.cons (.id rfl) (.cons (.id rfl) (.cons (.id rfl) (.nil)))) rfl) (.cons (.c (.slw)) (.nil)))⟩
  conv=>whnf
  refine tst_c H (fun b12 H=>?_) (fun b12 H=>?_)
  ·conv=>whnf
   refine lq_ ?_;conv=>whnf
   refine lq_ ?_;conv=>whnf
   refine lq_ ?_;conv=>whnf
   obtain rfl:=Option.some.inj H
   have H:=HQ7
   try dsimp only at H
   refine finR_c (enc:=(fun r:DeframeState × (List ByteArray)=>.tup [DeframeState.v r.1,(fun l:List ByteArray=>V.sl (l.map V.s) false) r.2])) H ?_;conv=>whnf
   exact ⟨_,.tup (.cons (fzagg (.cons (.id rfl) (.cons (.id rfl) (.cons (.id rfl) (.nil)))) rfl) (.cons (.c (.slw)) (.nil)))⟩
  conv=>whnf
  refine appN_c (f:=V.s) H (fun _=>rfl) (srcM (f:=V.s) (fun _=>rfl) [] true) rfl (.v (srcOwn (f:=V.s) (l:=[v10.1]) (fun _=>rfl) rfl rfl rfl)) (by decide) rfl (by simp) (fun l13 H=>?_);conv=>whnf
  refine slt_c H (fun s14 H=>?_);conv=>whnf
  refine lq_ ?_;conv=>whnf
  refine Ari.w ?_;conv=>whnf
  refine lq_ ?_;conv=>whnf
  exact again_c [7,8,9,18,19,20,21,22,23,24,25,26,27,28,29,30,31,32,33,34,35,36,37,38,39,40,41,42,43,44,45,46,47,48,13,17] n8 3 [0,1,3] (.inr (⟨_,_,H,rfl,rfl⟩)) (Nat.lt_succ_self _) (Nat.zero_le _) rfl (by kernel_rfl) (by kernel_rfl) rfl ⟨⟨rfl,rfl,rfl⟩,⟨⟨rfl,rfl,rfl⟩,wkB_live0 rfl (cellsM_idlt (f:=V.s) (fun _=>rfl) _) rfl trivial⟩⟩
 rw [p_deframe_Texts_l1] at H
 conv=>whnf
 refine ask_c (p_frame_Get_v _) H rfl rfl (fun v17 H=>?_);conv=>whnf
 refine tst_c H (fun b18 H=>?_) (fun b18 H=>?_)
 ·conv=>whnf
  refine lq_ ?_;conv=>whnf
  obtain rfl:=Option.some.inj H
  have H:=HQ7
  try dsimp only at H
  refine finR_c (enc:=(fun r:DeframeState × (List ByteArray)=>.tup [DeframeState.v r.1,(fun l:List ByteArray=>V.sl (l.map V.s) false) r.2])) H ?_;conv=>whnf
  exact ⟨_,.tup (.cons (fzagg (.cons (.id rfl) (.cons (.id rfl) (.cons (.id rfl) (.nil)))) rfl) (.cons (.c (fzown (f:=V.s) (l:=y15) rfl rfl (fun _=>rfl) (fun _=>rfl))) (.nil)))⟩
 conv=>whnf
 refine tst_c H (fun b19 H=>?_) (fun b19 H=>?_)
 ·conv=>whnf
  refine lq_ ?_;conv=>whnf
  refine lq_ ?_;conv=>whnf
  refine lq_ ?_;conv=>whnf
  obtain rfl:=Option.some.inj H
  have H:=HQ7
  try dsimp only at H
  refine finR_c (enc:=(fun r:DeframeState × (List ByteArray)=>.tup [DeframeState.v r.1,(fun l:List ByteArray=>V.sl (l.map V.s) false) r.2])) H ?_;conv=>whnf
  exact ⟨_,.tup (.cons (fzagg (.cons (.id rfl) (.cons (.id rfl) (.cons (.id rfl) (.nil)))) rfl) (.cons (.c (fzown (f:=V.s) (l:=y15) rfl rfl (fun _=>rfl) (fun _=>rfl))) (.nil)))⟩
 conv=>whnf
 refine appO_c (f:=V.s) H (fun _=>rfl) rfl (Nat.le_refl _) (.v (srcOwn (f:=V.s) (l:=[v17.1]) (fun _=>rfl) rfl rfl rfl)) (by decide) rfl (by simp) (fun l20 H=>?_);conv=>whnf
 refine slt_c H (fun s21 H=>?_);conv=>whnf
 refine lq_ ?_;conv=>whnf
 refine Ari.w ?_;conv=>whnf
 refine lq_ ?_;conv=>whnf
 exact again_c [7,8,9,18,19,20,21,22,23,24,25,26,27,28,29,30,31,32,33,34,35,36,37,38,39,40,41,42,43,44,45,46,47,48,13,17] n8 3 [0,1,4] (.inr (⟨_,_,H,rfl,rfl⟩)) (Nat.lt_succ_self _) (Nat.zero_le _) rfl (by kernel_rfl) (by kernel_rfl) rfl ⟨⟨rfl,rfl,rfl⟩,⟨⟨rfl,rfl,rfl⟩,wkB_live0 rfl (cellsM_idlt (f:=V.s) (fun _=>rfl) _) rfl trivial⟩⟩
def gc33:BCode:=(.seq (R_ 0 [O_ 2 (.mv (.const (.slice none 0 0))) 0]) (.seq (R_ 0 [O_ 3 (.mv (.const (.slice none 0 0))) 0]) (.seq (.seq (R_ 0 [O_ 8 (.mv (t_ 0)) 0,O_ 9 (.lens (t_ 8)) 0,O_ 10 (.mv (i_ 0)) 0]) (.block 0 (.loop (.seq (R_ 0 [O_ 11 (.bin .lss (t_ 10) (t_ 9)) 0]) (.seq (.cond (t_ 11) .skip (.exit 0)) (.seq (.block 1 (.seq (R_ 0 [O_ 12 (.ixs 1 (t_ 8) (t_ 10)) 0,O_ 13 (.ld 1 false (t_ 12)) 0,O_ 5 (.mv (t_ 13)) 0]) (.seq (R_ 1 [O_ 15 (.mv (t_ 5)) 0,O_ 16 (.cl 70 [(t_ 15)]) 0,O_ 14 (.mv (t_ 16)) 0,O_ 17 (.ex (t_ 14) 0) 0,O_ 18 (.ex (t_ 14) 1) 0,O_ 6 (.al (.agg [(.lit (.int .u8 0)),(.lit (.string ⟨#[]⟩)),(.lit (.string ⟨#[]⟩)),(.lit (.string ⟨#[]⟩)),(.lit (.int .i64 0)),(.lit (.int .i64 0)),(.lit (.int .i64 0)),(.lit (.int .i64 0))])) 0,U_ (.st 8 (t_ 6) (t_ 17)) 1,O_ 7 (.mv (t_ 18)) 1]) (R_ 2 [O_ 19 (.mv (t_ 3)) 0,O_ 20 (.ld 8 true (t_ 6)) 0,O_ 21 (.mv (t_ 7)) 0,O_ 22 (.bd [(.lit (.int .u8 0)),(.lit (.string ⟨#[]⟩)),(.lit (.string ⟨#[]⟩)),(.lit (.string ⟨#[]⟩)),(.lit (.int .i64 0)),(.lit (.int .i64 0)),(.lit (.int .i64 0)),(.lit (.int .i64 0)),(.lit (.int .i64 0))] [(0,8,(t_ 20)),(8,1,(t_ 21))]) 0,O_ 23 (.bs 9 1 [(.lit (.int .u8 0)),(.lit (.string ⟨#[]⟩)),(.lit (.string ⟨#[]⟩)),(.lit (.string ⟨#[]⟩)),(.lit (.int .i64 0)),(.lit (.int .i64 0)),(.lit (.int .i64 0)),(.lit (.int .i64 0)),(.lit (.int .i64 0))] [(0,(t_ 22))]) 0,O_ 24 (.ap 9 96 (t_ 19) (t_ 23)) 1,O_ 3 (.mv (t_ 24)) 2])))) (R_ 0 [O_ 25 (.bin .add (t_ 10) (i_ 1)) 0,O_ 10 (.mv (t_ 25)) 0]))))))) (.seq (R_ 0 [O_ 26 (.mv (t_ 3)) 0,O_ 2 (.mv (t_ 26)) 0]) .ret))))
theorem gc33_ok:compF Try.prog Try.f33=some (gc33.er,27,[.tmp 2]):=by unfold gc33;kernel_rfl
theorem p_deframe_items_v {u1:Bool} (a0:List ByteArray):CallsO Try.prog 33 [.sl (List.map V.s a0) u1] (fun l:List DeframeItem=>V.sl (l.map DeframeItem.v) false) (p_deframe_items a0):=by
 refine callsO_comp mix Try.func33 gc33_ok fun r H=>?_
 rw [p_deframe_items] at H
 conv=>whnf
 refine LenQ.M ?_;conv=>whnf
 obtain ⟨o2,HL3,HQ4⟩:=bind_c H
 refine loop_c [3,10] [5,6,7,11,12,13,14,15,16,17,18,19,20,21,22,23,24,25] [5,6,7,11,12,13,14,15,16,17,18,19,20,21,22,23,24,25] (fun n vals st=>(∃ y6,p_deframe_items_l1  a0 (a0.length:Int) n [] y6=some o2∧vals=[.sl (List.map DeframeItem.v []) true,.i y6]∧st=[])∨(∃ y11 y12,p_deframe_items_l1  a0 (a0.length:Int) n y11 y12=some o2∧vals=[.osl 0 0 (List.length y11) 9 false,.i y12]∧st=[.live (cellsM DeframeItem.v y11) (cellsM DeframeItem.v y11).length])) fuel 0 [] (.inl (⟨_,HL3,rfl,rfl⟩)) (Nat.zero_le _) rfl (by kernel_rfl) (by kernel_rfl) rfl trivial ?_
 rintro (_ | n5) _ _ (⟨y6,H,rfl,rfl⟩ | ⟨y11,y12,H,rfl,rfl⟩)
 ·rw [p_deframe_items_l1] at H;cases H
 ·rw [p_deframe_items_l1] at H;cases H
 ·rw [p_deframe_items_l1] at H
  conv=>whnf
  refine tst_d H (fun b7 H=>?_) (fun b7 H=>?_)
  ·conv=>whnf
   obtain rfl:=Option.some.inj H
   have H:=HQ4
   try dsimp only at H
   refine finR_c (enc:=(fun l:List DeframeItem=>V.sl (l.map DeframeItem.v) false)) H ?_;conv=>whnf
   exact ⟨_,.v (.c (.slw))⟩
  conv=>whnf
  refine ixs_c (f:=V.s) H (fun _=>rfl) (fun x8 H=>?_);conv=>whnf
  refine ask_c (p_stanza_Read_v _) H rfl rfl (fun v9 H=>?_);conv=>whnf
  refine lq_ ?_;conv=>whnf
  refine appN_c (f:=DeframeItem.v) H (fun _=>rfl) (srcM (f:=DeframeItem.v) (fun _=>rfl) [] true) rfl (.v (srcOwn (f:=DeframeItem.v) (l:=[(DeframeItem.mk v9.1 v9.2)]) (fun _=>rfl) rfl rfl rfl)) (by decide) rfl (by simp) (fun l10 H=>?_);conv=>whnf
  refine Ari.w ?_;conv=>whnf
  exact again_c [5,6,7,11,12,13,14,15,16,17,18,19,20,21,22,23,24,25] n5 1 [2] (.inr (⟨_,_,H,rfl,rfl⟩)) (Nat.lt_succ_self _) (Nat.zero_le _) rfl (by kernel_rfl) (by kernel_rfl) rfl (wkB_live0 rfl (cellsM_idlt (f:=DeframeItem.v) (fun _=>rfl) _) rfl trivial)
 rw [p_deframe_items_l1] at H
 conv=>whnf
 refine tst_d H (fun b13 H=>?_) (fun b13 H=>?_)
 ·conv=>whnf
  obtain rfl:=Option.some.inj H
  have H:=HQ4
  try dsimp only at H
  refine finR_c (enc:=(fun l:List DeframeItem=>V.sl (l.map DeframeItem.v) false)) H ?_;conv=>whnf
  exact ⟨_,.v (.c (fzown (f:=DeframeItem.v) (l:=y11) rfl rfl (fun _=>rfl) (fun _=>rfl)))⟩
 conv=>whnf
 refine ixs_c (f:=V.s) H (fun _=>rfl) (fun x14 H=>?_);conv=>whnf
 refine ask_c (p_stanza_Read_v _) H rfl rfl (fun v15 H=>?_);conv=>whnf
 refine lq_ ?_;conv=>whnf
 refine appO_c (f:=DeframeItem.v) H (fun _=>rfl) rfl (Nat.le_refl _) (.v (srcOwn (f:=DeframeItem.v) (l:=[(DeframeItem.mk v15.1 v15.2)]) (fun _=>rfl) rfl rfl rfl)) (by decide) rfl (by simp) (fun l16 H=>?_);conv=>whnf
 refine Ari.w ?_;conv=>whnf
 exact again_c [5,6,7,11,12,13,14,15,16,17,18,19,20,21,22,23,24,25] n5 1 [3] (.inr (⟨_,_,H,rfl,rfl⟩)) (Nat.lt_succ_self _) (Nat.zero_le _) rfl (by kernel_rfl) (by kernel_rfl) rfl (wkB_live0 rfl (cellsM_idlt (f:=DeframeItem.v) (fun _=>rfl) _) rfl trivial)
def gc8:BCode:=(.seq (R_ 2 [O_ 2 (.bx (t_ 0)) 0,O_ 4 (.al (.agg [(.lit (.string ⟨#[]⟩)),(.lit (.int .i64 0)),(.lit (.int .i64 0))])) 1,O_ 5 (.mv (.const (.slice none 0 0))) 2]) (.seq (R_ 1 [O_ 9 (.ld 3 true (t_ 2)) 0,O_ 10 (.mv (t_ 1)) 0,O_ 11 (.cl 32 [(t_ 9),(t_ 10)]) 0,O_ 8 (.mv (t_ 11)) 0,O_ 12 (.ex (t_ 8) 0) 0,O_ 13 (.ex (t_ 8) 1) 0,O_ 6 (.al (.agg [(.lit (.string ⟨#[]⟩)),(.lit (.int .i64 0)),(.lit (.int .i64 0))])) 0,U_ (.st 3 (t_ 6) (t_ 12)) 1,O_ 7 (.mv (t_ 13)) 1]) (.seq (.reg 0 [O_ 14 (.ld 3 true (t_ 6)) 0,O_ 15 (.mv (t_ 7)) 0,O_ 16 (.cl 33 [(t_ 15)]) 0,U_ (.st 3 (t_ 4) (t_ 14)) 0,O_ 5 (.mv (t_ 16)) 0] (some [[],[],[1],[1,2,0],[0,3,1,2]]) 0 []) .ret)))
theorem gc8_ok:compF Try.prog Try.f8=some (gc8.er,17,[.cell 4 3 true,.tmp 5]):=by unfold gc8;kernel_rfl
theorem p_deframe_Feed_v (a0:DeframeState) (a1:ByteArray):CallsO Try.prog 8 [.agg [.s a0.Buf,.i a0.Bad,.i a0.Seen],.s a1] (fun r:DeframeState × (List DeframeItem)=>.tup [DeframeState.v r.1,(fun l:List DeframeItem=>V.sl (l.map DeframeItem.v) false) r.2]) (p_deframe_Feed a0 a1):=by
 refine callsO_comp mix Try.func8 gc8_ok fun r H=>?_
 rw [p_deframe_Feed] at H
 conv=>whnf
 refine ask_c (p_deframe_Texts_v _ _) H rfl rfl (fun v1 H=>?_);conv=>whnf
 refine lq_ ?_;conv=>whnf
 refine ask_c (p_deframe_items_v _) H rfl rfl (fun v2 H=>?_);conv=>whnf
 refine lq_ ?_;conv=>whnf
 refine FootQ.mk ⟨rfl,?_⟩;conv=>whnf
 exact fin0_c (enc:=(fun r:DeframeState × (List DeframeItem)=>.tup [DeframeState.v r.1,(fun l:List DeframeItem=>V.sl (l.map DeframeItem.v) false) r.2])) H (.inr rfl) (.cons (.cell rfl rfl (Nat.le_of_ble_eq_true rfl)) (.cons (.tmp rfl) (.nil))) rfl rfl
def gc14:BCode:=(.seq (R_ 0 [O_ 2 (.mv (.const (.string ⟨#[]⟩))) 0,O_ 3 (.mv (i_ 0)) 0]) (.seq (R_ 0 [O_ 4 (.mv (.const (.slice none 0 0))) 0]) (.seq (.seq (R_ 0 [O_ 9 (.mv (t_ 0)) 0,O_ 10 (.lens (t_ 9)) 0,O_ 11 (.mv (i_ 0)) 0]) (.block 0 (.loop (.seq (R_ 0 [O_ 12 (.bin .lss (t_ 11) (t_ 10)) 0]) (.seq (.cond (t_ 12) .skip (.exit 0)) (.seq (.block 1 (.seq (R_ 1 [O_ 13 (.ixs 8 (t_ 9) (t_ 11)) 0,O_ 14 (.ld 8 true (t_ 13)) 0,O_ 6 (.al (.agg [(.lit (.int .u8 0)),(.lit (.string ⟨#[]⟩)),(.lit (.string ⟨#[]⟩)),(.lit (.string ⟨#[]⟩)),(.lit (.int .i64 0)),(.lit (.int .i64 0)),(.lit (.int .i64 0)),(.lit (.int .i64 0))])) 0,U_ (.st 8 (t_ 6) (t_ 14)) 1]) (.seq (R_ 0 [O_ 16 (.ld 8 true (t_ 6)) 0,O_ 17 (.cl 42 [(t_ 16)]) 0,O_ 15 (.mv (t_ 17)) 0,O_ 18 (.ex (t_ 15) 0) 0,O_ 19 (.ex (t_ 15) 1) 0,O_ 7 (.mv (t_ 18)) 0,O_ 8 (.mv (t_ 19)) 0]) (.seq (.seq (R_ 0 [O_ 20 (.mv (t_ 8)) 0,O_ 21 (.bin .neq (t_ 20) (i_ 0)) 0]) (.cond (t_ 21) (.seq (R_ 0 [O_ 22 (.mv (t_ 8)) 0,O_ 2 (.mv (.const (.string ⟨#[]⟩))) 0,O_ 3 (.mv (t_ 22)) 0]) .ret) .skip)) (R_ 2 [O_ 23 (.mv (t_ 4)) 0,O_ 24 (.mv (t_ 7)) 0,O_ 25 (.bs 1 1 [(.lit (.string ⟨#[]⟩))] [(0,(t_ 24))]) 0,O_ 26 (.ap 1 16 (t_ 23) (t_ 25)) 1,O_ 4 (.mv (t_ 26)) 2]))))) (R_ 0 [O_ 27 (.bin .add (t_ 11) (i_ 1)) 0,O_ 11 (.mv (t_ 27)) 0]))))))) (.seq (R_ 0 [O_ 28 (.mv (t_ 4)) 0,O_ 29 (.cl 43 [(t_ 28)]) 0,O_ 30 (.ex (t_ 29) 0) 0,O_ 31 (.ex (t_ 29) 1) 0,O_ 2 (.mv (t_ 30)) 0,O_ 3 (.mv (t_ 31)) 0]) .ret))))
theorem gc14_ok:compF Try.prog Try.f14=some (gc14.er,32,[.tmp 2,.tmp 3]):=by unfold gc14;kernel_rfl
theorem p_deframe_Encode_v {u1:Bool} (a0:List StanzaStanza):CallsO Try.prog 14 [.sl (List.map StanzaStanza.v a0) u1] (fun r:ByteArray × Int=>.tup [V.s r.1,V.i r.2]) (p_deframe_Encode a0):=by
 refine callsO_comp mix Try.func14 gc14_ok fun r H=>?_
 rw [p_deframe_Encode] at H
 conv=>whnf
 refine LenQ.M ?_;conv=>whnf
 obtain ⟨o2,HL3,HQ4⟩:=bind_c H
 refine loop_c [2,3,4,11] [6,7,8,12,13,14,15,16,17,18,19,20,21,22,23,24,25,26,27] [6,7,8,12,13,14,15,16,17,18,19,20,21,22,23,24,25,26,27] (fun n vals st=>(∃ y6,p_deframe_Encode_l1  a0 (a0.length:Int) n [] y6=some o2∧vals=[.s (⟨#[]⟩ : ByteArray),.i (0:Int),.sl (List.map V.s []) true,.i y6]∧st=[])∨(∃ y12 y13,p_deframe_Encode_l1  a0 (a0.length:Int) n y12 y13=some o2∧vals=[.s (⟨#[]⟩ : ByteArray),.i (0:Int),.osl 0 0 (List.length y12) 1 false,.i y13]∧st=[.live (cellsM V.s y12) (cellsM V.s y12).length])) fuel 0 [] (.inl (⟨_,HL3,rfl,rfl⟩)) (Nat.zero_le _) rfl (by kernel_rfl) (by kernel_rfl) rfl trivial ?_
 rintro (_ | n5) _ _ (⟨y6,H,rfl,rfl⟩ | ⟨y12,y13,H,rfl,rfl⟩)
 ·rw [p_deframe_Encode_l1] at H;cases H
 ·rw [p_deframe_Encode_l1] at H;cases H
 ·rw [p_deframe_Encode_l1] at H
  conv=>whnf
  refine tst_d H (fun b7 H=>?_) (fun b7 H=>?_)
  ·conv=>whnf
   obtain rfl:=Option.some.inj H
   have H:=HQ4
   try dsimp only at H
   refine ask_c (p_frame_Join_v _) H rfl rfl (fun v14 H=>?_);conv=>whnf
   exact fin0_c (enc:=(fun r:ByteArray × Int=>.tup [V.s r.1,V.i r.2])) H (.inr rfl) (.cons (.tmp rfl) (.cons (.tmp rfl) (.nil))) rfl rfl
  conv=>whnf
  refine ixs_c (f:=StanzaStanza.v) H (fun _=>rfl) (fun x8 H=>?_);conv=>whnf
  refine lq_ ?_;conv=>whnf
  refine ask_c (p_stanza_Put_v _) H rfl rfl (fun v9 H=>?_);conv=>whnf
  refine tst_c H (fun b10 H=>?_) (fun b10 H=>?_)
  ·conv=>whnf
   obtain rfl:=Option.some.inj H
   have H:=HQ4
   try dsimp only at H
   exact fin0_c (enc:=(fun r:ByteArray × Int=>.tup [V.s r.1,V.i r.2])) H (.inr rfl) (.cons (.tmp rfl) (.cons (.tmp rfl) (.nil))) rfl rfl
  conv=>whnf
  refine appN_c (f:=V.s) H (fun _=>rfl) (srcM (f:=V.s) (fun _=>rfl) [] true) rfl (.v (srcOwn (f:=V.s) (l:=[v9.1]) (fun _=>rfl) rfl rfl rfl)) (by decide) rfl (by simp) (fun l11 H=>?_);conv=>whnf
  refine Ari.w ?_;conv=>whnf
  exact again_c [6,7,8,12,13,14,15,16,17,18,19,20,21,22,23,24,25,26,27] n5 1 [2] (.inr (⟨_,_,H,rfl,rfl⟩)) (Nat.lt_succ_self _) (Nat.zero_le _) rfl (by kernel_rfl) (by kernel_rfl) rfl (wkB_live0 rfl (cellsM_idlt (f:=V.s) (fun _=>rfl) _) rfl trivial)
 rw [p_deframe_Encode_l1] at H
 conv=>whnf
 refine tst_d H (fun b15 H=>?_) (fun b15 H=>?_)
 ·conv=>whnf
  obtain rfl:=Option.some.inj H
  have H:=HQ4
  try dsimp only at H
  refine askF_c (p_frame_Join_v _) H (.cons (.c (fzown (f:=V.s) (l:=y12) rfl rfl (fun _=>rfl) (fun _=>rfl))) (.nil)) (fun v20 H=>?_);conv=>whnf
  exact fin0_c (enc:=(fun r:ByteArray × Int=>.tup [V.s r.1,V.i r.2])) H (.inr rfl) (.cons (.tmp rfl) (.cons (.tmp rfl) (.nil))) rfl rfl
 conv=>whnf
 refine ixs_c (f:=StanzaStanza.v) H (fun _=>rfl) (fun x16 H=>?_);conv=>whnf
 refine lq_ ?_;conv=>whnf
 refine ask_c (p_stanza_Put_v _) H rfl rfl (fun v17 H=>?_);conv=>whnf
 refine tst_c H (fun b18 H=>?_) (fun b18 H=>?_)
 ·conv=>whnf
  obtain rfl:=Option.some.inj H
  have H:=HQ4
  try dsimp only at H
  exact fin0_c (enc:=(fun r:ByteArray × Int=>.tup [V.s r.1,V.i r.2])) H (.inr rfl) (.cons (.tmp rfl) (.cons (.tmp rfl) (.nil))) rfl rfl
 conv=>whnf
 refine appO_c (f:=V.s) H (fun _=>rfl) rfl (Nat.le_refl _) (.v (srcOwn (f:=V.s) (l:=[v17.1]) (fun _=>rfl) rfl rfl rfl)) (by decide) rfl (by simp) (fun l19 H=>?_);conv=>whnf
 refine Ari.w ?_;conv=>whnf
 exact again_c [6,7,8,12,13,14,15,16,17,18,19,20,21,22,23,24,25,26,27] n5 1 [3] (.inr (⟨_,_,H,rfl,rfl⟩)) (Nat.lt_succ_self _) (Nat.zero_le _) rfl (by kernel_rfl) (by kernel_rfl) rfl (wkB_live0 rfl (cellsM_idlt (f:=V.s) (fun _=>rfl) _) rfl trivial)
end Go.Proofs.Ytmmmcpeickfolaa

