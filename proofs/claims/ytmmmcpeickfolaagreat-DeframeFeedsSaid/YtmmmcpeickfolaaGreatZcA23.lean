/- A part of the proof: 4 texts joined. -/
import Derived.Test.YtmmmcpeickfolaaGreatZcA22
import Derived.Test.YtmmmcpeickfolaaGreatZcA17
import Derived.Shelf.Strings.Builder1
import Derived.Test.YtmmmcpeickfolaaGreatProg
import Derived.KernelRfl
set_option linter.all false
namespace Go.Proofs.YtmmmcpeickfolaaGreat
open Go.RowKit
def letV1 (c:UInt8):V:=if c=117 then .tup [.ptr 1 1,.i 33] else if c=114 then .tup [.ptr 1 2,.i 12] else if c=109 then .tup [.ptr 1 3,.i 24] else .tup [.lit (.pointer none),.i 0]
def numbV1 (c:UInt8):V:=if c=115 then .tup [.ptr 1 4,.i 1,.i 0] else if c=112 then .tup [.ptr 1 5,.i 1,.i 128] else if c=99 then .tup [.ptr 1 6,.i 1,.i 0] else .tup [.ptr 1 7,.i 6,.i 0]
def readF (x:RdD × StzD) (c:UInt8):RdD × StzD :=
 if c=117 then ((octTextL x.1 33).1,{ x.2 with user:=(octTextL x.1 33).2 }) else if c=114 then ((octTextL x.1 12).1,{ x.2 with res:=(octTextL x.1 12).2 }) else if c=109 then ((octTextL x.1 24).1,{ x.2 with name:=(octTextL x.1 24).2 })
 else if c=115 then ((numL x.1 1).1,{ x.2 with show_:=(numL x.1 1).2 - 0 }) else if c=112 then ((numL x.1 1).1,{ x.2 with prio:=(numL x.1 1).2 - 128 }) else if c=99 then ((numL x.1 1).1,{ x.2 with code:=(numL x.1 1).2 - 0 }) else ((numL x.1 6).1,{ x.2 with n:=(numL x.1 6).2 - 0 })
theorem rf117 (r:RdD) (s:StzD):readF (r,s) 117=((octTextL r 33).1,{ s with user:=(octTextL r 33).2 }):=rfl
theorem rf114 (r:RdD) (s:StzD):readF (r,s) 114=((octTextL r 12).1,{ s with res:=(octTextL r 12).2 }):=rfl
theorem rf109 (r:RdD) (s:StzD):readF (r,s) 109=((octTextL r 24).1,{ s with name:=(octTextL r 24).2 }):=rfl
theorem rf115 (r:RdD) (s:StzD):readF (r,s) 115=((numL r 1).1,{ s with show_:=(numL r 1).2 - 0 }):=rfl
theorem rf112 (r:RdD) (s:StzD):readF (r,s) 112=((numL r 1).1,{ s with prio:=(numL r 1).2 - 128 }):=rfl
theorem rf99 (r:RdD) (s:StzD):readF (r,s) 99=((numL r 1).1,{ s with code:=(numL r 1).2 - 0 }):=rfl
theorem rf110 (r:RdD) (s:StzD):readF (r,s) 110=((numL r 6).1,{ s with n:=(numL r 6).2 - 0 }):=rfl
theorem num_s (r:RdD) (w:Nat):(numL r w).1.s=r.s:=by
 by_cases h0:faultL r=0
 ·by_cases h2:leftL r < w
  ·rw [numL_short h0 h2]
  ·rw [numL_ok h0 h2]
 ·rw [numL_bad h0]
theorem num_range (r:RdD) (w:Nat) (hw:w≤6):0≤(numL r w).2∧(numL r w).2 < 281474976710656:=by
 by_cases h0:faultL r=0
 ·by_cases h2:leftL r < w
  ·rw [numL_short h0 h2];exact ⟨Int.le_refl 0,Int.lt_of_sub_neg (by simp)⟩
  ·rw [numL_ok h0 h2]
   have hlt:=beN_lt ((r.s.data.toList.drop r.at_.toNat).take w)
   have hl:((r.s.data.toList.drop r.at_.toNat).take w).length≤6:=by simp;omega
   have:(256:Nat) ^ ((r.s.data.toList.drop r.at_.toNat).take w).length≤256 ^ 6:=Nat.pow_le_pow_right (by decide) hl
   rw [p256] at this
   simp only
   omega
 ·rw [numL_bad h0];exact ⟨Int.le_refl 0,Int.lt_of_sub_neg (by simp)⟩
theorem text_s1 (r:RdD) (m:Int):(octTextL r m).1.s=r.s:=by
 unfold octTextL
 split
 ·exact num_s r 1
 split
 ·rfl
 split
 ·rfl
 ·exact num_s r 1
theorem readF_s (x:RdD × StzD) (c:UInt8):(readF x c).1.s=x.1.s∧(readF x c).2.kind=x.2.kind:=by
 unfold readF
 split
 ·exact ⟨text_s1 _ _,rfl⟩
 split
 ·exact ⟨text_s1 _ _,rfl⟩
 split
 ·exact ⟨text_s1 _ _,rfl⟩
 split
 ·exact ⟨num_s _ _,rfl⟩
 split
 ·exact ⟨num_s _ _,rfl⟩
 split
 ·exact ⟨num_s _ _,rfl⟩
 ·exact ⟨num_s _ _,rfl⟩
theorem fold_s (L:List UInt8):∀ x:RdD × StzD,(L.foldl readF x).1.s=x.1.s∧(L.foldl readF x).2.kind=x.2.kind:=by
 induction L with
 | nil=>intro x;exact ⟨rfl,rfl⟩
 | cons c L ih =>
  intro x
  obtain ⟨h1,h2⟩:=ih (readF x c)
  obtain ⟨h3,h4⟩:=readF_s x c
  exact ⟨h1.trans h3,h2.trans h4⟩
attribute [local irreducible] AW Fin FinR seqQ blkQ regQ loopQ CallsV CallsS Callable
attribute [local irreducible] numL octTextL
theorem text_r (c:UInt8) (s:StzD) (r:RdD) (l:List UInt8) (hc:c=117∨c=114∨c=109∨c=115∨c=112∨c=99∨c=110):CallsS Tryz.prog 145 [.ptr 1 0,.u8 c] [.live [.u8 0,.s ⟨#[]⟩,.s ⟨#[]⟩,.s ⟨#[]⟩,.i 0,.i 0,.i 0,.i 0] 0,.live (stzV s).cells 0,.live (rdV r).cells 0] (letV1 c) [.live [.u8 0,.s ⟨#[]⟩,.s ⟨#[]⟩,.s ⟨#[]⟩,.i 0,.i 0,.i 0,.i 0] 0,.live (stzV s).cells 0,.live (rdV r).cells 0]:=by
 have hid:=bytes_idlt l
 refine callsR_comp mix Tryz.func145 ac145_ok rfl ?_
 unfold ac145
 simp only [List.length_cons,List.length_nil,List.replicate_succ,List.replicate_zero,List.cons_append,List.nil_append,Nat.reduceAdd,Nat.reduceSub]
 rcases hc with rfl | rfl | rfl | rfl | rfl | rfl | rfl
 all_goals (repeat' (first | ((try simp only [Nat.reduceAdd,Nat.reduceMul,Nat.zero_add,Nat.add_zero,Int.toNat_natCast,Int.reduceToNat,stzV,rdV]);refine hK' _ _ _ ?_;clear hK' K';first | refine q_regT ?_ | refine q_regD rfl ?_) | first | refine w_seq ?_ | refine q_seqN ?_ | (refine w_reg (by (try simp only [List.length_cons,List.length_nil,Nat.reduceAdd]);rfl) (by (try simp only [List.replicate_succ,List.replicate_zero,List.cons_append,List.nil_append,List.append_nil]);rfl) (fun K' hK'=>wpOps_ok ?_);conv=>whnf) | (refine w_condTst rfl ?_;(repeat refine Tst.not ?_);(first | refine Tst.T ?_ | refine Tst.F ?_ | refine Tst.decT (by assumption) ?_ | refine Tst.decF (by assumption) ?_ | refine Tst.eqT (by assumption) ?_ | refine Tst.eqF (by assumption) ?_ | refine Tst.neT (by assumption) ?_ | refine Tst.neF (by assumption) ?_ | refine Tst.isT (by assumption) ?_ | refine Tst.isF (by assumption) ?_ | refine Tst.dec (fun hb=>?_) (fun hb=>?_) | refine Tst.eqI (fun hb=>?_) (fun hb=>?_) | refine Tst.neI (fun hb=>?_) (fun hb=>?_) | refine Tst.not ?_ | refine Tst.any (fun hb=>?_) (fun hb=>?_)) <;> conv=>whnf) | refine w_ret ?_ | refine w_skip ?_ | refine w_blk ?_ | refine w_exit ?_ | refine q_seqR ?_ | refine q_seqE ?_ | refine q_blkN ?_ | refine q_blkR ?_ | refine q_blkH ?_ | refine q_blkE rfl ?_ | refine q_loopR ?_ | refine q_loopE ?_ | fail | first | (refine LenQ.ok ?_;conv=>whnf) | ((first | refine Tst.T ?_ | refine Tst.F ?_ | refine Tst.decT (by assumption) ?_ | refine Tst.decF (by assumption) ?_ | refine Tst.eqT (by assumption) ?_ | refine Tst.eqF (by assumption) ?_ | refine Tst.neT (by assumption) ?_ | refine Tst.neF (by assumption) ?_ | refine Tst.isT (by assumption) ?_ | refine Tst.isF (by assumption) ?_ | refine Tst.dec (fun hb=>?_) (fun hb=>?_) | refine Tst.eqI (fun hb=>?_) (fun hb=>?_) | refine Tst.neI (fun hb=>?_) (fun hb=>?_) | refine Tst.not ?_ | refine Tst.any (fun hb=>?_) (fun hb=>?_)) <;> conv=>whnf) | (refine Ari.ok (by omega) ?_;conv=>whnf) | (refine IxO.ok (by omega) (by omega) ?_;conv=>whnf) | (refine IxS.M (by omega) (by omega) (fun _=>rfl) ?_;conv=>whnf) | (refine ⟨Nat.le_of_ble_eq_true rfl,?_⟩;conv=>whnf) | (refine ⟨rfl,?_⟩;conv=>whnf) | (refine Cat.ok (by omega) ?_;conv=>whnf)))
 all_goals exact f_R0 (by simp) (ResL.cons (ResOne.tmp rfl) (ResL.cons (ResOne.tmp rfl) ResL.nil)) rfl rfl rfl rfl (by repeat' (first | exact trivial | refine wkS_f ?_ | refine wkS_d ?_ | refine ⟨rfl,?_⟩ | refine wkS_live0 (by assumption) ?_))
theorem number_r (c:UInt8) (s:StzD) (r:RdD) (l:List UInt8) (hc:c=115∨c=112∨c=99∨c=110):CallsS Tryz.prog 146 [.ptr 1 0,.u8 c] [.live [.u8 0,.s ⟨#[]⟩,.s ⟨#[]⟩,.s ⟨#[]⟩,.i 0,.i 0,.i 0,.i 0] 0,.live (stzV s).cells 0,.live (rdV r).cells 0] (numbV1 c) [.live [.u8 0,.s ⟨#[]⟩,.s ⟨#[]⟩,.s ⟨#[]⟩,.i 0,.i 0,.i 0,.i 0] 0,.live (stzV s).cells 0,.live (rdV r).cells 0]:=by
 have hid:=bytes_idlt l
 refine callsR_comp mix Tryz.func146 ac146_ok rfl ?_
 unfold ac146
 simp only [List.length_cons,List.length_nil,List.replicate_succ,List.replicate_zero,List.cons_append,List.nil_append,Nat.reduceAdd,Nat.reduceSub]
 rcases hc with rfl | rfl | rfl | rfl
 all_goals (repeat' (first | ((try simp only [Nat.reduceAdd,Nat.reduceMul,Nat.zero_add,Nat.add_zero,Int.toNat_natCast,Int.reduceToNat,stzV,rdV]);refine hK' _ _ _ ?_;clear hK' K';first | refine q_regT ?_ | refine q_regD rfl ?_) | first | refine w_seq ?_ | refine q_seqN ?_ | (refine w_reg (by (try simp only [List.length_cons,List.length_nil,Nat.reduceAdd]);rfl) (by (try simp only [List.replicate_succ,List.replicate_zero,List.cons_append,List.nil_append,List.append_nil]);rfl) (fun K' hK'=>wpOps_ok ?_);conv=>whnf) | (refine w_condTst rfl ?_;(repeat refine Tst.not ?_);(first | refine Tst.T ?_ | refine Tst.F ?_ | refine Tst.decT (by assumption) ?_ | refine Tst.decF (by assumption) ?_ | refine Tst.eqT (by assumption) ?_ | refine Tst.eqF (by assumption) ?_ | refine Tst.neT (by assumption) ?_ | refine Tst.neF (by assumption) ?_ | refine Tst.isT (by assumption) ?_ | refine Tst.isF (by assumption) ?_ | refine Tst.dec (fun hb=>?_) (fun hb=>?_) | refine Tst.eqI (fun hb=>?_) (fun hb=>?_) | refine Tst.neI (fun hb=>?_) (fun hb=>?_) | refine Tst.not ?_ | refine Tst.any (fun hb=>?_) (fun hb=>?_)) <;> conv=>whnf) | refine w_ret ?_ | refine w_skip ?_ | refine w_blk ?_ | refine w_exit ?_ | refine q_seqR ?_ | refine q_seqE ?_ | refine q_blkN ?_ | refine q_blkR ?_ | refine q_blkH ?_ | refine q_blkE rfl ?_ | refine q_loopR ?_ | refine q_loopE ?_ | fail | first | (refine LenQ.ok ?_;conv=>whnf) | ((first | refine Tst.T ?_ | refine Tst.F ?_ | refine Tst.decT (by assumption) ?_ | refine Tst.decF (by assumption) ?_ | refine Tst.eqT (by assumption) ?_ | refine Tst.eqF (by assumption) ?_ | refine Tst.neT (by assumption) ?_ | refine Tst.neF (by assumption) ?_ | refine Tst.isT (by assumption) ?_ | refine Tst.isF (by assumption) ?_ | refine Tst.dec (fun hb=>?_) (fun hb=>?_) | refine Tst.eqI (fun hb=>?_) (fun hb=>?_) | refine Tst.neI (fun hb=>?_) (fun hb=>?_) | refine Tst.not ?_ | refine Tst.any (fun hb=>?_) (fun hb=>?_)) <;> conv=>whnf) | (refine Ari.ok (by omega) ?_;conv=>whnf) | (refine IxO.ok (by omega) (by omega) ?_;conv=>whnf) | (refine IxS.M (by omega) (by omega) (fun _=>rfl) ?_;conv=>whnf) | (refine ⟨Nat.le_of_ble_eq_true rfl,?_⟩;conv=>whnf) | (refine ⟨rfl,?_⟩;conv=>whnf) | (refine Cat.ok (by omega) ?_;conv=>whnf)))
 all_goals exact f_R0 (by simp) (ResL.cons (ResOne.tmp rfl) (ResL.cons (ResOne.tmp rfl) (ResL.cons (ResOne.tmp rfl) ResL.nil))) rfl rfl rfl rfl (by repeat' (first | exact trivial | refine wkS_f ?_ | refine wkS_d ?_ | refine ⟨rfl,?_⟩ | refine wkS_live0 (by assumption) ?_))
theorem read1_r (off:Nat) (most:Int) (s s' : StzD) (r:RdD) (l:List UInt8) (hs:r.s.size≤100000) (h:off=1∧s'={ s with user:=(octTextL r most).2 }∨off=2∧s'={ s with res:=(octTextL r most).2 }∨off=3∧s'={ s with name:=(octTextL r most).2 }) :
  CallsS Tryz.prog 158 [.ptr 1 off,.i most,.ptr 2 0] [.live [.u8 0,.s ⟨#[]⟩,.s ⟨#[]⟩,.s ⟨#[]⟩,.i 0,.i 0,.i 0,.i 0] 0,.live (stzV s).cells 0,.live (rdV r).cells 0] (.tup []) [.live [.u8 0,.s ⟨#[]⟩,.s ⟨#[]⟩,.s ⟨#[]⟩,.i 0,.i 0,.i 0,.i 0] 0,.live (stzV s').cells 0,.live (rdV (octTextL r most).1).cells 0]:=by
 have hid:=bytes_idlt l
 have hc:=text_v r most hs
 refine callsR_comp mix Tryz.func158 ac158_ok rfl ?_
 unfold ac158
 simp only [List.length_cons,List.length_nil,List.replicate_succ,List.replicate_zero,List.cons_append,List.nil_append,Nat.reduceAdd,Nat.reduceSub]
 rcases h with ⟨rfl,rfl⟩ | ⟨rfl,rfl⟩ | ⟨rfl,rfl⟩
 all_goals (repeat' (first | ((try simp only [Nat.reduceAdd,Nat.reduceMul,Nat.zero_add,Nat.add_zero,Int.toNat_natCast,Int.reduceToNat,stzV,rdV]);refine hK' _ _ _ ?_;clear hK' K';first | refine q_regT ?_ | refine q_regD rfl ?_) | first | refine w_seq ?_ | refine q_seqN ?_ | (refine w_reg (by (try simp only [List.length_cons,List.length_nil,Nat.reduceAdd]);rfl) (by (try simp only [List.replicate_succ,List.replicate_zero,List.cons_append,List.nil_append,List.append_nil]);rfl) (fun K' hK'=>wpOps_ok ?_);conv=>whnf) | (refine w_condTst rfl ?_;(repeat refine Tst.not ?_);(first | refine Tst.T ?_ | refine Tst.F ?_ | refine Tst.decT (by assumption) ?_ | refine Tst.decF (by assumption) ?_ | refine Tst.eqT (by assumption) ?_ | refine Tst.eqF (by assumption) ?_ | refine Tst.neT (by assumption) ?_ | refine Tst.neF (by assumption) ?_ | refine Tst.isT (by assumption) ?_ | refine Tst.isF (by assumption) ?_ | refine Tst.dec (fun hb=>?_) (fun hb=>?_) | refine Tst.eqI (fun hb=>?_) (fun hb=>?_) | refine Tst.neI (fun hb=>?_) (fun hb=>?_) | refine Tst.not ?_ | refine Tst.any (fun hb=>?_) (fun hb=>?_)) <;> conv=>whnf) | refine w_ret ?_ | refine w_skip ?_ | refine w_blk ?_ | refine w_exit ?_ | refine q_seqR ?_ | refine q_seqE ?_ | refine q_blkN ?_ | refine q_blkR ?_ | refine q_blkH ?_ | refine q_blkE rfl ?_ | refine q_loopR ?_ | refine q_loopE ?_ | (refine Ask_V0 (hc) rfl rfl ?_;conv=>whnf) | first | (refine LenQ.ok ?_;conv=>whnf) | ((first | refine Tst.T ?_ | refine Tst.F ?_ | refine Tst.decT (by assumption) ?_ | refine Tst.decF (by assumption) ?_ | refine Tst.eqT (by assumption) ?_ | refine Tst.eqF (by assumption) ?_ | refine Tst.neT (by assumption) ?_ | refine Tst.neF (by assumption) ?_ | refine Tst.isT (by assumption) ?_ | refine Tst.isF (by assumption) ?_ | refine Tst.dec (fun hb=>?_) (fun hb=>?_) | refine Tst.eqI (fun hb=>?_) (fun hb=>?_) | refine Tst.neI (fun hb=>?_) (fun hb=>?_) | refine Tst.not ?_ | refine Tst.any (fun hb=>?_) (fun hb=>?_)) <;> conv=>whnf) | (refine Ari.ok (by omega) ?_;conv=>whnf) | (refine IxO.ok (by omega) (by omega) ?_;conv=>whnf) | (refine IxS.M (by omega) (by omega) (fun _=>rfl) ?_;conv=>whnf) | (refine ⟨Nat.le_of_ble_eq_true rfl,?_⟩;conv=>whnf) | (refine ⟨rfl,?_⟩;conv=>whnf) | (refine Cat.ok (by omega) ?_;conv=>whnf)))
 all_goals exact f_R0 (by simp) .nil rfl rfl rfl rfl (by repeat' (first | exact trivial | refine wkS_f ?_ | refine wkS_d ?_ | refine ⟨rfl,?_⟩ | refine wkS_live0 (by assumption) ?_))
theorem read2_r (off w:Nat) (z:Int) (s s' : StzD) (r:RdD) (l:List UInt8) (hs:r.s.size≤100000) (hw:wideL w=true) (hz:0≤z∧z≤128) (h:off=4∧s'={ s with show_:=(numL r w).2 - z }∨off=5∧s'={ s with prio:=(numL r w).2 - z }∨off=6∧s'={ s with code:=(numL r w).2 - z }∨off=7∧s'={ s with n:=(numL r w).2 - z }) :
  CallsS Tryz.prog 160 [.ptr 1 off,.i w,.i z,.ptr 2 0] [.live [.u8 0,.s ⟨#[]⟩,.s ⟨#[]⟩,.s ⟨#[]⟩,.i 0,.i 0,.i 0,.i 0] 0,.live (stzV s).cells 0,.live (rdV r).cells 0] (.tup []) [.live [.u8 0,.s ⟨#[]⟩,.s ⟨#[]⟩,.s ⟨#[]⟩,.i 0,.i 0,.i 0,.i 0] 0,.live (stzV s').cells 0,.live (rdV (numL r w).1).cells 0]:=by
 have hid:=bytes_idlt l
 have hc:=num_v r w hs hw
 have hr:=num_range r w (wide_le hw).2
 refine callsR_comp mix Tryz.func160 ac160_ok rfl ?_
 unfold ac160
 simp only [List.length_cons,List.length_nil,List.replicate_succ,List.replicate_zero,List.cons_append,List.nil_append,Nat.reduceAdd,Nat.reduceSub]
 rcases h with ⟨rfl,rfl⟩ | ⟨rfl,rfl⟩ | ⟨rfl,rfl⟩ | ⟨rfl,rfl⟩
 all_goals (repeat' (first | ((try simp only [Nat.reduceAdd,Nat.reduceMul,Nat.zero_add,Nat.add_zero,Int.toNat_natCast,Int.reduceToNat,stzV,rdV]);refine hK' _ _ _ ?_;clear hK' K';first | refine q_regT ?_ | refine q_regD rfl ?_) | first | refine w_seq ?_ | refine q_seqN ?_ | (refine w_reg (by (try simp only [List.length_cons,List.length_nil,Nat.reduceAdd]);rfl) (by (try simp only [List.replicate_succ,List.replicate_zero,List.cons_append,List.nil_append,List.append_nil]);rfl) (fun K' hK'=>wpOps_ok ?_);conv=>whnf) | (refine w_condTst rfl ?_;(repeat refine Tst.not ?_);(first | refine Tst.T ?_ | refine Tst.F ?_ | refine Tst.decT (by assumption) ?_ | refine Tst.decF (by assumption) ?_ | refine Tst.eqT (by assumption) ?_ | refine Tst.eqF (by assumption) ?_ | refine Tst.neT (by assumption) ?_ | refine Tst.neF (by assumption) ?_ | refine Tst.isT (by assumption) ?_ | refine Tst.isF (by assumption) ?_ | refine Tst.dec (fun hb=>?_) (fun hb=>?_) | refine Tst.eqI (fun hb=>?_) (fun hb=>?_) | refine Tst.neI (fun hb=>?_) (fun hb=>?_) | refine Tst.not ?_ | refine Tst.any (fun hb=>?_) (fun hb=>?_)) <;> conv=>whnf) | refine w_ret ?_ | refine w_skip ?_ | refine w_blk ?_ | refine w_exit ?_ | refine q_seqR ?_ | refine q_seqE ?_ | refine q_blkN ?_ | refine q_blkR ?_ | refine q_blkH ?_ | refine q_blkE rfl ?_ | refine q_loopR ?_ | refine q_loopE ?_ | (refine Ask_V0 (hc) rfl rfl ?_;conv=>whnf) | first | (refine LenQ.ok ?_;conv=>whnf) | ((first | refine Tst.T ?_ | refine Tst.F ?_ | refine Tst.decT (by assumption) ?_ | refine Tst.decF (by assumption) ?_ | refine Tst.eqT (by assumption) ?_ | refine Tst.eqF (by assumption) ?_ | refine Tst.neT (by assumption) ?_ | refine Tst.neF (by assumption) ?_ | refine Tst.isT (by assumption) ?_ | refine Tst.isF (by assumption) ?_ | refine Tst.dec (fun hb=>?_) (fun hb=>?_) | refine Tst.eqI (fun hb=>?_) (fun hb=>?_) | refine Tst.neI (fun hb=>?_) (fun hb=>?_) | refine Tst.not ?_ | refine Tst.any (fun hb=>?_) (fun hb=>?_)) <;> conv=>whnf) | (refine Ari.ok (by omega) ?_;conv=>whnf) | (refine IxO.ok (by omega) (by omega) ?_;conv=>whnf) | (refine IxS.M (by omega) (by omega) (fun _=>rfl) ?_;conv=>whnf) | (refine ⟨Nat.le_of_ble_eq_true rfl,?_⟩;conv=>whnf) | (refine ⟨rfl,?_⟩;conv=>whnf) | (refine Cat.ok (by omega) ?_;conv=>whnf)))
 all_goals exact f_R0 (by simp) .nil rfl rfl rfl rfl (by repeat' (first | exact trivial | refine wkS_f ?_ | refine wkS_d ?_ | refine ⟨rfl,?_⟩ | refine wkS_live0 (by assumption) ?_))
theorem read1_ok:Callable Tryz.prog 158:=callable_comp Tryz.func158 ac158_ok (by kernel_rfl)
theorem read2_ok:Callable Tryz.prog 160:=callable_comp Tryz.func160 ac160_ok (by kernel_rfl)
theorem each_r (x:RdD × StzD) (hs:x.1.s.size≤100000):CallsS Tryz.prog 94 [.ptr 1 0,.clo (.func 158) [.ptr 2 0],.clo (.func 160) [.ptr 2 0]] [.live [.u8 0,.s ⟨#[]⟩,.s ⟨#[]⟩,.s ⟨#[]⟩,.i 0,.i 0,.i 0,.i 0] 0,.live (stzV x.2).cells 0,.live (rdV x.1).cells 0] (.tup [])
  [.live [.u8 0,.s ⟨#[]⟩,.s ⟨#[]⟩,.s ⟨#[]⟩,.i 0,.i 0,.i 0,.i 0] 0,.live (stzV ((hasN x.2.kind.toNat).foldl readF x).2).cells 0,.live (rdV ((hasN x.2.kind.toNat).foldl readF x).1).cells 0]:=by
 have hc:=has_v x.2.kind
 have hin:=hasN_in x.2.kind.toNat
 have hl5:=hasN_len x.2.kind.toNat
 have hb0:=ba_list (hasN x.2.kind.toNat)
 have hz:=ba_size (hasN x.2.kind.toNat)
 generalize hasN x.2.kind.toNat=L at *
 generalize ba L=u at *
 have hid:=bytes_idlt L
 refine callsR_comp mix Tryz.func94 ac94_ok rfl ?_
 unfold ac94
 simp only [List.length_cons,List.length_nil,List.replicate_succ,List.replicate_zero,List.cons_append,List.nil_append,Nat.reduceAdd,Nat.reduceSub]
 repeat' (first | ((try simp only [Nat.reduceAdd,Nat.reduceMul,Nat.zero_add,Nat.add_zero,Int.toNat_natCast,Int.reduceToNat,stzV,rdV]);refine hK' _ _ _ ?_;clear hK' K';first | refine q_regT ?_ | refine q_regD rfl ?_) | first | refine w_seq ?_ | refine q_seqN ?_ | (refine w_reg (by (try simp only [List.length_cons,List.length_nil,Nat.reduceAdd]);rfl) (by (try simp only [List.replicate_succ,List.replicate_zero,List.cons_append,List.nil_append,List.append_nil]);rfl) (fun K' hK'=>wpOps_ok ?_);conv=>whnf) | (refine w_condTst rfl ?_;(repeat refine Tst.not ?_);(first | refine Tst.T ?_ | refine Tst.F ?_ | refine Tst.decT (by assumption) ?_ | refine Tst.decF (by assumption) ?_ | refine Tst.eqT (by assumption) ?_ | refine Tst.eqF (by assumption) ?_ | refine Tst.neT (by assumption) ?_ | refine Tst.neF (by assumption) ?_ | refine Tst.isT (by assumption) ?_ | refine Tst.isF (by assumption) ?_ | refine Tst.dec (fun hb=>?_) (fun hb=>?_) | refine Tst.eqI (fun hb=>?_) (fun hb=>?_) | refine Tst.neI (fun hb=>?_) (fun hb=>?_) | refine Tst.not ?_ | refine Tst.any (fun hb=>?_) (fun hb=>?_)) <;> conv=>whnf) | refine w_ret ?_ | refine w_skip ?_ | refine w_blk ?_ | refine w_exit ?_ | refine q_seqR ?_ | refine q_seqE ?_ | refine q_blkN ?_ | refine q_blkR ?_ | refine q_blkH ?_ | refine q_blkE rfl ?_ | refine q_loopR ?_ | refine q_loopE ?_ | (refine Ask_V0 (hc) rfl rfl ?_;conv=>whnf) | first | (refine LenQ.ok ?_;conv=>whnf) | ((first | refine Tst.T ?_ | refine Tst.F ?_ | refine Tst.decT (by assumption) ?_ | refine Tst.decF (by assumption) ?_ | refine Tst.eqT (by assumption) ?_ | refine Tst.eqF (by assumption) ?_ | refine Tst.neT (by assumption) ?_ | refine Tst.neF (by assumption) ?_ | refine Tst.isT (by assumption) ?_ | refine Tst.isF (by assumption) ?_ | refine Tst.dec (fun hb=>?_) (fun hb=>?_) | refine Tst.eqI (fun hb=>?_) (fun hb=>?_) | refine Tst.neI (fun hb=>?_) (fun hb=>?_) | refine Tst.not ?_ | refine Tst.any (fun hb=>?_) (fun hb=>?_)) <;> conv=>whnf) | (refine Ari.ok (by omega) ?_;conv=>whnf) | (refine IxO.ok (by omega) (by omega) ?_;conv=>whnf) | (refine IxS.M (by omega) (by omega) (fun _=>rfl) ?_;conv=>whnf) | (refine ⟨Nat.le_of_ble_eq_true rfl,?_⟩;conv=>whnf) | (refine ⟨rfl,?_⟩;conv=>whnf) | (refine Cat.ok (by omega) ?_;conv=>whnf))
 try rw [hb0]
 try rw [hz]
 try simp only [List.length_map]
 refine w_loop [17] [7,8,9,18,19,20,21,22,23,24,25,26,27,28,29,30,31,32,33,34,35,36,37,38,39,40,41] (fun n vals st=>∃ k:Nat,k + n=L.length∧vals=[.i k]∧st=[.live [.u8 0,.s ⟨#[]⟩,.s ⟨#[]⟩,.s ⟨#[]⟩,.i 0,.i 0,.i 0,.i 0] 0,.live (stzV ((L.take k).foldl readF x).2).cells 0,.live (rdV ((L.take k).foldl readF x).1).cells 0]) L.length 3 [] [.i 0] (by refine wk0_intro (by omega) (by simp only [setF,maskF,List.set_cons_zero,List.set_cons_succ];repeat' (first | exact trivial | refine ⟨?_,?_⟩ | exact .inr (.inl ⟨rfl,rfl,rfl⟩) | exact .inr (.inr ⟨rfl,rfl⟩) | exact .inl rfl)) rfl rfl (by repeat' (first | exact trivial | refine wkS_f ?_ | refine wkS_d ?_ | refine ⟨rfl,?_⟩ | refine wkS_live0 (by assumption) ?_))) ⟨0,by omega,rfl,rfl⟩ ?_
 rintro n vals st ⟨k,hk,rfl,rfl⟩
 have hstep:∀ h:k < L.length,(L.take (k + 1)).foldl readF x=readF ((L.take k).foldl readF x) L[k]:=by
  intro h;rw [List.take_succ_eq_append_getElem h,List.foldl_append];rfl
 have hin2:∀ h:k < L.length,_:=fun h=>hin L[k] (List.getElem_mem h)
 have hfs:=(fold_s (L.take k) x).1
 simp only [setF,maskF,List.set_cons_zero,List.set_cons_succ]
 generalize hq:(L.take k).foldl readF x=q at *
 obtain ⟨r,s⟩:=q
 simp only at hfs
 rw [← hfs] at hs
 simp only [putF,List.set_cons_zero,List.set_cons_succ,evO,List.getD_cons_zero,List.getD_cons_succ,V.ofValue,ofC,V.cells,partV,List.drop_zero,List.drop_succ_cons,List.take_succ_cons,List.take_zero,Nat.reduceAdd,Nat.reduceMul,Nat.zero_add,Nat.add_zero,if_true,if_false,Bool.false_eq_true,List.nil_append,List.cons_append,List.append_nil,List.map_cons,List.map_nil,stzV,rdV]
 repeat' (first | ((try simp only [Nat.reduceAdd,Nat.reduceMul,Nat.zero_add,Nat.add_zero,Int.toNat_natCast,Int.reduceToNat,stzV,rdV]);refine hK' _ _ _ ?_;clear hK' K';first | refine q_regT ?_ | refine q_regD rfl ?_) | first | refine w_seq ?_ | refine q_seqN ?_ | (refine w_reg (by (try simp only [List.length_cons,List.length_nil,Nat.reduceAdd]);rfl) (by (try simp only [List.replicate_succ,List.replicate_zero,List.cons_append,List.nil_append,List.append_nil]);rfl) (fun K' hK'=>wpOps_ok ?_);conv=>whnf) | (refine w_condTst rfl ?_;(repeat refine Tst.not ?_);(first | refine Tst.T ?_ | refine Tst.F ?_ | refine Tst.decT (by assumption) ?_ | refine Tst.decF (by assumption) ?_ | refine Tst.eqT (by assumption) ?_ | refine Tst.eqF (by assumption) ?_ | refine Tst.neT (by assumption) ?_ | refine Tst.neF (by assumption) ?_ | refine Tst.isT (by assumption) ?_ | refine Tst.isF (by assumption) ?_ | refine Tst.dec (fun hb=>?_) (fun hb=>?_) | refine Tst.eqI (fun hb=>?_) (fun hb=>?_) | refine Tst.neI (fun hb=>?_) (fun hb=>?_) | refine Tst.not ?_ | refine Tst.any (fun hb=>?_) (fun hb=>?_)) <;> conv=>whnf) | refine w_ret ?_ | refine w_skip ?_ | refine w_blk ?_ | refine w_exit ?_ | refine q_seqR ?_ | refine q_seqE ?_ | refine q_blkN ?_ | refine q_blkR ?_ | refine q_blkH ?_ | refine q_blkE rfl ?_ | refine q_loopR ?_ | refine q_loopE ?_ | fail | first | (refine LenQ.ok ?_;conv=>whnf) | ((first | refine Tst.T ?_ | refine Tst.F ?_ | refine Tst.decT (by assumption) ?_ | refine Tst.decF (by assumption) ?_ | refine Tst.eqT (by assumption) ?_ | refine Tst.eqF (by assumption) ?_ | refine Tst.neT (by assumption) ?_ | refine Tst.neF (by assumption) ?_ | refine Tst.isT (by assumption) ?_ | refine Tst.isF (by assumption) ?_ | refine Tst.dec (fun hb=>?_) (fun hb=>?_) | refine Tst.eqI (fun hb=>?_) (fun hb=>?_) | refine Tst.neI (fun hb=>?_) (fun hb=>?_) | refine Tst.not ?_ | refine Tst.any (fun hb=>?_) (fun hb=>?_)) <;> conv=>whnf) | (refine Ari.ok (by omega) ?_;conv=>whnf) | (refine IxO.ok (by omega) (by omega) ?_;conv=>whnf) | (refine IxS.M (by omega) (by omega) (fun _=>rfl) ?_;conv=>whnf) | (refine ⟨Nat.le_of_ble_eq_true rfl,?_⟩;conv=>whnf) | (refine ⟨rfl,?_⟩;conv=>whnf) | (refine Cat.ok (by omega) ?_;conv=>whnf))
 ·have hlt:k < L.length:=by omega
  replace hstep:=hstep hlt
  have hi:=hin2 hlt
  generalize L[k]=c at hstep hi ⊢
  rcases hi with rfl | rfl | rfl | rfl | rfl | rfl | rfl
  ·repeat' (first | ((try simp only [Nat.reduceAdd,Nat.reduceMul,Nat.zero_add,Nat.add_zero,Int.toNat_natCast,Int.reduceToNat,stzV,rdV]);refine hK' _ _ _ ?_;clear hK' K';first | refine q_regT ?_ | refine q_regD rfl ?_) | first | refine w_seq ?_ | refine q_seqN ?_ | (refine w_reg (by (try simp only [List.length_cons,List.length_nil,Nat.reduceAdd]);rfl) (by (try simp only [List.replicate_succ,List.replicate_zero,List.cons_append,List.nil_append,List.append_nil]);rfl) (fun K' hK'=>wpOps_ok ?_);conv=>whnf) | (refine w_condTst rfl ?_;(repeat refine Tst.not ?_);(first | refine Tst.T ?_ | refine Tst.F ?_ | refine Tst.decT (by assumption) ?_ | refine Tst.decF (by assumption) ?_ | refine Tst.eqT (by assumption) ?_ | refine Tst.eqF (by assumption) ?_ | refine Tst.neT (by assumption) ?_ | refine Tst.neF (by assumption) ?_ | refine Tst.isT (by assumption) ?_ | refine Tst.isF (by assumption) ?_ | refine Tst.dec (fun hb=>?_) (fun hb=>?_) | refine Tst.eqI (fun hb=>?_) (fun hb=>?_) | refine Tst.neI (fun hb=>?_) (fun hb=>?_) | refine Tst.not ?_ | refine Tst.any (fun hb=>?_) (fun hb=>?_)) <;> conv=>whnf) | refine w_ret ?_ | refine w_skip ?_ | refine w_blk ?_ | refine w_exit ?_ | refine q_seqR ?_ | refine q_seqE ?_ | refine q_blkN ?_ | refine q_blkR ?_ | refine q_blkH ?_ | refine q_blkE rfl ?_ | refine q_loopR ?_ | refine q_loopE ?_ | (refine Ask_S (text_r _ s r L (by decide)) rfl ?_;conv=>whnf) | (refine ⟨read1_ok,?_⟩;conv=>whnf) | (refine Ask_S (read1_r 1 33 s _ r L hs (.inl ⟨rfl,rfl⟩)) rfl ?_;conv=>whnf) | first | (refine LenQ.ok ?_;conv=>whnf) | ((first | refine Tst.T ?_ | refine Tst.F ?_ | refine Tst.decT (by assumption) ?_ | refine Tst.decF (by assumption) ?_ | refine Tst.eqT (by assumption) ?_ | refine Tst.eqF (by assumption) ?_ | refine Tst.neT (by assumption) ?_ | refine Tst.neF (by assumption) ?_ | refine Tst.isT (by assumption) ?_ | refine Tst.isF (by assumption) ?_ | refine Tst.dec (fun hb=>?_) (fun hb=>?_) | refine Tst.eqI (fun hb=>?_) (fun hb=>?_) | refine Tst.neI (fun hb=>?_) (fun hb=>?_) | refine Tst.not ?_ | refine Tst.any (fun hb=>?_) (fun hb=>?_)) <;> conv=>whnf) | (refine Ari.ok (by omega) ?_;conv=>whnf) | (refine IxO.ok (by omega) (by omega) ?_;conv=>whnf) | (refine IxS.M (by omega) (by omega) (fun _=>rfl) ?_;conv=>whnf) | (refine ⟨Nat.le_of_ble_eq_true rfl,?_⟩;conv=>whnf) | (refine ⟨rfl,?_⟩;conv=>whnf) | (refine Cat.ok (by omega) ?_;conv=>whnf))
   exact q_loop (n - 1) 3 [] [_] (by omega) (by refine wk0_intro (by omega) (by simp only [setF,maskF,List.set_cons_zero,List.set_cons_succ];repeat' (first | exact trivial | refine ⟨?_,?_⟩ | exact .inr (.inl ⟨rfl,rfl,rfl⟩) | exact .inr (.inr ⟨rfl,rfl⟩) | exact .inl rfl)) rfl rfl (by repeat' (first | exact trivial | refine wkS_f ?_ | refine wkS_d ?_ | refine ⟨rfl,?_⟩ | refine wkS_live0 (by assumption) ?_))) ⟨k + 1,by omega,rfl,by rw [hstep,rf117];rfl⟩
  ·repeat' (first | ((try simp only [Nat.reduceAdd,Nat.reduceMul,Nat.zero_add,Nat.add_zero,Int.toNat_natCast,Int.reduceToNat,stzV,rdV]);refine hK' _ _ _ ?_;clear hK' K';first | refine q_regT ?_ | refine q_regD rfl ?_) | first | refine w_seq ?_ | refine q_seqN ?_ | (refine w_reg (by (try simp only [List.length_cons,List.length_nil,Nat.reduceAdd]);rfl) (by (try simp only [List.replicate_succ,List.replicate_zero,List.cons_append,List.nil_append,List.append_nil]);rfl) (fun K' hK'=>wpOps_ok ?_);conv=>whnf) | (refine w_condTst rfl ?_;(repeat refine Tst.not ?_);(first | refine Tst.T ?_ | refine Tst.F ?_ | refine Tst.decT (by assumption) ?_ | refine Tst.decF (by assumption) ?_ | refine Tst.eqT (by assumption) ?_ | refine Tst.eqF (by assumption) ?_ | refine Tst.neT (by assumption) ?_ | refine Tst.neF (by assumption) ?_ | refine Tst.isT (by assumption) ?_ | refine Tst.isF (by assumption) ?_ | refine Tst.dec (fun hb=>?_) (fun hb=>?_) | refine Tst.eqI (fun hb=>?_) (fun hb=>?_) | refine Tst.neI (fun hb=>?_) (fun hb=>?_) | refine Tst.not ?_ | refine Tst.any (fun hb=>?_) (fun hb=>?_)) <;> conv=>whnf) | refine w_ret ?_ | refine w_skip ?_ | refine w_blk ?_ | refine w_exit ?_ | refine q_seqR ?_ | refine q_seqE ?_ | refine q_blkN ?_ | refine q_blkR ?_ | refine q_blkH ?_ | refine q_blkE rfl ?_ | refine q_loopR ?_ | refine q_loopE ?_ | (refine Ask_S (text_r _ s r L (by decide)) rfl ?_;conv=>whnf) | (refine ⟨read1_ok,?_⟩;conv=>whnf) | (refine Ask_S (read1_r 2 12 s _ r L hs (.inr (.inl ⟨rfl,rfl⟩))) rfl ?_;conv=>whnf) | first | (refine LenQ.ok ?_;conv=>whnf) | ((first | refine Tst.T ?_ | refine Tst.F ?_ | refine Tst.decT (by assumption) ?_ | refine Tst.decF (by assumption) ?_ | refine Tst.eqT (by assumption) ?_ | refine Tst.eqF (by assumption) ?_ | refine Tst.neT (by assumption) ?_ | refine Tst.neF (by assumption) ?_ | refine Tst.isT (by assumption) ?_ | refine Tst.isF (by assumption) ?_ | refine Tst.dec (fun hb=>?_) (fun hb=>?_) | refine Tst.eqI (fun hb=>?_) (fun hb=>?_) | refine Tst.neI (fun hb=>?_) (fun hb=>?_) | refine Tst.not ?_ | refine Tst.any (fun hb=>?_) (fun hb=>?_)) <;> conv=>whnf) | (refine Ari.ok (by omega) ?_;conv=>whnf) | (refine IxO.ok (by omega) (by omega) ?_;conv=>whnf) | (refine IxS.M (by omega) (by omega) (fun _=>rfl) ?_;conv=>whnf) | (refine ⟨Nat.le_of_ble_eq_true rfl,?_⟩;conv=>whnf) | (refine ⟨rfl,?_⟩;conv=>whnf) | (refine Cat.ok (by omega) ?_;conv=>whnf))
   exact q_loop (n - 1) 3 [] [_] (by omega) (by refine wk0_intro (by omega) (by simp only [setF,maskF,List.set_cons_zero,List.set_cons_succ];repeat' (first | exact trivial | refine ⟨?_,?_⟩ | exact .inr (.inl ⟨rfl,rfl,rfl⟩) | exact .inr (.inr ⟨rfl,rfl⟩) | exact .inl rfl)) rfl rfl (by repeat' (first | exact trivial | refine wkS_f ?_ | refine wkS_d ?_ | refine ⟨rfl,?_⟩ | refine wkS_live0 (by assumption) ?_))) ⟨k + 1,by omega,rfl,by rw [hstep,rf114];rfl⟩
  ·repeat' (first | ((try simp only [Nat.reduceAdd,Nat.reduceMul,Nat.zero_add,Nat.add_zero,Int.toNat_natCast,Int.reduceToNat,stzV,rdV]);refine hK' _ _ _ ?_;clear hK' K';first | refine q_regT ?_ | refine q_regD rfl ?_) | first | refine w_seq ?_ | refine q_seqN ?_ | (refine w_reg (by (try simp only [List.length_cons,List.length_nil,Nat.reduceAdd]);rfl) (by (try simp only [List.replicate_succ,List.replicate_zero,List.cons_append,List.nil_append,List.append_nil]);rfl) (fun K' hK'=>wpOps_ok ?_);conv=>whnf) | (refine w_condTst rfl ?_;(repeat refine Tst.not ?_);(first | refine Tst.T ?_ | refine Tst.F ?_ | refine Tst.decT (by assumption) ?_ | refine Tst.decF (by assumption) ?_ | refine Tst.eqT (by assumption) ?_ | refine Tst.eqF (by assumption) ?_ | refine Tst.neT (by assumption) ?_ | refine Tst.neF (by assumption) ?_ | refine Tst.isT (by assumption) ?_ | refine Tst.isF (by assumption) ?_ | refine Tst.dec (fun hb=>?_) (fun hb=>?_) | refine Tst.eqI (fun hb=>?_) (fun hb=>?_) | refine Tst.neI (fun hb=>?_) (fun hb=>?_) | refine Tst.not ?_ | refine Tst.any (fun hb=>?_) (fun hb=>?_)) <;> conv=>whnf) | refine w_ret ?_ | refine w_skip ?_ | refine w_blk ?_ | refine w_exit ?_ | refine q_seqR ?_ | refine q_seqE ?_ | refine q_blkN ?_ | refine q_blkR ?_ | refine q_blkH ?_ | refine q_blkE rfl ?_ | refine q_loopR ?_ | refine q_loopE ?_ | (refine Ask_S (text_r _ s r L (by decide)) rfl ?_;conv=>whnf) | (refine ⟨read1_ok,?_⟩;conv=>whnf) | (refine Ask_S (read1_r 3 24 s _ r L hs (.inr (.inr ⟨rfl,rfl⟩))) rfl ?_;conv=>whnf) | first | (refine LenQ.ok ?_;conv=>whnf) | ((first | refine Tst.T ?_ | refine Tst.F ?_ | refine Tst.decT (by assumption) ?_ | refine Tst.decF (by assumption) ?_ | refine Tst.eqT (by assumption) ?_ | refine Tst.eqF (by assumption) ?_ | refine Tst.neT (by assumption) ?_ | refine Tst.neF (by assumption) ?_ | refine Tst.isT (by assumption) ?_ | refine Tst.isF (by assumption) ?_ | refine Tst.dec (fun hb=>?_) (fun hb=>?_) | refine Tst.eqI (fun hb=>?_) (fun hb=>?_) | refine Tst.neI (fun hb=>?_) (fun hb=>?_) | refine Tst.not ?_ | refine Tst.any (fun hb=>?_) (fun hb=>?_)) <;> conv=>whnf) | (refine Ari.ok (by omega) ?_;conv=>whnf) | (refine IxO.ok (by omega) (by omega) ?_;conv=>whnf) | (refine IxS.M (by omega) (by omega) (fun _=>rfl) ?_;conv=>whnf) | (refine ⟨Nat.le_of_ble_eq_true rfl,?_⟩;conv=>whnf) | (refine ⟨rfl,?_⟩;conv=>whnf) | (refine Cat.ok (by omega) ?_;conv=>whnf))
   exact q_loop (n - 1) 3 [] [_] (by omega) (by refine wk0_intro (by omega) (by simp only [setF,maskF,List.set_cons_zero,List.set_cons_succ];repeat' (first | exact trivial | refine ⟨?_,?_⟩ | exact .inr (.inl ⟨rfl,rfl,rfl⟩) | exact .inr (.inr ⟨rfl,rfl⟩) | exact .inl rfl)) rfl rfl (by repeat' (first | exact trivial | refine wkS_f ?_ | refine wkS_d ?_ | refine ⟨rfl,?_⟩ | refine wkS_live0 (by assumption) ?_))) ⟨k + 1,by omega,rfl,by rw [hstep,rf109];rfl⟩
  ·repeat' (first | ((try simp only [Nat.reduceAdd,Nat.reduceMul,Nat.zero_add,Nat.add_zero,Int.toNat_natCast,Int.reduceToNat,stzV,rdV]);refine hK' _ _ _ ?_;clear hK' K';first | refine q_regT ?_ | refine q_regD rfl ?_) | first | refine w_seq ?_ | refine q_seqN ?_ | (refine w_reg (by (try simp only [List.length_cons,List.length_nil,Nat.reduceAdd]);rfl) (by (try simp only [List.replicate_succ,List.replicate_zero,List.cons_append,List.nil_append,List.append_nil]);rfl) (fun K' hK'=>wpOps_ok ?_);conv=>whnf) | (refine w_condTst rfl ?_;(repeat refine Tst.not ?_);(first | refine Tst.T ?_ | refine Tst.F ?_ | refine Tst.decT (by assumption) ?_ | refine Tst.decF (by assumption) ?_ | refine Tst.eqT (by assumption) ?_ | refine Tst.eqF (by assumption) ?_ | refine Tst.neT (by assumption) ?_ | refine Tst.neF (by assumption) ?_ | refine Tst.isT (by assumption) ?_ | refine Tst.isF (by assumption) ?_ | refine Tst.dec (fun hb=>?_) (fun hb=>?_) | refine Tst.eqI (fun hb=>?_) (fun hb=>?_) | refine Tst.neI (fun hb=>?_) (fun hb=>?_) | refine Tst.not ?_ | refine Tst.any (fun hb=>?_) (fun hb=>?_)) <;> conv=>whnf) | refine w_ret ?_ | refine w_skip ?_ | refine w_blk ?_ | refine w_exit ?_ | refine q_seqR ?_ | refine q_seqE ?_ | refine q_blkN ?_ | refine q_blkR ?_ | refine q_blkH ?_ | refine q_blkE rfl ?_ | refine q_loopR ?_ | refine q_loopE ?_ | (refine Ask_S (text_r _ s r L (by decide)) rfl ?_;conv=>whnf) | (refine Ask_S (number_r _ s r L (by decide)) rfl ?_;conv=>whnf) | (refine ⟨read2_ok,?_⟩;conv=>whnf) | (refine Ask_S (read2_r 4 1 0 s _ r L hs rfl (by decide) (.inl ⟨rfl,rfl⟩)) rfl ?_;conv=>whnf) | first | (refine LenQ.ok ?_;conv=>whnf) | ((first | refine Tst.T ?_ | refine Tst.F ?_ | refine Tst.decT (by assumption) ?_ | refine Tst.decF (by assumption) ?_ | refine Tst.eqT (by assumption) ?_ | refine Tst.eqF (by assumption) ?_ | refine Tst.neT (by assumption) ?_ | refine Tst.neF (by assumption) ?_ | refine Tst.isT (by assumption) ?_ | refine Tst.isF (by assumption) ?_ | refine Tst.dec (fun hb=>?_) (fun hb=>?_) | refine Tst.eqI (fun hb=>?_) (fun hb=>?_) | refine Tst.neI (fun hb=>?_) (fun hb=>?_) | refine Tst.not ?_ | refine Tst.any (fun hb=>?_) (fun hb=>?_)) <;> conv=>whnf) | (refine Ari.ok (by omega) ?_;conv=>whnf) | (refine IxO.ok (by omega) (by omega) ?_;conv=>whnf) | (refine IxS.M (by omega) (by omega) (fun _=>rfl) ?_;conv=>whnf) | (refine ⟨Nat.le_of_ble_eq_true rfl,?_⟩;conv=>whnf) | (refine ⟨rfl,?_⟩;conv=>whnf) | (refine Cat.ok (by omega) ?_;conv=>whnf))
   exact q_loop (n - 1) 3 [] [_] (by omega) (by refine wk0_intro (by omega) (by simp only [setF,maskF,List.set_cons_zero,List.set_cons_succ];repeat' (first | exact trivial | refine ⟨?_,?_⟩ | exact .inr (.inl ⟨rfl,rfl,rfl⟩) | exact .inr (.inr ⟨rfl,rfl⟩) | exact .inl rfl)) rfl rfl (by repeat' (first | exact trivial | refine wkS_f ?_ | refine wkS_d ?_ | refine ⟨rfl,?_⟩ | refine wkS_live0 (by assumption) ?_))) ⟨k + 1,by omega,rfl,by rw [hstep,rf115];rfl⟩
  ·repeat' (first | ((try simp only [Nat.reduceAdd,Nat.reduceMul,Nat.zero_add,Nat.add_zero,Int.toNat_natCast,Int.reduceToNat,stzV,rdV]);refine hK' _ _ _ ?_;clear hK' K';first | refine q_regT ?_ | refine q_regD rfl ?_) | first | refine w_seq ?_ | refine q_seqN ?_ | (refine w_reg (by (try simp only [List.length_cons,List.length_nil,Nat.reduceAdd]);rfl) (by (try simp only [List.replicate_succ,List.replicate_zero,List.cons_append,List.nil_append,List.append_nil]);rfl) (fun K' hK'=>wpOps_ok ?_);conv=>whnf) | (refine w_condTst rfl ?_;(repeat refine Tst.not ?_);(first | refine Tst.T ?_ | refine Tst.F ?_ | refine Tst.decT (by assumption) ?_ | refine Tst.decF (by assumption) ?_ | refine Tst.eqT (by assumption) ?_ | refine Tst.eqF (by assumption) ?_ | refine Tst.neT (by assumption) ?_ | refine Tst.neF (by assumption) ?_ | refine Tst.isT (by assumption) ?_ | refine Tst.isF (by assumption) ?_ | refine Tst.dec (fun hb=>?_) (fun hb=>?_) | refine Tst.eqI (fun hb=>?_) (fun hb=>?_) | refine Tst.neI (fun hb=>?_) (fun hb=>?_) | refine Tst.not ?_ | refine Tst.any (fun hb=>?_) (fun hb=>?_)) <;> conv=>whnf) | refine w_ret ?_ | refine w_skip ?_ | refine w_blk ?_ | refine w_exit ?_ | refine q_seqR ?_ | refine q_seqE ?_ | refine q_blkN ?_ | refine q_blkR ?_ | refine q_blkH ?_ | refine q_blkE rfl ?_ | refine q_loopR ?_ | refine q_loopE ?_ | (refine Ask_S (text_r _ s r L (by decide)) rfl ?_;conv=>whnf) | (refine Ask_S (number_r _ s r L (by decide)) rfl ?_;conv=>whnf) | (refine ⟨read2_ok,?_⟩;conv=>whnf) | (refine Ask_S (read2_r 5 1 128 s _ r L hs rfl (by decide) (.inr (.inl ⟨rfl,rfl⟩))) rfl ?_;conv=>whnf) | first | (refine LenQ.ok ?_;conv=>whnf) | ((first | refine Tst.T ?_ | refine Tst.F ?_ | refine Tst.decT (by assumption) ?_ | refine Tst.decF (by assumption) ?_ | refine Tst.eqT (by assumption) ?_ | refine Tst.eqF (by assumption) ?_ | refine Tst.neT (by assumption) ?_ | refine Tst.neF (by assumption) ?_ | refine Tst.isT (by assumption) ?_ | refine Tst.isF (by assumption) ?_ | refine Tst.dec (fun hb=>?_) (fun hb=>?_) | refine Tst.eqI (fun hb=>?_) (fun hb=>?_) | refine Tst.neI (fun hb=>?_) (fun hb=>?_) | refine Tst.not ?_ | refine Tst.any (fun hb=>?_) (fun hb=>?_)) <;> conv=>whnf) | (refine Ari.ok (by omega) ?_;conv=>whnf) | (refine IxO.ok (by omega) (by omega) ?_;conv=>whnf) | (refine IxS.M (by omega) (by omega) (fun _=>rfl) ?_;conv=>whnf) | (refine ⟨Nat.le_of_ble_eq_true rfl,?_⟩;conv=>whnf) | (refine ⟨rfl,?_⟩;conv=>whnf) | (refine Cat.ok (by omega) ?_;conv=>whnf))
   exact q_loop (n - 1) 3 [] [_] (by omega) (by refine wk0_intro (by omega) (by simp only [setF,maskF,List.set_cons_zero,List.set_cons_succ];repeat' (first | exact trivial | refine ⟨?_,?_⟩ | exact .inr (.inl ⟨rfl,rfl,rfl⟩) | exact .inr (.inr ⟨rfl,rfl⟩) | exact .inl rfl)) rfl rfl (by repeat' (first | exact trivial | refine wkS_f ?_ | refine wkS_d ?_ | refine ⟨rfl,?_⟩ | refine wkS_live0 (by assumption) ?_))) ⟨k + 1,by omega,rfl,by rw [hstep,rf112];rfl⟩
  ·repeat' (first | ((try simp only [Nat.reduceAdd,Nat.reduceMul,Nat.zero_add,Nat.add_zero,Int.toNat_natCast,Int.reduceToNat,stzV,rdV]);refine hK' _ _ _ ?_;clear hK' K';first | refine q_regT ?_ | refine q_regD rfl ?_) | first | refine w_seq ?_ | refine q_seqN ?_ | (refine w_reg (by (try simp only [List.length_cons,List.length_nil,Nat.reduceAdd]);rfl) (by (try simp only [List.replicate_succ,List.replicate_zero,List.cons_append,List.nil_append,List.append_nil]);rfl) (fun K' hK'=>wpOps_ok ?_);conv=>whnf) | (refine w_condTst rfl ?_;(repeat refine Tst.not ?_);(first | refine Tst.T ?_ | refine Tst.F ?_ | refine Tst.decT (by assumption) ?_ | refine Tst.decF (by assumption) ?_ | refine Tst.eqT (by assumption) ?_ | refine Tst.eqF (by assumption) ?_ | refine Tst.neT (by assumption) ?_ | refine Tst.neF (by assumption) ?_ | refine Tst.isT (by assumption) ?_ | refine Tst.isF (by assumption) ?_ | refine Tst.dec (fun hb=>?_) (fun hb=>?_) | refine Tst.eqI (fun hb=>?_) (fun hb=>?_) | refine Tst.neI (fun hb=>?_) (fun hb=>?_) | refine Tst.not ?_ | refine Tst.any (fun hb=>?_) (fun hb=>?_)) <;> conv=>whnf) | refine w_ret ?_ | refine w_skip ?_ | refine w_blk ?_ | refine w_exit ?_ | refine q_seqR ?_ | refine q_seqE ?_ | refine q_blkN ?_ | refine q_blkR ?_ | refine q_blkH ?_ | refine q_blkE rfl ?_ | refine q_loopR ?_ | refine q_loopE ?_ | (refine Ask_S (text_r _ s r L (by decide)) rfl ?_;conv=>whnf) | (refine Ask_S (number_r _ s r L (by decide)) rfl ?_;conv=>whnf) | (refine ⟨read2_ok,?_⟩;conv=>whnf) | (refine Ask_S (read2_r 6 1 0 s _ r L hs rfl (by decide) (.inr (.inr (.inl ⟨rfl,rfl⟩)))) rfl ?_;conv=>whnf) | first | (refine LenQ.ok ?_;conv=>whnf) | ((first | refine Tst.T ?_ | refine Tst.F ?_ | refine Tst.decT (by assumption) ?_ | refine Tst.decF (by assumption) ?_ | refine Tst.eqT (by assumption) ?_ | refine Tst.eqF (by assumption) ?_ | refine Tst.neT (by assumption) ?_ | refine Tst.neF (by assumption) ?_ | refine Tst.isT (by assumption) ?_ | refine Tst.isF (by assumption) ?_ | refine Tst.dec (fun hb=>?_) (fun hb=>?_) | refine Tst.eqI (fun hb=>?_) (fun hb=>?_) | refine Tst.neI (fun hb=>?_) (fun hb=>?_) | refine Tst.not ?_ | refine Tst.any (fun hb=>?_) (fun hb=>?_)) <;> conv=>whnf) | (refine Ari.ok (by omega) ?_;conv=>whnf) | (refine IxO.ok (by omega) (by omega) ?_;conv=>whnf) | (refine IxS.M (by omega) (by omega) (fun _=>rfl) ?_;conv=>whnf) | (refine ⟨Nat.le_of_ble_eq_true rfl,?_⟩;conv=>whnf) | (refine ⟨rfl,?_⟩;conv=>whnf) | (refine Cat.ok (by omega) ?_;conv=>whnf))
   exact q_loop (n - 1) 3 [] [_] (by omega) (by refine wk0_intro (by omega) (by simp only [setF,maskF,List.set_cons_zero,List.set_cons_succ];repeat' (first | exact trivial | refine ⟨?_,?_⟩ | exact .inr (.inl ⟨rfl,rfl,rfl⟩) | exact .inr (.inr ⟨rfl,rfl⟩) | exact .inl rfl)) rfl rfl (by repeat' (first | exact trivial | refine wkS_f ?_ | refine wkS_d ?_ | refine ⟨rfl,?_⟩ | refine wkS_live0 (by assumption) ?_))) ⟨k + 1,by omega,rfl,by rw [hstep,rf99];rfl⟩
  ·repeat' (first | ((try simp only [Nat.reduceAdd,Nat.reduceMul,Nat.zero_add,Nat.add_zero,Int.toNat_natCast,Int.reduceToNat,stzV,rdV]);refine hK' _ _ _ ?_;clear hK' K';first | refine q_regT ?_ | refine q_regD rfl ?_) | first | refine w_seq ?_ | refine q_seqN ?_ | (refine w_reg (by (try simp only [List.length_cons,List.length_nil,Nat.reduceAdd]);rfl) (by (try simp only [List.replicate_succ,List.replicate_zero,List.cons_append,List.nil_append,List.append_nil]);rfl) (fun K' hK'=>wpOps_ok ?_);conv=>whnf) | (refine w_condTst rfl ?_;(repeat refine Tst.not ?_);(first | refine Tst.T ?_ | refine Tst.F ?_ | refine Tst.decT (by assumption) ?_ | refine Tst.decF (by assumption) ?_ | refine Tst.eqT (by assumption) ?_ | refine Tst.eqF (by assumption) ?_ | refine Tst.neT (by assumption) ?_ | refine Tst.neF (by assumption) ?_ | refine Tst.isT (by assumption) ?_ | refine Tst.isF (by assumption) ?_ | refine Tst.dec (fun hb=>?_) (fun hb=>?_) | refine Tst.eqI (fun hb=>?_) (fun hb=>?_) | refine Tst.neI (fun hb=>?_) (fun hb=>?_) | refine Tst.not ?_ | refine Tst.any (fun hb=>?_) (fun hb=>?_)) <;> conv=>whnf) | refine w_ret ?_ | refine w_skip ?_ | refine w_blk ?_ | refine w_exit ?_ | refine q_seqR ?_ | refine q_seqE ?_ | refine q_blkN ?_ | refine q_blkR ?_ | refine q_blkH ?_ | refine q_blkE rfl ?_ | refine q_loopR ?_ | refine q_loopE ?_ | (refine Ask_S (text_r _ s r L (by decide)) rfl ?_;conv=>whnf) | (refine Ask_S (number_r _ s r L (by decide)) rfl ?_;conv=>whnf) | (refine ⟨read2_ok,?_⟩;conv=>whnf) | (refine Ask_S (read2_r 7 6 0 s _ r L hs rfl (by decide) (.inr (.inr (.inr ⟨rfl,rfl⟩)))) rfl ?_;conv=>whnf) | first | (refine LenQ.ok ?_;conv=>whnf) | ((first | refine Tst.T ?_ | refine Tst.F ?_ | refine Tst.decT (by assumption) ?_ | refine Tst.decF (by assumption) ?_ | refine Tst.eqT (by assumption) ?_ | refine Tst.eqF (by assumption) ?_ | refine Tst.neT (by assumption) ?_ | refine Tst.neF (by assumption) ?_ | refine Tst.isT (by assumption) ?_ | refine Tst.isF (by assumption) ?_ | refine Tst.dec (fun hb=>?_) (fun hb=>?_) | refine Tst.eqI (fun hb=>?_) (fun hb=>?_) | refine Tst.neI (fun hb=>?_) (fun hb=>?_) | refine Tst.not ?_ | refine Tst.any (fun hb=>?_) (fun hb=>?_)) <;> conv=>whnf) | (refine Ari.ok (by omega) ?_;conv=>whnf) | (refine IxO.ok (by omega) (by omega) ?_;conv=>whnf) | (refine IxS.M (by omega) (by omega) (fun _=>rfl) ?_;conv=>whnf) | (refine ⟨Nat.le_of_ble_eq_true rfl,?_⟩;conv=>whnf) | (refine ⟨rfl,?_⟩;conv=>whnf) | (refine Cat.ok (by omega) ?_;conv=>whnf))
   exact q_loop (n - 1) 3 [] [_] (by omega) (by refine wk0_intro (by omega) (by simp only [setF,maskF,List.set_cons_zero,List.set_cons_succ];repeat' (first | exact trivial | refine ⟨?_,?_⟩ | exact .inr (.inl ⟨rfl,rfl,rfl⟩) | exact .inr (.inr ⟨rfl,rfl⟩) | exact .inl rfl)) rfl rfl (by repeat' (first | exact trivial | refine wkS_f ?_ | refine wkS_d ?_ | refine ⟨rfl,?_⟩ | refine wkS_live0 (by assumption) ?_))) ⟨k + 1,by omega,rfl,by rw [hstep,rf110];rfl⟩
 ·have hkl:k=L.length:=by omega
  subst hkl
  rw [List.take_length] at hq
  rw [hq]
  exact f_R0 (by simp) .nil rfl rfl rfl rfl (by repeat' (first | exact trivial | refine wkS_f ?_ | refine wkS_d ?_ | refine ⟨rfl,?_⟩ | refine wkS_live0 (by assumption) ?_))
end Go.Proofs.YtmmmcpeickfolaaGreat

namespace Go.Proofs.YtmmmcpeickfolaaGreat
open Go.RowKit
def zS:StzD:=⟨0,⟨#[]⟩,⟨#[]⟩,⟨#[]⟩,0,0,0,0⟩
def kS (k:UInt8):StzD:=⟨k,⟨#[]⟩,⟨#[]⟩,⟨#[]⟩,0,0,0,0⟩
def foldR (k:UInt8) (rest:List UInt8):RdD × StzD:=(hasN k.toNat).foldl readF (⟨ba rest,0,0⟩,kS k)
def readL:List UInt8→StzD × Int
 | []=>(zS,3)
 | k :: rest=>if knownN k.toNat=false then (zS,12) else if doneL (foldR k rest).1≠0 then (zS,doneL (foldR k rest).1) else if checkS (foldR k rest).2≠0 then (zS,checkS (foldR k rest).2) else ((foldR k rest).2,0)
theorem readL_u {k:UInt8} {rest:List UInt8} (h:knownN k.toNat=false):readL (k :: rest)=(zS,12):=if_pos h
theorem readL_d {k:UInt8} {rest:List UInt8} (h:knownN k.toNat=true) (h2:doneL (foldR k rest).1≠0):readL (k :: rest)=(zS,doneL (foldR k rest).1):=(if_neg (by simp [h])).trans (if_pos h2)
theorem readL_c {k:UInt8} {rest:List UInt8} (h:knownN k.toNat=true) (h2:doneL (foldR k rest).1=0) (h3:checkS (foldR k rest).2≠0):readL (k :: rest)=(zS,checkS (foldR k rest).2):=(if_neg (by simp [h])).trans ((if_neg (by simp [h2])).trans (if_pos h3))
theorem readL_o {k:UInt8} {rest:List UInt8} (h:knownN k.toNat=true) (h2:doneL (foldR k rest).1=0) (h3:checkS (foldR k rest).2=0):readL (k :: rest)=((foldR k rest).2,0):=(if_neg (by simp [h])).trans ((if_neg (by simp [h2])).trans (if_neg (by simp [h3])))
theorem text_sz (r:RdD) (m:Int):(octTextL r m).2.size≤r.s.size:=by
 unfold octTextL
 split
 ·exact Nat.zero_le _
 split
 ·exact Nat.zero_le _
 split
 ·exact Nat.zero_le _
 ·simp only [ByteArray.size_extract];omega
theorem readF_sz (x:RdD × StzD) (c:UInt8) (N:Nat) (h0:x.1.s.size≤N) (h:x.2.user.size≤N∧x.2.res.size≤N∧x.2.name.size≤N):(readF x c).2.user.size≤N∧(readF x c).2.res.size≤N∧(readF x c).2.name.size≤N:=by
 obtain ⟨h1,h2,h3⟩:=h
 unfold readF
 split
 ·exact ⟨Nat.le_trans (text_sz _ _) h0,h2,h3⟩
 split
 ·exact ⟨h1,Nat.le_trans (text_sz _ _) h0,h3⟩
 split
 ·exact ⟨h1,h2,Nat.le_trans (text_sz _ _) h0⟩
 repeat' split
 all_goals exact ⟨h1,h2,h3⟩
theorem fold_sz (N:Nat):∀ (L:List UInt8) (x:RdD × StzD),x.1.s.size≤N→x.2.user.size≤N∧x.2.res.size≤N∧x.2.name.size≤N→(L.foldl readF x).2.user.size≤N∧(L.foldl readF x).2.res.size≤N∧(L.foldl readF x).2.name.size≤N
 | [],x,_,h=>h
 | c :: L,x,h0,h=>fold_sz N L (readF x c) (by rw [(readF_s x c).1];exact h0) (readF_sz x c N h0 h)
theorem IxT_0 {s:ByteArray} {k:UInt8} {rest:List UInt8} {K:V→Prop} (h:s.data.toList=k :: rest) (hk:K (.lit (.int .u8 k.toNat))):IxT s 0 K:=by
 have hl:0 < s.size:=by rw [← bl_len,h];simp
 have e:s[(0:Int).toNat]'hl=k:=by
  have:=bl_get s 0 hl
  simp only [h,List.getElem_cons_zero] at this
  exact this.symm
 exact ⟨by decide,hl,by rw [e];exact hk⟩
theorem SlT_1 {s:ByteArray} {k:UInt8} {rest:List UInt8} {K:V→Prop} (h:s.data.toList=k :: rest) (hk:K (.lit (.string (ba rest)))):SlT s (some 1) none K:=by
 have hl:0 < s.size:=by rw [← bl_len,h];simp
 have e:s.extract 1 s.size=ba rest:=by rw [cut_drop,h];rfl
 refine ⟨by decide,by simp;omega,by simp,?_⟩
 have e2:s.extract ((some (1:Int)).getD 0).toNat ((none:Option Int).getD s.size).toNat=ba rest:=by rw [← e];rfl
 rw [e2];exact hk
attribute [local irreducible] AW Fin FinR seqQ blkQ regQ loopQ CallsV CallsS Callable
attribute [local irreducible] foldR
set_option maxRecDepth 10000 in
theorem read_v (b:ByteArray) (hb:b.size≤100000):CallsV Tryz.prog 106 [.s b] (.tup [stzV (readL b.data.toList).1,.i (readL b.data.toList).2]):=by
 refine callsV_comp mix Tryz.func106 ac106_ok ?_
 unfold ac106
 simp only [List.length_cons,List.length_nil,List.replicate_succ,List.replicate_zero,List.cons_append,List.nil_append,Nat.reduceAdd,Nat.reduceSub]
 have hle:b.toList=b.data.toList:=ByteArray.toList_eq b
 cases hL:b.data.toList with
 | nil =>
  repeat' (first | ((try simp only [Nat.reduceAdd,Nat.reduceMul,Nat.zero_add,Nat.add_zero,Int.toNat_natCast,Int.reduceToNat,stzV,rdV]);refine hK' _ _ _ ?_;clear hK' K';first | refine q_regT ?_ | refine q_regD rfl ?_) | first | refine w_seq ?_ | refine q_seqN ?_ | (refine w_reg (by (try simp only [List.length_cons,List.length_nil,Nat.reduceAdd]);rfl) (by (try simp only [List.replicate_succ,List.replicate_zero,List.cons_append,List.nil_append,List.append_nil]);rfl) (fun K' hK'=>wpOps_ok ?_);conv=>whnf) | (refine w_condTst rfl ?_;(repeat refine Tst.not ?_);(first | refine Tst.T ?_ | refine Tst.F ?_ | refine Tst.decT (by assumption) ?_ | refine Tst.decF (by assumption) ?_ | refine Tst.eqT (by assumption) ?_ | refine Tst.eqF (by assumption) ?_ | refine Tst.neT (by assumption) ?_ | refine Tst.neF (by assumption) ?_ | refine Tst.isT (by assumption) ?_ | refine Tst.isF (by assumption) ?_ | refine Tst.dec (fun hb=>?_) (fun hb=>?_) | refine Tst.eqI (fun hb=>?_) (fun hb=>?_) | refine Tst.neI (fun hb=>?_) (fun hb=>?_) | refine Tst.not ?_ | refine Tst.any (fun hb=>?_) (fun hb=>?_)) <;> conv=>whnf) | refine w_ret ?_ | refine w_skip ?_ | refine w_blk ?_ | refine w_exit ?_ | refine q_seqR ?_ | refine q_seqE ?_ | refine q_blkN ?_ | refine q_blkR ?_ | refine q_blkH ?_ | refine q_blkE rfl ?_ | refine q_loopR ?_ | refine q_loopE ?_ | fail | first | (refine LenQ.ok ?_;conv=>whnf) | ((first | refine Tst.T ?_ | refine Tst.F ?_ | refine Tst.decT (by assumption) ?_ | refine Tst.decF (by assumption) ?_ | refine Tst.eqT (by assumption) ?_ | refine Tst.eqF (by assumption) ?_ | refine Tst.neT (by assumption) ?_ | refine Tst.neF (by assumption) ?_ | refine Tst.isT (by assumption) ?_ | refine Tst.isF (by assumption) ?_ | refine Tst.dec (fun hb=>?_) (fun hb=>?_) | refine Tst.eqI (fun hb=>?_) (fun hb=>?_) | refine Tst.neI (fun hb=>?_) (fun hb=>?_) | refine Tst.not ?_ | refine Tst.any (fun hb=>?_) (fun hb=>?_)) <;> conv=>whnf) | (refine Ari.ok (by omega) ?_;conv=>whnf) | (refine IxO.ok (by omega) (by omega) ?_;conv=>whnf) | (refine IxS.M (by omega) (by omega) (fun _=>rfl) ?_;conv=>whnf) | (refine ⟨Nat.le_of_ble_eq_true rfl,?_⟩;conv=>whnf) | (refine ⟨rfl,?_⟩;conv=>whnf) | (refine Cat.ok (by omega) ?_;conv=>whnf))
  all_goals first
   | exact f_res (by simp) (ResL.cons (ResOne.cell rfl rfl (Nat.le_of_ble_eq_true rfl)) (ResL.cons (ResOne.tmp rfl) ResL.nil)) rfl rfl
   | (rename_i hb1;exact absurd hb1 (by rw [hle,hL];simp))
   | (exact absurd ‹_=false› (by rw [hle,hL];simp))
 | cons k rest =>
  have hks:=known_v k
  have ho:=open_v (ba rest)
  have hrs:(ba rest).size≤100000:=by rw [ba_size];have:=bl_len b;rw [hL] at this;simp at this;omega
  have hea:=each_r (⟨ba rest,0,0⟩,kS k) hrs
  have hsz:=fold_sz 100000 (hasN k.toNat) (⟨ba rest,0,0⟩,kS k) hrs ⟨Nat.zero_le _,Nat.zero_le _,Nat.zero_le _⟩
  have hF:foldR k rest=(hasN k.toNat).foldl readF (⟨ba rest,0,0⟩,kS k):=by unfold foldR;rfl
  change CallsS _ _ _ _ _ [_,.live (stzV ((hasN k.toNat).foldl readF (⟨ba rest,0,0⟩,kS k)).2).cells 0,.live (rdV ((hasN k.toNat).foldl readF (⟨ba rest,0,0⟩,kS k)).1).cells 0] at hea
  rw [← hF] at hea hsz
  have hd:=done_v (foldR k rest).1
  have hck:=stzCheck_v (foldR k rest).2 hsz.1 hsz.2.1 hsz.2.2
  have l1:=readL_u (k:=k) (rest:=rest)
  have l2:=readL_d (k:=k) (rest:=rest)
  have l3:=readL_c (k:=k) (rest:=rest)
  have l4:=readL_o (k:=k) (rest:=rest)
  generalize readL (k :: rest)=q at *
  clear hF hsz
  generalize foldR k rest=x at *
  repeat' (first | ((try simp only [Nat.reduceAdd,Nat.reduceMul,Nat.zero_add,Nat.add_zero,Int.toNat_natCast,Int.reduceToNat,stzV,rdV]);refine hK' _ _ _ ?_;clear hK' K';first | refine q_regT ?_ | refine q_regD rfl ?_) | first | refine w_seq ?_ | refine q_seqN ?_ | (refine w_reg (by (try simp only [List.length_cons,List.length_nil,Nat.reduceAdd]);rfl) (by (try simp only [List.replicate_succ,List.replicate_zero,List.cons_append,List.nil_append,List.append_nil]);rfl) (fun K' hK'=>wpOps_ok ?_);conv=>whnf) | (refine w_condTst rfl ?_;(repeat refine Tst.not ?_);(first | refine Tst.T ?_ | refine Tst.F ?_ | refine Tst.decT (by assumption) ?_ | refine Tst.decF (by assumption) ?_ | refine Tst.eqT (by assumption) ?_ | refine Tst.eqF (by assumption) ?_ | refine Tst.neT (by assumption) ?_ | refine Tst.neF (by assumption) ?_ | refine Tst.isT (by assumption) ?_ | refine Tst.isF (by assumption) ?_ | refine Tst.dec (fun hb=>?_) (fun hb=>?_) | refine Tst.eqI (fun hb=>?_) (fun hb=>?_) | refine Tst.neI (fun hb=>?_) (fun hb=>?_) | refine Tst.not ?_ | refine Tst.any (fun hb=>?_) (fun hb=>?_)) <;> conv=>whnf) | refine w_ret ?_ | refine w_skip ?_ | refine w_blk ?_ | refine w_exit ?_ | refine q_seqR ?_ | refine q_seqE ?_ | refine q_blkN ?_ | refine q_blkR ?_ | refine q_blkH ?_ | refine q_blkE rfl ?_ | refine q_loopR ?_ | refine q_loopE ?_ | (refine Ask_V0 (hks) rfl rfl ?_;conv=>whnf) | (refine Ask_V0 (ho) rfl rfl ?_;conv=>whnf) | (refine Ask_V0 (hd) rfl rfl ?_;conv=>whnf) | (refine Ask_V0 (hck) rfl rfl ?_;conv=>whnf) | (refine IxT_0 hL ?_;conv=>whnf) | (refine SlT_1 hL ?_;conv=>whnf) | (refine Ask_S hea rfl ?_;conv=>whnf) | first | (refine LenQ.ok ?_;conv=>whnf) | ((first | refine Tst.T ?_ | refine Tst.F ?_ | refine Tst.decT (by assumption) ?_ | refine Tst.decF (by assumption) ?_ | refine Tst.eqT (by assumption) ?_ | refine Tst.eqF (by assumption) ?_ | refine Tst.neT (by assumption) ?_ | refine Tst.neF (by assumption) ?_ | refine Tst.isT (by assumption) ?_ | refine Tst.isF (by assumption) ?_ | refine Tst.dec (fun hb=>?_) (fun hb=>?_) | refine Tst.eqI (fun hb=>?_) (fun hb=>?_) | refine Tst.neI (fun hb=>?_) (fun hb=>?_) | refine Tst.not ?_ | refine Tst.any (fun hb=>?_) (fun hb=>?_)) <;> conv=>whnf) | (refine Ari.ok (by omega) ?_;conv=>whnf) | (refine IxO.ok (by omega) (by omega) ?_;conv=>whnf) | (refine IxS.M (by omega) (by omega) (fun _=>rfl) ?_;conv=>whnf) | (refine ⟨Nat.le_of_ble_eq_true rfl,?_⟩;conv=>whnf) | (refine ⟨rfl,?_⟩;conv=>whnf) | (refine Cat.ok (by omega) ?_;conv=>whnf))
  all_goals first
   | (exact absurd ‹_=true› (by rw [hle,hL];simp))
   | (rw [l1 (by assumption)];exact f_res (by simp) (ResL.cons (ResOne.cell rfl rfl (Nat.le_of_ble_eq_true rfl)) (ResL.cons (ResOne.tmp rfl) ResL.nil)) rfl rfl)
   | (rw [l2 (by assumption) (by assumption)];exact f_res (by simp) (ResL.cons (ResOne.cell rfl rfl (Nat.le_of_ble_eq_true rfl)) (ResL.cons (ResOne.tmp rfl) ResL.nil)) rfl rfl)
   | (rw [l3 (by assumption) (by assumption) (by assumption)];exact f_res (by simp) (ResL.cons (ResOne.cell rfl rfl (Nat.le_of_ble_eq_true rfl)) (ResL.cons (ResOne.tmp rfl) ResL.nil)) rfl rfl)
   | (rw [l4 (by assumption) (by assumption) (by assumption)];exact f_res (by simp) (ResL.cons (ResOne.cell rfl rfl (Nat.le_of_ble_eq_true rfl)) (ResL.cons (ResOne.tmp rfl) ResL.nil)) rfl rfl)
   | trace_state
end Go.Proofs.YtmmmcpeickfolaaGreat

namespace Go.Proofs.YtmmmcpeickfolaaGreat
open Go.RowKit
def putP (s:StzD):ByteArray × Int:=if checkS s≠0 then (⟨#[]⟩,checkS s) else (ba (s.kind :: bodyB s (hasN s.kind.toNat)),0)
def p_stanza_Put (x:StanzaStanza):Option (ByteArray × Int):=if stzFits x then some (putP (stzOf x)) else none
theorem p_stanza_Put_v (x:StanzaStanza):CallsO Tryz.prog 49 [x.v] (fun r:ByteArray × Int=>.tup [V.s r.1,V.i r.2]) (p_stanza_Put x):=callsO_if fun h=>by
 rw [stz_V h]
 have e:=put_v (stzOf x) h.2.1 h.2.2.1 h.2.2.2
 unfold putV at e
 unfold putP
 split at e
 ·rename_i h0;rw [if_pos h0];exact e
 ·rename_i h0;rw [if_neg h0];exact e
def stzTo (s:StzD):StanzaStanza:=StanzaStanza.mk (s.kind.toNat:Int) s.user s.res s.name s.show_ s.prio s.code s.n
def p_stanza_Read (b:ByteArray):Option (StanzaStanza × Int):=if b.size≤100000 then some (stzTo (readL b.data.toList).1,(readL b.data.toList).2) else none
theorem p_stanza_Read_v (b:ByteArray):CallsO Tryz.prog 106 [.s b] (fun r:StanzaStanza × Int=>.tup [StanzaStanza.v r.1,V.i r.2]) (p_stanza_Read b):=callsO_if fun h=>read_v b h
end Go.Proofs.YtmmmcpeickfolaaGreat

namespace Go.Proofs
open Go.Shelf
def Tryz.lays169_ren:Go.Shelf.Ren:=⟨fun | 169=>117 | n=>n,fun | 70=>209 | 9=>9 | 0=>0 | 72=>211 | 37=>178 | 127=>254 | 3=>3 | 5=>5 | n=>n,fun | n=>n⟩
theorem Tryz.lays169:Go.Proofs.Lays.n169 Tryz.prog Tryz.lays169_ren:={
 mixed:=by kernel_rfl
 f169:=Tryz.func117.trans (congrArg some (by kernel_rfl))
 t0:=Tryz.underlying0
 a0:=Tryz.isAgg0
 z0:=Tryz.sizeOf0
 v0:=Tryz.zeroValue0
 t3:=Tryz.underlying3
 a3:=Tryz.isAgg3
 z3:=Tryz.sizeOf3
 v3:=Tryz.zeroValue3
 t9:=Tryz.underlying9
 a9:=Tryz.isAgg9
 z9:=Tryz.sizeOf9
 v9:=Tryz.zeroValue9
 t37:=Tryz.underlying178
 a37:=Tryz.isAgg178
 z37:=Tryz.sizeOf178
 v37:=Tryz.zeroValue178
 t70:=Tryz.underlying209
 a70:=Tryz.isAgg209
 z70:=Tryz.sizeOf209
 v70:=Tryz.zeroValue209
 t72:=Tryz.underlying211
 a72:=Tryz.isAgg211
 z72:=Tryz.sizeOf211
 v72:=Tryz.zeroValue211
 t127:=Tryz.underlying254
 a127:=Tryz.isAgg254
 z127:=Tryz.sizeOf254
 v127:=Tryz.zeroValue254 }
theorem Tryz.Builder_Extra_169:Builder.Extra Tryz.prog Tryz.lays169_ren:={
 sizeBuilder:=by kernel_rfl
 liesBuilder:=by kernel_rfl
 t5:=Tryz.underlying5
 a5:=Tryz.isAgg5
 z5:=Tryz.sizeOf5
 v5:=Tryz.zeroValue5
 infoByte:=by kernel_rfl
 cellsByte:=by kernel_rfl
 sizeByte:=by kernel_rfl
 neB5:=by decide }
open Go.RowKit in
theorem Tryz.Builder_String_any (B b:Nat) (l:List UInt8) (w:World) (h:Lib.IsBuilder 211 5 B b (Lib.byteCells l) w) (hBw:B≤w.heap.size) :
  Calls Tryz.prog 117 #[.pointer (some ⟨b,0,none⟩)] w fun e w'=>e=.returned (.string ⟨l.toArray⟩)∧Below B w w':=Any.Builder_String_any Tryz.lays169 Tryz.Builder_Extra_169 B b l w h hBw
end Go.Proofs

