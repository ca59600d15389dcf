/- A part of the proof: 7 texts joined. -/
import Derived.Test.YtdbigmjlhkgeoaaGreatZhA3
import Derived.Test.YtdbigmjlhkgeoaaGreatZhA2
import Derived.Test.YtdbigmjlhkgeoaaGreatZhA1
import Derived.KernelRfl
set_option linter.all false
namespace Go.Proofs.YtdbigmjlhkgeoaaGreat
open Go.RowKit
attribute [local irreducible] AW Fin FinR seqQ blkQ regQ loopQ CallsV CallsS Callable
end Go.Proofs.YtdbigmjlhkgeoaaGreat

namespace Go.Proofs.YtdbigmjlhkgeoaaGreat
open Go.RowKit
attribute [local irreducible] AW Fin FinR seqQ blkQ regQ loopQ CallsV CallsS Callable
theorem p256:(256:Nat) ^ 6=281474976710656:=by decide
end Go.Proofs.YtdbigmjlhkgeoaaGreat

namespace Go.Proofs.YtdbigmjlhkgeoaaGreat
open Go.RowKit
attribute [local irreducible] AW Fin FinR seqQ blkQ regQ loopQ CallsV CallsS Callable
end Go.Proofs.YtdbigmjlhkgeoaaGreat

namespace Go.Proofs.YtdbigmjlhkgeoaaGreat
open Go.RowKit
def letV1 (c:UInt8):V:=if c=117 then .tup [.ptr 1 1,.i 33] else if c=114 then .tup [.ptr 1 2,.i 12] else if c=109 then .tup [.ptr 1 3,.i 24] else .tup [.lit (.pointer none),.i 0]
def numbV1 (c:UInt8):V:=if c=115 then .tup [.ptr 1 4,.i 1,.i 0] else if c=112 then .tup [.ptr 1 5,.i 1,.i 128] else if c=99 then .tup [.ptr 1 6,.i 1,.i 0] else .tup [.ptr 1 7,.i 6,.i 0]
def readF (x:RdD × StzD) (c:UInt8):RdD × StzD :=
 if c=117 then ((octTextL x.1 33).1,{ x.2 with user:=(octTextL x.1 33).2 }) else if c=114 then ((octTextL x.1 12).1,{ x.2 with res:=(octTextL x.1 12).2 }) else if c=109 then ((octTextL x.1 24).1,{ x.2 with name:=(octTextL x.1 24).2 })
 else if c=115 then ((numL x.1 1).1,{ x.2 with show_:=(numL x.1 1).2 - 0 }) else if c=112 then ((numL x.1 1).1,{ x.2 with prio:=(numL x.1 1).2 - 128 }) else if c=99 then ((numL x.1 1).1,{ x.2 with code:=(numL x.1 1).2 - 0 }) else ((numL x.1 6).1,{ x.2 with n:=(numL x.1 6).2 - 0 })
theorem rf117 (r:RdD) (s:StzD):readF (r,s) 117=((octTextL r 33).1,{ s with user:=(octTextL r 33).2 }):=rfl
theorem rf114 (r:RdD) (s:StzD):readF (r,s) 114=((octTextL r 12).1,{ s with res:=(octTextL r 12).2 }):=rfl
theorem rf109 (r:RdD) (s:StzD):readF (r,s) 109=((octTextL r 24).1,{ s with name:=(octTextL r 24).2 }):=rfl
theorem rf115 (r:RdD) (s:StzD):readF (r,s) 115=((numL r 1).1,{ s with show_:=(numL r 1).2 - 0 }):=rfl
theorem rf112 (r:RdD) (s:StzD):readF (r,s) 112=((numL r 1).1,{ s with prio:=(numL r 1).2 - 128 }):=rfl
theorem rf99 (r:RdD) (s:StzD):readF (r,s) 99=((numL r 1).1,{ s with code:=(numL r 1).2 - 0 }):=rfl
theorem rf110 (r:RdD) (s:StzD):readF (r,s) 110=((numL r 6).1,{ s with n:=(numL r 6).2 - 0 }):=rfl
theorem num_s (r:RdD) (w:Nat):(numL r w).1.s=r.s:=by
 by_cases h0:faultL r=0
 ·by_cases h2:leftL r < w
  ·rw [numL_short h0 h2]
  ·rw [numL_ok h0 h2]
 ·rw [numL_bad h0]
theorem num_range (r:RdD) (w:Nat) (hw:w≤6):0≤(numL r w).2∧(numL r w).2 < 281474976710656:=by
 by_cases h0:faultL r=0
 ·by_cases h2:leftL r < w
  ·rw [numL_short h0 h2];exact ⟨Int.le_refl 0,Int.lt_of_sub_neg (by simp)⟩
  ·rw [numL_ok h0 h2]
   have hlt:=beN_lt ((r.s.data.toList.drop r.at_.toNat).take w)
   have hl:((r.s.data.toList.drop r.at_.toNat).take w).length≤6:=by simp;omega
   have:(256:Nat) ^ ((r.s.data.toList.drop r.at_.toNat).take w).length≤256 ^ 6:=Nat.pow_le_pow_right (by decide) hl
   rw [p256] at this
   simp only
   omega
 ·rw [numL_bad h0];exact ⟨Int.le_refl 0,Int.lt_of_sub_neg (by simp)⟩
theorem text_s1 (r:RdD) (m:Int):(octTextL r m).1.s=r.s:=by
 unfold octTextL
 split
 ·exact num_s r 1
 split
 ·rfl
 split
 ·rfl
 ·exact num_s r 1
theorem readF_s (x:RdD × StzD) (c:UInt8):(readF x c).1.s=x.1.s∧(readF x c).2.kind=x.2.kind:=by
 unfold readF
 split
 ·exact ⟨text_s1 _ _,rfl⟩
 split
 ·exact ⟨text_s1 _ _,rfl⟩
 split
 ·exact ⟨text_s1 _ _,rfl⟩
 split
 ·exact ⟨num_s _ _,rfl⟩
 split
 ·exact ⟨num_s _ _,rfl⟩
 split
 ·exact ⟨num_s _ _,rfl⟩
 ·exact ⟨num_s _ _,rfl⟩
theorem fold_s (L:List UInt8):∀ x:RdD × StzD,(L.foldl readF x).1.s=x.1.s∧(L.foldl readF x).2.kind=x.2.kind:=by
 induction L with
 | nil=>intro x;exact ⟨rfl,rfl⟩
 | cons c L ih =>
  intro x
  obtain ⟨h1,h2⟩:=ih (readF x c)
  obtain ⟨h3,h4⟩:=readF_s x c
  exact ⟨h1.trans h3,h2.trans h4⟩
attribute [local irreducible] AW Fin FinR seqQ blkQ regQ loopQ CallsV CallsS Callable
attribute [local irreducible] numL octTextL
theorem text_r (c:UInt8) (s:StzD) (r:RdD) (l:List UInt8) (hc:c=117∨c=114∨c=109∨c=115∨c=112∨c=99∨c=110):CallsS Tryz.prog 121 [.ptr 1 0,.u8 c] [.live [.u8 0,.s ⟨#[]⟩,.s ⟨#[]⟩,.s ⟨#[]⟩,.i 0,.i 0,.i 0,.i 0] 0,.live (stzV s).cells 0,.live (rdV r).cells 0] (letV1 c) [.live [.u8 0,.s ⟨#[]⟩,.s ⟨#[]⟩,.s ⟨#[]⟩,.i 0,.i 0,.i 0,.i 0] 0,.live (stzV s).cells 0,.live (rdV r).cells 0]:=by
 have hid:=bytes_idlt l
 refine callsR_comp mix Tryz.func121 ac121_ok rfl ?_
 unfold ac121
 simp only [List.length_cons,List.length_nil,List.replicate_succ,List.replicate_zero,List.cons_append,List.nil_append,Nat.reduceAdd,Nat.reduceSub]
 rcases hc with rfl | rfl | rfl | rfl | rfl | rfl | rfl
 all_goals (repeat' (first | ((try simp only [Nat.reduceAdd,Nat.reduceMul,Nat.zero_add,Nat.add_zero,Int.toNat_natCast,Int.reduceToNat,stzV,rdV]);refine hK' _ _ _ ?_;clear hK' K';first | refine q_regT ?_ | refine q_regD rfl ?_) | first | refine w_seq ?_ | refine q_seqN ?_ | (refine w_reg (by (try simp only [List.length_cons,List.length_nil,Nat.reduceAdd]);rfl) (by (try simp only [List.replicate_succ,List.replicate_zero,List.cons_append,List.nil_append,List.append_nil]);rfl) (fun K' hK'=>wpOps_ok ?_);conv=>whnf) | (refine w_condTst rfl ?_;(repeat refine Tst.not ?_);(first | refine Tst.T ?_ | refine Tst.F ?_ | refine Tst.decT (by assumption) ?_ | refine Tst.decF (by assumption) ?_ | refine Tst.eqT (by assumption) ?_ | refine Tst.eqF (by assumption) ?_ | refine Tst.neT (by assumption) ?_ | refine Tst.neF (by assumption) ?_ | refine Tst.isT (by assumption) ?_ | refine Tst.isF (by assumption) ?_ | refine Tst.dec (fun hb=>?_) (fun hb=>?_) | refine Tst.eqI (fun hb=>?_) (fun hb=>?_) | refine Tst.neI (fun hb=>?_) (fun hb=>?_) | refine Tst.not ?_ | refine Tst.any (fun hb=>?_) (fun hb=>?_)) <;> conv=>whnf) | refine w_ret ?_ | refine w_skip ?_ | refine w_blk ?_ | refine w_exit ?_ | refine q_seqR ?_ | refine q_seqE ?_ | refine q_blkN ?_ | refine q_blkR ?_ | refine q_blkH ?_ | refine q_blkE rfl ?_ | refine q_loopR ?_ | refine q_loopE ?_ | fail | first | (refine LenQ.ok ?_;conv=>whnf) | ((first | refine Tst.T ?_ | refine Tst.F ?_ | refine Tst.decT (by assumption) ?_ | refine Tst.decF (by assumption) ?_ | refine Tst.eqT (by assumption) ?_ | refine Tst.eqF (by assumption) ?_ | refine Tst.neT (by assumption) ?_ | refine Tst.neF (by assumption) ?_ | refine Tst.isT (by assumption) ?_ | refine Tst.isF (by assumption) ?_ | refine Tst.dec (fun hb=>?_) (fun hb=>?_) | refine Tst.eqI (fun hb=>?_) (fun hb=>?_) | refine Tst.neI (fun hb=>?_) (fun hb=>?_) | refine Tst.not ?_ | refine Tst.any (fun hb=>?_) (fun hb=>?_)) <;> conv=>whnf) | (refine Ari.ok (by omega) ?_;conv=>whnf) | (refine IxO.ok (by omega) (by omega) ?_;conv=>whnf) | (refine IxS.M (by omega) (by omega) (fun _=>rfl) ?_;conv=>whnf) | (refine ⟨Nat.le_of_ble_eq_true rfl,?_⟩;conv=>whnf) | (refine ⟨rfl,?_⟩;conv=>whnf) | (refine Cat.ok (by omega) ?_;conv=>whnf)))
 all_goals exact f_R0 (by simp) (ResL.cons (ResOne.tmp rfl) (ResL.cons (ResOne.tmp rfl) ResL.nil)) rfl rfl rfl rfl (by repeat' (first | exact trivial | refine wkS_f ?_ | refine wkS_d ?_ | refine ⟨rfl,?_⟩ | refine wkS_live0 (by assumption) ?_))
theorem number_r (c:UInt8) (s:StzD) (r:RdD) (l:List UInt8) (hc:c=115∨c=112∨c=99∨c=110):CallsS Tryz.prog 122 [.ptr 1 0,.u8 c] [.live [.u8 0,.s ⟨#[]⟩,.s ⟨#[]⟩,.s ⟨#[]⟩,.i 0,.i 0,.i 0,.i 0] 0,.live (stzV s).cells 0,.live (rdV r).cells 0] (numbV1 c) [.live [.u8 0,.s ⟨#[]⟩,.s ⟨#[]⟩,.s ⟨#[]⟩,.i 0,.i 0,.i 0,.i 0] 0,.live (stzV s).cells 0,.live (rdV r).cells 0]:=by
 have hid:=bytes_idlt l
 refine callsR_comp mix Tryz.func122 ac122_ok rfl ?_
 unfold ac122
 simp only [List.length_cons,List.length_nil,List.replicate_succ,List.replicate_zero,List.cons_append,List.nil_append,Nat.reduceAdd,Nat.reduceSub]
 rcases hc with rfl | rfl | rfl | rfl
 all_goals (repeat' (first | ((try simp only [Nat.reduceAdd,Nat.reduceMul,Nat.zero_add,Nat.add_zero,Int.toNat_natCast,Int.reduceToNat,stzV,rdV]);refine hK' _ _ _ ?_;clear hK' K';first | refine q_regT ?_ | refine q_regD rfl ?_) | first | refine w_seq ?_ | refine q_seqN ?_ | (refine w_reg (by (try simp only [List.length_cons,List.length_nil,Nat.reduceAdd]);rfl) (by (try simp only [List.replicate_succ,List.replicate_zero,List.cons_append,List.nil_append,List.append_nil]);rfl) (fun K' hK'=>wpOps_ok ?_);conv=>whnf) | (refine w_condTst rfl ?_;(repeat refine Tst.not ?_);(first | refine Tst.T ?_ | refine Tst.F ?_ | refine Tst.decT (by assumption) ?_ | refine Tst.decF (by assumption) ?_ | refine Tst.eqT (by assumption) ?_ | refine Tst.eqF (by assumption) ?_ | refine Tst.neT (by assumption) ?_ | refine Tst.neF (by assumption) ?_ | refine Tst.isT (by assumption) ?_ | refine Tst.isF (by assumption) ?_ | refine Tst.dec (fun hb=>?_) (fun hb=>?_) | refine Tst.eqI (fun hb=>?_) (fun hb=>?_) | refine Tst.neI (fun hb=>?_) (fun hb=>?_) | refine Tst.not ?_ | refine Tst.any (fun hb=>?_) (fun hb=>?_)) <;> conv=>whnf) | refine w_ret ?_ | refine w_skip ?_ | refine w_blk ?_ | refine w_exit ?_ | refine q_seqR ?_ | refine q_seqE ?_ | refine q_blkN ?_ | refine q_blkR ?_ | refine q_blkH ?_ | refine q_blkE rfl ?_ | refine q_loopR ?_ | refine q_loopE ?_ | fail | first | (refine LenQ.ok ?_;conv=>whnf) | ((first | refine Tst.T ?_ | refine Tst.F ?_ | refine Tst.decT (by assumption) ?_ | refine Tst.decF (by assumption) ?_ | refine Tst.eqT (by assumption) ?_ | refine Tst.eqF (by assumption) ?_ | refine Tst.neT (by assumption) ?_ | refine Tst.neF (by assumption) ?_ | refine Tst.isT (by assumption) ?_ | refine Tst.isF (by assumption) ?_ | refine Tst.dec (fun hb=>?_) (fun hb=>?_) | refine Tst.eqI (fun hb=>?_) (fun hb=>?_) | refine Tst.neI (fun hb=>?_) (fun hb=>?_) | refine Tst.not ?_ | refine Tst.any (fun hb=>?_) (fun hb=>?_)) <;> conv=>whnf) | (refine Ari.ok (by omega) ?_;conv=>whnf) | (refine IxO.ok (by omega) (by omega) ?_;conv=>whnf) | (refine IxS.M (by omega) (by omega) (fun _=>rfl) ?_;conv=>whnf) | (refine ⟨Nat.le_of_ble_eq_true rfl,?_⟩;conv=>whnf) | (refine ⟨rfl,?_⟩;conv=>whnf) | (refine Cat.ok (by omega) ?_;conv=>whnf)))
 all_goals exact f_R0 (by simp) (ResL.cons (ResOne.tmp rfl) (ResL.cons (ResOne.tmp rfl) (ResL.cons (ResOne.tmp rfl) ResL.nil))) rfl rfl rfl rfl (by repeat' (first | exact trivial | refine wkS_f ?_ | refine wkS_d ?_ | refine ⟨rfl,?_⟩ | refine wkS_live0 (by assumption) ?_))
theorem read1_r (off:Nat) (most:Int) (s s' : StzD) (r:RdD) (l:List UInt8) (hs:r.s.size≤100000) (h:off=1∧s'={ s with user:=(octTextL r most).2 }∨off=2∧s'={ s with res:=(octTextL r most).2 }∨off=3∧s'={ s with name:=(octTextL r most).2 }) :
  CallsS Tryz.prog 98 [.ptr 1 off,.i most,.ptr 2 0] [.live [.u8 0,.s ⟨#[]⟩,.s ⟨#[]⟩,.s ⟨#[]⟩,.i 0,.i 0,.i 0,.i 0] 0,.live (stzV s).cells 0,.live (rdV r).cells 0] (.tup []) [.live [.u8 0,.s ⟨#[]⟩,.s ⟨#[]⟩,.s ⟨#[]⟩,.i 0,.i 0,.i 0,.i 0] 0,.live (stzV s').cells 0,.live (rdV (octTextL r most).1).cells 0]:=by
 have hid:=bytes_idlt l
 have hc:=text_v r most hs
 refine callsR_comp mix Tryz.func98 ac98_ok rfl ?_
 unfold ac98
 simp only [List.length_cons,List.length_nil,List.replicate_succ,List.replicate_zero,List.cons_append,List.nil_append,Nat.reduceAdd,Nat.reduceSub]
 rcases h with ⟨rfl,rfl⟩ | ⟨rfl,rfl⟩ | ⟨rfl,rfl⟩
 all_goals (repeat' (first | ((try simp only [Nat.reduceAdd,Nat.reduceMul,Nat.zero_add,Nat.add_zero,Int.toNat_natCast,Int.reduceToNat,stzV,rdV]);refine hK' _ _ _ ?_;clear hK' K';first | refine q_regT ?_ | refine q_regD rfl ?_) | first | refine w_seq ?_ | refine q_seqN ?_ | (refine w_reg (by (try simp only [List.length_cons,List.length_nil,Nat.reduceAdd]);rfl) (by (try simp only [List.replicate_succ,List.replicate_zero,List.cons_append,List.nil_append,List.append_nil]);rfl) (fun K' hK'=>wpOps_ok ?_);conv=>whnf) | (refine w_condTst rfl ?_;(repeat refine Tst.not ?_);(first | refine Tst.T ?_ | refine Tst.F ?_ | refine Tst.decT (by assumption) ?_ | refine Tst.decF (by assumption) ?_ | refine Tst.eqT (by assumption) ?_ | refine Tst.eqF (by assumption) ?_ | refine Tst.neT (by assumption) ?_ | refine Tst.neF (by assumption) ?_ | refine Tst.isT (by assumption) ?_ | refine Tst.isF (by assumption) ?_ | refine Tst.dec (fun hb=>?_) (fun hb=>?_) | refine Tst.eqI (fun hb=>?_) (fun hb=>?_) | refine Tst.neI (fun hb=>?_) (fun hb=>?_) | refine Tst.not ?_ | refine Tst.any (fun hb=>?_) (fun hb=>?_)) <;> conv=>whnf) | refine w_ret ?_ | refine w_skip ?_ | refine w_blk ?_ | refine w_exit ?_ | refine q_seqR ?_ | refine q_seqE ?_ | refine q_blkN ?_ | refine q_blkR ?_ | refine q_blkH ?_ | refine q_blkE rfl ?_ | refine q_loopR ?_ | refine q_loopE ?_ | (refine Ask_V0 (hc) rfl rfl ?_;conv=>whnf) | first | (refine LenQ.ok ?_;conv=>whnf) | ((first | refine Tst.T ?_ | refine Tst.F ?_ | refine Tst.decT (by assumption) ?_ | refine Tst.decF (by assumption) ?_ | refine Tst.eqT (by assumption) ?_ | refine Tst.eqF (by assumption) ?_ | refine Tst.neT (by assumption) ?_ | refine Tst.neF (by assumption) ?_ | refine Tst.isT (by assumption) ?_ | refine Tst.isF (by assumption) ?_ | refine Tst.dec (fun hb=>?_) (fun hb=>?_) | refine Tst.eqI (fun hb=>?_) (fun hb=>?_) | refine Tst.neI (fun hb=>?_) (fun hb=>?_) | refine Tst.not ?_ | refine Tst.any (fun hb=>?_) (fun hb=>?_)) <;> conv=>whnf) | (refine Ari.ok (by omega) ?_;conv=>whnf) | (refine IxO.ok (by omega) (by omega) ?_;conv=>whnf) | (refine IxS.M (by omega) (by omega) (fun _=>rfl) ?_;conv=>whnf) | (refine ⟨Nat.le_of_ble_eq_true rfl,?_⟩;conv=>whnf) | (refine ⟨rfl,?_⟩;conv=>whnf) | (refine Cat.ok (by omega) ?_;conv=>whnf)))
 all_goals exact f_R0 (by simp) .nil rfl rfl rfl rfl (by repeat' (first | exact trivial | refine wkS_f ?_ | refine wkS_d ?_ | refine ⟨rfl,?_⟩ | refine wkS_live0 (by assumption) ?_))
theorem read2_r (off w:Nat) (z:Int) (s s' : StzD) (r:RdD) (l:List UInt8) (hs:r.s.size≤100000) (hw:wideL w=true) (hz:0≤z∧z≤128) (h:off=4∧s'={ s with show_:=(numL r w).2 - z }∨off=5∧s'={ s with prio:=(numL r w).2 - z }∨off=6∧s'={ s with code:=(numL r w).2 - z }∨off=7∧s'={ s with n:=(numL r w).2 - z }) :
  CallsS Tryz.prog 100 [.ptr 1 off,.i w,.i z,.ptr 2 0] [.live [.u8 0,.s ⟨#[]⟩,.s ⟨#[]⟩,.s ⟨#[]⟩,.i 0,.i 0,.i 0,.i 0] 0,.live (stzV s).cells 0,.live (rdV r).cells 0] (.tup []) [.live [.u8 0,.s ⟨#[]⟩,.s ⟨#[]⟩,.s ⟨#[]⟩,.i 0,.i 0,.i 0,.i 0] 0,.live (stzV s').cells 0,.live (rdV (numL r w).1).cells 0]:=by
 have hid:=bytes_idlt l
 have hc:=num_v r w hs hw
 have hr:=num_range r w (wide_le hw).2
 refine callsR_comp mix Tryz.func100 ac100_ok rfl ?_
 unfold ac100
 simp only [List.length_cons,List.length_nil,List.replicate_succ,List.replicate_zero,List.cons_append,List.nil_append,Nat.reduceAdd,Nat.reduceSub]
 rcases h with ⟨rfl,rfl⟩ | ⟨rfl,rfl⟩ | ⟨rfl,rfl⟩ | ⟨rfl,rfl⟩
 all_goals (repeat' (first | ((try simp only [Nat.reduceAdd,Nat.reduceMul,Nat.zero_add,Nat.add_zero,Int.toNat_natCast,Int.reduceToNat,stzV,rdV]);refine hK' _ _ _ ?_;clear hK' K';first | refine q_regT ?_ | refine q_regD rfl ?_) | first | refine w_seq ?_ | refine q_seqN ?_ | (refine w_reg (by (try simp only [List.length_cons,List.length_nil,Nat.reduceAdd]);rfl) (by (try simp only [List.replicate_succ,List.replicate_zero,List.cons_append,List.nil_append,List.append_nil]);rfl) (fun K' hK'=>wpOps_ok ?_);conv=>whnf) | (refine w_condTst rfl ?_;(repeat refine Tst.not ?_);(first | refine Tst.T ?_ | refine Tst.F ?_ | refine Tst.decT (by assumption) ?_ | refine Tst.decF (by assumption) ?_ | refine Tst.eqT (by assumption) ?_ | refine Tst.eqF (by assumption) ?_ | refine Tst.neT (by assumption) ?_ | refine Tst.neF (by assumption) ?_ | refine Tst.isT (by assumption) ?_ | refine Tst.isF (by assumption) ?_ | refine Tst.dec (fun hb=>?_) (fun hb=>?_) | refine Tst.eqI (fun hb=>?_) (fun hb=>?_) | refine Tst.neI (fun hb=>?_) (fun hb=>?_) | refine Tst.not ?_ | refine Tst.any (fun hb=>?_) (fun hb=>?_)) <;> conv=>whnf) | refine w_ret ?_ | refine w_skip ?_ | refine w_blk ?_ | refine w_exit ?_ | refine q_seqR ?_ | refine q_seqE ?_ | refine q_blkN ?_ | refine q_blkR ?_ | refine q_blkH ?_ | refine q_blkE rfl ?_ | refine q_loopR ?_ | refine q_loopE ?_ | (refine Ask_V0 (hc) rfl rfl ?_;conv=>whnf) | first | (refine LenQ.ok ?_;conv=>whnf) | ((first | refine Tst.T ?_ | refine Tst.F ?_ | refine Tst.decT (by assumption) ?_ | refine Tst.decF (by assumption) ?_ | refine Tst.eqT (by assumption) ?_ | refine Tst.eqF (by assumption) ?_ | refine Tst.neT (by assumption) ?_ | refine Tst.neF (by assumption) ?_ | refine Tst.isT (by assumption) ?_ | refine Tst.isF (by assumption) ?_ | refine Tst.dec (fun hb=>?_) (fun hb=>?_) | refine Tst.eqI (fun hb=>?_) (fun hb=>?_) | refine Tst.neI (fun hb=>?_) (fun hb=>?_) | refine Tst.not ?_ | refine Tst.any (fun hb=>?_) (fun hb=>?_)) <;> conv=>whnf) | (refine Ari.ok (by omega) ?_;conv=>whnf) | (refine IxO.ok (by omega) (by omega) ?_;conv=>whnf) | (refine IxS.M (by omega) (by omega) (fun _=>rfl) ?_;conv=>whnf) | (refine ⟨Nat.le_of_ble_eq_true rfl,?_⟩;conv=>whnf) | (refine ⟨rfl,?_⟩;conv=>whnf) | (refine Cat.ok (by omega) ?_;conv=>whnf)))
 all_goals exact f_R0 (by simp) .nil rfl rfl rfl rfl (by repeat' (first | exact trivial | refine wkS_f ?_ | refine wkS_d ?_ | refine ⟨rfl,?_⟩ | refine wkS_live0 (by assumption) ?_))
theorem read1_ok:Callable Tryz.prog 98:=callable_comp Tryz.func98 ac98_ok (by kernel_rfl)
theorem read2_ok:Callable Tryz.prog 100:=callable_comp Tryz.func100 ac100_ok (by kernel_rfl)
theorem each_r (x:RdD × StzD) (hs:x.1.s.size≤100000):CallsS Tryz.prog 97 [.ptr 1 0,.clo (.func 98) [.ptr 2 0],.clo (.func 100) [.ptr 2 0]] [.live [.u8 0,.s ⟨#[]⟩,.s ⟨#[]⟩,.s ⟨#[]⟩,.i 0,.i 0,.i 0,.i 0] 0,.live (stzV x.2).cells 0,.live (rdV x.1).cells 0] (.tup [])
  [.live [.u8 0,.s ⟨#[]⟩,.s ⟨#[]⟩,.s ⟨#[]⟩,.i 0,.i 0,.i 0,.i 0] 0,.live (stzV ((hasN x.2.kind.toNat).foldl readF x).2).cells 0,.live (rdV ((hasN x.2.kind.toNat).foldl readF x).1).cells 0]:=by
 have hc:=has_v x.2.kind
 have hin:=hasN_in x.2.kind.toNat
 have hl5:=hasN_len x.2.kind.toNat
 have hb0:=ba_list (hasN x.2.kind.toNat)
 have hz:=ba_size (hasN x.2.kind.toNat)
 generalize hasN x.2.kind.toNat=L at *
 generalize ba L=u at *
 have hid:=bytes_idlt L
 refine callsR_comp mix Tryz.func97 ac97_ok rfl ?_
 unfold ac97
 simp only [List.length_cons,List.length_nil,List.replicate_succ,List.replicate_zero,List.cons_append,List.nil_append,Nat.reduceAdd,Nat.reduceSub]
 repeat' (first | ((try simp only [Nat.reduceAdd,Nat.reduceMul,Nat.zero_add,Nat.add_zero,Int.toNat_natCast,Int.reduceToNat,stzV,rdV]);refine hK' _ _ _ ?_;clear hK' K';first | refine q_regT ?_ | refine q_regD rfl ?_) | first | refine w_seq ?_ | refine q_seqN ?_ | (refine w_reg (by (try simp only [List.length_cons,List.length_nil,Nat.reduceAdd]);rfl) (by (try simp only [List.replicate_succ,List.replicate_zero,List.cons_append,List.nil_append,List.append_nil]);rfl) (fun K' hK'=>wpOps_ok ?_);conv=>whnf) | (refine w_condTst rfl ?_;(repeat refine Tst.not ?_);(first | refine Tst.T ?_ | refine Tst.F ?_ | refine Tst.decT (by assumption) ?_ | refine Tst.decF (by assumption) ?_ | refine Tst.eqT (by assumption) ?_ | refine Tst.eqF (by assumption) ?_ | refine Tst.neT (by assumption) ?_ | refine Tst.neF (by assumption) ?_ | refine Tst.isT (by assumption) ?_ | refine Tst.isF (by assumption) ?_ | refine Tst.dec (fun hb=>?_) (fun hb=>?_) | refine Tst.eqI (fun hb=>?_) (fun hb=>?_) | refine Tst.neI (fun hb=>?_) (fun hb=>?_) | refine Tst.not ?_ | refine Tst.any (fun hb=>?_) (fun hb=>?_)) <;> conv=>whnf) | refine w_ret ?_ | refine w_skip ?_ | refine w_blk ?_ | refine w_exit ?_ | refine q_seqR ?_ | refine q_seqE ?_ | refine q_blkN ?_ | refine q_blkR ?_ | refine q_blkH ?_ | refine q_blkE rfl ?_ | refine q_loopR ?_ | refine q_loopE ?_ | (refine Ask_V0 (hc) rfl rfl ?_;conv=>whnf) | first | (refine LenQ.ok ?_;conv=>whnf) | ((first | refine Tst.T ?_ | refine Tst.F ?_ | refine Tst.decT (by assumption) ?_ | refine Tst.decF (by assumption) ?_ | refine Tst.eqT (by assumption) ?_ | refine Tst.eqF (by assumption) ?_ | refine Tst.neT (by assumption) ?_ | refine Tst.neF (by assumption) ?_ | refine Tst.isT (by assumption) ?_ | refine Tst.isF (by assumption) ?_ | refine Tst.dec (fun hb=>?_) (fun hb=>?_) | refine Tst.eqI (fun hb=>?_) (fun hb=>?_) | refine Tst.neI (fun hb=>?_) (fun hb=>?_) | refine Tst.not ?_ | refine Tst.any (fun hb=>?_) (fun hb=>?_)) <;> conv=>whnf) | (refine Ari.ok (by omega) ?_;conv=>whnf) | (refine IxO.ok (by omega) (by omega) ?_;conv=>whnf) | (refine IxS.M (by omega) (by omega) (fun _=>rfl) ?_;conv=>whnf) | (refine ⟨Nat.le_of_ble_eq_true rfl,?_⟩;conv=>whnf) | (refine ⟨rfl,?_⟩;conv=>whnf) | (refine Cat.ok (by omega) ?_;conv=>whnf))
 try rw [hb0]
 try rw [hz]
 try simp only [List.length_map]
 refine w_loop [17] [7,8,9,18,19,20,21,22,23,24,25,26,27,28,29,30,31,32,33,34,35,36,37,38,39,40,41] (fun n vals st=>∃ k:Nat,k + n=L.length∧vals=[.i k]∧st=[.live [.u8 0,.s ⟨#[]⟩,.s ⟨#[]⟩,.s ⟨#[]⟩,.i 0,.i 0,.i 0,.i 0] 0,.live (stzV ((L.take k).foldl readF x).2).cells 0,.live (rdV ((L.take k).foldl readF x).1).cells 0]) L.length 3 [] [.i 0] (by refine wk0_intro (by omega) (by simp only [setF,maskF,List.set_cons_zero,List.set_cons_succ];repeat' (first | exact trivial | refine ⟨?_,?_⟩ | exact .inr (.inl ⟨rfl,rfl,rfl⟩) | exact .inr (.inr ⟨rfl,rfl⟩) | exact .inl rfl)) rfl rfl (by repeat' (first | exact trivial | refine wkS_f ?_ | refine wkS_d ?_ | refine ⟨rfl,?_⟩ | refine wkS_live0 (by assumption) ?_))) ⟨0,by omega,rfl,rfl⟩ ?_
 rintro n vals st ⟨k,hk,rfl,rfl⟩
 have hstep:∀ h:k < L.length,(L.take (k + 1)).foldl readF x=readF ((L.take k).foldl readF x) L[k]:=by
  intro h;rw [List.take_succ_eq_append_getElem h,List.foldl_append];rfl
 have hin2:∀ h:k < L.length,_:=fun h=>hin L[k] (List.getElem_mem h)
 have hfs:=(fold_s (L.take k) x).1
 simp only [setF,maskF,List.set_cons_zero,List.set_cons_succ]
 generalize hq:(L.take k).foldl readF x=q at *
 obtain ⟨r,s⟩:=q
 simp only at hfs
 rw [← hfs] at hs
 simp only [putF,List.set_cons_zero,List.set_cons_succ,evO,List.getD_cons_zero,List.getD_cons_succ,V.ofValue,ofC,V.cells,partV,List.drop_zero,List.drop_succ_cons,List.take_succ_cons,List.take_zero,Nat.reduceAdd,Nat.reduceMul,Nat.zero_add,Nat.add_zero,if_true,if_false,Bool.false_eq_true,List.nil_append,List.cons_append,List.append_nil,List.map_cons,List.map_nil,stzV,rdV]
 repeat' (first | ((try simp only [Nat.reduceAdd,Nat.reduceMul,Nat.zero_add,Nat.add_zero,Int.toNat_natCast,Int.reduceToNat,stzV,rdV]);refine hK' _ _ _ ?_;clear hK' K';first | refine q_regT ?_ | refine q_regD rfl ?_) | first | refine w_seq ?_ | refine q_seqN ?_ | (refine w_reg (by (try simp only [List.length_cons,List.length_nil,Nat.reduceAdd]);rfl) (by (try simp only [List.replicate_succ,List.replicate_zero,List.cons_append,List.nil_append,List.append_nil]);rfl) (fun K' hK'=>wpOps_ok ?_);conv=>whnf) | (refine w_condTst rfl ?_;(repeat refine Tst.not ?_);(first | refine Tst.T ?_ | refine Tst.F ?_ | refine Tst.decT (by assumption) ?_ | refine Tst.decF (by assumption) ?_ | refine Tst.eqT (by assumption) ?_ | refine Tst.eqF (by assumption) ?_ | refine Tst.neT (by assumption) ?_ | refine Tst.neF (by assumption) ?_ | refine Tst.isT (by assumption) ?_ | refine Tst.isF (by assumption) ?_ | refine Tst.dec (fun hb=>?_) (fun hb=>?_) | refine Tst.eqI (fun hb=>?_) (fun hb=>?_) | refine Tst.neI (fun hb=>?_) (fun hb=>?_) | refine Tst.not ?_ | refine Tst.any (fun hb=>?_) (fun hb=>?_)) <;> conv=>whnf) | refine w_ret ?_ | refine w_skip ?_ | refine w_blk ?_ | refine w_exit ?_ | refine q_seqR ?_ | refine q_seqE ?_ | refine q_blkN ?_ | refine q_blkR ?_ | refine q_blkH ?_ | refine q_blkE rfl ?_ | refine q_loopR ?_ | refine q_loopE ?_ | fail | first | (refine LenQ.ok ?_;conv=>whnf) | ((first | refine Tst.T ?_ | refine Tst.F ?_ | refine Tst.decT (by assumption) ?_ | refine Tst.decF (by assumption) ?_ | refine Tst.eqT (by assumption) ?_ | refine Tst.eqF (by assumption) ?_ | refine Tst.neT (by assumption) ?_ | refine Tst.neF (by assumption) ?_ | refine Tst.isT (by assumption) ?_ | refine Tst.isF (by assumption) ?_ | refine Tst.dec (fun hb=>?_) (fun hb=>?_) | refine Tst.eqI (fun hb=>?_) (fun hb=>?_) | refine Tst.neI (fun hb=>?_) (fun hb=>?_) | refine Tst.not ?_ | refine Tst.any (fun hb=>?_) (fun hb=>?_)) <;> conv=>whnf) | (refine Ari.ok (by omega) ?_;conv=>whnf) | (refine IxO.ok (by omega) (by omega) ?_;conv=>whnf) | (refine IxS.M (by omega) (by omega) (fun _=>rfl) ?_;conv=>whnf) | (refine ⟨Nat.le_of_ble_eq_true rfl,?_⟩;conv=>whnf) | (refine ⟨rfl,?_⟩;conv=>whnf) | (refine Cat.ok (by omega) ?_;conv=>whnf))
 ·have hlt:k < L.length:=by omega
  replace hstep:=hstep hlt
  have hi:=hin2 hlt
  generalize L[k]=c at hstep hi ⊢
  rcases hi with rfl | rfl | rfl | rfl | rfl | rfl | rfl
  ·repeat' (first | ((try simp only [Nat.reduceAdd,Nat.reduceMul,Nat.zero_add,Nat.add_zero,Int.toNat_natCast,Int.reduceToNat,stzV,rdV]);refine hK' _ _ _ ?_;clear hK' K';first | refine q_regT ?_ | refine q_regD rfl ?_) | first | refine w_seq ?_ | refine q_seqN ?_ | (refine w_reg (by (try simp only [List.length_cons,List.length_nil,Nat.reduceAdd]);rfl) (by (try simp only [List.replicate_succ,List.replicate_zero,List.cons_append,List.nil_append,List.append_nil]);rfl) (fun K' hK'=>wpOps_ok ?_);conv=>whnf) | (refine w_condTst rfl ?_;(repeat refine Tst.not ?_);(first | refine Tst.T ?_ | refine Tst.F ?_ | refine Tst.decT (by assumption) ?_ | refine Tst.decF (by assumption) ?_ | refine Tst.eqT (by assumption) ?_ | refine Tst.eqF (by assumption) ?_ | refine Tst.neT (by assumption) ?_ | refine Tst.neF (by assumption) ?_ | refine Tst.isT (by assumption) ?_ | refine Tst.isF (by assumption) ?_ | refine Tst.dec (fun hb=>?_) (fun hb=>?_) | refine Tst.eqI (fun hb=>?_) (fun hb=>?_) | refine Tst.neI (fun hb=>?_) (fun hb=>?_) | refine Tst.not ?_ | refine Tst.any (fun hb=>?_) (fun hb=>?_)) <;> conv=>whnf) | refine w_ret ?_ | refine w_skip ?_ | refine w_blk ?_ | refine w_exit ?_ | refine q_seqR ?_ | refine q_seqE ?_ | refine q_blkN ?_ | refine q_blkR ?_ | refine q_blkH ?_ | refine q_blkE rfl ?_ | refine q_loopR ?_ | refine q_loopE ?_ | (refine Ask_S (text_r _ s r L (by decide)) rfl ?_;conv=>whnf) | (refine ⟨read1_ok,?_⟩;conv=>whnf) | (refine Ask_S (read1_r 1 33 s _ r L hs (.inl ⟨rfl,rfl⟩)) rfl ?_;conv=>whnf) | first | (refine LenQ.ok ?_;conv=>whnf) | ((first | refine Tst.T ?_ | refine Tst.F ?_ | refine Tst.decT (by assumption) ?_ | refine Tst.decF (by assumption) ?_ | refine Tst.eqT (by assumption) ?_ | refine Tst.eqF (by assumption) ?_ | refine Tst.neT (by assumption) ?_ | refine Tst.neF (by assumption) ?_ | refine Tst.isT (by assumption) ?_ | refine Tst.isF (by assumption) ?_ | refine Tst.dec (fun hb=>?_) (fun hb=>?_) | refine Tst.eqI (fun hb=>?_) (fun hb=>?_) | refine Tst.neI (fun hb=>?_) (fun hb=>?_) | refine Tst.not ?_ | refine Tst.any (fun hb=>?_) (fun hb=>?_)) <;> conv=>whnf) | (refine Ari.ok (by omega) ?_;conv=>whnf) | (refine IxO.ok (by omega) (by omega) ?_;conv=>whnf) | (refine IxS.M (by omega) (by omega) (fun _=>rfl) ?_;conv=>whnf) | (refine ⟨Nat.le_of_ble_eq_true rfl,?_⟩;conv=>whnf) | (refine ⟨rfl,?_⟩;conv=>whnf) | (refine Cat.ok (by omega) ?_;conv=>whnf))
   exact q_loop (n - 1) 3 [] [_] (by omega) (by refine wk0_intro (by omega) (by simp only [setF,maskF,List.set_cons_zero,List.set_cons_succ];repeat' (first | exact trivial | refine ⟨?_,?_⟩ | exact .inr (.inl ⟨rfl,rfl,rfl⟩) | exact .inr (.inr ⟨rfl,rfl⟩) | exact .inl rfl)) rfl rfl (by repeat' (first | exact trivial | refine wkS_f ?_ | refine wkS_d ?_ | refine ⟨rfl,?_⟩ | refine wkS_live0 (by assumption) ?_))) ⟨k + 1,by omega,rfl,by rw [hstep,rf117];rfl⟩
  ·repeat' (first | ((try simp only [Nat.reduceAdd,Nat.reduceMul,Nat.zero_add,Nat.add_zero,Int.toNat_natCast,Int.reduceToNat,stzV,rdV]);refine hK' _ _ _ ?_;clear hK' K';first | refine q_regT ?_ | refine q_regD rfl ?_) | first | refine w_seq ?_ | refine q_seqN ?_ | (refine w_reg (by (try simp only [List.length_cons,List.length_nil,Nat.reduceAdd]);rfl) (by (try simp only [List.replicate_succ,List.replicate_zero,List.cons_append,List.nil_append,List.append_nil]);rfl) (fun K' hK'=>wpOps_ok ?_);conv=>whnf) | (refine w_condTst rfl ?_;(repeat refine Tst.not ?_);(first | refine Tst.T ?_ | refine Tst.F ?_ | refine Tst.decT (by assumption) ?_ | refine Tst.decF (by assumption) ?_ | refine Tst.eqT (by assumption) ?_ | refine Tst.eqF (by assumption) ?_ | refine Tst.neT (by assumption) ?_ | refine Tst.neF (by assumption) ?_ | refine Tst.isT (by assumption) ?_ | refine Tst.isF (by assumption) ?_ | refine Tst.dec (fun hb=>?_) (fun hb=>?_) | refine Tst.eqI (fun hb=>?_) (fun hb=>?_) | refine Tst.neI (fun hb=>?_) (fun hb=>?_) | refine Tst.not ?_ | refine Tst.any (fun hb=>?_) (fun hb=>?_)) <;> conv=>whnf) | refine w_ret ?_ | refine w_skip ?_ | refine w_blk ?_ | refine w_exit ?_ | refine q_seqR ?_ | refine q_seqE ?_ | refine q_blkN ?_ | refine q_blkR ?_ | refine q_blkH ?_ | refine q_blkE rfl ?_ | refine q_loopR ?_ | refine q_loopE ?_ | (refine Ask_S (text_r _ s r L (by decide)) rfl ?_;conv=>whnf) | (refine ⟨read1_ok,?_⟩;conv=>whnf) | (refine Ask_S (read1_r 2 12 s _ r L hs (.inr (.inl ⟨rfl,rfl⟩))) rfl ?_;conv=>whnf) | first | (refine LenQ.ok ?_;conv=>whnf) | ((first | refine Tst.T ?_ | refine Tst.F ?_ | refine Tst.decT (by assumption) ?_ | refine Tst.decF (by assumption) ?_ | refine Tst.eqT (by assumption) ?_ | refine Tst.eqF (by assumption) ?_ | refine Tst.neT (by assumption) ?_ | refine Tst.neF (by assumption) ?_ | refine Tst.isT (by assumption) ?_ | refine Tst.isF (by assumption) ?_ | refine Tst.dec (fun hb=>?_) (fun hb=>?_) | refine Tst.eqI (fun hb=>?_) (fun hb=>?_) | refine Tst.neI (fun hb=>?_) (fun hb=>?_) | refine Tst.not ?_ | refine Tst.any (fun hb=>?_) (fun hb=>?_)) <;> conv=>whnf) | (refine Ari.ok (by omega) ?_;conv=>whnf) | (refine IxO.ok (by omega) (by omega) ?_;conv=>whnf) | (refine IxS.M (by omega) (by omega) (fun _=>rfl) ?_;conv=>whnf) | (refine ⟨Nat.le_of_ble_eq_true rfl,?_⟩;conv=>whnf) | (refine ⟨rfl,?_⟩;conv=>whnf) | (refine Cat.ok (by omega) ?_;conv=>whnf))
   exact q_loop (n - 1) 3 [] [_] (by omega) (by refine wk0_intro (by omega) (by simp only [setF,maskF,List.set_cons_zero,List.set_cons_succ];repeat' (first | exact trivial | refine ⟨?_,?_⟩ | exact .inr (.inl ⟨rfl,rfl,rfl⟩) | exact .inr (.inr ⟨rfl,rfl⟩) | exact .inl rfl)) rfl rfl (by repeat' (first | exact trivial | refine wkS_f ?_ | refine wkS_d ?_ | refine ⟨rfl,?_⟩ | refine wkS_live0 (by assumption) ?_))) ⟨k + 1,by omega,rfl,by rw [hstep,rf114];rfl⟩
  ·repeat' (first | ((try simp only [Nat.reduceAdd,Nat.reduceMul,Nat.zero_add,Nat.add_zero,Int.toNat_natCast,Int.reduceToNat,stzV,rdV]);refine hK' _ _ _ ?_;clear hK' K';first | refine q_regT ?_ | refine q_regD rfl ?_) | first | refine w_seq ?_ | refine q_seqN ?_ | (refine w_reg (by (try simp only [List.length_cons,List.length_nil,Nat.reduceAdd]);rfl) (by (try simp only [List.replicate_succ,List.replicate_zero,List.cons_append,List.nil_append,List.append_nil]);rfl) (fun K' hK'=>wpOps_ok ?_);conv=>whnf) | (refine w_condTst rfl ?_;(repeat refine Tst.not ?_);(first | refine Tst.T ?_ | refine Tst.F ?_ | refine Tst.decT (by assumption) ?_ | refine Tst.decF (by assumption) ?_ | refine Tst.eqT (by assumption) ?_ | refine Tst.eqF (by assumption) ?_ | refine Tst.neT (by assumption) ?_ | refine Tst.neF (by assumption) ?_ | refine Tst.isT (by assumption) ?_ | refine Tst.isF (by assumption) ?_ | refine Tst.dec (fun hb=>?_) (fun hb=>?_) | refine Tst.eqI (fun hb=>?_) (fun hb=>?_) | refine Tst.neI (fun hb=>?_) (fun hb=>?_) | refine Tst.not ?_ | refine Tst.any (fun hb=>?_) (fun hb=>?_)) <;> conv=>whnf) | refine w_ret ?_ | refine w_skip ?_ | refine w_blk ?_ | refine w_exit ?_ | refine q_seqR ?_ | refine q_seqE ?_ | refine q_blkN ?_ | refine q_blkR ?_ | refine q_blkH ?_ | refine q_blkE rfl ?_ | refine q_loopR ?_ | refine q_loopE ?_ | (refine Ask_S (text_r _ s r L (by decide)) rfl ?_;conv=>whnf) | (refine ⟨read1_ok,?_⟩;conv=>whnf) | (refine Ask_S (read1_r 3 24 s _ r L hs (.inr (.inr ⟨rfl,rfl⟩))) rfl ?_;conv=>whnf) | first | (refine LenQ.ok ?_;conv=>whnf) | ((first | refine Tst.T ?_ | refine Tst.F ?_ | refine Tst.decT (by assumption) ?_ | refine Tst.decF (by assumption) ?_ | refine Tst.eqT (by assumption) ?_ | refine Tst.eqF (by assumption) ?_ | refine Tst.neT (by assumption) ?_ | refine Tst.neF (by assumption) ?_ | refine Tst.isT (by assumption) ?_ | refine Tst.isF (by assumption) ?_ | refine Tst.dec (fun hb=>?_) (fun hb=>?_) | refine Tst.eqI (fun hb=>?_) (fun hb=>?_) | refine Tst.neI (fun hb=>?_) (fun hb=>?_) | refine Tst.not ?_ | refine Tst.any (fun hb=>?_) (fun hb=>?_)) <;> conv=>whnf) | (refine Ari.ok (by omega) ?_;conv=>whnf) | (refine IxO.ok (by omega) (by omega) ?_;conv=>whnf) | (refine IxS.M (by omega) (by omega) (fun _=>rfl) ?_;conv=>whnf) | (refine ⟨Nat.le_of_ble_eq_true rfl,?_⟩;conv=>whnf) | (refine ⟨rfl,?_⟩;conv=>whnf) | (refine Cat.ok (by omega) ?_;conv=>whnf))
   exact q_loop (n - 1) 3 [] [_] (by omega) (by refine wk0_intro (by omega) (by simp only [setF,maskF,List.set_cons_zero,List.set_cons_succ];repeat' (first | exact trivial | refine ⟨?_,?_⟩ | exact .inr (.inl ⟨rfl,rfl,rfl⟩) | exact .inr (.inr ⟨rfl,rfl⟩) | exact .inl rfl)) rfl rfl (by repeat' (first | exact trivial | refine wkS_f ?_ | refine wkS_d ?_ | refine ⟨rfl,?_⟩ | refine wkS_live0 (by assumption) ?_))) ⟨k + 1,by omega,rfl,by rw [hstep,rf109];rfl⟩
  ·repeat' (first | ((try simp only [Nat.reduceAdd,Nat.reduceMul,Nat.zero_add,Nat.add_zero,Int.toNat_natCast,Int.reduceToNat,stzV,rdV]);refine hK' _ _ _ ?_;clear hK' K';first | refine q_regT ?_ | refine q_regD rfl ?_) | first | refine w_seq ?_ | refine q_seqN ?_ | (refine w_reg (by (try simp only [List.length_cons,List.length_nil,Nat.reduceAdd]);rfl) (by (try simp only [List.replicate_succ,List.replicate_zero,List.cons_append,List.nil_append,List.append_nil]);rfl) (fun K' hK'=>wpOps_ok ?_);conv=>whnf) | (refine w_condTst rfl ?_;(repeat refine Tst.not ?_);(first | refine Tst.T ?_ | refine Tst.F ?_ | refine Tst.decT (by assumption) ?_ | refine Tst.decF (by assumption) ?_ | refine Tst.eqT (by assumption) ?_ | refine Tst.eqF (by assumption) ?_ | refine Tst.neT (by assumption) ?_ | refine Tst.neF (by assumption) ?_ | refine Tst.isT (by assumption) ?_ | refine Tst.isF (by assumption) ?_ | refine Tst.dec (fun hb=>?_) (fun hb=>?_) | refine Tst.eqI (fun hb=>?_) (fun hb=>?_) | refine Tst.neI (fun hb=>?_) (fun hb=>?_) | refine Tst.not ?_ | refine Tst.any (fun hb=>?_) (fun hb=>?_)) <;> conv=>whnf) | refine w_ret ?_ | refine w_skip ?_ | refine w_blk ?_ | refine w_exit ?_ | refine q_seqR ?_ | refine q_seqE ?_ | refine q_blkN ?_ | refine q_blkR ?_ | refine q_blkH ?_ | refine q_blkE rfl ?_ | refine q_loopR ?_ | refine q_loopE ?_ | (refine Ask_S (text_r _ s r L (by decide)) rfl ?_;conv=>whnf) | (refine Ask_S (number_r _ s r L (by decide)) rfl ?_;conv=>whnf) | (refine ⟨read2_ok,?_⟩;conv=>whnf) | (refine Ask_S (read2_r 4 1 0 s _ r L hs rfl (by decide) (.inl ⟨rfl,rfl⟩)) rfl ?_;conv=>whnf) | first | (refine LenQ.ok ?_;conv=>whnf) | ((first | refine Tst.T ?_ | refine Tst.F ?_ | refine Tst.decT (by assumption) ?_ | refine Tst.decF (by assumption) ?_ | refine Tst.eqT (by assumption) ?_ | refine Tst.eqF (by assumption) ?_ | refine Tst.neT (by assumption) ?_ | refine Tst.neF (by assumption) ?_ | refine Tst.isT (by assumption) ?_ | refine Tst.isF (by assumption) ?_ | refine Tst.dec (fun hb=>?_) (fun hb=>?_) | refine Tst.eqI (fun hb=>?_) (fun hb=>?_) | refine Tst.neI (fun hb=>?_) (fun hb=>?_) | refine Tst.not ?_ | refine Tst.any (fun hb=>?_) (fun hb=>?_)) <;> conv=>whnf) | (refine Ari.ok (by omega) ?_;conv=>whnf) | (refine IxO.ok (by omega) (by omega) ?_;conv=>whnf) | (refine IxS.M (by omega) (by omega) (fun _=>rfl) ?_;conv=>whnf) | (refine ⟨Nat.le_of_ble_eq_true rfl,?_⟩;conv=>whnf) | (refine ⟨rfl,?_⟩;conv=>whnf) | (refine Cat.ok (by omega) ?_;conv=>whnf))
   exact q_loop (n - 1) 3 [] [_] (by omega) (by refine wk0_intro (by omega) (by simp only [setF,maskF,List.set_cons_zero,List.set_cons_succ];repeat' (first | exact trivial | refine ⟨?_,?_⟩ | exact .inr (.inl ⟨rfl,rfl,rfl⟩) | exact .inr (.inr ⟨rfl,rfl⟩) | exact .inl rfl)) rfl rfl (by repeat' (first | exact trivial | refine wkS_f ?_ | refine wkS_d ?_ | refine ⟨rfl,?_⟩ | refine wkS_live0 (by assumption) ?_))) ⟨k + 1,by omega,rfl,by rw [hstep,rf115];rfl⟩
  ·repeat' (first | ((try simp only [Nat.reduceAdd,Nat.reduceMul,Nat.zero_add,Nat.add_zero,Int.toNat_natCast,Int.reduceToNat,stzV,rdV]);refine hK' _ _ _ ?_;clear hK' K';first | refine q_regT ?_ | refine q_regD rfl ?_) | first | refine w_seq ?_ | refine q_seqN ?_ | (refine w_reg (by (try simp only [List.length_cons,List.length_nil,Nat.reduceAdd]);rfl) (by (try simp only [List.replicate_succ,List.replicate_zero,List.cons_append,List.nil_append,List.append_nil]);rfl) (fun K' hK'=>wpOps_ok ?_);conv=>whnf) | (refine w_condTst rfl ?_;(repeat refine Tst.not ?_);(first | refine Tst.T ?_ | refine Tst.F ?_ | refine Tst.decT (by assumption) ?_ | refine Tst.decF (by assumption) ?_ | refine Tst.eqT (by assumption) ?_ | refine Tst.eqF (by assumption) ?_ | refine Tst.neT (by assumption) ?_ | refine Tst.neF (by assumption) ?_ | refine Tst.isT (by assumption) ?_ | refine Tst.isF (by assumption) ?_ | refine Tst.dec (fun hb=>?_) (fun hb=>?_) | refine Tst.eqI (fun hb=>?_) (fun hb=>?_) | refine Tst.neI (fun hb=>?_) (fun hb=>?_) | refine Tst.not ?_ | refine Tst.any (fun hb=>?_) (fun hb=>?_)) <;> conv=>whnf) | refine w_ret ?_ | refine w_skip ?_ | refine w_blk ?_ | refine w_exit ?_ | refine q_seqR ?_ | refine q_seqE ?_ | refine q_blkN ?_ | refine q_blkR ?_ | refine q_blkH ?_ | refine q_blkE rfl ?_ | refine q_loopR ?_ | refine q_loopE ?_ | (refine Ask_S (text_r _ s r L (by decide)) rfl ?_;conv=>whnf) | (refine Ask_S (number_r _ s r L (by decide)) rfl ?_;conv=>whnf) | (refine ⟨read2_ok,?_⟩;conv=>whnf) | (refine Ask_S (read2_r 5 1 128 s _ r L hs rfl (by decide) (.inr (.inl ⟨rfl,rfl⟩))) rfl ?_;conv=>whnf) | first | (refine LenQ.ok ?_;conv=>whnf) | ((first | refine Tst.T ?_ | refine Tst.F ?_ | refine Tst.decT (by assumption) ?_ | refine Tst.decF (by assumption) ?_ | refine Tst.eqT (by assumption) ?_ | refine Tst.eqF (by assumption) ?_ | refine Tst.neT (by assumption) ?_ | refine Tst.neF (by assumption) ?_ | refine Tst.isT (by assumption) ?_ | refine Tst.isF (by assumption) ?_ | refine Tst.dec (fun hb=>?_) (fun hb=>?_) | refine Tst.eqI (fun hb=>?_) (fun hb=>?_) | refine Tst.neI (fun hb=>?_) (fun hb=>?_) | refine Tst.not ?_ | refine Tst.any (fun hb=>?_) (fun hb=>?_)) <;> conv=>whnf) | (refine Ari.ok (by omega) ?_;conv=>whnf) | (refine IxO.ok (by omega) (by omega) ?_;conv=>whnf) | (refine IxS.M (by omega) (by omega) (fun _=>rfl) ?_;conv=>whnf) | (refine ⟨Nat.le_of_ble_eq_true rfl,?_⟩;conv=>whnf) | (refine ⟨rfl,?_⟩;conv=>whnf) | (refine Cat.ok (by omega) ?_;conv=>whnf))
   exact q_loop (n - 1) 3 [] [_] (by omega) (by refine wk0_intro (by omega) (by simp only [setF,maskF,List.set_cons_zero,List.set_cons_succ];repeat' (first | exact trivial | refine ⟨?_,?_⟩ | exact .inr (.inl ⟨rfl,rfl,rfl⟩) | exact .inr (.inr ⟨rfl,rfl⟩) | exact .inl rfl)) rfl rfl (by repeat' (first | exact trivial | refine wkS_f ?_ | refine wkS_d ?_ | refine ⟨rfl,?_⟩ | refine wkS_live0 (by assumption) ?_))) ⟨k + 1,by omega,rfl,by rw [hstep,rf112];rfl⟩
  ·repeat' (first | ((try simp only [Nat.reduceAdd,Nat.reduceMul,Nat.zero_add,Nat.add_zero,Int.toNat_natCast,Int.reduceToNat,stzV,rdV]);refine hK' _ _ _ ?_;clear hK' K';first | refine q_regT ?_ | refine q_regD rfl ?_) | first | refine w_seq ?_ | refine q_seqN ?_ | (refine w_reg (by (try simp only [List.length_cons,List.length_nil,Nat.reduceAdd]);rfl) (by (try simp only [List.replicate_succ,List.replicate_zero,List.cons_append,List.nil_append,List.append_nil]);rfl) (fun K' hK'=>wpOps_ok ?_);conv=>whnf) | (refine w_condTst rfl ?_;(repeat refine Tst.not ?_);(first | refine Tst.T ?_ | refine Tst.F ?_ | refine Tst.decT (by assumption) ?_ | refine Tst.decF (by assumption) ?_ | refine Tst.eqT (by assumption) ?_ | refine Tst.eqF (by assumption) ?_ | refine Tst.neT (by assumption) ?_ | refine Tst.neF (by assumption) ?_ | refine Tst.isT (by assumption) ?_ | refine Tst.isF (by assumption) ?_ | refine Tst.dec (fun hb=>?_) (fun hb=>?_) | refine Tst.eqI (fun hb=>?_) (fun hb=>?_) | refine Tst.neI (fun hb=>?_) (fun hb=>?_) | refine Tst.not ?_ | refine Tst.any (fun hb=>?_) (fun hb=>?_)) <;> conv=>whnf) | refine w_ret ?_ | refine w_skip ?_ | refine w_blk ?_ | refine w_exit ?_ | refine q_seqR ?_ | refine q_seqE ?_ | refine q_blkN ?_ | refine q_blkR ?_ | refine q_blkH ?_ | refine q_blkE rfl ?_ | refine q_loopR ?_ | refine q_loopE ?_ | (refine Ask_S (text_r _ s r L (by decide)) rfl ?_;conv=>whnf) | (refine Ask_S (number_r _ s r L (by decide)) rfl ?_;conv=>whnf) | (refine ⟨read2_ok,?_⟩;conv=>whnf) | (refine Ask_S (read2_r 6 1 0 s _ r L hs rfl (by decide) (.inr (.inr (.inl ⟨rfl,rfl⟩)))) rfl ?_;conv=>whnf) | first | (refine LenQ.ok ?_;conv=>whnf) | ((first | refine Tst.T ?_ | refine Tst.F ?_ | refine Tst.decT (by assumption) ?_ | refine Tst.decF (by assumption) ?_ | refine Tst.eqT (by assumption) ?_ | refine Tst.eqF (by assumption) ?_ | refine Tst.neT (by assumption) ?_ | refine Tst.neF (by assumption) ?_ | refine Tst.isT (by assumption) ?_ | refine Tst.isF (by assumption) ?_ | refine Tst.dec (fun hb=>?_) (fun hb=>?_) | refine Tst.eqI (fun hb=>?_) (fun hb=>?_) | refine Tst.neI (fun hb=>?_) (fun hb=>?_) | refine Tst.not ?_ | refine Tst.any (fun hb=>?_) (fun hb=>?_)) <;> conv=>whnf) | (refine Ari.ok (by omega) ?_;conv=>whnf) | (refine IxO.ok (by omega) (by omega) ?_;conv=>whnf) | (refine IxS.M (by omega) (by omega) (fun _=>rfl) ?_;conv=>whnf) | (refine ⟨Nat.le_of_ble_eq_true rfl,?_⟩;conv=>whnf) | (refine ⟨rfl,?_⟩;conv=>whnf) | (refine Cat.ok (by omega) ?_;conv=>whnf))
   exact q_loop (n - 1) 3 [] [_] (by omega) (by refine wk0_intro (by omega) (by simp only [setF,maskF,List.set_cons_zero,List.set_cons_succ];repeat' (first | exact trivial | refine ⟨?_,?_⟩ | exact .inr (.inl ⟨rfl,rfl,rfl⟩) | exact .inr (.inr ⟨rfl,rfl⟩) | exact .inl rfl)) rfl rfl (by repeat' (first | exact trivial | refine wkS_f ?_ | refine wkS_d ?_ | refine ⟨rfl,?_⟩ | refine wkS_live0 (by assumption) ?_))) ⟨k + 1,by omega,rfl,by rw [hstep,rf99];rfl⟩
  ·repeat' (first | ((try simp only [Nat.reduceAdd,Nat.reduceMul,Nat.zero_add,Nat.add_zero,Int.toNat_natCast,Int.reduceToNat,stzV,rdV]);refine hK' _ _ _ ?_;clear hK' K';first | refine q_regT ?_ | refine q_regD rfl ?_) | first | refine w_seq ?_ | refine q_seqN ?_ | (refine w_reg (by (try simp only [List.length_cons,List.length_nil,Nat.reduceAdd]);rfl) (by (try simp only [List.replicate_succ,List.replicate_zero,List.cons_append,List.nil_append,List.append_nil]);rfl) (fun K' hK'=>wpOps_ok ?_);conv=>whnf) | (refine w_condTst rfl ?_;(repeat refine Tst.not ?_);(first | refine Tst.T ?_ | refine Tst.F ?_ | refine Tst.decT (by assumption) ?_ | refine Tst.decF (by assumption) ?_ | refine Tst.eqT (by assumption) ?_ | refine Tst.eqF (by assumption) ?_ | refine Tst.neT (by assumption) ?_ | refine Tst.neF (by assumption) ?_ | refine Tst.isT (by assumption) ?_ | refine Tst.isF (by assumption) ?_ | refine Tst.dec (fun hb=>?_) (fun hb=>?_) | refine Tst.eqI (fun hb=>?_) (fun hb=>?_) | refine Tst.neI (fun hb=>?_) (fun hb=>?_) | refine Tst.not ?_ | refine Tst.any (fun hb=>?_) (fun hb=>?_)) <;> conv=>whnf) | refine w_ret ?_ | refine w_skip ?_ | refine w_blk ?_ | refine w_exit ?_ | refine q_seqR ?_ | refine q_seqE ?_ | refine q_blkN ?_ | refine q_blkR ?_ | refine q_blkH ?_ | refine q_blkE rfl ?_ | refine q_loopR ?_ | refine q_loopE ?_ | (refine Ask_S (text_r _ s r L (by decide)) rfl ?_;conv=>whnf) | (refine Ask_S (number_r _ s r L (by decide)) rfl ?_;conv=>whnf) | (refine ⟨read2_ok,?_⟩;conv=>whnf) | (refine Ask_S (read2_r 7 6 0 s _ r L hs rfl (by decide) (.inr (.inr (.inr ⟨rfl,rfl⟩)))) rfl ?_;conv=>whnf) | first | (refine LenQ.ok ?_;conv=>whnf) | ((first | refine Tst.T ?_ | refine Tst.F ?_ | refine Tst.decT (by assumption) ?_ | refine Tst.decF (by assumption) ?_ | refine Tst.eqT (by assumption) ?_ | refine Tst.eqF (by assumption) ?_ | refine Tst.neT (by assumption) ?_ | refine Tst.neF (by assumption) ?_ | refine Tst.isT (by assumption) ?_ | refine Tst.isF (by assumption) ?_ | refine Tst.dec (fun hb=>?_) (fun hb=>?_) | refine Tst.eqI (fun hb=>?_) (fun hb=>?_) | refine Tst.neI (fun hb=>?_) (fun hb=>?_) | refine Tst.not ?_ | refine Tst.any (fun hb=>?_) (fun hb=>?_)) <;> conv=>whnf) | (refine Ari.ok (by omega) ?_;conv=>whnf) | (refine IxO.ok (by omega) (by omega) ?_;conv=>whnf) | (refine IxS.M (by omega) (by omega) (fun _=>rfl) ?_;conv=>whnf) | (refine ⟨Nat.le_of_ble_eq_true rfl,?_⟩;conv=>whnf) | (refine ⟨rfl,?_⟩;conv=>whnf) | (refine Cat.ok (by omega) ?_;conv=>whnf))
   exact q_loop (n - 1) 3 [] [_] (by omega) (by refine wk0_intro (by omega) (by simp only [setF,maskF,List.set_cons_zero,List.set_cons_succ];repeat' (first | exact trivial | refine ⟨?_,?_⟩ | exact .inr (.inl ⟨rfl,rfl,rfl⟩) | exact .inr (.inr ⟨rfl,rfl⟩) | exact .inl rfl)) rfl rfl (by repeat' (first | exact trivial | refine wkS_f ?_ | refine wkS_d ?_ | refine ⟨rfl,?_⟩ | refine wkS_live0 (by assumption) ?_))) ⟨k + 1,by omega,rfl,by rw [hstep,rf110];rfl⟩
 ·have hkl:k=L.length:=by omega
  subst hkl
  rw [List.take_length] at hq
  rw [hq]
  exact f_R0 (by simp) .nil rfl rfl rfl rfl (by repeat' (first | exact trivial | refine wkS_f ?_ | refine wkS_d ?_ | refine ⟨rfl,?_⟩ | refine wkS_live0 (by assumption) ?_))
end Go.Proofs.YtdbigmjlhkgeoaaGreat

namespace Go.Proofs.YtdbigmjlhkgeoaaGreat
open Go.RowKit
def zS:StzD:=⟨0,⟨#[]⟩,⟨#[]⟩,⟨#[]⟩,0,0,0,0⟩
def kS (k:UInt8):StzD:=⟨k,⟨#[]⟩,⟨#[]⟩,⟨#[]⟩,0,0,0,0⟩
def foldR (k:UInt8) (rest:List UInt8):RdD × StzD:=(hasN k.toNat).foldl readF (⟨ba rest,0,0⟩,kS k)
def readL:List UInt8→StzD × Int
 | []=>(zS,3)
 | k :: rest=>if knownN k.toNat=false then (zS,12) else if doneL (foldR k rest).1≠0 then (zS,doneL (foldR k rest).1) else if checkS (foldR k rest).2≠0 then (zS,checkS (foldR k rest).2) else ((foldR k rest).2,0)
theorem readL_u {k:UInt8} {rest:List UInt8} (h:knownN k.toNat=false):readL (k :: rest)=(zS,12):=if_pos h
theorem readL_d {k:UInt8} {rest:List UInt8} (h:knownN k.toNat=true) (h2:doneL (foldR k rest).1≠0):readL (k :: rest)=(zS,doneL (foldR k rest).1):=(if_neg (by simp [h])).trans (if_pos h2)
theorem readL_c {k:UInt8} {rest:List UInt8} (h:knownN k.toNat=true) (h2:doneL (foldR k rest).1=0) (h3:checkS (foldR k rest).2≠0):readL (k :: rest)=(zS,checkS (foldR k rest).2):=(if_neg (by simp [h])).trans ((if_neg (by simp [h2])).trans (if_pos h3))
theorem readL_o {k:UInt8} {rest:List UInt8} (h:knownN k.toNat=true) (h2:doneL (foldR k rest).1=0) (h3:checkS (foldR k rest).2=0):readL (k :: rest)=((foldR k rest).2,0):=(if_neg (by simp [h])).trans ((if_neg (by simp [h2])).trans (if_neg (by simp [h3])))
theorem text_sz (r:RdD) (m:Int):(octTextL r m).2.size≤r.s.size:=by
 unfold octTextL
 split
 ·exact Nat.zero_le _
 split
 ·exact Nat.zero_le _
 split
 ·exact Nat.zero_le _
 ·simp only [ByteArray.size_extract];omega
theorem readF_sz (x:RdD × StzD) (c:UInt8) (N:Nat) (h0:x.1.s.size≤N) (h:x.2.user.size≤N∧x.2.res.size≤N∧x.2.name.size≤N):(readF x c).2.user.size≤N∧(readF x c).2.res.size≤N∧(readF x c).2.name.size≤N:=by
 obtain ⟨h1,h2,h3⟩:=h
 unfold readF
 split
 ·exact ⟨Nat.le_trans (text_sz _ _) h0,h2,h3⟩
 split
 ·exact ⟨h1,Nat.le_trans (text_sz _ _) h0,h3⟩
 split
 ·exact ⟨h1,h2,Nat.le_trans (text_sz _ _) h0⟩
 repeat' split
 all_goals exact ⟨h1,h2,h3⟩
theorem fold_sz (N:Nat):∀ (L:List UInt8) (x:RdD × StzD),x.1.s.size≤N→x.2.user.size≤N∧x.2.res.size≤N∧x.2.name.size≤N→(L.foldl readF x).2.user.size≤N∧(L.foldl readF x).2.res.size≤N∧(L.foldl readF x).2.name.size≤N
 | [],x,_,h=>h
 | c :: L,x,h0,h=>fold_sz N L (readF x c) (by rw [(readF_s x c).1];exact h0) (readF_sz x c N h0 h)
theorem IxT_0 {s:ByteArray} {k:UInt8} {rest:List UInt8} {K:V→Prop} (h:s.data.toList=k :: rest) (hk:K (.lit (.int .u8 k.toNat))):IxT s 0 K:=by
 have hl:0 < s.size:=by rw [← bl_len,h];simp
 have e:s[(0:Int).toNat]'hl=k:=by
  have:=bl_get s 0 hl
  simp only [h,List.getElem_cons_zero] at this
  exact this.symm
 exact ⟨by decide,hl,by rw [e];exact hk⟩
theorem SlT_1 {s:ByteArray} {k:UInt8} {rest:List UInt8} {K:V→Prop} (h:s.data.toList=k :: rest) (hk:K (.lit (.string (ba rest)))):SlT s (some 1) none K:=by
 have hl:0 < s.size:=by rw [← bl_len,h];simp
 have e:s.extract 1 s.size=ba rest:=by rw [cut_drop,h];rfl
 refine ⟨by decide,by simp;omega,by simp,?_⟩
 have e2:s.extract ((some (1:Int)).getD 0).toNat ((none:Option Int).getD s.size).toNat=ba rest:=by rw [← e];rfl
 rw [e2];exact hk
attribute [local irreducible] AW Fin FinR seqQ blkQ regQ loopQ CallsV CallsS Callable
attribute [local irreducible] foldR
set_option maxRecDepth 10000 in
theorem read_v (b:ByteArray) (hb:b.size≤100000):CallsV Tryz.prog 80 [.s b] (.tup [stzV (readL b.data.toList).1,.i (readL b.data.toList).2]):=by
 refine callsV_comp mix Tryz.func80 ac80_ok ?_
 unfold ac80
 simp only [List.length_cons,List.length_nil,List.replicate_succ,List.replicate_zero,List.cons_append,List.nil_append,Nat.reduceAdd,Nat.reduceSub]
 have hle:b.toList=b.data.toList:=ByteArray.toList_eq b
 cases hL:b.data.toList with
 | nil =>
  repeat' (first | ((try simp only [Nat.reduceAdd,Nat.reduceMul,Nat.zero_add,Nat.add_zero,Int.toNat_natCast,Int.reduceToNat,stzV,rdV]);refine hK' _ _ _ ?_;clear hK' K';first | refine q_regT ?_ | refine q_regD rfl ?_) | first | refine w_seq ?_ | refine q_seqN ?_ | (refine w_reg (by (try simp only [List.length_cons,List.length_nil,Nat.reduceAdd]);rfl) (by (try simp only [List.replicate_succ,List.replicate_zero,List.cons_append,List.nil_append,List.append_nil]);rfl) (fun K' hK'=>wpOps_ok ?_);conv=>whnf) | (refine w_condTst rfl ?_;(repeat refine Tst.not ?_);(first | refine Tst.T ?_ | refine Tst.F ?_ | refine Tst.decT (by assumption) ?_ | refine Tst.decF (by assumption) ?_ | refine Tst.eqT (by assumption) ?_ | refine Tst.eqF (by assumption) ?_ | refine Tst.neT (by assumption) ?_ | refine Tst.neF (by assumption) ?_ | refine Tst.isT (by assumption) ?_ | refine Tst.isF (by assumption) ?_ | refine Tst.dec (fun hb=>?_) (fun hb=>?_) | refine Tst.eqI (fun hb=>?_) (fun hb=>?_) | refine Tst.neI (fun hb=>?_) (fun hb=>?_) | refine Tst.not ?_ | refine Tst.any (fun hb=>?_) (fun hb=>?_)) <;> conv=>whnf) | refine w_ret ?_ | refine w_skip ?_ | refine w_blk ?_ | refine w_exit ?_ | refine q_seqR ?_ | refine q_seqE ?_ | refine q_blkN ?_ | refine q_blkR ?_ | refine q_blkH ?_ | refine q_blkE rfl ?_ | refine q_loopR ?_ | refine q_loopE ?_ | fail | first | (refine LenQ.ok ?_;conv=>whnf) | ((first | refine Tst.T ?_ | refine Tst.F ?_ | refine Tst.decT (by assumption) ?_ | refine Tst.decF (by assumption) ?_ | refine Tst.eqT (by assumption) ?_ | refine Tst.eqF (by assumption) ?_ | refine Tst.neT (by assumption) ?_ | refine Tst.neF (by assumption) ?_ | refine Tst.isT (by assumption) ?_ | refine Tst.isF (by assumption) ?_ | refine Tst.dec (fun hb=>?_) (fun hb=>?_) | refine Tst.eqI (fun hb=>?_) (fun hb=>?_) | refine Tst.neI (fun hb=>?_) (fun hb=>?_) | refine Tst.not ?_ | refine Tst.any (fun hb=>?_) (fun hb=>?_)) <;> conv=>whnf) | (refine Ari.ok (by omega) ?_;conv=>whnf) | (refine IxO.ok (by omega) (by omega) ?_;conv=>whnf) | (refine IxS.M (by omega) (by omega) (fun _=>rfl) ?_;conv=>whnf) | (refine ⟨Nat.le_of_ble_eq_true rfl,?_⟩;conv=>whnf) | (refine ⟨rfl,?_⟩;conv=>whnf) | (refine Cat.ok (by omega) ?_;conv=>whnf))
  all_goals first
   | exact f_res (by simp) (ResL.cons (ResOne.cell rfl rfl (Nat.le_of_ble_eq_true rfl)) (ResL.cons (ResOne.tmp rfl) ResL.nil)) rfl rfl
   | (rename_i hb1;exact absurd hb1 (by rw [hle,hL];simp))
   | (exact absurd ‹_=false› (by rw [hle,hL];simp))
 | cons k rest =>
  have hks:=known_v k
  have ho:=open_v (ba rest)
  have hrs:(ba rest).size≤100000:=by rw [ba_size];have:=bl_len b;rw [hL] at this;simp at this;omega
  have hea:=each_r (⟨ba rest,0,0⟩,kS k) hrs
  have hsz:=fold_sz 100000 (hasN k.toNat) (⟨ba rest,0,0⟩,kS k) hrs ⟨Nat.zero_le _,Nat.zero_le _,Nat.zero_le _⟩
  have hF:foldR k rest=(hasN k.toNat).foldl readF (⟨ba rest,0,0⟩,kS k):=by unfold foldR;rfl
  change CallsS _ _ _ _ _ [_,.live (stzV ((hasN k.toNat).foldl readF (⟨ba rest,0,0⟩,kS k)).2).cells 0,.live (rdV ((hasN k.toNat).foldl readF (⟨ba rest,0,0⟩,kS k)).1).cells 0] at hea
  rw [← hF] at hea hsz
  have hd:=done_v (foldR k rest).1
  have hck:=stzCheck_v (foldR k rest).2 hsz.1 hsz.2.1 hsz.2.2
  have l1:=readL_u (k:=k) (rest:=rest)
  have l2:=readL_d (k:=k) (rest:=rest)
  have l3:=readL_c (k:=k) (rest:=rest)
  have l4:=readL_o (k:=k) (rest:=rest)
  generalize readL (k :: rest)=q at *
  clear hF hsz
  generalize foldR k rest=x at *
  repeat' (first | ((try simp only [Nat.reduceAdd,Nat.reduceMul,Nat.zero_add,Nat.add_zero,Int.toNat_natCast,Int.reduceToNat,stzV,rdV]);refine hK' _ _ _ ?_;clear hK' K';first | refine q_regT ?_ | refine q_regD rfl ?_) | first | refine w_seq ?_ | refine q_seqN ?_ | (refine w_reg (by (try simp only [List.length_cons,List.length_nil,Nat.reduceAdd]);rfl) (by (try simp only [List.replicate_succ,List.replicate_zero,List.cons_append,List.nil_append,List.append_nil]);rfl) (fun K' hK'=>wpOps_ok ?_);conv=>whnf) | (refine w_condTst rfl ?_;(repeat refine Tst.not ?_);(first | refine Tst.T ?_ | refine Tst.F ?_ | refine Tst.decT (by assumption) ?_ | refine Tst.decF (by assumption) ?_ | refine Tst.eqT (by assumption) ?_ | refine Tst.eqF (by assumption) ?_ | refine Tst.neT (by assumption) ?_ | refine Tst.neF (by assumption) ?_ | refine Tst.isT (by assumption) ?_ | refine Tst.isF (by assumption) ?_ | refine Tst.dec (fun hb=>?_) (fun hb=>?_) | refine Tst.eqI (fun hb=>?_) (fun hb=>?_) | refine Tst.neI (fun hb=>?_) (fun hb=>?_) | refine Tst.not ?_ | refine Tst.any (fun hb=>?_) (fun hb=>?_)) <;> conv=>whnf) | refine w_ret ?_ | refine w_skip ?_ | refine w_blk ?_ | refine w_exit ?_ | refine q_seqR ?_ | refine q_seqE ?_ | refine q_blkN ?_ | refine q_blkR ?_ | refine q_blkH ?_ | refine q_blkE rfl ?_ | refine q_loopR ?_ | refine q_loopE ?_ | (refine Ask_V0 (hks) rfl rfl ?_;conv=>whnf) | (refine Ask_V0 (ho) rfl rfl ?_;conv=>whnf) | (refine Ask_V0 (hd) rfl rfl ?_;conv=>whnf) | (refine Ask_V0 (hck) rfl rfl ?_;conv=>whnf) | (refine IxT_0 hL ?_;conv=>whnf) | (refine SlT_1 hL ?_;conv=>whnf) | (refine Ask_S hea rfl ?_;conv=>whnf) | first | (refine LenQ.ok ?_;conv=>whnf) | ((first | refine Tst.T ?_ | refine Tst.F ?_ | refine Tst.decT (by assumption) ?_ | refine Tst.decF (by assumption) ?_ | refine Tst.eqT (by assumption) ?_ | refine Tst.eqF (by assumption) ?_ | refine Tst.neT (by assumption) ?_ | refine Tst.neF (by assumption) ?_ | refine Tst.isT (by assumption) ?_ | refine Tst.isF (by assumption) ?_ | refine Tst.dec (fun hb=>?_) (fun hb=>?_) | refine Tst.eqI (fun hb=>?_) (fun hb=>?_) | refine Tst.neI (fun hb=>?_) (fun hb=>?_) | refine Tst.not ?_ | refine Tst.any (fun hb=>?_) (fun hb=>?_)) <;> conv=>whnf) | (refine Ari.ok (by omega) ?_;conv=>whnf) | (refine IxO.ok (by omega) (by omega) ?_;conv=>whnf) | (refine IxS.M (by omega) (by omega) (fun _=>rfl) ?_;conv=>whnf) | (refine ⟨Nat.le_of_ble_eq_true rfl,?_⟩;conv=>whnf) | (refine ⟨rfl,?_⟩;conv=>whnf) | (refine Cat.ok (by omega) ?_;conv=>whnf))
  all_goals first
   | (exact absurd ‹_=true› (by rw [hle,hL];simp))
   | (rw [l1 (by assumption)];exact f_res (by simp) (ResL.cons (ResOne.cell rfl rfl (Nat.le_of_ble_eq_true rfl)) (ResL.cons (ResOne.tmp rfl) ResL.nil)) rfl rfl)
   | (rw [l2 (by assumption) (by assumption)];exact f_res (by simp) (ResL.cons (ResOne.cell rfl rfl (Nat.le_of_ble_eq_true rfl)) (ResL.cons (ResOne.tmp rfl) ResL.nil)) rfl rfl)
   | (rw [l3 (by assumption) (by assumption) (by assumption)];exact f_res (by simp) (ResL.cons (ResOne.cell rfl rfl (Nat.le_of_ble_eq_true rfl)) (ResL.cons (ResOne.tmp rfl) ResL.nil)) rfl rfl)
   | (rw [l4 (by assumption) (by assumption) (by assumption)];exact f_res (by simp) (ResL.cons (ResOne.cell rfl rfl (Nat.le_of_ble_eq_true rfl)) (ResL.cons (ResOne.tmp rfl) ResL.nil)) rfl rfl)
   | trace_state
end Go.Proofs.YtdbigmjlhkgeoaaGreat

namespace Go.Proofs.YtdbigmjlhkgeoaaGreat
open Go.RowKit
def stzTo (s:StzD):StanzaStanza:=StanzaStanza.mk (s.kind.toNat:Int) s.user s.res s.name s.show_ s.prio s.code s.n
def p_stanza_Read (b:ByteArray):Option (StanzaStanza × Int):=if b.size≤100000 then some (stzTo (readL b.data.toList).1,(readL b.data.toList).2) else none
theorem p_stanza_Read_v (b:ByteArray):CallsO Tryz.prog 80 [.s b] (fun r:StanzaStanza × Int=>.tup [StanzaStanza.v r.1,V.i r.2]) (p_stanza_Read b):=callsO_if fun h=>read_v b h
end Go.Proofs.YtdbigmjlhkgeoaaGreat

namespace Go.Proofs.YtdbigmjlhkgeoaaGreat
open Go.RowKit
def p_deframe_Check (a0:DeframeState):Option (Int) :=
 bif (a0.Bad != (0:Int)) then
  bif (a0.Buf.toList == (⟨#[]⟩ : ByteArray).toList) then
   (p_frame_Get a0.Buf).bind fun v3 =>
   bif (v3.2.2 != (3:Int)) then
    some (5:Int)
   else
   bif (decide (a0.Seen < (0:Int))) then
    some (8:Int)
   else
   some (0:Int)
  else
  some (4:Int)
 else
 (p_frame_Get a0.Buf).bind fun v6 =>
 bif (v6.2.2 != (3:Int)) then
  some (5:Int)
 else
 bif (decide (a0.Seen < (0:Int))) then
  some (8:Int)
 else
 some (0:Int)
def p_deframe_State_deaf (a0:DeframeState):Option (Bool) :=
 bif (a0.Bad != (0:Int)) then
  some true
 else
 (p_deframe_Check a0).bind fun v2 =>
 some (v2 != (0:Int))
def p_deframe_Texts_l1:Nat→(List ByteArray)→DeframeState→Option ((DeframeState × (List ByteArray)))
 | 0,_,_=>none
 | n + 1,y8,y9 =>
  (p_frame_Get y9.Buf).bind fun v11 =>
  bif (v11.2.2 == (3:Int)) then
   some (y9,y8)
  else
  bif (v11.2.2 != (0:Int)) then
   some ((DeframeState.mk (⟨#[]⟩ : ByteArray) v11.2.2 y9.Seen),y8)
  else
  (app? y8 [v11.1]).bind fun l14 =>
  (sub? y9.Buf (some v11.2.1) none).bind fun s15 =>
  p_deframe_Texts_l1 n l14 (DeframeState.mk s15 y9.Bad (w64 (y9.Seen + (1:Int))))
def p_deframe_Texts (a0:DeframeState) (a1:ByteArray):Option (DeframeState × (List ByteArray)) :=
 (p_deframe_State_deaf a0).bind fun v1 =>
 bif v1 then
  some (a0,[])
 else
 (cat? a0.Buf a1).bind fun s3 =>
 (p_deframe_Texts_l1 fuel [] (DeframeState.mk s3 a0.Bad a0.Seen)).bind fun q17 =>
 some q17
def p_deframe_items_l1 (z7:List ByteArray) (z8:Int):Nat→(List DeframeItem)→Int→Option (((List DeframeItem) × Int))
 | 0,_,_=>none
 | n + 1,y6,y9 =>
  bif (decide (y9 < z8)) then
   (at? z7 y9).bind fun x11 =>
   (p_stanza_Read x11).bind fun v12 =>
   (app? y6 [(DeframeItem.mk v12.1 v12.2)]).bind fun l13 =>
   p_deframe_items_l1 z7 z8 n l13 (w64 (y9 + (1:Int)))
  else
  some (y6,y9)
def p_deframe_items (a0:List ByteArray):Option ((List DeframeItem)) :=
 (p_deframe_items_l1 a0 (a0.length:Int) fuel [] (0:Int)).bind fun q15 =>
 some q15.1
def p_deframe_Feed (a0:DeframeState) (a1:ByteArray):Option (DeframeState × (List DeframeItem)) :=
 (p_deframe_Texts a0 a1).bind fun v1 =>
 (p_deframe_items v1.2).bind fun v2 =>
 some (v1.1,v2)
def p_ref11_Get (a0:ByteArray):Option (ByteArray × Int × Int) :=
 bif (decide ((a0.size:Int) < (2:Int))) then
  some ((⟨#[]⟩ : ByteArray),(0:Int),(3:Int))
 else
 (byte? a0 (0:Int)).bind fun c2 =>
 (byte? a0 (1:Int)).bind fun c3 =>
 bif (w64 (w64 ((256:Int) * w64 c2) + w64 c3) == (0:Int)) then
  some ((⟨#[]⟩ : ByteArray),(0:Int),(4:Int))
 else
 bif (decide ((128:Int) < w64 (w64 ((256:Int) * w64 c2) + w64 c3))) then
  some ((⟨#[]⟩ : ByteArray),(0:Int),(5:Int))
 else
 bif (decide (w64 ((a0.size:Int) - (2:Int)) < w64 (w64 ((256:Int) * w64 c2) + w64 c3))) then
  some ((⟨#[]⟩ : ByteArray),(0:Int),(3:Int))
 else
 (sub? a0 (some (2:Int)) (some (w64 ((2:Int) + w64 (w64 ((256:Int) * w64 c2) + w64 c3))))).bind fun s7 =>
 some (s7,w64 ((2:Int) + w64 (w64 ((256:Int) * w64 c2) + w64 c3)),(0:Int))
def p_ref12_Check (a0:DeframeState):Option (Int) :=
 (p_ref11_Get a0.Buf).bind fun v1 =>
 bif (a0.Bad != (0:Int)) then
  bif (a0.Buf.toList == (⟨#[]⟩ : ByteArray).toList) then
   bif (v1.2.2 != (3:Int)) then
    some (5:Int)
   else
   bif (decide (a0.Seen < (0:Int))) then
    some (8:Int)
   else
   some (0:Int)
  else
  some (4:Int)
 else
 bif (v1.2.2 != (3:Int)) then
  some (5:Int)
 else
 bif (decide (a0.Seen < (0:Int))) then
  some (8:Int)
 else
 some (0:Int)
def p_ref12_Texts_l1 (z12:ByteArray):Nat→ByteArray→(List ByteArray)→Int→DeframeState→Option ((ByteArray × (List ByteArray) × Int × DeframeState) ⊕ (DeframeState × (List ByteArray)))
 | 0,_,_,_,_=>none
 | n + 1,y13,y14,y15,y16 =>
  bif (decide (y15≤(z12.size:Int))) then
   (p_ref11_Get y13).bind fun v19 =>
   bif (v19.2.2 == (3:Int)) then
    some (.inl (y13,y14,y15,y16))
   else
   bif (v19.2.2 != (0:Int)) then
    some (.inr ((DeframeState.mk (⟨#[]⟩ : ByteArray) v19.2.2 y16.Seen),y14))
   else
   (app? y14 [v19.1]).bind fun l22 =>
   (sub? y13 (some v19.2.1) none).bind fun s23 =>
   p_ref12_Texts_l1 z12 n s23 l22 (w64 (y15 + (1:Int))) (DeframeState.mk y16.Buf y16.Bad (w64 (y16.Seen + (1:Int))))
  else
  some (.inl (y13,y14,y15,y16))
def p_ref12_Texts (a0:DeframeState) (a1:ByteArray):Option (DeframeState × (List ByteArray)) :=
 bif (a0.Bad != (0:Int)) then
  some (a0,[])
 else
 (p_ref12_Check a0).bind fun v2 =>
 bif (v2 != (0:Int)) then
  some (a0,[])
 else
 (cat? a0.Buf a1).bind fun s4 =>
 (p_ref12_Texts_l1 a1 fuel s4 [] (0:Int) a0).bind fun o24=>match o24 with
 | .inl q25 =>
  some ((DeframeState.mk q25.1 q25.2.2.2.Bad q25.2.2.2.Seen),q25.2.1)
 | .inr q26 =>
  some q26
def p_ref10_known (a0:Int):Option (Bool) :=
 bif (decide ((1:Int)≤a0)) then
  bif (decide (a0≤(15:Int))) then
   some true
  else
  bif (decide ((32:Int)≤a0)) then
   some (decide (a0≤(41:Int)))
  else
  some false
 else
 bif (decide ((32:Int)≤a0)) then
  some (decide (a0≤(41:Int)))
 else
 some false
def p_ref01_Open (a0:ByteArray):Option (OctetRead) :=
 some (OctetRead.mk a0 (0:Int) (0:Int))
def p_ref10_Has (a0:Int):Option (ByteArray) :=
 bif (a0 == (1:Int)) then
  some (⟨#[117,114]⟩ : ByteArray)
 else
 bif (a0 == (3:Int)) then
  some (⟨#[115,112]⟩ : ByteArray)
 else
 bif (a0 == (5:Int)) then
  some (⟨#[117,115,112]⟩ : ByteArray)
 else
 bif (a0 == (6:Int)) then
  some (⟨#[117]⟩ : ByteArray)
 else
 bif (a0 == (7:Int)) then
  some (⟨#[117]⟩ : ByteArray)
 else
 bif (a0 == (8:Int)) then
  some (⟨#[117]⟩ : ByteArray)
 else
 bif (a0 == (9:Int)) then
  some (⟨#[117]⟩ : ByteArray)
 else
 bif (a0 == (10:Int)) then
  some (⟨#[117]⟩ : ByteArray)
 else
 bif (a0 == (11:Int)) then
  some (⟨#[117]⟩ : ByteArray)
 else
 bif (a0 == (14:Int)) then
  some (⟨#[117]⟩ : ByteArray)
 else
 bif (a0 == (12:Int)) then
  some (⟨#[110]⟩ : ByteArray)
 else
 bif (a0 == (15:Int)) then
  some (⟨#[110]⟩ : ByteArray)
 else
 bif (a0 == (36:Int)) then
  some (⟨#[110]⟩ : ByteArray)
 else
 bif (a0 == (41:Int)) then
  some (⟨#[110]⟩ : ByteArray)
 else
 bif (a0 == (13:Int)) then
  some (⟨#[117,109]⟩ : ByteArray)
 else
 bif (a0 == (32:Int)) then
  some (⟨#[99,110]⟩ : ByteArray)
 else
 bif (a0 == (33:Int)) then
  some (⟨#[99,115,110]⟩ : ByteArray)
 else
 bif (a0 == (34:Int)) then
  some (⟨#[117,114,115,112,110]⟩ : ByteArray)
 else
 bif (a0 == (35:Int)) then
  some (⟨#[117,114,110]⟩ : ByteArray)
 else
 bif (a0 == (38:Int)) then
  some (⟨#[117,109,115,110]⟩ : ByteArray)
 else
 bif (a0 == (39:Int)) then
  some (⟨#[117,110]⟩ : ByteArray)
 else
 bif (a0 == (40:Int)) then
  some (⟨#[117,99]⟩ : ByteArray)
 else
 some (⟨#[]⟩ : ByteArray)
def p_ref01_bad (a0:OctetRead):Option (Int) :=
 bif (a0.Bad == (0:Int)) then
  bif (decide (a0.At < (0:Int))) then
   some (2:Int)
  else
  bif (decide ((a0.S.size:Int) < a0.At)) then
   some (2:Int)
  else
  some a0.Bad
 else
 some a0.Bad
def p_ref01_with (a0:OctetRead) (a1:Int):Option (OctetRead) :=
 some (OctetRead.mk a0.S a0.At a1)
def p_ref01_wide (a0:Int):Option (Bool) :=
 bif (a0 == (1:Int)) then
  some true
 else
 bif (a0 == (2:Int)) then
  some true
 else
 bif (a0 == (4:Int)) then
  some true
 else
 some (a0 == (6:Int))
def p_ref01_Left (a0:OctetRead):Option (Int) :=
 (p_ref01_bad a0).bind fun v1 =>
 bif (v1 != (0:Int)) then
  some (0:Int)
 else
 some (w64 ((a0.S.size:Int) - a0.At))
def p_ref01_Num_l1 (z16:Int):Nat→Int→Int→OctetRead→Option ((Int × Int × OctetRead))
 | 0,_,_,_=>none
 | n + 1,y17,y18,y19 =>
  bif (decide (y18 < z16)) then
   (byte? y19.S y19.At).bind fun c22 =>
   p_ref01_Num_l1 z16 n (w64 (w64 ((256:Int) * y17) + w64 c22)) (w64 (y18 + (1:Int))) (OctetRead.mk y19.S (w64 (y19.At + (1:Int))) y19.Bad)
  else
  some (y17,y18,y19)
def p_ref01_Num (a0:OctetRead) (a1:Int):Option (OctetRead × Int) :=
 (p_ref01_bad a0).bind fun v1 =>
 bif (v1 != (0:Int)) then
  (p_ref01_bad a0).bind fun v3 =>
  (p_ref01_with a0 v3).bind fun v4 =>
  some (v4,(0:Int))
 else
 (p_ref01_wide a1).bind fun v5 =>
 bif v5 then
  (p_ref01_Left a0).bind fun v7 =>
  bif (decide (v7 < a1)) then
   (p_ref01_with a0 (3:Int)).bind fun v9 =>
   some (v9,(0:Int))
  else
  (p_ref01_Num_l1 a1 fuel (0:Int) (0:Int) a0).bind fun q24 =>
  some (q24.2.2,q24.1)
 else
 (p_ref01_with a0 (2:Int)).bind fun v25 =>
 some (v25,(0:Int))
def p_ref01_Text (a0:OctetRead) (a1:Int):Option (OctetRead × ByteArray) :=
 (p_ref01_Num a0 (1:Int)).bind fun v1 =>
 bif (v1.1.Bad != (0:Int)) then
  some (v1.1,(⟨#[]⟩ : ByteArray))
 else
 bif (decide (a1 < v1.2)) then
  (p_ref01_with a0 (5:Int)).bind fun v4 =>
  some (v4,(⟨#[]⟩ : ByteArray))
 else
 (p_ref01_Left v1.1).bind fun v5 =>
 bif (decide (v5 < v1.2)) then
  (p_ref01_with a0 (3:Int)).bind fun v7 =>
  some (v7,(⟨#[]⟩ : ByteArray))
 else
 (sub? v1.1.S (some v1.1.At) (some (w64 (v1.1.At + v1.2)))).bind fun s8 =>
 some ((OctetRead.mk v1.1.S (w64 (v1.1.At + v1.2)) v1.1.Bad),s8)
def p_ref01_Done (a0:OctetRead):Option (Int) :=
 (p_ref01_bad a0).bind fun v1 =>
 bif (v1 == (0:Int)) then
  (p_ref01_Left a0).bind fun v3 =>
  bif (decide ((0:Int) < v3)) then
   some (4:Int)
  else
  (p_ref01_bad a0).bind fun v5 =>
  some v5
 else
 (p_ref01_bad a0).bind fun v6 =>
 some v6
def p_ref10_Read_l1 (z16:ByteArray):Nat→Int→StanzaStanza→OctetRead→Option ((Int × StanzaStanza × OctetRead))
 | 0,_,_,_=>none
 | n + 1,y17,y19,y20 =>
  bif (decide (y17 < (z16.size:Int))) then
   (byte? z16 y17).bind fun c22 =>
   bif (c22 == (117:Int)) then
    (p_ref01_Text y20 (33:Int)).bind fun v24 =>
    p_ref10_Read_l1 z16 n (w64 (y17 + (1:Int))) (StanzaStanza.mk y19.Kind v24.2 y19.Res y19.Name y19.Show y19.Prio y19.Code y19.N) v24.1
   else
   bif (c22 == (114:Int)) then
    (p_ref01_Text y20 (12:Int)).bind fun v26 =>
    p_ref10_Read_l1 z16 n (w64 (y17 + (1:Int))) (StanzaStanza.mk y19.Kind y19.User v26.2 y19.Name y19.Show y19.Prio y19.Code y19.N) v26.1
   else
   bif (c22 == (109:Int)) then
    (p_ref01_Text y20 (24:Int)).bind fun v28 =>
    p_ref10_Read_l1 z16 n (w64 (y17 + (1:Int))) (StanzaStanza.mk y19.Kind y19.User y19.Res v28.2 y19.Show y19.Prio y19.Code y19.N) v28.1
   else
   bif (c22 == (115:Int)) then
    (p_ref01_Num y20 (1:Int)).bind fun v30 =>
    p_ref10_Read_l1 z16 n (w64 (y17 + (1:Int))) (StanzaStanza.mk y19.Kind y19.User y19.Res y19.Name v30.2 y19.Prio y19.Code y19.N) v30.1
   else
   bif (c22 == (112:Int)) then
    (p_ref01_Num y20 (1:Int)).bind fun v32 =>
    p_ref10_Read_l1 z16 n (w64 (y17 + (1:Int))) (StanzaStanza.mk y19.Kind y19.User y19.Res y19.Name y19.Show (w64 (v32.2 - (128:Int))) y19.Code y19.N) v32.1
   else
   bif (c22 == (99:Int)) then
    (p_ref01_Num y20 (1:Int)).bind fun v34 =>
    p_ref10_Read_l1 z16 n (w64 (y17 + (1:Int))) (StanzaStanza.mk y19.Kind y19.User y19.Res y19.Name y19.Show y19.Prio v34.2 y19.N) v34.1
   else
   (p_ref01_Num y20 (6:Int)).bind fun v35 =>
   p_ref10_Read_l1 z16 n (w64 (y17 + (1:Int))) (StanzaStanza.mk y19.Kind y19.User y19.Res y19.Name y19.Show y19.Prio y19.Code v35.2) v35.1
  else
  some (y17,y19,y20)
def p_ref10_Read (a0:ByteArray):Option (StanzaStanza × Int) :=
 bif (a0.toList == (⟨#[]⟩ : ByteArray).toList) then
  some ((StanzaStanza.mk (0:Int) (⟨#[]⟩ : ByteArray) (⟨#[]⟩ : ByteArray) (⟨#[]⟩ : ByteArray) (0:Int) (0:Int) (0:Int) (0:Int)),(3:Int))
 else
 (byte? a0 (0:Int)).bind fun c2 =>
 (p_ref10_known c2).bind fun v3 =>
 bif v3 then
  (byte? a0 (0:Int)).bind fun c5 =>
  (sub? a0 (some (1:Int)) none).bind fun s6 =>
  (p_ref01_Open s6).bind fun v7 =>
  (byte? a0 (0:Int)).bind fun c8 =>
  (p_ref10_Has c8).bind fun v9 =>
  (p_ref10_Read_l1 v9 fuel (0:Int) (StanzaStanza.mk c5 (⟨#[]⟩ : ByteArray) (⟨#[]⟩ : ByteArray) (⟨#[]⟩ : ByteArray) (0:Int) (0:Int) (0:Int) (0:Int)) v7).bind fun q37 =>
  (p_ref01_Done q37.2.2).bind fun v38 =>
  bif (v38 == (0:Int)) then
   (p_ref10_Check q37.2.1).bind fun v40 =>
   bif (v40 != (0:Int)) then
    some ((StanzaStanza.mk (0:Int) (⟨#[]⟩ : ByteArray) (⟨#[]⟩ : ByteArray) (⟨#[]⟩ : ByteArray) (0:Int) (0:Int) (0:Int) (0:Int)),v40)
   else
   some (q37.2.1,(0:Int))
  else
  bif (v38 != (0:Int)) then
   some ((StanzaStanza.mk (0:Int) (⟨#[]⟩ : ByteArray) (⟨#[]⟩ : ByteArray) (⟨#[]⟩ : ByteArray) (0:Int) (0:Int) (0:Int) (0:Int)),v38)
  else
  some (q37.2.1,(0:Int))
 else
 some ((StanzaStanza.mk (0:Int) (⟨#[]⟩ : ByteArray) (⟨#[]⟩ : ByteArray) (⟨#[]⟩ : ByteArray) (0:Int) (0:Int) (0:Int) (0:Int)),(12:Int))
def p_ref12_Feed_l1 (z8:List ByteArray):Nat→(List DeframeItem)→Int→Option (((List DeframeItem) × Int))
 | 0,_,_=>none
 | n + 1,y9,y10 =>
  bif (decide (y10 < (z8.length:Int))) then
   (at? z8 y10).bind fun x14 =>
   (p_ref10_Read x14).bind fun v15 =>
   (app? y9 [(DeframeItem.mk v15.1 v15.2)]).bind fun l16 =>
   p_ref12_Feed_l1 z8 n l16 (w64 (y10 + (1:Int)))
  else
  some (y9,y10)
def p_ref12_Feed (a0:DeframeState) (a1:ByteArray):Option (DeframeState × (List DeframeItem)) :=
 (p_ref12_Texts a0 a1).bind fun v1 =>
 (p_ref12_Feed_l1 v1.2 fuel [] (0:Int)).bind fun q18 =>
 some (v1.1,q18.1)
end Go.Proofs.YtdbigmjlhkgeoaaGreat

