/- A part of the proof: 16 texts joined. -/
import Derived.Test.YtpkodpcfafipdaaGreatDoorSuA16
import Derived.Test.YtpkodpcfafipdaaGreatDoorSuA14
import Derived.Test.YtpkodpcfafipdaaGreatDoorSuA13
import Derived.Lib.ItoaNum
import Derived.Test.YtpkodpcfafipdaaGreatDoorSuA1
import Derived.Test.YtpkodpcfafipdaaGreatDoorSuA12
import Derived.KernelRfl
set_option linter.all false
namespace Go.Proofs.YtpkodpcfafipdaaGreatDoor
open Go.RowKit
theorem bare_len {l:List UInt8} (h:isBareL l=true):l.length≤33∧0 < l.length:=by
 simp only [isBareL,Bool.and_eq_true,decide_eq_true_eq,beq_iff_eq] at h
 obtain ⟨h1,h2⟩:=h
 unfold bareT at h2
 rw [if_pos h1] at h2
 unfold parseL at h1 h2
 split at h1
 ·simp at h1
 ·rename_i hx
  rw [if_neg hx] at h2
  split at h1
  ·rename_i hc
   rw [if_pos hc] at h2
   simp only [textL] at h2
   unfold checkA at hc
   split at hc
   ·simp at hc
   ·rename_i hs
    simp only [Bool.or_eq_true,decide_eq_true_eq,not_or] at hs
    rw [← h2]
    simp
    omega
  ·rename_i hc
   exact absurd h1 hc
theorem check_parts {s:StzD} (h:checkS s=0):knownN s.kind.toNat=true∧extraL s=false∧rangeL s=true∧s.name.size≤24∧plainL s.name.data.toList=true∧(hasC s.kind 117=true→isBareL s.user.data.toList=true)∧resL s.res.data.toList=0:=by
 unfold checkS at h
 split at h
 ·cases h
 rename_i h1
 split at h
 ·cases h
 rename_i h2
 split at h
 ·cases h
 rename_i h3
 split at h
 ·cases h
 rename_i h4
 split at h
 ·cases h
 rename_i h5
 split at h
 ·cases h
 rename_i h6
 refine ⟨by simpa using h1,by simpa using h2,by simpa using h3,by omega,by simpa using h5,fun h7=>?_,h⟩
 simpa [h7] using h6
theorem res_len {l:List UInt8} (h:resL l=0):l.length≤12:=by
 unfold resL at h
 split at h
 ·cases h
 ·omega
theorem check_ok {s:StzD} (h:checkS s=0):∀ c ∈ hasN s.kind.toNat,okF s c:=by
 obtain ⟨_,_,h3,h4,_,h6,h7⟩:=check_parts h
 intro c hc
 simp only [rangeL,Bool.and_eq_true,decide_eq_true_eq] at h3
 have hr:=res_len h7
 rw [bl_len] at hr
 rcases hasN_in _ c hc with rfl | rfl | rfl | rfl | rfl | rfl | rfl
 ·have hb:=bare_len (h6 (by unfold hasC;rw [List.any_eq_true];exact ⟨117,hc,rfl⟩))
  rw [bl_len] at hb
  exact hb.1
 ·exact hr
 ·exact h4
 ·exact h3.1.1.1
 ·exact h3.1.1.2
 ·exact h3.1.2
 ·have h8:=h3.2
  show 0≤s.n∧s.n < 256 ^ 6
  rw [show ((256:Int) ^ 6)=281474976710656 by decide]
  omega
def putV (s:StzD):V:=if checkS s≠0 then .tup [.s ⟨#[]⟩,.i (checkS s)] else .tup [.s (ba (s.kind :: bodyB s (hasN s.kind.toNat))),.i 0]
attribute [local irreducible] AW Fin FinR seqQ blkQ regQ loopQ CallsV CallsS Callable
theorem each_p0 (s:StzD) (kb:UInt8) (hL:hasN s.kind.toNat=[]):CallsS Tryz.prog 59 [.ptr 0 0,.clo (.func 60) [.ptr 2 0],.clo (.func 61) [.ptr 2 0]] [.live (stzV s).cells 0,.live [byteV kb] 1,.live [.osl 1 0 1 1 true] 0,.fresh] (.tup [])
  [.live (stzV s).cells 0,.live [byteV kb] 1,.live [.osl 1 0 1 1 true] 0,.fresh]:=by
 have hc:=has_v s.kind
 rw [hL] at hc
 refine callsR_compN (n0:=3) mix Tryz.func59 ac59_ok (fun i hi=>match i,hi with | 3,_=>.inr rfl | i + 4,_=>.inl rfl) ?_
 unfold ac59
 simp only [List.length_cons,List.length_nil,List.replicate_succ,List.replicate_zero,List.cons_append,List.nil_append,Nat.reduceAdd,Nat.reduceSub]
 repeat' (first | ((try simp only [Nat.reduceAdd,Nat.reduceMul,Nat.zero_add,Nat.add_zero,Int.toNat_natCast,Int.reduceToNat,stzV,rdV]);refine hK' _ _ _ ?_;clear hK' K';first | refine q_regT ?_ | refine q_regD rfl ?_) | first | refine w_seq ?_ | refine q_seqN ?_ | (refine w_reg (by (try simp only [List.length_cons,List.length_nil,Nat.reduceAdd]);rfl) (by (try simp only [List.replicate_succ,List.replicate_zero,List.cons_append,List.nil_append,List.append_nil]);rfl) (fun K' hK'=>wpOps_ok ?_);conv=>whnf) | (refine w_condTst rfl ?_;(repeat refine Tst.not ?_);(first | refine Tst.T ?_ | refine Tst.F ?_ | refine Tst.decT (by assumption) ?_ | refine Tst.decF (by assumption) ?_ | refine Tst.eqT (by assumption) ?_ | refine Tst.eqF (by assumption) ?_ | refine Tst.neT (by assumption) ?_ | refine Tst.neF (by assumption) ?_ | refine Tst.isT (by assumption) ?_ | refine Tst.isF (by assumption) ?_ | refine Tst.dec (fun hb=>?_) (fun hb=>?_) | refine Tst.eqI (fun hb=>?_) (fun hb=>?_) | refine Tst.neI (fun hb=>?_) (fun hb=>?_) | refine Tst.not ?_ | refine Tst.any (fun hb=>?_) (fun hb=>?_)) <;> conv=>whnf) | refine w_ret ?_ | refine w_skip ?_ | refine w_blk ?_ | refine w_exit ?_ | refine q_seqR ?_ | refine q_seqE ?_ | refine q_blkN ?_ | refine q_blkR ?_ | refine q_blkH ?_ | refine q_blkE rfl ?_ | refine q_loopR ?_ | refine q_loopE ?_ | (refine Ask_V0 (hc) rfl rfl ?_;conv=>whnf) | first | (refine LenQ.ok ?_;conv=>whnf) | ((first | refine Tst.T ?_ | refine Tst.F ?_ | refine Tst.decT (by assumption) ?_ | refine Tst.decF (by assumption) ?_ | refine Tst.eqT (by assumption) ?_ | refine Tst.eqF (by assumption) ?_ | refine Tst.neT (by assumption) ?_ | refine Tst.neF (by assumption) ?_ | refine Tst.isT (by assumption) ?_ | refine Tst.isF (by assumption) ?_ | refine Tst.dec (fun hb=>?_) (fun hb=>?_) | refine Tst.eqI (fun hb=>?_) (fun hb=>?_) | refine Tst.neI (fun hb=>?_) (fun hb=>?_) | refine Tst.not ?_ | refine Tst.any (fun hb=>?_) (fun hb=>?_)) <;> conv=>whnf) | (refine Ari.ok (by omega) ?_;conv=>whnf) | (refine IxO.ok (by omega) (by omega) ?_;conv=>whnf) | (refine IxS.M (by omega) (by omega) (fun _=>rfl) ?_;conv=>whnf) | (refine ⟨Nat.le_of_ble_eq_true rfl,?_⟩;conv=>whnf) | (refine ⟨rfl,?_⟩;conv=>whnf) | (refine Cat.ok (by omega) ?_;conv=>whnf))
 refine w_unr' 1 ?_
 repeat' (first | ((try simp only [Nat.reduceAdd,Nat.reduceMul,Nat.zero_add,Nat.add_zero,Int.toNat_natCast,Int.reduceToNat,stzV,rdV]);refine hK' _ _ _ ?_;clear hK' K';first | refine q_regT ?_ | refine q_regD rfl ?_) | first | refine w_seq ?_ | refine q_seqN ?_ | (refine w_reg (by (try simp only [List.length_cons,List.length_nil,Nat.reduceAdd]);rfl) (by (try simp only [List.replicate_succ,List.replicate_zero,List.cons_append,List.nil_append,List.append_nil]);rfl) (fun K' hK'=>wpOps_ok ?_);conv=>whnf) | (refine w_condTst rfl ?_;(repeat refine Tst.not ?_);(first | refine Tst.T ?_ | refine Tst.F ?_ | refine Tst.decT (by assumption) ?_ | refine Tst.decF (by assumption) ?_ | refine Tst.eqT (by assumption) ?_ | refine Tst.eqF (by assumption) ?_ | refine Tst.neT (by assumption) ?_ | refine Tst.neF (by assumption) ?_ | refine Tst.isT (by assumption) ?_ | refine Tst.isF (by assumption) ?_ | refine Tst.dec (fun hb=>?_) (fun hb=>?_) | refine Tst.eqI (fun hb=>?_) (fun hb=>?_) | refine Tst.neI (fun hb=>?_) (fun hb=>?_) | refine Tst.not ?_ | refine Tst.any (fun hb=>?_) (fun hb=>?_)) <;> conv=>whnf) | refine w_ret ?_ | refine w_skip ?_ | refine w_blk ?_ | refine w_exit ?_ | refine q_seqR ?_ | refine q_seqE ?_ | refine q_blkN ?_ | refine q_blkR ?_ | refine q_blkH ?_ | refine q_blkE rfl ?_ | refine q_loopR ?_ | refine q_loopE ?_ | fail | first | (refine LenQ.ok ?_;conv=>whnf) | ((first | refine Tst.T ?_ | refine Tst.F ?_ | refine Tst.decT (by assumption) ?_ | refine Tst.decF (by assumption) ?_ | refine Tst.eqT (by assumption) ?_ | refine Tst.eqF (by assumption) ?_ | refine Tst.neT (by assumption) ?_ | refine Tst.neF (by assumption) ?_ | refine Tst.isT (by assumption) ?_ | refine Tst.isF (by assumption) ?_ | refine Tst.dec (fun hb=>?_) (fun hb=>?_) | refine Tst.eqI (fun hb=>?_) (fun hb=>?_) | refine Tst.neI (fun hb=>?_) (fun hb=>?_) | refine Tst.not ?_ | refine Tst.any (fun hb=>?_) (fun hb=>?_)) <;> conv=>whnf) | (refine Ari.ok (by omega) ?_;conv=>whnf) | (refine IxO.ok (by omega) (by omega) ?_;conv=>whnf) | (refine IxS.M (by omega) (by omega) (fun _=>rfl) ?_;conv=>whnf) | (refine ⟨Nat.le_of_ble_eq_true rfl,?_⟩;conv=>whnf) | (refine ⟨rfl,?_⟩;conv=>whnf) | (refine Cat.ok (by omega) ?_;conv=>whnf))
 all_goals first
  | exact f_R0 (by simp) .nil rfl rfl rfl rfl (by repeat' (first | exact trivial | refine wkS_f ?_ | refine wkS_d ?_ | refine ⟨rfl,?_⟩ | refine wkS_live0 (by assumption) ?_))
  | skip
 all_goals (refine q_unrE ?_;repeat' (first | ((try simp only [Nat.reduceAdd,Nat.reduceMul,Nat.zero_add,Nat.add_zero,Int.toNat_natCast,Int.reduceToNat,stzV,rdV]);refine hK' _ _ _ ?_;clear hK' K';first | refine q_regT ?_ | refine q_regD rfl ?_) | first | refine w_seq ?_ | refine q_seqN ?_ | (refine w_reg (by (try simp only [List.length_cons,List.length_nil,Nat.reduceAdd]);rfl) (by (try simp only [List.replicate_succ,List.replicate_zero,List.cons_append,List.nil_append,List.append_nil]);rfl) (fun K' hK'=>wpOps_ok ?_);conv=>whnf) | (refine w_condTst rfl ?_;(repeat refine Tst.not ?_);(first | refine Tst.T ?_ | refine Tst.F ?_ | refine Tst.decT (by assumption) ?_ | refine Tst.decF (by assumption) ?_ | refine Tst.eqT (by assumption) ?_ | refine Tst.eqF (by assumption) ?_ | refine Tst.neT (by assumption) ?_ | refine Tst.neF (by assumption) ?_ | refine Tst.isT (by assumption) ?_ | refine Tst.isF (by assumption) ?_ | refine Tst.dec (fun hb=>?_) (fun hb=>?_) | refine Tst.eqI (fun hb=>?_) (fun hb=>?_) | refine Tst.neI (fun hb=>?_) (fun hb=>?_) | refine Tst.not ?_ | refine Tst.any (fun hb=>?_) (fun hb=>?_)) <;> conv=>whnf) | refine w_ret ?_ | refine w_skip ?_ | refine w_blk ?_ | refine w_exit ?_ | refine q_seqR ?_ | refine q_seqE ?_ | refine q_blkN ?_ | refine q_blkR ?_ | refine q_blkH ?_ | refine q_blkE rfl ?_ | refine q_loopR ?_ | refine q_loopE ?_ | fail | first | (refine LenQ.ok ?_;conv=>whnf) | ((first | refine Tst.T ?_ | refine Tst.F ?_ | refine Tst.decT (by assumption) ?_ | refine Tst.decF (by assumption) ?_ | refine Tst.eqT (by assumption) ?_ | refine Tst.eqF (by assumption) ?_ | refine Tst.neT (by assumption) ?_ | refine Tst.neF (by assumption) ?_ | refine Tst.isT (by assumption) ?_ | refine Tst.isF (by assumption) ?_ | refine Tst.dec (fun hb=>?_) (fun hb=>?_) | refine Tst.eqI (fun hb=>?_) (fun hb=>?_) | refine Tst.neI (fun hb=>?_) (fun hb=>?_) | refine Tst.not ?_ | refine Tst.any (fun hb=>?_) (fun hb=>?_)) <;> conv=>whnf) | (refine Ari.ok (by omega) ?_;conv=>whnf) | (refine IxO.ok (by omega) (by omega) ?_;conv=>whnf) | (refine IxS.M (by omega) (by omega) (fun _=>rfl) ?_;conv=>whnf) | (refine ⟨Nat.le_of_ble_eq_true rfl,?_⟩;conv=>whnf) | (refine ⟨rfl,?_⟩;conv=>whnf) | (refine Cat.ok (by omega) ?_;conv=>whnf)))
 all_goals exact f_R0 (by simp) .nil rfl rfl rfl rfl (by repeat' (first | exact trivial | refine wkS_f ?_ | refine wkS_d ?_ | refine ⟨rfl,?_⟩ | refine wkS_live0 (by assumption) ?_))
theorem put_v (s:StzD) (hu:s.user.size≤100000) (hr:s.res.size≤100000) (hn:s.name.size≤100000):CallsV Tryz.prog 48 [stzV s] (putV s):=by
 have hc:=stzCheck_v s hu hr hn
 refine callsV_comp mix Tryz.func48 ac48_ok ?_
 unfold ac48
 simp only [List.length_cons,List.length_nil,List.replicate_succ,List.replicate_zero,List.cons_append,List.nil_append,Nat.reduceAdd,Nat.reduceSub]
 by_cases h0:checkS s=0
 ·have e:putV s=.tup [.s (ba (s.kind :: bodyB s (hasN s.kind.toNat))),.i 0]:=if_neg (by simpa using h0)
  rw [e]
  rw [h0] at hc
  by_cases hL:hasN s.kind.toNat=[]
  ·have h1:=each_p0 s s.kind hL
   rw [hL]
   repeat' (first | (refine w_regX (ops:=⟨some 14,.mf _ _,none,0⟩ :: _) 1 .refl (by (try simp only [List.length_cons,List.length_nil,Nat.reduceAdd]);rfl) (by (try simp only [List.replicate_succ,List.replicate_zero,List.cons_append,List.nil_append,List.append_nil,Nat.reduceAdd]);rfl) (fun K' hK'=>wpOps_ok ?_);conv=>whnf) | ((try simp only [Nat.reduceAdd,Nat.reduceMul,Nat.zero_add,Nat.add_zero,Int.toNat_natCast,Int.reduceToNat,stzV,rdV]);refine hK' _ _ _ ?_;clear hK' K';first | refine q_regT ?_ | refine q_regD rfl ?_) | first | refine w_seq ?_ | refine q_seqN ?_ | (refine w_reg (by (try simp only [List.length_cons,List.length_nil,Nat.reduceAdd]);rfl) (by (try simp only [List.replicate_succ,List.replicate_zero,List.cons_append,List.nil_append,List.append_nil]);rfl) (fun K' hK'=>wpOps_ok ?_);conv=>whnf) | (refine w_condTst rfl ?_;(repeat refine Tst.not ?_);(first | refine Tst.T ?_ | refine Tst.F ?_ | refine Tst.decT (by assumption) ?_ | refine Tst.decF (by assumption) ?_ | refine Tst.eqT (by assumption) ?_ | refine Tst.eqF (by assumption) ?_ | refine Tst.neT (by assumption) ?_ | refine Tst.neF (by assumption) ?_ | refine Tst.isT (by assumption) ?_ | refine Tst.isF (by assumption) ?_ | refine Tst.dec (fun hb=>?_) (fun hb=>?_) | refine Tst.eqI (fun hb=>?_) (fun hb=>?_) | refine Tst.neI (fun hb=>?_) (fun hb=>?_) | refine Tst.not ?_ | refine Tst.any (fun hb=>?_) (fun hb=>?_)) <;> conv=>whnf) | refine w_ret ?_ | refine w_skip ?_ | refine w_blk ?_ | refine w_exit ?_ | refine q_seqR ?_ | refine q_seqE ?_ | refine q_blkN ?_ | refine q_blkR ?_ | refine q_blkH ?_ | refine q_blkE rfl ?_ | refine q_loopR ?_ | refine q_loopE ?_ | (refine Ask_V0 (hc) rfl rfl ?_;conv=>whnf) | (refine Ask_S h1 rfl ?_;conv=>whnf) | (refine B2S.O (l:=[s.kind]) rfl rfl rfl ?_;conv=>whnf) | first | (refine LenQ.ok ?_;conv=>whnf) | ((first | refine Tst.T ?_ | refine Tst.F ?_ | refine Tst.decT (by assumption) ?_ | refine Tst.decF (by assumption) ?_ | refine Tst.eqT (by assumption) ?_ | refine Tst.eqF (by assumption) ?_ | refine Tst.neT (by assumption) ?_ | refine Tst.neF (by assumption) ?_ | refine Tst.isT (by assumption) ?_ | refine Tst.isF (by assumption) ?_ | refine Tst.dec (fun hb=>?_) (fun hb=>?_) | refine Tst.eqI (fun hb=>?_) (fun hb=>?_) | refine Tst.neI (fun hb=>?_) (fun hb=>?_) | refine Tst.not ?_ | refine Tst.any (fun hb=>?_) (fun hb=>?_)) <;> conv=>whnf) | (refine Ari.ok (by omega) ?_;conv=>whnf) | (refine IxO.ok (by omega) (by omega) ?_;conv=>whnf) | (refine IxS.M (by omega) (by omega) (fun _=>rfl) ?_;conv=>whnf) | (refine ⟨Nat.le_of_ble_eq_true rfl,?_⟩;conv=>whnf) | (refine ⟨rfl,?_⟩;conv=>whnf) | (refine Cat.ok (by omega) ?_;conv=>whnf))
   exact f_res (by simp) (ResL.cons (ResOne.tmp rfl) (ResL.cons (ResOne.tmp rfl) ResL.nil)) rfl rfl
  ·have h1:=each_p s s.kind _ rfl hL (check_ok h0)
   repeat' (first | (refine w_regX (ops:=⟨some 14,.mf _ _,none,0⟩ :: _) 1 .refl (by (try simp only [List.length_cons,List.length_nil,Nat.reduceAdd]);rfl) (by (try simp only [List.replicate_succ,List.replicate_zero,List.cons_append,List.nil_append,List.append_nil,Nat.reduceAdd]);rfl) (fun K' hK'=>wpOps_ok ?_);conv=>whnf) | ((try simp only [Nat.reduceAdd,Nat.reduceMul,Nat.zero_add,Nat.add_zero,Int.toNat_natCast,Int.reduceToNat,stzV,rdV]);refine hK' _ _ _ ?_;clear hK' K';first | refine q_regT ?_ | refine q_regD rfl ?_) | first | refine w_seq ?_ | refine q_seqN ?_ | (refine w_reg (by (try simp only [List.length_cons,List.length_nil,Nat.reduceAdd]);rfl) (by (try simp only [List.replicate_succ,List.replicate_zero,List.cons_append,List.nil_append,List.append_nil]);rfl) (fun K' hK'=>wpOps_ok ?_);conv=>whnf) | (refine w_condTst rfl ?_;(repeat refine Tst.not ?_);(first | refine Tst.T ?_ | refine Tst.F ?_ | refine Tst.decT (by assumption) ?_ | refine Tst.decF (by assumption) ?_ | refine Tst.eqT (by assumption) ?_ | refine Tst.eqF (by assumption) ?_ | refine Tst.neT (by assumption) ?_ | refine Tst.neF (by assumption) ?_ | refine Tst.isT (by assumption) ?_ | refine Tst.isF (by assumption) ?_ | refine Tst.dec (fun hb=>?_) (fun hb=>?_) | refine Tst.eqI (fun hb=>?_) (fun hb=>?_) | refine Tst.neI (fun hb=>?_) (fun hb=>?_) | refine Tst.not ?_ | refine Tst.any (fun hb=>?_) (fun hb=>?_)) <;> conv=>whnf) | refine w_ret ?_ | refine w_skip ?_ | refine w_blk ?_ | refine w_exit ?_ | refine q_seqR ?_ | refine q_seqE ?_ | refine q_blkN ?_ | refine q_blkR ?_ | refine q_blkH ?_ | refine q_blkE rfl ?_ | refine q_loopR ?_ | refine q_loopE ?_ | (refine Ask_V0 (hc) rfl rfl ?_;conv=>whnf) | (refine Ask_S h1 rfl ?_;conv=>whnf) | (refine B2S.O (l:=s.kind :: bodyB s (hasN s.kind.toNat)) rfl rfl rfl ?_;conv=>whnf) | first | (refine LenQ.ok ?_;conv=>whnf) | ((first | refine Tst.T ?_ | refine Tst.F ?_ | refine Tst.decT (by assumption) ?_ | refine Tst.decF (by assumption) ?_ | refine Tst.eqT (by assumption) ?_ | refine Tst.eqF (by assumption) ?_ | refine Tst.neT (by assumption) ?_ | refine Tst.neF (by assumption) ?_ | refine Tst.isT (by assumption) ?_ | refine Tst.isF (by assumption) ?_ | refine Tst.dec (fun hb=>?_) (fun hb=>?_) | refine Tst.eqI (fun hb=>?_) (fun hb=>?_) | refine Tst.neI (fun hb=>?_) (fun hb=>?_) | refine Tst.not ?_ | refine Tst.any (fun hb=>?_) (fun hb=>?_)) <;> conv=>whnf) | (refine Ari.ok (by omega) ?_;conv=>whnf) | (refine IxO.ok (by omega) (by omega) ?_;conv=>whnf) | (refine IxS.M (by omega) (by omega) (fun _=>rfl) ?_;conv=>whnf) | (refine ⟨Nat.le_of_ble_eq_true rfl,?_⟩;conv=>whnf) | (refine ⟨rfl,?_⟩;conv=>whnf) | (refine Cat.ok (by omega) ?_;conv=>whnf))
   exact f_res (by simp) (ResL.cons (ResOne.tmp rfl) (ResL.cons (ResOne.tmp rfl) ResL.nil)) rfl rfl
 ·have e:putV s=.tup [.s ⟨#[]⟩,.i (checkS s)]:=if_pos h0
  rw [e]
  repeat' (first | ((try simp only [Nat.reduceAdd,Nat.reduceMul,Nat.zero_add,Nat.add_zero,Int.toNat_natCast,Int.reduceToNat,stzV,rdV]);refine hK' _ _ _ ?_;clear hK' K';first | refine q_regT ?_ | refine q_regD rfl ?_) | first | refine w_seq ?_ | refine q_seqN ?_ | (refine w_reg (by (try simp only [List.length_cons,List.length_nil,Nat.reduceAdd]);rfl) (by (try simp only [List.replicate_succ,List.replicate_zero,List.cons_append,List.nil_append,List.append_nil]);rfl) (fun K' hK'=>wpOps_ok ?_);conv=>whnf) | (refine w_condTst rfl ?_;(repeat refine Tst.not ?_);(first | refine Tst.T ?_ | refine Tst.F ?_ | refine Tst.decT (by assumption) ?_ | refine Tst.decF (by assumption) ?_ | refine Tst.eqT (by assumption) ?_ | refine Tst.eqF (by assumption) ?_ | refine Tst.neT (by assumption) ?_ | refine Tst.neF (by assumption) ?_ | refine Tst.isT (by assumption) ?_ | refine Tst.isF (by assumption) ?_ | refine Tst.dec (fun hb=>?_) (fun hb=>?_) | refine Tst.eqI (fun hb=>?_) (fun hb=>?_) | refine Tst.neI (fun hb=>?_) (fun hb=>?_) | refine Tst.not ?_ | refine Tst.any (fun hb=>?_) (fun hb=>?_)) <;> conv=>whnf) | refine w_ret ?_ | refine w_skip ?_ | refine w_blk ?_ | refine w_exit ?_ | refine q_seqR ?_ | refine q_seqE ?_ | refine q_blkN ?_ | refine q_blkR ?_ | refine q_blkH ?_ | refine q_blkE rfl ?_ | refine q_loopR ?_ | refine q_loopE ?_ | (refine Ask_V0 (hc) rfl rfl ?_;conv=>whnf) | first | (refine LenQ.ok ?_;conv=>whnf) | ((first | refine Tst.T ?_ | refine Tst.F ?_ | refine Tst.decT (by assumption) ?_ | refine Tst.decF (by assumption) ?_ | refine Tst.eqT (by assumption) ?_ | refine Tst.eqF (by assumption) ?_ | refine Tst.neT (by assumption) ?_ | refine Tst.neF (by assumption) ?_ | refine Tst.isT (by assumption) ?_ | refine Tst.isF (by assumption) ?_ | refine Tst.dec (fun hb=>?_) (fun hb=>?_) | refine Tst.eqI (fun hb=>?_) (fun hb=>?_) | refine Tst.neI (fun hb=>?_) (fun hb=>?_) | refine Tst.not ?_ | refine Tst.any (fun hb=>?_) (fun hb=>?_)) <;> conv=>whnf) | (refine Ari.ok (by omega) ?_;conv=>whnf) | (refine IxO.ok (by omega) (by omega) ?_;conv=>whnf) | (refine IxS.M (by omega) (by omega) (fun _=>rfl) ?_;conv=>whnf) | (refine ⟨Nat.le_of_ble_eq_true rfl,?_⟩;conv=>whnf) | (refine ⟨rfl,?_⟩;conv=>whnf) | (refine Cat.ok (by omega) ?_;conv=>whnf))
  all_goals first
   | exact absurd hb h0
   | exact f_res (by simp) (ResL.cons (ResOne.tmp rfl) (ResL.cons (ResOne.tmp rfl) ResL.nil)) rfl rfl
end Go.Proofs.YtpkodpcfafipdaaGreatDoor

namespace Go.Proofs.YtpkodpcfafipdaaGreatDoor
open Go.RowKit
attribute [local irreducible] AW Fin FinR seqQ blkQ regQ loopQ CallsV CallsS Callable
end Go.Proofs.YtpkodpcfafipdaaGreatDoor

namespace Go.Proofs.YtpkodpcfafipdaaGreatDoor
open Go.RowKit
attribute [local irreducible] AW Fin FinR seqQ blkQ regQ loopQ CallsV CallsS Callable
end Go.Proofs.YtpkodpcfafipdaaGreatDoor

namespace Go.Proofs.YtpkodpcfafipdaaGreatDoor
open Go.RowKit
def putP (s:StzD):ByteArray × Int:=if checkS s≠0 then (⟨#[]⟩,checkS s) else (ba (s.kind :: bodyB s (hasN s.kind.toNat)),0)
def p_stanza_Put (x:StanzaStanza):Option (ByteArray × Int):=if stzFits x then some (putP (stzOf x)) else none
theorem p_stanza_Put_v (x:StanzaStanza):CallsO Tryz.prog 48 [x.v] (fun r:ByteArray × Int=>.tup [V.s r.1,V.i r.2]) (p_stanza_Put x):=callsO_if fun h=>by
 rw [stz_V h]
 have e:=put_v (stzOf x) h.2.1 h.2.2.1 h.2.2.2
 unfold putV at e
 unfold putP
 split at e
 ·rename_i h0;rw [if_pos h0];exact e
 ·rename_i h0;rw [if_neg h0];exact e
end Go.Proofs.YtpkodpcfafipdaaGreatDoor

namespace Go.Proofs.YtpkodpcfafipdaaGreatDoor
open Go.RowKit
def dig2 (u:Nat):List UInt8:=if u < 10 then [UInt8.ofNat (48 + u)] else [UInt8.ofNat (48 + u / 10),UInt8.ofNat (48 + u % 10)]
theorem dig2_ok {u:Nat} (h:u < 100):Lib.decDigits u=dig2 u:=by
 unfold dig2
 rw [Lib.decDigits]
 by_cases h1:u < 10
 ·rw [dif_pos h1,if_pos h1]
 ·rw [dif_neg h1,if_neg h1,Lib.decDigits,dif_pos (by omega)];rfl
open Go.Sort Go.Lib in
theorem below_grown_dr (w:World) (k:Nat) (os:Array Obj):Below w.heap.size w (grow (w.drewN k) os) :=
 ⟨rfl,rfl,rfl,by show w.heap.size≤(w.heap++os).size;rw [Array.size_append];omega,fun i hi=>by
  show (w.heap++os)[i]?=_
  rw [Array.getElem?_append_left hi]⟩
theorem tabIs_gt {w:World} (h:GT w):Lib.TabIs Tryz.prog w "internal/strconv.uint64pow10" .u64 Lib.pow10Tab:=by
 obtain ⟨t,lh,h⟩:=h
 have hg:Tryz.prog.globalNamed "internal/strconv.uint64pow10"=some 1:=by kernel_rfl
 unfold Lib.TabIs World.var?
 rw [hg,Option.bind_some,h]
 show some _=some _
 congr 1
def p_strconv_Itoa (n:Int):Option ByteArray:=if 0≤n∧n < 100 then some ⟨(dig2 n.toNat).toArray⟩ else if -9223372036854775808≤n∧n≤9223372036854775807 then some ⟨(Lib.itoa n).toArray⟩ else none
theorem itoa_dig2 {n:Int} (h:0≤n∧n < 100):Lib.itoa n=dig2 n.toNat:=by
 unfold Lib.itoa
 rw [if_neg (by omega),dig2_ok (by omega)]
theorem itoa_p {n:Int} (h0:-9223372036854775808≤n) (h1:n≤9223372036854775807):p_strconv_Itoa n=some ⟨(Lib.itoa n).toArray⟩:=by
 unfold p_strconv_Itoa
 split
 ·rename_i h;rw [itoa_dig2 h]
 ·rw [if_pos ⟨h0,h1⟩]
theorem p_strconv_Itoa_v (n:Int):CallsO Tryz.prog 33 [.i n] V.s (p_strconv_Itoa n):=fun v hv=>by
 unfold p_strconv_Itoa at hv
 have key:-9223372036854775808≤n∧n≤9223372036854775807∧v=⟨(Lib.itoa n).toArray⟩:=by
  split at hv
  ·rename_i h
   cases hv
   exact ⟨by omega,by omega,by rw [itoa_dig2 h]⟩
  ·split at hv
   ·rename_i h
    cases hv
    exact ⟨h.1,h.2,rfl⟩
   ·cases hv
 obtain ⟨h0,h1,rfl⟩:=key
 refine callsV_oldT #[.int .i64 n] (fun _ _ h=>lits_eq (vs:=[.int .i64 n]) h) (fun w _ ht=>?_) fun _=>.lit rfl
 refine (Tryz.strconv_Itoa n h0 h1 w (tabIs_gt ht)).mono ?_
 rintro e w' ⟨rfl,k,os,rfl⟩
 exact ⟨rfl,below_grown_dr w k os⟩
theorem flatI_s (L:List ByteArray):((List.map V.s L).flatMap V.cells)=L.map V.s:=by
 induction L with
 | nil=>rfl
 | cons y L ih=>simp [V.cells,ih]
def p_strings_Join (l:List ByteArray) (sep:ByteArray):Option ByteArray :=
 if l.length≤1000000∧(Lib.join (l.map (·.data.toList)) sep.data.toList).length≤1000000000 then some ⟨(Lib.join (l.map (·.data.toList)) sep.data.toList).toArray⟩ else none
theorem p_strings_Join_v {u:Bool} (l:List ByteArray) (sep:ByteArray):CallsO Tryz.prog 32 [.sl (List.map V.s l) u,.s sep] V.s (p_strings_Join l sep):=callsO_if fun hl=>by
 intro m w cargs hg hmem hargs
 obtain ⟨hsz,hrp⟩:=hargs
 obtain ⟨c,d,rfl⟩ : ∃ c d,cargs=#[c,d]:=by
  have h1:cargs.size=2:=hsz
  exact ⟨cargs[0],cargs[1],by
   apply Array.ext
   ·simp [h1]
   ·intro i a b
    simp at b
    have:i=0∨i=1:=by omega
    rcases this with rfl | rfl <;> rfl⟩
 have h0:=hrp 0 (by simp) (by simp)
 have h1:=hrp 1 (by simp) (by simp)
 simp only [List.getElem_cons_zero] at h0
 change Rep m noBk c _ at h0
 change Rep m noBk d (.lit (.string sep)) at h1
 obtain rfl:d=.string sep:=by cases h1;rfl
 have fin:∀ e w',e=Ending.returned (.string ⟨(Lib.join (l.map (·.data.toList)) sep.data.toList).toArray⟩)→Below w.heap.size w w'→∃ c m',e=.returned c∧Below w.heap.size w w'∧(∀ a u,m' a=some u→w'.cell? a=some u)∧(∀ a u,m a=some u→m' a=some u)∧(∀ a u,m' a=some u→m a=some u∨w.heap.size≤a.block)∧Rep m' noBk c (V.s ⟨(Lib.join (l.map (·.data.toList)) sep.data.toList).toArray⟩):=by
  rintro e w' rfl hb
  exact ⟨_,m,rfl,hb,fun a u h=>(hb.cell (cell_lt (hmem a u h))).trans (hmem a u h),fun _ _ h=>h,fun _ _ h=>.inl h,.lit rfl⟩
 cases l with
 | nil =>
  have go:∀ A k cap,c=.slice A k cap→k=0→Calls Tryz.prog 32 #[c,.string sep] w fun e w'=>∃ c m',e=.returned c∧Below w.heap.size w w'∧(∀ a u,m' a=some u→w'.cell? a=some u)∧(∀ a u,m a=some u→m' a=some u)∧(∀ a u,m' a=some u→m a=some u∨w.heap.size≤a.block)∧Rep m' noBk c (V.s ⟨(Lib.join (List.map (·.data.toList) ([]:List ByteArray)) sep.data.toList).toArray⟩):=fun A k cap hc hk=>by
   subst hc hk
   refine (Tryz.strings_Join_none A cap sep w).mono ?_
   rintro e w' ⟨rfl,rfl⟩
   exact fin _ _ rfl (Below.refl _ _)
  cases h0 with
  | sl hn hc hf hes h1 hm h=>exact go _ _ _ rfl (by simpa using hn)
  | slnil hf=>exact go _ _ _ rfl rfl
 | cons x l =>
  generalize hL:x :: l=L at *
  have hfl:=flatI_s L
  have hlen:(List.map V.s L).length=L.length:=List.length_map ..
  have hpos:0 < L.length:=by rw [← hL];simp
  generalize hX:List.map V.s L=X at *
  cases h0 with
  | slnil hf=>exfalso;rw [← hL] at hlen;cases hlen
  | @sl _ b o k cap es full xs us hn hc hf hes h1 hm h =>
   have cells:∀ j,(hj:j < L.length)→w.cell? ⟨b,o + j,none⟩=some (.string L[j]):=fun j hj=>by
    have hj2:j < (X.flatMap V.cells).length:=by rw [hfl,hlen];exact hj
    have e1:=hm j hj2
    have e2:=h j hj2
    have e3:(X.flatMap V.cells)[j]=V.s L[j]:=by
     rw [List.getElem_of_eq hfl hj2]
     subst hX
     simp
    rw [e3] at e2
    have e4:=e2.int
    rw [e4] at e1
    exact hmem _ _ e1
   have hkl:k=L.length:=hn.trans hlen
   subst hkl
   have hbk:b < w.heap.size:=cell_lt (cells 0 hpos)
   refine (Tryz.strings_Join b o cap L sep w (fun j y hj=>?_) hbk (by omega) (by omega) (by omega)).mono ?_
   ·obtain ⟨hj1,rfl⟩:=List.getElem?_eq_some_iff.1 hj
    exact cells j hj1
   ·rintro e w' ⟨h1,h2⟩
    exact fin _ _ h1 h2
end Go.Proofs.YtpkodpcfafipdaaGreatDoor


namespace Go.Proofs.YtpkodpcfafipdaaGreatDoor
open Go.RowKit
set_option maxHeartbeats 1000000 in
set_option maxRecDepth 100000 in
theorem cc_used (b:Nat) (w:World) (h0:w.cell? ⟨b,0,none⟩=some (.pointer (some ⟨b,0,none⟩))) :
  Calls Tryz.prog 47 #[.pointer (some ⟨b,0,none⟩)] w fun e w'=>e=.returned (.tuple #[])∧w'=w:=by
 obtain ⟨j,hj,_⟩:=Option.map_eq_some_iff.1 Tryz.Builder_Extra_169.sizeBuilder
 have mixed:Tryz.prog.follows .mixedOrders=true:=mix
 go_enter Tryz.func47,Tryz.ntmps47
 go_wp2
 rw [Lib.run_neq_ptr_same w _ Tryz.underlying75 hj]
 go_wp2
 go_end0
 exact ⟨rfl,rfl⟩
set_option maxHeartbeats 1000000 in
set_option maxRecDepth 100000 in
theorem cc_fresh (b:Nat) (w:World) (h0:w.cell? ⟨b,0,none⟩=some (.pointer none)) (hsh:w.shape? b=some (77,2)) (hfz:w.frozen? ⟨b,0,none⟩=false) :
  Calls Tryz.prog 47 #[.pointer (some ⟨b,0,none⟩)] w fun e w'=>e=.returned (.tuple #[])∧w'=w.setCell ⟨b,0,none⟩ (.pointer (some ⟨b,0,none⟩)):=by
 obtain ⟨j,hj,hjs⟩:=Option.map_eq_some_iff.1 Tryz.Builder_Extra_169.sizeBuilder
 have mixed:Tryz.prog.follows .mixedOrders=true:=mix
 go_enter Tryz.func47,Tryz.ntmps47
 go_wp2
 rw [Lib.run_to_unsafe w ⟨b,0,none⟩ Tryz.underlying75 Tryz.underlying104 hj (by rw [hjs];decide) hsh (Nat.zero_lt_succ 1)]
 simp only [Result.andThen]
 rw [Oper.upon_value]
 go_wp2
 rw [run_callFunc_extern Tryz.func57 (by kernel_rfl) (by kernel_rfl) (by kernel_rfl) (e:=Extern.AbiNoEscape.same) (by kernel_rfl)]
 rw [Lib.run_noEscape]
 simp only [Result.andThen]
 rw [Oper.upon_value]
 go_wp2
 rw [Lib.run_from_unsafe w ⟨b,0,none⟩ Tryz.underlying104 Tryz.underlying75 hj hsh Tryz.Builder_Extra_169.liesBuilder]
 simp only [Result.andThen]
 rw [Oper.upon_value]
 go_wp2
 go_end0
 exact ⟨rfl,rfl⟩
theorem cc_any (B b:Nat) (bs:List Value) (w:World) (h:Lib.IsBuilder 77 5 B b bs w) :
  Calls Tryz.prog 47 #[.pointer (some ⟨b,0,none⟩)] w fun e w'=>e=.returned (.tuple #[])∧(Lib.BuilderAt 77 5 B b (.pointer (some ⟨b,0,none⟩)) bs w'∧Below B w w'):=by
 rcases h with h | h
 ·refine (cc_fresh b w h.cell0 h.shape h.frozen0).mono ?_
  rintro e w' ⟨rfl,rfl⟩
  exact ⟨rfl,h.used _,(Below.refl B w).setCell (p:=⟨b,0,none⟩) h.1 _⟩
 ·refine (cc_used b w h.cell0).mono ?_
  rintro e w' ⟨rfl,rfl⟩
  exact ⟨rfl,h,Below.refl B _⟩
set_option maxHeartbeats 2000000 in
set_option maxRecDepth 100000 in
theorem write_c (B b:Nat) (bs:List Value) (s:ByteArray) (w:World) (h:Lib.IsBuilder 77 5 B b bs w) (hlen:bs.length + s.size≤140737488355328) (hBw:B≤w.heap.size) :
  Calls Tryz.prog 35 #[.pointer (some ⟨b,0,none⟩),.string s] w fun e w'=>e=.returned (.tuple #[.int .i64 s.size,.nilIface])∧(Lib.BuilderAt 77 5 B b (.pointer (some ⟨b,0,none⟩)) (bs++Lib.strCells s) w'∧Below B w w'):=by
 obtain ⟨i0,hi,hz0,hz1,hz2⟩:=info_parts Tryz.Builder_Extra_169.infoByte
 have mixed:Tryz.prog.follows .mixedOrders=true:=mix
 have e240:∀ args w,(callFunc 47 args).run Tryz.prog w=.ok (.enter 47 args) w:=enters_of Tryz.func47 (by kernel_rfl) rfl
 go_enter Tryz.func35,Tryz.ntmps35
 go_wp2_with (go_at_fn 47;refine (cc_any B b bs _ h).mono ?_)
 rintro e w1 ⟨rfl,h1,hb1⟩
 obtain ⟨hB,v,hbk,hown,hne⟩:=h1
 have c0:w1.cell? ⟨b,0,none⟩=some (.pointer (some ⟨b,0,none⟩)):=by rw [Lib.cell_of_heap hbk];rfl
 have c1:w1.cell? ⟨b,1,none⟩=some v:=by rw [Lib.cell_of_heap hbk];rfl
 go_wp2_with (at_builtin;refine Lib.wpList_append_own_string _ rfl _ _ 63 9 rfl B 5 i0 Tryz.underlying63 Tryz.underlying9 hi hz0 hz1 hz2 _ _ _ rfl hown s rfl ?c3 ?c4 ?c5 ?_)
 case c3=>unfold maxLen;omega
 case c4=>omega
 case c5=>have:=hb1.size;omega
 intro v' w2 hown' hgrow _
 have hlt:b < w1.heap.size:=by
  rcases Nat.lt_or_ge b w1.heap.size with h' | h'
  ·exact h'
  ·simp [Array.getElem?_eq_none h'] at hbk
 have hb2:w2.heap[b]?=some (.cells #[.pointer (some ⟨b,0,none⟩),v] 77 (0,0)):=by
  rw [hgrow.block b hlt (fun e=>hne e.symm)]
  exact hbk
 have d0:w2.cell? ⟨b,0,none⟩=some (.pointer (some ⟨b,0,none⟩)):=by rw [Lib.cell_of_heap hb2];rfl
 have d1:w2.cell? ⟨b,1,none⟩=some v:=by rw [Lib.cell_of_heap hb2];rfl
 have f1:w2.frozen? ⟨b,1,none⟩=false:=Lib.frozen_of_heap hb2 1
 obtain ⟨ao,n',cap,rfl⟩ : ∃ ao n' cap,v'=.slice ao n' cap:=by
  rcases hown'.2 with ⟨hv,_⟩ | ⟨g,cap,cur,hv,_⟩
  ·exact ⟨_,_,_,hv⟩
  ·exact ⟨_,_,_,hv⟩
 go_wp2
 go_ret2
 refine ⟨rfl,?_,?_⟩
 ·exact Lib.BuilderAt.put (T:=77) (e:=5) hB hb2 (bs':=bs++Lib.strCells s) (by simpa [Lib.strCells_length] using hown') Tryz.Builder_Extra_169.neB5
 ·exact (hb1.grown hgrow (by have:=hb1.size;omega) (fun k hk=>(hown.lt k hk).1)).setCell (p:=⟨b,1,none⟩) hB _
theorem isb_below {T e:TypeId} {B b:Nat} {bs:List Value} {w w' : World} (h:Lib.IsBuilder T e B b bs w) (hb:Below w.heap.size w w'):Lib.IsBuilder T e B b bs w':=by
 have one:∀ p,Lib.BuilderAt T e B b p bs w→Lib.BuilderAt T e B b p bs w':=fun p hp=>by
  have hlt:=hp.lt
  obtain ⟨h1,v,h2,h3,h4⟩:=hp
  refine ⟨h1,v,(hb.block b hlt).trans h2,h3.kept (row:=none) ⟨hb.os,hb.tape,hb.output,hb.size,fun k hk _=>hb.block k hk⟩ ?_,h4⟩
  cases v.ownBlock with
  | none=>exact .inl rfl
  | some k=>exact .inr (by simp)
 rcases h with h | h
 ·exact .inl (one _ h)
 ·exact .inr (one _ h)
theorem calls_lit {P:Program} {f:FuncId} {vs rs:List Value} (h:CallsV P f (vs.map V.lit) (.tup (rs.map V.lit))) (hv:∀ v ∈ vs,v.oneCell'=true) (w:World) (hml:ML w) (ht:GT w):Calls P f vs.toArray w (Ret w (.tuple rs.toArray)):=by
 obtain ⟨_,n,hn⟩:=hml
 let m:Mem:=fun a=>if a=⟨0,0,none⟩ then some (.int .i64 n) else none
 have hm0:∀ a u,m a=some u→w.cell? a=some u:=fun a u hu=>by
  by_cases e:a=⟨0,0,none⟩
  ·have:m a=some (.int .i64 n):=if_pos e
   rw [this] at hu;cases hu;rw [e];exact hn
  ·have:m a=none:=if_neg e
   rw [this] at hu;cases hu
 have hm:MemW m w:=⟨hm0,ht⟩
 refine (h m w vs.toArray ⟨n,if_pos rfl⟩ hm ⟨by simp,fun j h1 h2=>?_⟩).mono ?_
 ·have hj:j < vs.length:=by simpa using h1
  have e1:vs.toArray[j]=vs[j]:=by simp
  have e2:(vs.map V.lit)[j]=V.lit vs[j]:=by simp
  rw [e1,e2]
  exact .lit (hv _ (List.getElem_mem hj))
 ·rintro e w' ⟨c,m',rfl,hb,_,_,_,hr⟩
  refine ⟨congrArg Ending.returned ?_,hb⟩
  cases hr with
  | @tup _ cs _ hl hr =>
   congr 1
   apply Array.ext
   ·simpa using hl
   ·intro j h1 h2
    have hj:j < rs.length:=by simpa using h2
    have:=hr j h1 (by simpa using hj)
    rw [List.getElem_map] at this
    rw [this.int];simp
end Go.Proofs.YtpkodpcfafipdaaGreatDoor

namespace Go.Proofs.YtpkodpcfafipdaaGreatDoor
open Go.RowKit
set_option maxRecDepth 100000
set_option maxHeartbeats 4000000
def gc42:BCode:=(.seq (R_ 0 [O_ 2 (.mv (b_ false)) 0]) (.seq (.seq (R_ 0 [O_ 3 (.mv (t_ 0)) 0]) (.block 0 (.seq (.seq (R_ 0 [O_ 5 (.bin .eql (t_ 3) (i_ 1)) 0,O_ 4 (.mv (t_ 5)) 0]) (.cond (t_ 4) .skip (.seq (R_ 0 [O_ 6 (.bin .eql (t_ 3) (i_ 2)) 0,O_ 4 (.mv (t_ 6)) 0]) (.cond (t_ 4) .skip (.seq (R_ 0 [O_ 7 (.bin .eql (t_ 3) (i_ 4)) 0,O_ 4 (.mv (t_ 7)) 0]) (.cond (t_ 4) .skip (R_ 0 [O_ 8 (.bin .eql (t_ 3) (i_ 6)) 0,O_ 4 (.mv (t_ 8)) 0]))))))) (.cond (t_ 4) (.seq (R_ 0 [O_ 2 (.mv (b_ true)) 0]) .ret) .skip)))) (.seq (R_ 0 [O_ 2 (.mv (b_ false)) 0]) .ret)))
theorem gc42_ok:compF Tryz.prog Tryz.f42=some (gc42.er,9,[.tmp 2]):=by unfold gc42;kernel_rfl
theorem p_octet_wide_v (a0:Int):CallsO Tryz.prog 42 [.i a0] V.b (p_octet_wide a0):=by
 refine callsO_comp mix Tryz.func42 gc42_ok fun r H=>?_
 rw [p_octet_wide] at H
 conv=>whnf
 refine tst_c H (fun b1 H=>?_) (fun b1 H=>?_)
 ·conv=>whnf
  refine Tst.T ?_;conv=>whnf
  exact fb_ H
 conv=>whnf
 refine tst_c H (fun b2 H=>?_) (fun b2 H=>?_)
 ·conv=>whnf
  refine Tst.T ?_;conv=>whnf
  exact fb_ H
 conv=>whnf
 refine tst_c H (fun b3 H=>?_) (fun b3 H=>?_)
 ·conv=>whnf
  refine Tst.T ?_;conv=>whnf
  exact fb_ H
 conv=>whnf
 refine tst_c H (fun b4 H=>?_) (fun b4 H=>?_)
 ·conv=>whnf
  exact fb_ H
 conv=>whnf
 exact fb_ H
def gc26:BCode:=(.seq (R_ 0 [O_ 4 (.mv (.const (.slice none 0 0))) 0,O_ 5 (.mv (i_ 0)) 0]) (.seq (.seq (R_ 0 [O_ 8 (.mv (t_ 1)) 0,O_ 9 (.cl 42 [(t_ 8)]) 0,O_ 10 (.un .not (t_ 9)) 0]) (.cond (t_ 10) (.seq (R_ 0 [O_ 4 (.mv (.const (.slice none 0 0))) 0,O_ 5 (.mv (i_ 2)) 0]) .ret) .skip)) (.seq (.seq (R_ 0 [O_ 11 (.mv (t_ 0)) 0,O_ 12 (.bin .lss (t_ 11) (i_ 0)) 0,O_ 13 (.mv (t_ 12)) 0,⟨(some 14),.mv (t_ 0),(some (13,false)),0⟩,⟨(some 15),.mv (t_ 1),(some (13,false)),0⟩,⟨(some 16),.bin .mul (i_ 8) (t_ 15),(some (13,false)),0⟩,⟨(some 17),.bin .shr (t_ 14) (t_ 16),(some (13,false)),0⟩,⟨(some 18),.bin .neq (t_ 17) (i_ 0),(some (13,false)),0⟩,O_ 19 (.pick (t_ 13) (b_ true) (t_ 18)) 0]) (.cond (t_ 19) (.seq (R_ 0 [O_ 4 (.mv (.const (.slice none 0 0))) 0,O_ 5 (.mv (i_ 8)) 0]) .ret) .skip)) (.seq (R_ 1 [O_ 20 (.mv (t_ 1)) 0,O_ 21 (.mks 1 1 [(.lit (.int .u8 0))] (t_ 20) (t_ 20)) 0,O_ 6 (.mv (t_ 21)) 1]) (.seq (.seq (R_ 0 [O_ 22 (.mv (t_ 1)) 0,O_ 23 (.mv (i_ 0)) 0]) (.block 0 (.loop (.seq (R_ 0 [O_ 24 (.bin .lss (t_ 23) (t_ 22)) 0]) (.seq (.cond (t_ 24) .skip (.exit 0)) (.seq (.block 1 (.seq (R_ 0 [O_ 25 (.mv (t_ 23)) 0,O_ 7 (.mv (t_ 25)) 0]) (R_ 0 [O_ 26 (.mv (t_ 6)) 0,O_ 27 (.mv (t_ 1)) 0,O_ 28 (.bin .sub (t_ 27) (i_ 1)) 0,O_ 29 (.mv (t_ 7)) 0,O_ 30 (.bin .sub (t_ 28) (t_ 29)) 0,O_ 31 (.mv (t_ 0)) 0,O_ 32 (.mv (t_ 7)) 0,O_ 33 (.bin .mul (i_ 8) (t_ 32)) 0,O_ 34 (.bin .shr (t_ 31) (t_ 33)) 0,O_ 35 (.cvi .u8 (t_ 34)) 0,O_ 36 (.ixs 1 (t_ 26) (t_ 30)) 0,U_ (.st 1 (t_ 36) (t_ 35)) 0]))) (R_ 0 [O_ 37 (.bin .add (t_ 23) (i_ 1)) 0,O_ 23 (.mv (t_ 37)) 0]))))))) (.seq (R_ 0 [O_ 38 (.mv (t_ 6)) 0,O_ 4 (.mv (t_ 38)) 0,O_ 5 (.mv (i_ 0)) 0]) .ret))))))
theorem gc26_ok:compF Tryz.prog Tryz.f26=some (gc26.er,39,[.tmp 4,.tmp 5]):=by unfold gc26;kernel_rfl
theorem p_octet_Lay_v (a0:Int) (a1:Int):CallsO Tryz.prog 26 [.i a0,.i a1] (fun r:(List Int) × Int=>.tup [(fun l:List Int=>V.sl (l.map V.y8) false) r.1,V.i r.2]) (p_octet_Lay a0 a1):=by
 refine callsO_comp mix Tryz.func26 gc26_ok fun r H=>?_
 rw [p_octet_Lay] at H
 conv=>whnf
 refine ask_c (p_octet_wide_v _) H rfl rfl (fun v1 H=>?_);conv=>whnf
 refine Tst.not ?_
 refine tst_d H (fun b2 H=>?_) (fun b2 H=>?_)
 ·conv=>whnf
  refine finR_c (enc:=(fun r:(List Int) × Int=>.tup [(fun l:List Int=>V.sl (l.map V.y8) false) r.1,V.i r.2])) H ?_;conv=>whnf
  exact ⟨_,.tup (.cons (.c (.slw)) (.cons (.c (.id rfl)) (.nil)))⟩
 conv=>whnf
 refine tst_c H (fun b3 H=>?_) (fun b3 H=>?_)
 ·conv=>whnf
  iterate 6 (refine Tst.T ?_;conv=>whnf)
  refine finR_c (enc:=(fun r:(List Int) × Int=>.tup [(fun l:List Int=>V.sl (l.map V.y8) false) r.1,V.i r.2])) H ?_;conv=>whnf
  exact ⟨_,.tup (.cons (.c (.slw)) (.cons (.c (.id rfl)) (.nil)))⟩
 conv=>whnf
 iterate 2 (refine Tst.F ?_;conv=>whnf)
 refine Ari.w ?_;conv=>whnf
 refine Tst.F ?_;conv=>whnf
 refine Shr.ok (pos_c H).1 ((fun H=>?_) (pos_c H).2);conv=>whnf
 iterate 2 (refine Tst.F ?_;conv=>whnf)
 refine tst_c H (fun b5 H=>?_) (fun b5 H=>?_)
 ·conv=>whnf
  refine finR_c (enc:=(fun r:(List Int) × Int=>.tup [(fun l:List Int=>V.sl (l.map V.y8) false) r.1,V.i r.2])) H ?_;conv=>whnf
  exact ⟨_,.tup (.cons (.c (.slw)) (.cons (.c (.id rfl)) (.nil)))⟩
 conv=>whnf
 refine mksA_c (f:=V.y8) H rfl rfl (by decide) (fun l6 H=>?_);conv=>whnf
 obtain ⟨o8,HL9,HQ10⟩:=bind_c H
 refine loop_c [23] [7,24,25,26,27,28,29,30,31,32,33,34,35,36,37,21] [7,24,25,26,27,28,29,30,31,32,33,34,35,36,37,21] (fun n vals st=>(∃ y12 y13,p_octet_Lay_l1  a1 a0 a1 a1 n y12 y13=some o8∧vals=[.i y12]∧st=[.live (cellsM V.y8 y13) 0])) fuel 1 [] (⟨_,_,HL9,rfl,rfl⟩) (Nat.zero_le _) rfl (by kernel_rfl) (by kernel_rfl) rfl (wkB_live0 rfl (cellsM_idlt (f:=V.y8) (fun _=>rfl) _) rfl trivial) ?_
 rintro (_ | n11) _ _ (⟨y12,y13,H,rfl,rfl⟩)
 ·rw [p_octet_Lay_l1] at H;cases H
 rw [p_octet_Lay_l1] at H
 conv=>whnf
 refine tst_d H (fun b14 H=>?_) (fun b14 H=>?_)
 ·conv=>whnf
  obtain rfl:=Option.some.inj H
  have H:=HQ10
  try dsimp only at H
  obtain ⟨_,h18,H⟩:=lenG_c H
  refine finRz_c (enc:=(fun r:(List Int) × Int=>.tup [(fun l:List Int=>V.sl (l.map V.y8) false) r.1,V.i r.2])) [0] H ?_;conv=>whnf
  refine ⟨Nat.zero_le _,?_⟩;conv=>whnf
  exact ⟨_,.tup (.cons (.c (fzc_made (f:=V.y8) (l:=y13) rfl rfl rfl h18 (fun _=>rfl) (fun _=>rfl))) (.cons (.c (.id rfl)) (.nil)))⟩
 conv=>whnf
 iterate 3 (refine Ari.w ?_;conv=>whnf)
 refine Shr.ok (pos_c H).1 ((fun H=>?_) (pos_c H).2);conv=>whnf
 refine Ari.w ?_;conv=>whnf
 refine ⟨rfl,ixa_c H (fun x16 h17 H=>?_)⟩;conv=>whnf
 refine ⟨Nat.zero_le _,sto_c (f:=V.y8) (es:=1) h17 (x':=IntKind.wrap .u8 (shrI .i64 a0 (w64 ((8:Int) * y12)))) (fun _=>rfl) 0 (by omega) (Nat.le_of_ble_eq_true rfl) (by rfl) ?_⟩;conv=>whnf
 refine Ari.w ?_;conv=>whnf
 exact again_c [7,24,25,26,27,28,29,30,31,32,33,34,35,36,37,21] n11 1 [] (⟨_,_,H,rfl,rfl⟩) (Nat.lt_succ_self _) (Nat.zero_le _) rfl (by kernel_rfl) (by kernel_rfl) rfl (wkB_live0 rfl (cellsM_idlt (f:=V.y8) (fun _=>rfl) _) rfl trivial)
def gc62:BCode:=(.seq (R_ 0 [O_ 2 (.mv (.const (.string ⟨#[]⟩))) 0,O_ 3 (.mv (i_ 0)) 0]) (.seq (.seq (R_ 0 [O_ 6 (.mv (t_ 0)) 0,O_ 7 (.bin .eql (t_ 6) (.const (.string ⟨#[]⟩))) 0]) (.cond (t_ 7) (.seq (R_ 0 [O_ 2 (.mv (.const (.string ⟨#[]⟩))) 0,O_ 3 (.mv (i_ 4)) 0]) .ret) .skip)) (.seq (.seq (R_ 0 [O_ 8 (.mv (t_ 0)) 0,O_ 9 (.lent (t_ 8)) 0,O_ 10 (.bin .gtr (t_ 9) (i_ 128)) 0]) (.cond (t_ 10) (.seq (R_ 0 [O_ 2 (.mv (.const (.string ⟨#[]⟩))) 0,O_ 3 (.mv (i_ 5)) 0]) .ret) .skip)) (.seq (R_ 0 [O_ 12 (.mv (t_ 0)) 0,O_ 13 (.lent (t_ 12)) 0,O_ 14 (.cl 26 [(t_ 13),(i_ 2)]) 0,O_ 11 (.mv (t_ 14)) 0,O_ 15 (.ex (t_ 11) 0) 0,O_ 16 (.ex (t_ 11) 1) 0,O_ 4 (.mv (t_ 15)) 0,O_ 5 (.mv (t_ 16)) 0]) (.seq (R_ 0 [O_ 17 (.mv (t_ 4)) 0,O_ 18 (.b2s (t_ 17)) 0,O_ 19 (.mv (t_ 0)) 0,O_ 20 (.bin .add (t_ 18) (t_ 19)) 0,O_ 21 (.mv (t_ 5)) 0,O_ 2 (.mv (t_ 20)) 0,O_ 3 (.mv (t_ 21)) 0]) .ret)))))
theorem gc62_ok:compF Tryz.prog Tryz.f62=some (gc62.er,22,[.tmp 2,.tmp 3]):=by unfold gc62;kernel_rfl
theorem p_frame_Put_v (a0:ByteArray):CallsO Tryz.prog 62 [.s a0] (fun r:ByteArray × Int=>.tup [V.s r.1,V.i r.2]) (p_frame_Put a0):=by
 refine callsO_comp mix Tryz.func62 gc62_ok fun r H=>?_
 rw [p_frame_Put] at H
 conv=>whnf
 refine tst_c H (fun b1 H=>?_) (fun b1 H=>?_)
 ·conv=>whnf
  exact fin0_c (enc:=(fun r:ByteArray × Int=>.tup [V.s r.1,V.i r.2])) H (.inr rfl) (.cons (.tmp rfl) (.cons (.tmp rfl) (.nil))) rfl rfl
 conv=>whnf
 refine tst_c H (fun b2 H=>?_) (fun b2 H=>?_)
 ·conv=>whnf
  exact fin0_c (enc:=(fun r:ByteArray × Int=>.tup [V.s r.1,V.i r.2])) H (.inr rfl) (.cons (.tmp rfl) (.cons (.tmp rfl) (.nil))) rfl rfl
 conv=>whnf
 refine ask_c (p_octet_Lay_v _ _) H rfl rfl (fun v3 H=>?_);conv=>whnf
 refine b2sI_c H (fun s4 H=>?_);conv=>whnf
 refine cat_c H (fun s5 H=>?_);conv=>whnf
 exact fin0_c (enc:=(fun r:ByteArray × Int=>.tup [V.s r.1,V.i r.2])) H (.inr rfl) (.cons (.tmp rfl) (.cons (.tmp rfl) (.nil))) rfl rfl
end Go.Proofs.YtpkodpcfafipdaaGreatDoor

namespace Go.Proofs.YtpkodpcfafipdaaGreatDoor
open Go.RowKit
def joinL (put:ByteArray→Option (ByteArray × Int)):List ByteArray→List UInt8→Option (ByteArray × Int)
 | [],acc=>some (⟨acc.toArray⟩,0)
 | s :: l,acc=>(put s).bind fun r=>if r.2≠0 then some (⟨#[]⟩,r.2) else if acc.length + r.1.size≤1000000000 then joinL put l (acc++r.1.data.toList) else none
def p_frame_Join (l:List ByteArray):Option (ByteArray × Int):=if l.length≤1000000 then joinL p_frame_Put l [] else none
theorem strCells_bytes (s:ByteArray) (acc:List UInt8):Lib.byteCells acc++Lib.strCells s=Lib.byteCells (acc++s.data.toList):=by
 simp [Lib.byteCells,Lib.strCells]
set_option maxHeartbeats 2000000 in
theorem frameJoin_c (A:Option Addr) (n cap:Nat) (ss:List ByteArray) (w:World) (hml:ML w) (ht:GT w) (hn:n=ss.length) (hn2:n≤1000000) (hs:∀ k (h:k < ss.length),∃ b o,A=some ⟨b,o,none⟩∧w.cell? ⟨b,o + k,none⟩=some (.string ss[k])) (r:ByteArray × Int) (hr:joinL p_frame_Put ss []=some r) :
  Calls Tryz.prog 49 #[.slice A n cap] w (Ret w (.tuple #[.string r.1,.int .i64 r.2])):=by
 have HS:=Lib.hid hs
 have HN:=Lib.hid hn
 have HR:=Lib.hid hr
 clear hs hn hr
 go_enter Tryz.func49,Tryz.ntmps49
 go_wp2
 go_loopw [6,7,8,11] (fun _ _ _ i wr=>∃ (k:Nat) (acc:List UInt8),k≤n∧i=.int .i64 k∧Lib.IsBuilder 77 5 w.heap.size w.heap.size (Lib.byteCells acc) wr∧acc.length≤1000000000∧Below w.heap.size w wr∧joinL p_frame_Put (ss.drop k) acc=some r) (fun _ _ _ i _=>n - (intOf i).toNat)
 case atStart=>exact ⟨0,[],Nat.zero_le _,rfl,Lib.fresh_isBuilder _ _ _,Nat.zero_le _,bel_,HR.out⟩
 case round =>
  obtain ⟨k,acc,hk,rfl,hb,ha,hB,hj⟩:=hrel
  have hbl:=hb
  have HB:=Lib.hid hb
  have HJ:=Lib.hid hj
  clear hb hbl hj
  by_cases hlt:k < n
  ·have hkl:k < ss.length:=by rw [← HN.out];exact hlt
   obtain ⟨b,o,rfl,hc⟩:=HS.out k hkl
   have hcw:wr.cell? ⟨b,o + k,none⟩=some (.string ss[k]):=(hB.cell (p:=⟨b,o + k,none⟩) (cell_lt hc)).trans hc
   obtain ⟨hm1,m,hm2⟩:=hml
   have hmr:ML wr:=⟨Nat.lt_of_lt_of_le hm1 hB.size,m,(hB.cell (p:=⟨0,0,none⟩) hm1).trans hm2⟩
   clear hc hm2
   have hjj:=HJ.out
   rw [List.drop_eq_getElem_cons hkl,joinL] at hjj
   cases hq:p_frame_Put ss[k] with
   | none=>rw [hq] at hjj;cases hjj
   | some q =>
    rw [hq,Option.bind_some] at hjj
    obtain ⟨q1,q2⟩:=q
    have HP:=Lib.hid (fun (hm:ML wr)=>calls_lit (vs:=[.string ss[k]]) (rs:=[.string q1,.int .i64 q2]) (p_frame_Put_v ss[k] (q1,q2) hq) (by simp [Value.oneCell']) wr hm (ht.mono hB.block))
    have HQ:=Lib.hid hjj
    clear hq hjj
    by_cases h0:q2=0
    ·subst h0
     have hq2:=HQ.out
     rw [if_neg (by simp)] at hq2
     split at hq2
     case isFalse=>cases hq2
     rename_i hlen
     have HZ:=Lib.hid hq2
     clear hq2 HQ
     go_wp2_with (first
      | (go_at_call 62;(with_reducible refine (HP.out hmr).mono ?_);rintro e w1 ⟨rfl,hb1⟩;have hbw:=isb_below HB.out hb1;have hB1:=hB.trans (hb1.mono hB.size);have hz1:=hb1.size)
      | (go_at_call 35;(with_reducible refine (write_c _ _ _ q1 _ hbw (by rw [Lib.byteCells_length];omega) (Nat.le_trans hB.size hz1)).mono ?_);rintro e w2 ⟨rfl,hb2,hB2⟩))
     exact ⟨⟨k + 1,acc++q1.data.toList,by omega,by go_num,.inr (by rw [← strCells_bytes];exact hb2),by simp;omega,hB1.trans hB2,HZ.out⟩,by simp [intOf];omega⟩
    ·have hq2:=HQ.out
     rw [if_pos h0] at hq2
     have hr:r=(⟨#[]⟩,q2):=(Option.some.inj hq2).symm
     clear hq2 HQ
     have HR2:=Lib.hid hr
     clear hr
     have hne:(q2 != 0)=true:=by simpa using h0
     go_wp2_with (first
      | (go_at_call 62;(with_reducible refine (HP.out hmr).mono ?_);rintro e w1 ⟨rfl,hb1⟩;have hB1:=hB.trans (hb1.mono hB.size)))
     go_ret2
     exact ⟨by rw [HR2.out];rfl,hB1⟩
  ·have hkn:k=ss.length:=by have:=HN.out;omega
   have hjj:=HJ.out
   rw [hkn,List.drop_length,joinL] at hjj
   have hr:r=(⟨acc.toArray⟩,0):=(Option.some.inj hjj).symm
   have HR2:=Lib.hid hr
   have hbb:=HB.out
   have HK:=Lib.hid hkn
   clear hjj hr hkn
   go_wp2_with (first
    | (go_at_call 36;(with_reducible refine (Tryz.Builder_String_any _ _ acc _ hbb hB.size).mono ?_);rintro e w2 ⟨rfl,hB2⟩))
   go_ret2
   exact ⟨by rw [HR2.out];rfl,hB.trans hB2⟩
theorem flat_s (L:List ByteArray):((List.map V.s L).flatMap V.cells)=L.map V.s:=by
 induction L with
 | nil=>rfl
 | cons y L ih=>simp [V.cells,ih]
theorem p_frame_Join_v {u:Bool} (l:List ByteArray):CallsO Tryz.prog 49 [.sl (List.map V.s l) u] (fun r:ByteArray × Int=>.tup [V.s r.1,V.i r.2]) (p_frame_Join l):=by
 intro r hr m w cargs hg hmem hargs
 unfold p_frame_Join at hr
 split at hr
 case isFalse=>cases hr
 rename_i hl
 obtain ⟨hsz,hrp⟩:=hargs
 obtain ⟨c,rfl⟩ : ∃ c,cargs=#[c]:=by
  have h1:cargs.size=1:=hsz
  exact ⟨cargs[0],by apply Array.ext;simp [h1];intro i a b;simp at b;subst b;rfl⟩
 have h0:=hrp 0 (by simp) (by simp)
 simp only [List.getElem_cons_zero] at h0
 change Rep m noBk c _ at h0
 obtain ⟨n,hn⟩:=hg
 have hml:ML w:=⟨by have:=cell_lt (hmem _ _ hn);omega,n,hmem _ _ hn⟩
 have fin:∀ (A:Option Addr) (k cap:Nat),c=.slice A k cap→k=l.length→(∀ j (h:j < l.length),∃ b o,A=some ⟨b,o,none⟩∧w.cell? ⟨b,o + j,none⟩=some (.string l[j]))→Calls Tryz.prog 49 #[c] w fun e w'=>∃ c m',e=.returned c∧Below w.heap.size w w'∧(∀ a u,m' a=some u→w'.cell? a=some u)∧(∀ a u,m a=some u→m' a=some u)∧(∀ a u,m' a=some u→m a=some u∨w.heap.size≤a.block)∧Rep m' noBk c (.tup [V.s r.1,V.i r.2]):=fun A k cap hc hk hs=>by
  subst hc
  refine (frameJoin_c A k cap l w hml hmem.tab hk (by omega) hs r hr).mono ?_
  rintro e w' ⟨rfl,hb⟩
  refine ⟨_,m,rfl,hb,fun a u h=>(hb.cell (cell_lt (hmem a u h))).trans (hmem a u h),fun _ _ h=>h,fun _ _ h=>.inl h,.tup rfl fun j h1 h2=>?_⟩
  have:j=0∨j=1:=by simp at h1;omega
  rcases this with rfl | rfl
  ·exact .lit rfl
  ·exact .lit rfl
 cases l with
 | nil =>
  cases h0 with
  | sl hn hc hf hes h1 hm h=>exact fin _ _ _ rfl (by simpa using hn) fun j h=>absurd h (Nat.not_lt_zero _)
  | slnil hf=>exact fin _ _ _ rfl rfl fun j h=>absurd h (Nat.not_lt_zero _)
 | cons x l =>
  generalize hL:x :: l=L at *
  have hfl:=flat_s L
  have hlen:(List.map V.s L).length=L.length:=List.length_map ..
  generalize hX:List.map V.s L=X at *
  cases h0 with
  | slnil hf=>exfalso;rw [← hL] at hlen;cases hlen
  | @sl _ b o k cap es full xs us hn hc hf hes h1 hm h =>
   refine fin _ _ _ rfl (hn.trans hlen) fun j hj=>⟨b,o,rfl,?_⟩
   have hj2:j < (X.flatMap V.cells).length:=by rw [hfl,hlen];exact hj
   have e1:=hm j hj2
   have e2:=h j hj2
   have e3:(X.flatMap V.cells)[j]=V.s L[j]:=by
    rw [List.getElem_of_eq hfl hj2]
    subst hX
    simp
   rw [e3] at e2
   have e4:=e2.int
   rw [e4] at e1
   exact hmem _ _ e1
end Go.Proofs.YtpkodpcfafipdaaGreatDoor

namespace Go.Proofs.YtpkodpcfafipdaaGreatDoor
open Go.RowKit
def p_ref34_digits_f:Nat→Int→Option ByteArray
 | 0,_=>none
 | F0 + 1,a0 =>
 (text? [IntKind.wrap .u8 (w64 ((48:Int) - (Int.tmod a0 (10:Int))))]).bind fun s1 =>
 bif (w64 (Int.tdiv a0 (10:Int)) == (0:Int)) then
  some s1
 else
 (p_ref34_digits_f F0 (w64 (Int.tdiv a0 (10:Int)))).bind fun v3 =>
 (cat? v3 s1).bind fun s4 =>
 some s4
def p_ref34_digits (a0:Int):Option ByteArray:=p_ref34_digits_f fuel a0
def gc46:BCode:=(.seq (.reg 0 [⟨(some 2),.mv (.const (.string ⟨#[]⟩)),none,0⟩] none 0 []) (.seq (.reg 1 [⟨(some 4),.mv (.tmp 0),none,0⟩,⟨(some 5),.bin .rem (.tmp 4) (.const (.int .i64 10)),none,0⟩,⟨(some 6),.bin .sub (.const (.int .i64 48)) (.tmp 5),none,0⟩,⟨(some 7),.cvi .u8 (.tmp 6),none,0⟩,⟨(some 8),.bs 1 1 [(.lit (.int .u8 0))] [(0,(.tmp 7))],none,0⟩,⟨(some 9),.b2s (.tmp 8),none,1⟩,⟨(some 3),.mv (.tmp 9),none,1⟩] none 0 []) (.seq (.seq (.reg 0 [⟨(some 10),.mv (.tmp 0),none,0⟩,⟨(some 11),.bin .quo (.tmp 10) (.const (.int .i64 10)),none,0⟩,⟨(some 12),.bin .eql (.tmp 11) (.const (.int .i64 0)),none,0⟩] none 0 []) (.cond (.tmp 12) (.seq (.reg 0 [⟨(some 13),.mv (.tmp 3),none,0⟩,⟨(some 2),.mv (.tmp 13),none,0⟩] none 0 []) .ret) .skip)) (.seq (.reg 0 [⟨(some 14),.mv (.tmp 0),none,0⟩,⟨(some 15),.bin .quo (.tmp 14) (.const (.int .i64 10)),none,0⟩,⟨(some 16),.cl 46 [(.tmp 15)],none,0⟩,⟨(some 17),.mv (.tmp 3),none,0⟩,⟨(some 18),.bin .add (.tmp 16) (.tmp 17),none,0⟩,⟨(some 2),.mv (.tmp 18),none,0⟩] none 0 []) .ret))))
theorem gc46_ok:compF Tryz.prog Tryz.f46=some (gc46.er,19,[.tmp 2]):=by unfold gc46;kernel_rfl
set_option maxRecDepth 100000 in
set_option maxHeartbeats 4000000 in
theorem p_ref34_digits_f_v (F0:Nat):∀ a0:Int,CallsO Tryz.prog 46 [.i a0] V.s (p_ref34_digits_f F0 a0):=by
 induction F0 with
 | zero=>intro a0 v hv;cases hv
 | succ F0 ih =>
 intro a0
 refine callsO_comp mix Tryz.func46 gc46_ok fun r H=>?_
 rw [p_ref34_digits_f] at H
 conv=>whnf
 refine ⟨by decide,?_⟩;conv=>whnf
 iterate 2 (refine Ari.w ?_;conv=>whnf)
 refine b2sO_c H rfl rfl rfl (fun s1 H=>?_);conv=>whnf
 refine ⟨by decide,Ari.w ?_⟩;conv=>whnf
 refine tst_c H (fun b2 H=>?_) (fun b2 H=>?_)
 ·conv=>whnf
  exact fin0_c (enc:=V.s) H (.inr rfl) (.cons (.tmp rfl) (.nil)) rfl rfl
 conv=>whnf
 refine ⟨by decide,Ari.w ?_⟩;conv=>whnf
 refine ask_c (ih _) H rfl rfl (fun v3 H=>?_);conv=>whnf
 refine cat_c H (fun s4 H=>?_);conv=>whnf
 exact fin0_c (enc:=V.s) H (.inr rfl) (.cons (.tmp rfl) (.nil)) rfl rfl
theorem p_ref34_digits_v (a0:Int):CallsO Tryz.prog 46 [.i a0] V.s (p_ref34_digits a0):=p_ref34_digits_f_v fuel a0
end Go.Proofs.YtpkodpcfafipdaaGreatDoor

namespace Go.Proofs.YtpkodpcfafipdaaGreatDoor
open Go.RowKit
structure FzW (st:List Slot) (u v:V):Prop where
 out:∃ l l' rd,u=.agg l∧v=.agg l'∧FzL st l l' rd∧l'.all V.one=true
end Go.Proofs.YtpkodpcfafipdaaGreatDoor

namespace Go.Proofs.YtpkodpcfafipdaaGreatDoor
open Go.RowKit
def Slot.okN (n:Nat):Slot→Bool
 | .live cs _=>V.idlt.belowL n cs
 | _=>true
mutual
theorem idlt_mo {n m:Nat} (hm:n≤m):∀ v:V,v.idlt n=true→v.idlt m=true
 | .lit _,_=>rfl
 | .agg cs,h=>idltL_mo hm cs h
 | .tup cs,h=>idltL_mo hm cs h
 | .sl _ _,_=>rfl
 | .osl _ _ _ _ _,h=>by simp [V.idlt] at h ⊢;omega
 | .ptr _ _,h=>by simp [V.idlt] at h ⊢;omega
 | .eptr _,_=>rfl
 | .clo _ cs,h=>idltL_mo hm cs h
 | .any,_=>rfl
theorem idltL_mo {n m:Nat} (hm:n≤m):∀ l:List V,V.idlt.belowL n l=true→V.idlt.belowL m l=true
 | [],_=>rfl
 | v :: l,h=>by
  simp only [V.idlt.belowL,Bool.and_eq_true] at h ⊢
  exact ⟨idlt_mo hm v h.1,idltL_mo hm l h.2⟩
end
end Go.Proofs.YtpkodpcfafipdaaGreatDoor

namespace Go.Proofs.YtpkodpcfafipdaaGreatDoor
open Go.RowKit
section
variable {β : Type} {r : β} {P : Program} {st : List Slot}
theorem srcNil {α:Type} {f:α→V} {es:Nat} {G:List α} {u:Bool} (hes:∀ a,(f a).cells.length=es) (h:G=[]):SrcX st es (.sl (G.map f) u) 0 [] []:=by subst h;exact .v (srcM hes [] u)
theorem app_nil {α:Type} {F G L:List α} (h:G=[]) (hL:app? F G=some L):L=F:=by
 obtain ⟨rfl,_⟩:=app_len hL
 rw [h,List.append_nil]
def Slot.isFresh:Slot→Bool
 | .fresh=>true
 | _=>false
def fxB (sg:List Nat):List Slot→Nat→Bool
 | [],_=>true
 | s :: l,i=>(s.isFresh || Nat.beq (sgm sg i) i) && fxB sg l (i + 1)
theorem fxB_ok {sg:List Nat}:∀ {l:List Slot} {i:Nat},fxB sg l i=true→∀ j,j < l.length→l[j]?≠some .fresh→sgm sg (i + j)=i + j
 | [],_,_,j,hj,_=>absurd hj (Nat.not_lt_zero _)
 | s :: l,i,h,0,_,hn=>by
  rw [fxB,Bool.and_eq_true,Bool.or_eq_true] at h
  rcases h.1 with g | g
  ·cases s <;> first | (cases g;done) | exact absurd rfl hn
  ·exact Nat.eq_of_beq_eq_true g
 | s :: l,i,h,j + 1,hj,hn=>by
  rw [fxB,Bool.and_eq_true] at h
  have:=fxB_ok h.2 j (by simpa using hj) (by simpa using hn)
  rw [show i + (j + 1)=i + 1 + j by omega];exact this
theorem fx0 {sg:List Nat} {l:List Slot} (h:fxB sg l 0=true):∀ i,i < l.length→l[i]?≠some .fresh→sgm sg i=i:=fun i hi hn=>by
 have:=fxB_ok h i hi hn
 simpa using this
end
end Go.Proofs.YtpkodpcfafipdaaGreatDoor

namespace Go.Proofs.YtpkodpcfafipdaaGreatDoor
open Go.RowKit
end Go.Proofs.YtpkodpcfafipdaaGreatDoor

namespace Go.Proofs.YtpkodpcfafipdaaGreatDoor
open Go.RowKit
def p_script_shapes (a0:Int):Option (ScriptShape × Bool) :=
 bif (a0 == (0:Int)) then
  some ((ScriptShape.mk (⟨#[99,111,110,110,101,99,116]⟩ : ByteArray) true (2:Int) false),true)
 else
 bif (a0 == (1:Int)) then
  some ((ScriptShape.mk (⟨#[98,121,116,101,115]⟩ : ByteArray) true (0:Int) true),true)
 else
 bif (a0 == (2:Int)) then
  some ((ScriptShape.mk (⟨#[99,108,111,115,101]⟩ : ByteArray) true (0:Int) false),true)
 else
 bif (a0 == (3:Int)) then
  some ((ScriptShape.mk (⟨#[116,105,99,107]⟩ : ByteArray) false (0:Int) false),true)
 else
 bif (a0 == (4:Int)) then
  some ((ScriptShape.mk (⟨#[99,114,101,100,105,116]⟩ : ByteArray) true (4:Int) false),true)
 else
 bif (a0 == (5:Int)) then
  some ((ScriptShape.mk (⟨#[100,114,97,119]⟩ : ByteArray) false (6:Int) false),true)
 else
 some ((ScriptShape.mk (⟨#[]⟩ : ByteArray) false (0:Int) false),false)
def p_script_shape_fits (a0:ScriptShape) (a1:BrokerStep):Option (Bool) :=
 bif a0.conn then
  bif (decide ((0:Int) < a0.wide)) then
   bif a0.text then
    some true
   else
   some (a1.Text.toList == (⟨#[]⟩ : ByteArray).toList)
  else
  bif (a1.N == (0:Int)) then
   bif a0.text then
    some true
   else
   some (a1.Text.toList == (⟨#[]⟩ : ByteArray).toList)
  else
  some false
 else
 bif (a1.Conn == (0:Int)) then
  bif (decide ((0:Int) < a0.wide)) then
   bif a0.text then
    some true
   else
   some (a1.Text.toList == (⟨#[]⟩ : ByteArray).toList)
  else
  bif (a1.N == (0:Int)) then
   bif a0.text then
    some true
   else
   some (a1.Text.toList == (⟨#[]⟩ : ByteArray).toList)
  else
  some false
 else
 some false
def p_octet_Say (a0:ByteArray) (a1:Int):Option ((List Int) × Int) :=
 bif (decide ((if (255:Int) < a1 then (255:Int) else a1) < (a0.size:Int))) then
  some ([],(5:Int))
 else
 (app? [IntKind.wrap .u8 (a0.size:Int)] (bytesI a0)).bind fun l2 =>
 some (l2,(0:Int))
def p_script_Put (a0:BrokerStep):Option (ByteArray × Int) :=
 (p_script_shapes a0.Kind).bind fun v1 =>
 bif v1.2 then
  (p_script_shape_fits v1.1 a0).bind fun v3 =>
  bif v3 then
   bif v1.1.conn then
    (p_octet_Lay a0.Conn (1:Int)).bind fun v6 =>
    (app? [a0.Kind] v6.1).bind fun l7 =>
    bif (v6.2 == (0:Int)) then
     bif (decide ((0:Int) < v1.1.wide)) then
      (p_octet_Lay a0.N v1.1.wide).bind fun v10 =>
      (app? l7 v10.1).bind fun l11 =>
      bif (v10.2 == (0:Int)) then
       bif v1.1.text then
        (p_octet_Say a0.Text (255:Int)).bind fun v14 =>
        (app? l11 v14.1).bind fun l15 =>
        bif (v14.2 != (0:Int)) then
         some ((⟨#[]⟩ : ByteArray),v14.2)
        else
        (text? l15).bind fun s17 =>
        some (s17,(0:Int))
       else
       bif (v10.2 != (0:Int)) then
        some ((⟨#[]⟩ : ByteArray),v10.2)
       else
       (text? l11).bind fun s19 =>
       some (s19,(0:Int))
      else
      bif (v10.2 != (0:Int)) then
       some ((⟨#[]⟩ : ByteArray),v10.2)
      else
      (text? l11).bind fun s21 =>
      some (s21,(0:Int))
     else
     bif v1.1.text then
      (p_octet_Say a0.Text (255:Int)).bind fun v23 =>
      (app? l7 v23.1).bind fun l24 =>
      bif (v23.2 != (0:Int)) then
       some ((⟨#[]⟩ : ByteArray),v23.2)
      else
      (text? l24).bind fun s26 =>
      some (s26,(0:Int))
     else
     bif (v6.2 != (0:Int)) then
      some ((⟨#[]⟩ : ByteArray),v6.2)
     else
     (text? l7).bind fun s28 =>
     some (s28,(0:Int))
    else
    bif (v6.2 != (0:Int)) then
     some ((⟨#[]⟩ : ByteArray),v6.2)
    else
    (text? l7).bind fun s30 =>
    some (s30,(0:Int))
   else
   bif ((0:Int) == (0:Int)) then
    bif (decide ((0:Int) < v1.1.wide)) then
     (p_octet_Lay a0.N v1.1.wide).bind fun v33 =>
     (app? [a0.Kind] v33.1).bind fun l34 =>
     bif (v33.2 == (0:Int)) then
      bif v1.1.text then
       (p_octet_Say a0.Text (255:Int)).bind fun v37 =>
       (app? l34 v37.1).bind fun l38 =>
       bif (v37.2 != (0:Int)) then
        some ((⟨#[]⟩ : ByteArray),v37.2)
       else
       (text? l38).bind fun s40 =>
       some (s40,(0:Int))
      else
      bif (v33.2 != (0:Int)) then
       some ((⟨#[]⟩ : ByteArray),v33.2)
      else
      (text? l34).bind fun s42 =>
      some (s42,(0:Int))
     else
     bif (v33.2 != (0:Int)) then
      some ((⟨#[]⟩ : ByteArray),v33.2)
     else
     (text? l34).bind fun s44 =>
     some (s44,(0:Int))
    else
    bif v1.1.text then
     (p_octet_Say a0.Text (255:Int)).bind fun v46 =>
     (app? [a0.Kind] v46.1).bind fun l47 =>
     bif (v46.2 != (0:Int)) then
      some ((⟨#[]⟩ : ByteArray),v46.2)
     else
     (text? l47).bind fun s49 =>
     some (s49,(0:Int))
    else
    bif ((0:Int) != (0:Int)) then
     some ((⟨#[]⟩ : ByteArray),(0:Int))
    else
    (text? [a0.Kind]).bind fun s51 =>
    some (s51,(0:Int))
   else
   bif ((0:Int) != (0:Int)) then
    some ((⟨#[]⟩ : ByteArray),(0:Int))
   else
   (text? [a0.Kind]).bind fun s53 =>
   some (s53,(0:Int))
  else
  some ((⟨#[]⟩ : ByteArray),(4:Int))
 else
 some ((⟨#[]⟩ : ByteArray),(12:Int))
end Go.Proofs.YtpkodpcfafipdaaGreatDoor

namespace Go.Proofs.YtpkodpcfafipdaaGreatDoor
open Go.RowKit
set_option maxRecDepth 100000
set_option maxHeartbeats 4000000
def gc23:BCode:=(.seq (R_ 1 [O_ 2 (.al (.agg [(.lit (.string ⟨#[]⟩)),(.lit (.bool false)),(.lit (.int .i64 0)),(.lit (.bool false))])) 0,O_ 3 (.mv (b_ false)) 1]) (.seq (.seq (R_ 0 [O_ 4 (.mv (t_ 0)) 0]) (.block 0 (.seq (R_ 0 [O_ 6 (.bin .eql (t_ 4) (.const (.int .u8 0))) 0,O_ 5 (.mv (t_ 6)) 0]) (.cond (t_ 5) (.seq (R_ 0 [O_ 7 (.bd [(.lit (.string ⟨#[]⟩)),(.lit (.bool false)),(.lit (.int .i64 0)),(.lit (.bool false))] [(0,1,(.const (.string ⟨#[99,111,110,110,101,99,116]⟩))),(1,1,(b_ true)),(2,1,(i_ 2)),(3,1,(b_ false))]) 0,U_ (.st 4 (t_ 2) (t_ 7)) 0,O_ 3 (.mv (b_ true)) 0]) .ret) (.seq (R_ 0 [O_ 9 (.bin .eql (t_ 4) (.const (.int .u8 1))) 0,O_ 8 (.mv (t_ 9)) 0]) (.cond (t_ 8) (.seq (R_ 0 [O_ 10 (.bd [(.lit (.string ⟨#[]⟩)),(.lit (.bool false)),(.lit (.int .i64 0)),(.lit (.bool false))] [(0,1,(.const (.string ⟨#[98,121,116,101,115]⟩))),(1,1,(b_ true)),(2,1,(i_ 0)),(3,1,(b_ true))]) 0,U_ (.st 4 (t_ 2) (t_ 10)) 0,O_ 3 (.mv (b_ true)) 0]) .ret) (.seq (R_ 0 [O_ 12 (.bin .eql (t_ 4) (.const (.int .u8 2))) 0,O_ 11 (.mv (t_ 12)) 0]) (.cond (t_ 11) (.seq (R_ 0 [O_ 13 (.bd [(.lit (.string ⟨#[]⟩)),(.lit (.bool false)),(.lit (.int .i64 0)),(.lit (.bool false))] [(0,1,(.const (.string ⟨#[99,108,111,115,101]⟩))),(1,1,(b_ true)),(2,1,(i_ 0)),(3,1,(b_ false))]) 0,U_ (.st 4 (t_ 2) (t_ 13)) 0,O_ 3 (.mv (b_ true)) 0]) .ret) (.seq (R_ 0 [O_ 15 (.bin .eql (t_ 4) (.const (.int .u8 3))) 0,O_ 14 (.mv (t_ 15)) 0]) (.cond (t_ 14) (.seq (R_ 0 [O_ 16 (.bd [(.lit (.string ⟨#[]⟩)),(.lit (.bool false)),(.lit (.int .i64 0)),(.lit (.bool false))] [(0,1,(.const (.string ⟨#[116,105,99,107]⟩))),(1,1,(b_ false)),(2,1,(i_ 0)),(3,1,(b_ false))]) 0,U_ (.st 4 (t_ 2) (t_ 16)) 0,O_ 3 (.mv (b_ true)) 0]) .ret) (.seq (R_ 0 [O_ 18 (.bin .eql (t_ 4) (.const (.int .u8 4))) 0,O_ 17 (.mv (t_ 18)) 0]) (.cond (t_ 17) (.seq (R_ 0 [O_ 19 (.bd [(.lit (.string ⟨#[]⟩)),(.lit (.bool false)),(.lit (.int .i64 0)),(.lit (.bool false))] [(0,1,(.const (.string ⟨#[99,114,101,100,105,116]⟩))),(1,1,(b_ true)),(2,1,(i_ 4)),(3,1,(b_ false))]) 0,U_ (.st 4 (t_ 2) (t_ 19)) 0,O_ 3 (.mv (b_ true)) 0]) .ret) (.seq (R_ 0 [O_ 21 (.bin .eql (t_ 4) (.const (.int .u8 5))) 0,O_ 20 (.mv (t_ 21)) 0]) (.cond (t_ 20) (.seq (R_ 0 [O_ 22 (.bd [(.lit (.string ⟨#[]⟩)),(.lit (.bool false)),(.lit (.int .i64 0)),(.lit (.bool false))] [(0,1,(.const (.string ⟨#[100,114,97,119]⟩))),(1,1,(b_ false)),(2,1,(i_ 6)),(3,1,(b_ false))]) 0,U_ (.st 4 (t_ 2) (t_ 22)) 0,O_ 3 (.mv (b_ true)) 0]) .ret) .skip)))))))))))))) (.seq (R_ 0 [O_ 23 (.bd [(.lit (.string ⟨#[]⟩)),(.lit (.bool false)),(.lit (.int .i64 0)),(.lit (.bool false))] []) 0,U_ (.st 4 (t_ 2) (t_ 23)) 0,O_ 3 (.mv (b_ false)) 0]) .ret)))
theorem gc23_ok:compF Tryz.prog Tryz.f23=some (gc23.er,24,[.cell 2 4 true,.tmp 3]):=by unfold gc23;kernel_rfl
theorem p_script_shapes_v (a0:Int):CallsO Tryz.prog 23 [.y8 a0] (fun r:ScriptShape × Bool=>.tup [ScriptShape.v r.1,V.b r.2]) (p_script_shapes a0):=by
 refine callsO_comp mix Tryz.func23 gc23_ok fun r H=>?_
 rw [p_script_shapes] at H
 conv=>whnf
 refine tst_c H (fun b1 H=>?_) (fun b1 H=>?_)
 ·conv=>whnf
  refine lq_ ?_;conv=>whnf
  exact fin0_c (enc:=(fun r:ScriptShape × Bool=>.tup [ScriptShape.v r.1,V.b r.2])) H (.inr rfl) (.cons (.cell rfl rfl (Nat.le_of_ble_eq_true rfl)) (.cons (.tmp rfl) (.nil))) rfl rfl
 conv=>whnf
 refine tst_c H (fun b2 H=>?_) (fun b2 H=>?_)
 ·conv=>whnf
  refine lq_ ?_;conv=>whnf
  exact fin0_c (enc:=(fun r:ScriptShape × Bool=>.tup [ScriptShape.v r.1,V.b r.2])) H (.inr rfl) (.cons (.cell rfl rfl (Nat.le_of_ble_eq_true rfl)) (.cons (.tmp rfl) (.nil))) rfl rfl
 conv=>whnf
 refine tst_c H (fun b3 H=>?_) (fun b3 H=>?_)
 ·conv=>whnf
  refine lq_ ?_;conv=>whnf
  exact fin0_c (enc:=(fun r:ScriptShape × Bool=>.tup [ScriptShape.v r.1,V.b r.2])) H (.inr rfl) (.cons (.cell rfl rfl (Nat.le_of_ble_eq_true rfl)) (.cons (.tmp rfl) (.nil))) rfl rfl
 conv=>whnf
 refine tst_c H (fun b4 H=>?_) (fun b4 H=>?_)
 ·conv=>whnf
  refine lq_ ?_;conv=>whnf
  exact fin0_c (enc:=(fun r:ScriptShape × Bool=>.tup [ScriptShape.v r.1,V.b r.2])) H (.inr rfl) (.cons (.cell rfl rfl (Nat.le_of_ble_eq_true rfl)) (.cons (.tmp rfl) (.nil))) rfl rfl
 conv=>whnf
 refine tst_c H (fun b5 H=>?_) (fun b5 H=>?_)
 ·conv=>whnf
  refine lq_ ?_;conv=>whnf
  exact fin0_c (enc:=(fun r:ScriptShape × Bool=>.tup [ScriptShape.v r.1,V.b r.2])) H (.inr rfl) (.cons (.cell rfl rfl (Nat.le_of_ble_eq_true rfl)) (.cons (.tmp rfl) (.nil))) rfl rfl
 conv=>whnf
 refine tst_c H (fun b6 H=>?_) (fun b6 H=>?_)
 ·conv=>whnf
  refine lq_ ?_;conv=>whnf
  exact fin0_c (enc:=(fun r:ScriptShape × Bool=>.tup [ScriptShape.v r.1,V.b r.2])) H (.inr rfl) (.cons (.cell rfl rfl (Nat.le_of_ble_eq_true rfl)) (.cons (.tmp rfl) (.nil))) rfl rfl
 conv=>whnf
 refine lq_ ?_;conv=>whnf
 exact fin0_c (enc:=(fun r:ScriptShape × Bool=>.tup [ScriptShape.v r.1,V.b r.2])) H (.inr rfl) (.cons (.cell rfl rfl (Nat.le_of_ble_eq_true rfl)) (.cons (.tmp rfl) (.nil))) rfl rfl
def gc24:BCode:=(.seq (R_ 2 [O_ 2 (.bx (t_ 0)) 0,O_ 3 (.bx (t_ 1)) 1,O_ 4 (.mv (b_ false)) 2]) (.seq (R_ 0 [O_ 5 (.fa 1 (t_ 2)) 0,O_ 6 (.ld 1 false (t_ 5)) 0,O_ 7 (.mv (t_ 6)) 0,⟨(some 8),.fa 1 (t_ 3),(some (7,false)),0⟩,⟨(some 9),.ld 1 false (t_ 8),(some (7,false)),0⟩,⟨(some 10),.bin .eql (t_ 9) (i_ 0),(some (7,false)),0⟩,O_ 11 (.pick (t_ 7) (b_ true) (t_ 10)) 0,O_ 12 (.mv (t_ 11)) 0,⟨(some 13),.fa 2 (t_ 2),(some (12,true)),0⟩,⟨(some 14),.ld 1 false (t_ 13),(some (12,true)),0⟩,⟨(some 15),.bin .gtr (t_ 14) (i_ 0),(some (12,true)),0⟩,⟨(some 16),.mv (t_ 15),(some (12,true)),0⟩,⟨(some 17),.fa 2 (t_ 3),(some (16,false)),0⟩,⟨(some 18),.ld 1 false (t_ 17),(some (16,false)),0⟩,⟨(some 19),.bin .eql (t_ 18) (i_ 0),(some (16,false)),0⟩,⟨(some 20),.pick (t_ 16) (b_ true) (t_ 19),(some (12,true)),0⟩,O_ 21 (.pick (t_ 12) (t_ 20) (b_ false)) 0,O_ 22 (.mv (t_ 21)) 0,⟨(some 23),.fa 3 (t_ 2),(some (22,true)),0⟩,⟨(some 24),.ld 1 false (t_ 23),(some (22,true)),0⟩,⟨(some 25),.mv (t_ 24),(some (22,true)),0⟩,⟨(some 26),.fa 3 (t_ 3),(some (25,false)),0⟩,⟨(some 27),.ld 1 false (t_ 26),(some (25,false)),0⟩,⟨(some 28),.bin .eql (t_ 27) (.const (.string ⟨#[]⟩)),(some (25,false)),0⟩,⟨(some 29),.pick (t_ 25) (b_ true) (t_ 28),(some (22,true)),0⟩,O_ 30 (.pick (t_ 22) (t_ 29) (b_ false)) 0,O_ 4 (.mv (t_ 30)) 0]) .ret))
theorem gc24_ok:compF Tryz.prog Tryz.f24=some (gc24.er,31,[.tmp 4]):=by unfold gc24;kernel_rfl
theorem p_script_shape_fits_v (a0:ScriptShape) (a1:BrokerStep):CallsO Tryz.prog 24 [.agg [.s a0.name,.b a0.conn,.i a0.wide,.b a0.text],.agg [.y8 a1.Kind,.i a1.Conn,.i a1.N,.s a1.Text]] V.b (p_script_shape_fits a0 a1):=by
 refine callsO_comp mix Tryz.func24 gc24_ok fun r H=>?_
 rw [p_script_shape_fits] at H
 conv=>whnf
 refine tst_c H (fun b1 H=>?_) (fun b1 H=>?_)
 ·conv=>whnf
  iterate 7 (refine Tst.T ?_;conv=>whnf)
  refine tst_c H (fun b2 H=>?_) (fun b2 H=>?_)
  ·conv=>whnf
   iterate 8 (refine Tst.T ?_;conv=>whnf)
   refine tst_c H (fun b3 H=>?_) (fun b3 H=>?_)
   ·conv=>whnf
    iterate 5 (refine Tst.T ?_;conv=>whnf)
    exact fb_ H
   conv=>whnf
   iterate 2 (refine Tst.F ?_;conv=>whnf)
   refine Tst.T ?_;conv=>whnf
   refine Tst.F ?_;conv=>whnf
   refine Tst.T ?_;conv=>whnf
   exact fb_ H
  conv=>whnf
  iterate 2 (refine Tst.F ?_;conv=>whnf)
  refine Tst.T ?_;conv=>whnf
  refine Tst.F ?_;conv=>whnf
  refine Tst.T ?_;conv=>whnf
  refine tst_d H (fun b4 H=>?_) (fun b4 H=>?_)
  ·conv=>whnf
   iterate 4 (refine Tst.F ?_;conv=>whnf)
   exact fb_ H
  conv=>whnf
  iterate 2 (refine Tst.T ?_;conv=>whnf)
  refine tst_c H (fun b5 H=>?_) (fun b5 H=>?_)
  ·conv=>whnf
   iterate 5 (refine Tst.T ?_;conv=>whnf)
   exact fb_ H
  conv=>whnf
  iterate 2 (refine Tst.F ?_;conv=>whnf)
  refine Tst.T ?_;conv=>whnf
  refine Tst.F ?_;conv=>whnf
  refine Tst.T ?_;conv=>whnf
  exact fb_ H
 conv=>whnf
 iterate 3 (refine Tst.F ?_;conv=>whnf)
 refine tst_d H (fun b6 H=>?_) (fun b6 H=>?_)
 ·conv=>whnf
  iterate 10 (refine Tst.F ?_;conv=>whnf)
  exact fb_ H
 conv=>whnf
 iterate 3 (refine Tst.T ?_;conv=>whnf)
 refine tst_c H (fun b7 H=>?_) (fun b7 H=>?_)
 ·conv=>whnf
  iterate 8 (refine Tst.T ?_;conv=>whnf)
  refine tst_c H (fun b8 H=>?_) (fun b8 H=>?_)
  ·conv=>whnf
   iterate 5 (refine Tst.T ?_;conv=>whnf)
   exact fb_ H
  conv=>whnf
  iterate 2 (refine Tst.F ?_;conv=>whnf)
  refine Tst.T ?_;conv=>whnf
  refine Tst.F ?_;conv=>whnf
  refine Tst.T ?_;conv=>whnf
  exact fb_ H
 conv=>whnf
 iterate 2 (refine Tst.F ?_;conv=>whnf)
 refine Tst.T ?_;conv=>whnf
 refine Tst.F ?_;conv=>whnf
 refine Tst.T ?_;conv=>whnf
 refine tst_d H (fun b9 H=>?_) (fun b9 H=>?_)
 ·conv=>whnf
  iterate 4 (refine Tst.F ?_;conv=>whnf)
  exact fb_ H
 conv=>whnf
 iterate 2 (refine Tst.T ?_;conv=>whnf)
 refine tst_c H (fun b10 H=>?_) (fun b10 H=>?_)
 ·conv=>whnf
  iterate 5 (refine Tst.T ?_;conv=>whnf)
  exact fb_ H
 conv=>whnf
 iterate 2 (refine Tst.F ?_;conv=>whnf)
 refine Tst.T ?_;conv=>whnf
 refine Tst.F ?_;conv=>whnf
 refine Tst.T ?_;conv=>whnf
 exact fb_ H
def gc25:BCode:=(.seq (R_ 0 [O_ 5 (.mv (i_ 0)) 0]) (.seq (R_ 1 [O_ 6 (.ld 1 false (t_ 2)) 0,O_ 7 (.mv (t_ 0)) 0,O_ 8 (.ap 1 1 (t_ 6) (t_ 7)) 0,U_ (.st 1 (t_ 2) (t_ 8)) 1]) (.seq (R_ 0 [O_ 9 (.mv (t_ 1)) 0,O_ 5 (.mv (t_ 9)) 0]) .ret)))
theorem gc25_ok:compF Tryz.prog Tryz.f25=some (gc25.er,10,[.tmp 5]):=by unfold gc25;kernel_rfl
def gc27:BCode:=(.seq (R_ 0 [O_ 4 (.mv (.const (.slice none 0 0))) 0,O_ 5 (.mv (i_ 0)) 0]) (.seq (.seq (R_ 0 [O_ 6 (.mv (t_ 0)) 0,O_ 7 (.lent (t_ 6)) 0,O_ 8 (.mv (t_ 1)) 0,O_ 9 (.mn false (t_ 8) (i_ 255)) 0,O_ 10 (.bin .gtr (t_ 7) (t_ 9)) 0]) (.cond (t_ 10) (.seq (R_ 0 [O_ 4 (.mv (.const (.slice none 0 0))) 0,O_ 5 (.mv (i_ 5)) 0]) .ret) .skip)) (.seq (R_ 2 [O_ 11 (.mv (t_ 0)) 0,O_ 12 (.lent (t_ 11)) 0,O_ 13 (.cvi .u8 (t_ 12)) 0,O_ 14 (.bs 1 1 [(.lit (.int .u8 0))] [(0,(t_ 13))]) 0,O_ 15 (.mv (t_ 0)) 1,O_ 16 (.ap 1 1 (t_ 14) (t_ 15)) 1,O_ 4 (.mv (t_ 16)) 2,O_ 5 (.mv (i_ 0)) 2]) .ret)))
theorem gc27_ok:compF Tryz.prog Tryz.f27=some (gc27.er,17,[.tmp 4,.tmp 5]):=by unfold gc27;kernel_rfl
theorem p_octet_Say_v (a0:ByteArray) (a1:Int):CallsO Tryz.prog 27 [.s a0,.i a1] (fun r:(List Int) × Int=>.tup [(fun l:List Int=>V.sl (l.map V.y8) false) r.1,V.i r.2]) (p_octet_Say a0 a1):=by
 refine callsO_comp mix Tryz.func27 gc27_ok fun r H=>?_
 rw [p_octet_Say] at H
 conv=>whnf
 refine tst_c H (fun b1 H=>?_) (fun b1 H=>?_)
 ·conv=>whnf
  refine finR_c (enc:=(fun r:(List Int) × Int=>.tup [(fun l:List Int=>V.sl (l.map V.y8) false) r.1,V.i r.2])) H ?_;conv=>whnf
  exact ⟨_,.tup (.cons (.c (.slw)) (.cons (.c (.id rfl)) (.nil)))⟩
 conv=>whnf
 refine Ari.w ?_;conv=>whnf
 refine appD_c (f:=V.y8) H (fun _=>rfl) rfl rfl rfl rfl (srcText _) (by decide) rfl (fun l2 H=>?_) (fun l2 H=>?_)
 ·conv=>whnf
  refine finR_c (enc:=(fun r:(List Int) × Int=>.tup [(fun l:List Int=>V.sl (l.map V.y8) false) r.1,V.i r.2])) H ?_;conv=>whnf
  exact ⟨_,.tup (.cons (.c (fzown (f:=V.y8) (l:=l2) rfl rfl (fun _=>rfl) (fun _=>rfl))) (.cons (.c (.id rfl)) (.nil)))⟩
 conv=>whnf
 refine finR_c (enc:=(fun r:(List Int) × Int=>.tup [(fun l:List Int=>V.sl (l.map V.y8) false) r.1,V.i r.2])) H ?_;conv=>whnf
 exact ⟨_,.tup (.cons (.c (fzown (f:=V.y8) (l:=l2) rfl rfl (fun _=>rfl) (fun _=>rfl))) (.cons (.c (.id rfl)) (.nil)))⟩
end Go.Proofs.YtpkodpcfafipdaaGreatDoor

