/- A part of the proof: 1 texts joined. -/
import Derived.Test.YtmmmcpeickfolaaGreatZdA22
set_option linter.all false
namespace Go.Proofs.YtmmmcpeickfolaaGreat
open Go.RowKit
theorem bare_len {l:List UInt8} (h:isBareL l=true):l.length≤33∧0 < l.length:=by
 simp only [isBareL,Bool.and_eq_true,decide_eq_true_eq,beq_iff_eq] at h
 obtain ⟨h1,h2⟩:=h
 unfold bareT at h2
 rw [if_pos h1] at h2
 unfold parseL at h1 h2
 split at h1
 ·simp at h1
 ·rename_i hx
  rw [if_neg hx] at h2
  split at h1
  ·rename_i hc
   rw [if_pos hc] at h2
   simp only [textL] at h2
   unfold checkA at hc
   split at hc
   ·simp at hc
   ·rename_i hs
    simp only [Bool.or_eq_true,decide_eq_true_eq,not_or] at hs
    rw [← h2]
    simp
    omega
  ·rename_i hc
   exact absurd h1 hc
theorem check_parts {s:StzD} (h:checkS s=0):knownN s.kind.toNat=true∧extraL s=false∧rangeL s=true∧s.name.size≤24∧plainL s.name.data.toList=true∧(hasC s.kind 117=true→isBareL s.user.data.toList=true)∧resL s.res.data.toList=0:=by
 unfold checkS at h
 split at h
 ·cases h
 rename_i h1
 split at h
 ·cases h
 rename_i h2
 split at h
 ·cases h
 rename_i h3
 split at h
 ·cases h
 rename_i h4
 split at h
 ·cases h
 rename_i h5
 split at h
 ·cases h
 rename_i h6
 refine ⟨by simpa using h1,by simpa using h2,by simpa using h3,by omega,by simpa using h5,fun h7=>?_,h⟩
 simpa [h7] using h6
theorem res_len {l:List UInt8} (h:resL l=0):l.length≤12:=by
 unfold resL at h
 split at h
 ·cases h
 ·omega
theorem check_ok {s:StzD} (h:checkS s=0):∀ c ∈ hasN s.kind.toNat,okF s c:=by
 obtain ⟨_,_,h3,h4,_,h6,h7⟩:=check_parts h
 intro c hc
 simp only [rangeL,Bool.and_eq_true,decide_eq_true_eq] at h3
 have hr:=res_len h7
 rw [bl_len] at hr
 rcases hasN_in _ c hc with rfl | rfl | rfl | rfl | rfl | rfl | rfl
 ·have hb:=bare_len (h6 (by unfold hasC;rw [List.any_eq_true];exact ⟨117,hc,rfl⟩))
  rw [bl_len] at hb
  exact hb.1
 ·exact hr
 ·exact h4
 ·exact h3.1.1.1
 ·exact h3.1.1.2
 ·exact h3.1.2
 ·have h8:=h3.2
  show 0≤s.n∧s.n < 256 ^ 6
  rw [show ((256:Int) ^ 6)=281474976710656 by decide]
  omega
def putV (s:StzD):V:=if checkS s≠0 then .tup [.s ⟨#[]⟩,.i (checkS s)] else .tup [.s (ba (s.kind :: bodyB s (hasN s.kind.toNat))),.i 0]
attribute [local irreducible] AW Fin FinR seqQ blkQ regQ loopQ CallsV CallsS Callable
theorem each_p0 (s:StzD) (kb:UInt8) (hL:hasN s.kind.toNat=[]):CallsS Tryz.prog 94 [.ptr 0 0,.clo (.func 95) [.ptr 2 0],.clo (.func 97) [.ptr 2 0]] [.live (stzV s).cells 0,.live [byteV kb] 1,.live [.osl 1 0 1 1 true] 0,.fresh] (.tup [])
  [.live (stzV s).cells 0,.live [byteV kb] 1,.live [.osl 1 0 1 1 true] 0,.fresh]:=by
 have hc:=has_v s.kind
 rw [hL] at hc
 refine callsR_compN (n0:=3) mix Tryz.func94 ac94_ok (fun i hi=>match i,hi with | 3,_=>.inr rfl | i + 4,_=>.inl rfl) ?_
 unfold ac94
 simp only [List.length_cons,List.length_nil,List.replicate_succ,List.replicate_zero,List.cons_append,List.nil_append,Nat.reduceAdd,Nat.reduceSub]
 repeat' (first | ((try simp only [Nat.reduceAdd,Nat.reduceMul,Nat.zero_add,Nat.add_zero,Int.toNat_natCast,Int.reduceToNat,stzV,rdV]);refine hK' _ _ _ ?_;clear hK' K';first | refine q_regT ?_ | refine q_regD rfl ?_) | first | refine w_seq ?_ | refine q_seqN ?_ | (refine w_reg (by (try simp only [List.length_cons,List.length_nil,Nat.reduceAdd]);rfl) (by (try simp only [List.replicate_succ,List.replicate_zero,List.cons_append,List.nil_append,List.append_nil]);rfl) (fun K' hK'=>wpOps_ok ?_);conv=>whnf) | (refine w_condTst rfl ?_;(repeat refine Tst.not ?_);(first | refine Tst.T ?_ | refine Tst.F ?_ | refine Tst.decT (by assumption) ?_ | refine Tst.decF (by assumption) ?_ | refine Tst.eqT (by assumption) ?_ | refine Tst.eqF (by assumption) ?_ | refine Tst.neT (by assumption) ?_ | refine Tst.neF (by assumption) ?_ | refine Tst.isT (by assumption) ?_ | refine Tst.isF (by assumption) ?_ | refine Tst.dec (fun hb=>?_) (fun hb=>?_) | refine Tst.eqI (fun hb=>?_) (fun hb=>?_) | refine Tst.neI (fun hb=>?_) (fun hb=>?_) | refine Tst.not ?_ | refine Tst.any (fun hb=>?_) (fun hb=>?_)) <;> conv=>whnf) | refine w_ret ?_ | refine w_skip ?_ | refine w_blk ?_ | refine w_exit ?_ | refine q_seqR ?_ | refine q_seqE ?_ | refine q_blkN ?_ | refine q_blkR ?_ | refine q_blkH ?_ | refine q_blkE rfl ?_ | refine q_loopR ?_ | refine q_loopE ?_ | (refine Ask_V0 (hc) rfl rfl ?_;conv=>whnf) | first | (refine LenQ.ok ?_;conv=>whnf) | ((first | refine Tst.T ?_ | refine Tst.F ?_ | refine Tst.decT (by assumption) ?_ | refine Tst.decF (by assumption) ?_ | refine Tst.eqT (by assumption) ?_ | refine Tst.eqF (by assumption) ?_ | refine Tst.neT (by assumption) ?_ | refine Tst.neF (by assumption) ?_ | refine Tst.isT (by assumption) ?_ | refine Tst.isF (by assumption) ?_ | refine Tst.dec (fun hb=>?_) (fun hb=>?_) | refine Tst.eqI (fun hb=>?_) (fun hb=>?_) | refine Tst.neI (fun hb=>?_) (fun hb=>?_) | refine Tst.not ?_ | refine Tst.any (fun hb=>?_) (fun hb=>?_)) <;> conv=>whnf) | (refine Ari.ok (by omega) ?_;conv=>whnf) | (refine IxO.ok (by omega) (by omega) ?_;conv=>whnf) | (refine IxS.M (by omega) (by omega) (fun _=>rfl) ?_;conv=>whnf) | (refine ⟨Nat.le_of_ble_eq_true rfl,?_⟩;conv=>whnf) | (refine ⟨rfl,?_⟩;conv=>whnf) | (refine Cat.ok (by omega) ?_;conv=>whnf))
 refine w_unr' 1 ?_
 repeat' (first | ((try simp only [Nat.reduceAdd,Nat.reduceMul,Nat.zero_add,Nat.add_zero,Int.toNat_natCast,Int.reduceToNat,stzV,rdV]);refine hK' _ _ _ ?_;clear hK' K';first | refine q_regT ?_ | refine q_regD rfl ?_) | first | refine w_seq ?_ | refine q_seqN ?_ | (refine w_reg (by (try simp only [List.length_cons,List.length_nil,Nat.reduceAdd]);rfl) (by (try simp only [List.replicate_succ,List.replicate_zero,List.cons_append,List.nil_append,List.append_nil]);rfl) (fun K' hK'=>wpOps_ok ?_);conv=>whnf) | (refine w_condTst rfl ?_;(repeat refine Tst.not ?_);(first | refine Tst.T ?_ | refine Tst.F ?_ | refine Tst.decT (by assumption) ?_ | refine Tst.decF (by assumption) ?_ | refine Tst.eqT (by assumption) ?_ | refine Tst.eqF (by assumption) ?_ | refine Tst.neT (by assumption) ?_ | refine Tst.neF (by assumption) ?_ | refine Tst.isT (by assumption) ?_ | refine Tst.isF (by assumption) ?_ | refine Tst.dec (fun hb=>?_) (fun hb=>?_) | refine Tst.eqI (fun hb=>?_) (fun hb=>?_) | refine Tst.neI (fun hb=>?_) (fun hb=>?_) | refine Tst.not ?_ | refine Tst.any (fun hb=>?_) (fun hb=>?_)) <;> conv=>whnf) | refine w_ret ?_ | refine w_skip ?_ | refine w_blk ?_ | refine w_exit ?_ | refine q_seqR ?_ | refine q_seqE ?_ | refine q_blkN ?_ | refine q_blkR ?_ | refine q_blkH ?_ | refine q_blkE rfl ?_ | refine q_loopR ?_ | refine q_loopE ?_ | fail | first | (refine LenQ.ok ?_;conv=>whnf) | ((first | refine Tst.T ?_ | refine Tst.F ?_ | refine Tst.decT (by assumption) ?_ | refine Tst.decF (by assumption) ?_ | refine Tst.eqT (by assumption) ?_ | refine Tst.eqF (by assumption) ?_ | refine Tst.neT (by assumption) ?_ | refine Tst.neF (by assumption) ?_ | refine Tst.isT (by assumption) ?_ | refine Tst.isF (by assumption) ?_ | refine Tst.dec (fun hb=>?_) (fun hb=>?_) | refine Tst.eqI (fun hb=>?_) (fun hb=>?_) | refine Tst.neI (fun hb=>?_) (fun hb=>?_) | refine Tst.not ?_ | refine Tst.any (fun hb=>?_) (fun hb=>?_)) <;> conv=>whnf) | (refine Ari.ok (by omega) ?_;conv=>whnf) | (refine IxO.ok (by omega) (by omega) ?_;conv=>whnf) | (refine IxS.M (by omega) (by omega) (fun _=>rfl) ?_;conv=>whnf) | (refine ⟨Nat.le_of_ble_eq_true rfl,?_⟩;conv=>whnf) | (refine ⟨rfl,?_⟩;conv=>whnf) | (refine Cat.ok (by omega) ?_;conv=>whnf))
 all_goals first
  | exact f_R0 (by simp) .nil rfl rfl rfl rfl (by repeat' (first | exact trivial | refine wkS_f ?_ | refine wkS_d ?_ | refine ⟨rfl,?_⟩ | refine wkS_live0 (by assumption) ?_))
  | skip
 all_goals (refine q_unrE ?_;repeat' (first | ((try simp only [Nat.reduceAdd,Nat.reduceMul,Nat.zero_add,Nat.add_zero,Int.toNat_natCast,Int.reduceToNat,stzV,rdV]);refine hK' _ _ _ ?_;clear hK' K';first | refine q_regT ?_ | refine q_regD rfl ?_) | first | refine w_seq ?_ | refine q_seqN ?_ | (refine w_reg (by (try simp only [List.length_cons,List.length_nil,Nat.reduceAdd]);rfl) (by (try simp only [List.replicate_succ,List.replicate_zero,List.cons_append,List.nil_append,List.append_nil]);rfl) (fun K' hK'=>wpOps_ok ?_);conv=>whnf) | (refine w_condTst rfl ?_;(repeat refine Tst.not ?_);(first | refine Tst.T ?_ | refine Tst.F ?_ | refine Tst.decT (by assumption) ?_ | refine Tst.decF (by assumption) ?_ | refine Tst.eqT (by assumption) ?_ | refine Tst.eqF (by assumption) ?_ | refine Tst.neT (by assumption) ?_ | refine Tst.neF (by assumption) ?_ | refine Tst.isT (by assumption) ?_ | refine Tst.isF (by assumption) ?_ | refine Tst.dec (fun hb=>?_) (fun hb=>?_) | refine Tst.eqI (fun hb=>?_) (fun hb=>?_) | refine Tst.neI (fun hb=>?_) (fun hb=>?_) | refine Tst.not ?_ | refine Tst.any (fun hb=>?_) (fun hb=>?_)) <;> conv=>whnf) | refine w_ret ?_ | refine w_skip ?_ | refine w_blk ?_ | refine w_exit ?_ | refine q_seqR ?_ | refine q_seqE ?_ | refine q_blkN ?_ | refine q_blkR ?_ | refine q_blkH ?_ | refine q_blkE rfl ?_ | refine q_loopR ?_ | refine q_loopE ?_ | fail | first | (refine LenQ.ok ?_;conv=>whnf) | ((first | refine Tst.T ?_ | refine Tst.F ?_ | refine Tst.decT (by assumption) ?_ | refine Tst.decF (by assumption) ?_ | refine Tst.eqT (by assumption) ?_ | refine Tst.eqF (by assumption) ?_ | refine Tst.neT (by assumption) ?_ | refine Tst.neF (by assumption) ?_ | refine Tst.isT (by assumption) ?_ | refine Tst.isF (by assumption) ?_ | refine Tst.dec (fun hb=>?_) (fun hb=>?_) | refine Tst.eqI (fun hb=>?_) (fun hb=>?_) | refine Tst.neI (fun hb=>?_) (fun hb=>?_) | refine Tst.not ?_ | refine Tst.any (fun hb=>?_) (fun hb=>?_)) <;> conv=>whnf) | (refine Ari.ok (by omega) ?_;conv=>whnf) | (refine IxO.ok (by omega) (by omega) ?_;conv=>whnf) | (refine IxS.M (by omega) (by omega) (fun _=>rfl) ?_;conv=>whnf) | (refine ⟨Nat.le_of_ble_eq_true rfl,?_⟩;conv=>whnf) | (refine ⟨rfl,?_⟩;conv=>whnf) | (refine Cat.ok (by omega) ?_;conv=>whnf)))
 all_goals exact f_R0 (by simp) .nil rfl rfl rfl rfl (by repeat' (first | exact trivial | refine wkS_f ?_ | refine wkS_d ?_ | refine ⟨rfl,?_⟩ | refine wkS_live0 (by assumption) ?_))
theorem put_v (s:StzD) (hu:s.user.size≤100000) (hr:s.res.size≤100000) (hn:s.name.size≤100000):CallsV Tryz.prog 49 [stzV s] (putV s):=by
 have hc:=stzCheck_v s hu hr hn
 refine callsV_comp mix Tryz.func49 ac49_ok ?_
 unfold ac49
 simp only [List.length_cons,List.length_nil,List.replicate_succ,List.replicate_zero,List.cons_append,List.nil_append,Nat.reduceAdd,Nat.reduceSub]
 by_cases h0:checkS s=0
 ·have e:putV s=.tup [.s (ba (s.kind :: bodyB s (hasN s.kind.toNat))),.i 0]:=if_neg (by simpa using h0)
  rw [e]
  rw [h0] at hc
  by_cases hL:hasN s.kind.toNat=[]
  ·have h1:=each_p0 s s.kind hL
   rw [hL]
   repeat' (first | (refine w_regX (ops:=⟨some 14,.mf _ _,none,0⟩ :: _) 1 .refl (by (try simp only [List.length_cons,List.length_nil,Nat.reduceAdd]);rfl) (by (try simp only [List.replicate_succ,List.replicate_zero,List.cons_append,List.nil_append,List.append_nil,Nat.reduceAdd]);rfl) (fun K' hK'=>wpOps_ok ?_);conv=>whnf) | ((try simp only [Nat.reduceAdd,Nat.reduceMul,Nat.zero_add,Nat.add_zero,Int.toNat_natCast,Int.reduceToNat,stzV,rdV]);refine hK' _ _ _ ?_;clear hK' K';first | refine q_regT ?_ | refine q_regD rfl ?_) | first | refine w_seq ?_ | refine q_seqN ?_ | (refine w_reg (by (try simp only [List.length_cons,List.length_nil,Nat.reduceAdd]);rfl) (by (try simp only [List.replicate_succ,List.replicate_zero,List.cons_append,List.nil_append,List.append_nil]);rfl) (fun K' hK'=>wpOps_ok ?_);conv=>whnf) | (refine w_condTst rfl ?_;(repeat refine Tst.not ?_);(first | refine Tst.T ?_ | refine Tst.F ?_ | refine Tst.decT (by assumption) ?_ | refine Tst.decF (by assumption) ?_ | refine Tst.eqT (by assumption) ?_ | refine Tst.eqF (by assumption) ?_ | refine Tst.neT (by assumption) ?_ | refine Tst.neF (by assumption) ?_ | refine Tst.isT (by assumption) ?_ | refine Tst.isF (by assumption) ?_ | refine Tst.dec (fun hb=>?_) (fun hb=>?_) | refine Tst.eqI (fun hb=>?_) (fun hb=>?_) | refine Tst.neI (fun hb=>?_) (fun hb=>?_) | refine Tst.not ?_ | refine Tst.any (fun hb=>?_) (fun hb=>?_)) <;> conv=>whnf) | refine w_ret ?_ | refine w_skip ?_ | refine w_blk ?_ | refine w_exit ?_ | refine q_seqR ?_ | refine q_seqE ?_ | refine q_blkN ?_ | refine q_blkR ?_ | refine q_blkH ?_ | refine q_blkE rfl ?_ | refine q_loopR ?_ | refine q_loopE ?_ | (refine Ask_V0 (hc) rfl rfl ?_;conv=>whnf) | (refine Ask_S h1 rfl ?_;conv=>whnf) | (refine B2S.O (l:=[s.kind]) rfl rfl rfl ?_;conv=>whnf) | first | (refine LenQ.ok ?_;conv=>whnf) | ((first | refine Tst.T ?_ | refine Tst.F ?_ | refine Tst.decT (by assumption) ?_ | refine Tst.decF (by assumption) ?_ | refine Tst.eqT (by assumption) ?_ | refine Tst.eqF (by assumption) ?_ | refine Tst.neT (by assumption) ?_ | refine Tst.neF (by assumption) ?_ | refine Tst.isT (by assumption) ?_ | refine Tst.isF (by assumption) ?_ | refine Tst.dec (fun hb=>?_) (fun hb=>?_) | refine Tst.eqI (fun hb=>?_) (fun hb=>?_) | refine Tst.neI (fun hb=>?_) (fun hb=>?_) | refine Tst.not ?_ | refine Tst.any (fun hb=>?_) (fun hb=>?_)) <;> conv=>whnf) | (refine Ari.ok (by omega) ?_;conv=>whnf) | (refine IxO.ok (by omega) (by omega) ?_;conv=>whnf) | (refine IxS.M (by omega) (by omega) (fun _=>rfl) ?_;conv=>whnf) | (refine ⟨Nat.le_of_ble_eq_true rfl,?_⟩;conv=>whnf) | (refine ⟨rfl,?_⟩;conv=>whnf) | (refine Cat.ok (by omega) ?_;conv=>whnf))
   exact f_res (by simp) (ResL.cons (ResOne.tmp rfl) (ResL.cons (ResOne.tmp rfl) ResL.nil)) rfl rfl
  ·have h1:=each_p s s.kind _ rfl hL (check_ok h0)
   repeat' (first | (refine w_regX (ops:=⟨some 14,.mf _ _,none,0⟩ :: _) 1 .refl (by (try simp only [List.length_cons,List.length_nil,Nat.reduceAdd]);rfl) (by (try simp only [List.replicate_succ,List.replicate_zero,List.cons_append,List.nil_append,List.append_nil,Nat.reduceAdd]);rfl) (fun K' hK'=>wpOps_ok ?_);conv=>whnf) | ((try simp only [Nat.reduceAdd,Nat.reduceMul,Nat.zero_add,Nat.add_zero,Int.toNat_natCast,Int.reduceToNat,stzV,rdV]);refine hK' _ _ _ ?_;clear hK' K';first | refine q_regT ?_ | refine q_regD rfl ?_) | first | refine w_seq ?_ | refine q_seqN ?_ | (refine w_reg (by (try simp only [List.length_cons,List.length_nil,Nat.reduceAdd]);rfl) (by (try simp only [List.replicate_succ,List.replicate_zero,List.cons_append,List.nil_append,List.append_nil]);rfl) (fun K' hK'=>wpOps_ok ?_);conv=>whnf) | (refine w_condTst rfl ?_;(repeat refine Tst.not ?_);(first | refine Tst.T ?_ | refine Tst.F ?_ | refine Tst.decT (by assumption) ?_ | refine Tst.decF (by assumption) ?_ | refine Tst.eqT (by assumption) ?_ | refine Tst.eqF (by assumption) ?_ | refine Tst.neT (by assumption) ?_ | refine Tst.neF (by assumption) ?_ | refine Tst.isT (by assumption) ?_ | refine Tst.isF (by assumption) ?_ | refine Tst.dec (fun hb=>?_) (fun hb=>?_) | refine Tst.eqI (fun hb=>?_) (fun hb=>?_) | refine Tst.neI (fun hb=>?_) (fun hb=>?_) | refine Tst.not ?_ | refine Tst.any (fun hb=>?_) (fun hb=>?_)) <;> conv=>whnf) | refine w_ret ?_ | refine w_skip ?_ | refine w_blk ?_ | refine w_exit ?_ | refine q_seqR ?_ | refine q_seqE ?_ | refine q_blkN ?_ | refine q_blkR ?_ | refine q_blkH ?_ | refine q_blkE rfl ?_ | refine q_loopR ?_ | refine q_loopE ?_ | (refine Ask_V0 (hc) rfl rfl ?_;conv=>whnf) | (refine Ask_S h1 rfl ?_;conv=>whnf) | (refine B2S.O (l:=s.kind :: bodyB s (hasN s.kind.toNat)) rfl rfl rfl ?_;conv=>whnf) | first | (refine LenQ.ok ?_;conv=>whnf) | ((first | refine Tst.T ?_ | refine Tst.F ?_ | refine Tst.decT (by assumption) ?_ | refine Tst.decF (by assumption) ?_ | refine Tst.eqT (by assumption) ?_ | refine Tst.eqF (by assumption) ?_ | refine Tst.neT (by assumption) ?_ | refine Tst.neF (by assumption) ?_ | refine Tst.isT (by assumption) ?_ | refine Tst.isF (by assumption) ?_ | refine Tst.dec (fun hb=>?_) (fun hb=>?_) | refine Tst.eqI (fun hb=>?_) (fun hb=>?_) | refine Tst.neI (fun hb=>?_) (fun hb=>?_) | refine Tst.not ?_ | refine Tst.any (fun hb=>?_) (fun hb=>?_)) <;> conv=>whnf) | (refine Ari.ok (by omega) ?_;conv=>whnf) | (refine IxO.ok (by omega) (by omega) ?_;conv=>whnf) | (refine IxS.M (by omega) (by omega) (fun _=>rfl) ?_;conv=>whnf) | (refine ⟨Nat.le_of_ble_eq_true rfl,?_⟩;conv=>whnf) | (refine ⟨rfl,?_⟩;conv=>whnf) | (refine Cat.ok (by omega) ?_;conv=>whnf))
   exact f_res (by simp) (ResL.cons (ResOne.tmp rfl) (ResL.cons (ResOne.tmp rfl) ResL.nil)) rfl rfl
 ·have e:putV s=.tup [.s ⟨#[]⟩,.i (checkS s)]:=if_pos h0
  rw [e]
  repeat' (first | ((try simp only [Nat.reduceAdd,Nat.reduceMul,Nat.zero_add,Nat.add_zero,Int.toNat_natCast,Int.reduceToNat,stzV,rdV]);refine hK' _ _ _ ?_;clear hK' K';first | refine q_regT ?_ | refine q_regD rfl ?_) | first | refine w_seq ?_ | refine q_seqN ?_ | (refine w_reg (by (try simp only [List.length_cons,List.length_nil,Nat.reduceAdd]);rfl) (by (try simp only [List.replicate_succ,List.replicate_zero,List.cons_append,List.nil_append,List.append_nil]);rfl) (fun K' hK'=>wpOps_ok ?_);conv=>whnf) | (refine w_condTst rfl ?_;(repeat refine Tst.not ?_);(first | refine Tst.T ?_ | refine Tst.F ?_ | refine Tst.decT (by assumption) ?_ | refine Tst.decF (by assumption) ?_ | refine Tst.eqT (by assumption) ?_ | refine Tst.eqF (by assumption) ?_ | refine Tst.neT (by assumption) ?_ | refine Tst.neF (by assumption) ?_ | refine Tst.isT (by assumption) ?_ | refine Tst.isF (by assumption) ?_ | refine Tst.dec (fun hb=>?_) (fun hb=>?_) | refine Tst.eqI (fun hb=>?_) (fun hb=>?_) | refine Tst.neI (fun hb=>?_) (fun hb=>?_) | refine Tst.not ?_ | refine Tst.any (fun hb=>?_) (fun hb=>?_)) <;> conv=>whnf) | refine w_ret ?_ | refine w_skip ?_ | refine w_blk ?_ | refine w_exit ?_ | refine q_seqR ?_ | refine q_seqE ?_ | refine q_blkN ?_ | refine q_blkR ?_ | refine q_blkH ?_ | refine q_blkE rfl ?_ | refine q_loopR ?_ | refine q_loopE ?_ | (refine Ask_V0 (hc) rfl rfl ?_;conv=>whnf) | first | (refine LenQ.ok ?_;conv=>whnf) | ((first | refine Tst.T ?_ | refine Tst.F ?_ | refine Tst.decT (by assumption) ?_ | refine Tst.decF (by assumption) ?_ | refine Tst.eqT (by assumption) ?_ | refine Tst.eqF (by assumption) ?_ | refine Tst.neT (by assumption) ?_ | refine Tst.neF (by assumption) ?_ | refine Tst.isT (by assumption) ?_ | refine Tst.isF (by assumption) ?_ | refine Tst.dec (fun hb=>?_) (fun hb=>?_) | refine Tst.eqI (fun hb=>?_) (fun hb=>?_) | refine Tst.neI (fun hb=>?_) (fun hb=>?_) | refine Tst.not ?_ | refine Tst.any (fun hb=>?_) (fun hb=>?_)) <;> conv=>whnf) | (refine Ari.ok (by omega) ?_;conv=>whnf) | (refine IxO.ok (by omega) (by omega) ?_;conv=>whnf) | (refine IxS.M (by omega) (by omega) (fun _=>rfl) ?_;conv=>whnf) | (refine ⟨Nat.le_of_ble_eq_true rfl,?_⟩;conv=>whnf) | (refine ⟨rfl,?_⟩;conv=>whnf) | (refine Cat.ok (by omega) ?_;conv=>whnf))
  all_goals first
   | exact absurd hb h0
   | exact f_res (by simp) (ResL.cons (ResOne.tmp rfl) (ResL.cons (ResOne.tmp rfl) ResL.nil)) rfl rfl
end Go.Proofs.YtmmmcpeickfolaaGreat

