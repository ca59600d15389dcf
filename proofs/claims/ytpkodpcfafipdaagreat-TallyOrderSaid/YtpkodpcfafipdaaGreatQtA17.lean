/- A part of the proof: 21 texts joined. -/
import Derived.Test.YtpkodpcfafipdaaGreatQtA16
import Derived.Test.YtpkodpcfafipdaaGreatQtA14
import Derived.Shelf.Strings.Builder1
import Derived.Test.YtpkodpcfafipdaaGreatProg
import Derived.KernelRfl
import Derived.Test.YtpkodpcfafipdaaGreatQtA12
import Derived.Test.YtpkodpcfafipdaaGreatQtA13
import Derived.Shelf.Spec.SlicesInsertGrow
import Derived.Test.YtpkodpcfafipdaaGreatQtA11
import Derived.Laws.LoneSync
import Derived.Conc.MuLone
set_option linter.all false
namespace Go.Proofs.YtpkodpcfafipdaaGreat
open Go.RowKit
theorem bare_len {l:List UInt8} (h:isBareL l=true):l.length≤33∧0 < l.length:=by
 simp only [isBareL,Bool.and_eq_true,decide_eq_true_eq,beq_iff_eq] at h
 obtain ⟨h1,h2⟩:=h
 unfold bareT at h2
 rw [if_pos h1] at h2
 unfold parseL at h1 h2
 split at h1
 ·simp at h1
 ·rename_i hx
  rw [if_neg hx] at h2
  split at h1
  ·rename_i hc
   rw [if_pos hc] at h2
   simp only [textL] at h2
   unfold checkA at hc
   split at hc
   ·simp at hc
   ·rename_i hs
    simp only [Bool.or_eq_true,decide_eq_true_eq,not_or] at hs
    rw [← h2]
    simp
    omega
  ·rename_i hc
   exact absurd h1 hc
theorem check_parts {s:StzD} (h:checkS s=0):knownN s.kind.toNat=true∧extraL s=false∧rangeL s=true∧s.name.size≤24∧plainL s.name.data.toList=true∧(hasC s.kind 117=true→isBareL s.user.data.toList=true)∧resL s.res.data.toList=0:=by
 unfold checkS at h
 split at h
 ·cases h
 rename_i h1
 split at h
 ·cases h
 rename_i h2
 split at h
 ·cases h
 rename_i h3
 split at h
 ·cases h
 rename_i h4
 split at h
 ·cases h
 rename_i h5
 split at h
 ·cases h
 rename_i h6
 refine ⟨by simpa using h1,by simpa using h2,by simpa using h3,by omega,by simpa using h5,fun h7=>?_,h⟩
 simpa [h7] using h6
theorem res_len {l:List UInt8} (h:resL l=0):l.length≤12:=by
 unfold resL at h
 split at h
 ·cases h
 ·omega
theorem check_ok {s:StzD} (h:checkS s=0):∀ c ∈ hasN s.kind.toNat,okF s c:=by
 obtain ⟨_,_,h3,h4,_,h6,h7⟩:=check_parts h
 intro c hc
 simp only [rangeL,Bool.and_eq_true,decide_eq_true_eq] at h3
 have hr:=res_len h7
 rw [bl_len] at hr
 rcases hasN_in _ c hc with rfl | rfl | rfl | rfl | rfl | rfl | rfl
 ·have hb:=bare_len (h6 (by unfold hasC;rw [List.any_eq_true];exact ⟨117,hc,rfl⟩))
  rw [bl_len] at hb
  exact hb.1
 ·exact hr
 ·exact h4
 ·exact h3.1.1.1
 ·exact h3.1.1.2
 ·exact h3.1.2
 ·have h8:=h3.2
  show 0≤s.n∧s.n < 256 ^ 6
  rw [show ((256:Int) ^ 6)=281474976710656 by decide]
  omega
def putV (s:StzD):V:=if checkS s≠0 then .tup [.s ⟨#[]⟩,.i (checkS s)] else .tup [.s (ba (s.kind :: bodyB s (hasN s.kind.toNat))),.i 0]
attribute [local irreducible] AW Fin FinR seqQ blkQ regQ loopQ CallsV CallsS Callable
theorem each_p0 (s:StzD) (kb:UInt8) (hL:hasN s.kind.toNat=[]):CallsS Tryz.prog 45 [.ptr 0 0,.clo (.func 46) [.ptr 2 0],.clo (.func 48) [.ptr 2 0]] [.live (stzV s).cells 0,.live [byteV kb] 1,.live [.osl 1 0 1 1 true] 0,.fresh] (.tup [])
  [.live (stzV s).cells 0,.live [byteV kb] 1,.live [.osl 1 0 1 1 true] 0,.fresh]:=by
 have hc:=has_v s.kind
 rw [hL] at hc
 refine callsR_compN (n0:=3) mix Tryz.func45 ac45_ok (fun i hi=>match i,hi with | 3,_=>.inr rfl | i + 4,_=>.inl rfl) ?_
 unfold ac45
 simp only [List.length_cons,List.length_nil,List.replicate_succ,List.replicate_zero,List.cons_append,List.nil_append,Nat.reduceAdd,Nat.reduceSub]
 repeat' (first | ((try simp only [Nat.reduceAdd,Nat.reduceMul,Nat.zero_add,Nat.add_zero,Int.toNat_natCast,Int.reduceToNat,stzV,rdV]);refine hK' _ _ _ ?_;clear hK' K';first | refine q_regT ?_ | refine q_regD rfl ?_) | first | refine w_seq ?_ | refine q_seqN ?_ | (refine w_reg (by (try simp only [List.length_cons,List.length_nil,Nat.reduceAdd]);rfl) (by (try simp only [List.replicate_succ,List.replicate_zero,List.cons_append,List.nil_append,List.append_nil]);rfl) (fun K' hK'=>wpOps_ok ?_);conv=>whnf) | (refine w_condTst rfl ?_;(repeat refine Tst.not ?_);(first | refine Tst.T ?_ | refine Tst.F ?_ | refine Tst.decT (by assumption) ?_ | refine Tst.decF (by assumption) ?_ | refine Tst.eqT (by assumption) ?_ | refine Tst.eqF (by assumption) ?_ | refine Tst.neT (by assumption) ?_ | refine Tst.neF (by assumption) ?_ | refine Tst.isT (by assumption) ?_ | refine Tst.isF (by assumption) ?_ | refine Tst.dec (fun hb=>?_) (fun hb=>?_) | refine Tst.eqI (fun hb=>?_) (fun hb=>?_) | refine Tst.neI (fun hb=>?_) (fun hb=>?_) | refine Tst.not ?_ | refine Tst.any (fun hb=>?_) (fun hb=>?_)) <;> conv=>whnf) | refine w_ret ?_ | refine w_skip ?_ | refine w_blk ?_ | refine w_exit ?_ | refine q_seqR ?_ | refine q_seqE ?_ | refine q_blkN ?_ | refine q_blkR ?_ | refine q_blkH ?_ | refine q_blkE rfl ?_ | refine q_loopR ?_ | refine q_loopE ?_ | (refine Ask_V0 (hc) rfl rfl ?_;conv=>whnf) | first | (refine LenQ.ok ?_;conv=>whnf) | ((first | refine Tst.T ?_ | refine Tst.F ?_ | refine Tst.decT (by assumption) ?_ | refine Tst.decF (by assumption) ?_ | refine Tst.eqT (by assumption) ?_ | refine Tst.eqF (by assumption) ?_ | refine Tst.neT (by assumption) ?_ | refine Tst.neF (by assumption) ?_ | refine Tst.isT (by assumption) ?_ | refine Tst.isF (by assumption) ?_ | refine Tst.dec (fun hb=>?_) (fun hb=>?_) | refine Tst.eqI (fun hb=>?_) (fun hb=>?_) | refine Tst.neI (fun hb=>?_) (fun hb=>?_) | refine Tst.not ?_ | refine Tst.any (fun hb=>?_) (fun hb=>?_)) <;> conv=>whnf) | (refine Ari.ok (by omega) ?_;conv=>whnf) | (refine IxO.ok (by omega) (by omega) ?_;conv=>whnf) | (refine IxS.M (by omega) (by omega) (fun _=>rfl) ?_;conv=>whnf) | (refine ⟨Nat.le_of_ble_eq_true rfl,?_⟩;conv=>whnf) | (refine ⟨rfl,?_⟩;conv=>whnf) | (refine Cat.ok (by omega) ?_;conv=>whnf))
 refine w_unr' 1 ?_
 repeat' (first | ((try simp only [Nat.reduceAdd,Nat.reduceMul,Nat.zero_add,Nat.add_zero,Int.toNat_natCast,Int.reduceToNat,stzV,rdV]);refine hK' _ _ _ ?_;clear hK' K';first | refine q_regT ?_ | refine q_regD rfl ?_) | first | refine w_seq ?_ | refine q_seqN ?_ | (refine w_reg (by (try simp only [List.length_cons,List.length_nil,Nat.reduceAdd]);rfl) (by (try simp only [List.replicate_succ,List.replicate_zero,List.cons_append,List.nil_append,List.append_nil]);rfl) (fun K' hK'=>wpOps_ok ?_);conv=>whnf) | (refine w_condTst rfl ?_;(repeat refine Tst.not ?_);(first | refine Tst.T ?_ | refine Tst.F ?_ | refine Tst.decT (by assumption) ?_ | refine Tst.decF (by assumption) ?_ | refine Tst.eqT (by assumption) ?_ | refine Tst.eqF (by assumption) ?_ | refine Tst.neT (by assumption) ?_ | refine Tst.neF (by assumption) ?_ | refine Tst.isT (by assumption) ?_ | refine Tst.isF (by assumption) ?_ | refine Tst.dec (fun hb=>?_) (fun hb=>?_) | refine Tst.eqI (fun hb=>?_) (fun hb=>?_) | refine Tst.neI (fun hb=>?_) (fun hb=>?_) | refine Tst.not ?_ | refine Tst.any (fun hb=>?_) (fun hb=>?_)) <;> conv=>whnf) | refine w_ret ?_ | refine w_skip ?_ | refine w_blk ?_ | refine w_exit ?_ | refine q_seqR ?_ | refine q_seqE ?_ | refine q_blkN ?_ | refine q_blkR ?_ | refine q_blkH ?_ | refine q_blkE rfl ?_ | refine q_loopR ?_ | refine q_loopE ?_ | fail | first | (refine LenQ.ok ?_;conv=>whnf) | ((first | refine Tst.T ?_ | refine Tst.F ?_ | refine Tst.decT (by assumption) ?_ | refine Tst.decF (by assumption) ?_ | refine Tst.eqT (by assumption) ?_ | refine Tst.eqF (by assumption) ?_ | refine Tst.neT (by assumption) ?_ | refine Tst.neF (by assumption) ?_ | refine Tst.isT (by assumption) ?_ | refine Tst.isF (by assumption) ?_ | refine Tst.dec (fun hb=>?_) (fun hb=>?_) | refine Tst.eqI (fun hb=>?_) (fun hb=>?_) | refine Tst.neI (fun hb=>?_) (fun hb=>?_) | refine Tst.not ?_ | refine Tst.any (fun hb=>?_) (fun hb=>?_)) <;> conv=>whnf) | (refine Ari.ok (by omega) ?_;conv=>whnf) | (refine IxO.ok (by omega) (by omega) ?_;conv=>whnf) | (refine IxS.M (by omega) (by omega) (fun _=>rfl) ?_;conv=>whnf) | (refine ⟨Nat.le_of_ble_eq_true rfl,?_⟩;conv=>whnf) | (refine ⟨rfl,?_⟩;conv=>whnf) | (refine Cat.ok (by omega) ?_;conv=>whnf))
 all_goals first
  | exact f_R0 (by simp) .nil rfl rfl rfl rfl (by repeat' (first | exact trivial | refine wkS_f ?_ | refine wkS_d ?_ | refine ⟨rfl,?_⟩ | refine wkS_live0 (by assumption) ?_))
  | skip
 all_goals (refine q_unrE ?_;repeat' (first | ((try simp only [Nat.reduceAdd,Nat.reduceMul,Nat.zero_add,Nat.add_zero,Int.toNat_natCast,Int.reduceToNat,stzV,rdV]);refine hK' _ _ _ ?_;clear hK' K';first | refine q_regT ?_ | refine q_regD rfl ?_) | first | refine w_seq ?_ | refine q_seqN ?_ | (refine w_reg (by (try simp only [List.length_cons,List.length_nil,Nat.reduceAdd]);rfl) (by (try simp only [List.replicate_succ,List.replicate_zero,List.cons_append,List.nil_append,List.append_nil]);rfl) (fun K' hK'=>wpOps_ok ?_);conv=>whnf) | (refine w_condTst rfl ?_;(repeat refine Tst.not ?_);(first | refine Tst.T ?_ | refine Tst.F ?_ | refine Tst.decT (by assumption) ?_ | refine Tst.decF (by assumption) ?_ | refine Tst.eqT (by assumption) ?_ | refine Tst.eqF (by assumption) ?_ | refine Tst.neT (by assumption) ?_ | refine Tst.neF (by assumption) ?_ | refine Tst.isT (by assumption) ?_ | refine Tst.isF (by assumption) ?_ | refine Tst.dec (fun hb=>?_) (fun hb=>?_) | refine Tst.eqI (fun hb=>?_) (fun hb=>?_) | refine Tst.neI (fun hb=>?_) (fun hb=>?_) | refine Tst.not ?_ | refine Tst.any (fun hb=>?_) (fun hb=>?_)) <;> conv=>whnf) | refine w_ret ?_ | refine w_skip ?_ | refine w_blk ?_ | refine w_exit ?_ | refine q_seqR ?_ | refine q_seqE ?_ | refine q_blkN ?_ | refine q_blkR ?_ | refine q_blkH ?_ | refine q_blkE rfl ?_ | refine q_loopR ?_ | refine q_loopE ?_ | fail | first | (refine LenQ.ok ?_;conv=>whnf) | ((first | refine Tst.T ?_ | refine Tst.F ?_ | refine Tst.decT (by assumption) ?_ | refine Tst.decF (by assumption) ?_ | refine Tst.eqT (by assumption) ?_ | refine Tst.eqF (by assumption) ?_ | refine Tst.neT (by assumption) ?_ | refine Tst.neF (by assumption) ?_ | refine Tst.isT (by assumption) ?_ | refine Tst.isF (by assumption) ?_ | refine Tst.dec (fun hb=>?_) (fun hb=>?_) | refine Tst.eqI (fun hb=>?_) (fun hb=>?_) | refine Tst.neI (fun hb=>?_) (fun hb=>?_) | refine Tst.not ?_ | refine Tst.any (fun hb=>?_) (fun hb=>?_)) <;> conv=>whnf) | (refine Ari.ok (by omega) ?_;conv=>whnf) | (refine IxO.ok (by omega) (by omega) ?_;conv=>whnf) | (refine IxS.M (by omega) (by omega) (fun _=>rfl) ?_;conv=>whnf) | (refine ⟨Nat.le_of_ble_eq_true rfl,?_⟩;conv=>whnf) | (refine ⟨rfl,?_⟩;conv=>whnf) | (refine Cat.ok (by omega) ?_;conv=>whnf)))
 all_goals exact f_R0 (by simp) .nil rfl rfl rfl rfl (by repeat' (first | exact trivial | refine wkS_f ?_ | refine wkS_d ?_ | refine ⟨rfl,?_⟩ | refine wkS_live0 (by assumption) ?_))
theorem put_v (s:StzD) (hu:s.user.size≤100000) (hr:s.res.size≤100000) (hn:s.name.size≤100000):CallsV Tryz.prog 26 [stzV s] (putV s):=by
 have hc:=stzCheck_v s hu hr hn
 refine callsV_comp mix Tryz.func26 ac26_ok ?_
 unfold ac26
 simp only [List.length_cons,List.length_nil,List.replicate_succ,List.replicate_zero,List.cons_append,List.nil_append,Nat.reduceAdd,Nat.reduceSub]
 by_cases h0:checkS s=0
 ·have e:putV s=.tup [.s (ba (s.kind :: bodyB s (hasN s.kind.toNat))),.i 0]:=if_neg (by simpa using h0)
  rw [e]
  rw [h0] at hc
  by_cases hL:hasN s.kind.toNat=[]
  ·have h1:=each_p0 s s.kind hL
   rw [hL]
   repeat' (first | (refine w_regX (ops:=⟨some 14,.mf _ _,none,0⟩ :: _) 1 .refl (by (try simp only [List.length_cons,List.length_nil,Nat.reduceAdd]);rfl) (by (try simp only [List.replicate_succ,List.replicate_zero,List.cons_append,List.nil_append,List.append_nil,Nat.reduceAdd]);rfl) (fun K' hK'=>wpOps_ok ?_);conv=>whnf) | ((try simp only [Nat.reduceAdd,Nat.reduceMul,Nat.zero_add,Nat.add_zero,Int.toNat_natCast,Int.reduceToNat,stzV,rdV]);refine hK' _ _ _ ?_;clear hK' K';first | refine q_regT ?_ | refine q_regD rfl ?_) | first | refine w_seq ?_ | refine q_seqN ?_ | (refine w_reg (by (try simp only [List.length_cons,List.length_nil,Nat.reduceAdd]);rfl) (by (try simp only [List.replicate_succ,List.replicate_zero,List.cons_append,List.nil_append,List.append_nil]);rfl) (fun K' hK'=>wpOps_ok ?_);conv=>whnf) | (refine w_condTst rfl ?_;(repeat refine Tst.not ?_);(first | refine Tst.T ?_ | refine Tst.F ?_ | refine Tst.decT (by assumption) ?_ | refine Tst.decF (by assumption) ?_ | refine Tst.eqT (by assumption) ?_ | refine Tst.eqF (by assumption) ?_ | refine Tst.neT (by assumption) ?_ | refine Tst.neF (by assumption) ?_ | refine Tst.isT (by assumption) ?_ | refine Tst.isF (by assumption) ?_ | refine Tst.dec (fun hb=>?_) (fun hb=>?_) | refine Tst.eqI (fun hb=>?_) (fun hb=>?_) | refine Tst.neI (fun hb=>?_) (fun hb=>?_) | refine Tst.not ?_ | refine Tst.any (fun hb=>?_) (fun hb=>?_)) <;> conv=>whnf) | refine w_ret ?_ | refine w_skip ?_ | refine w_blk ?_ | refine w_exit ?_ | refine q_seqR ?_ | refine q_seqE ?_ | refine q_blkN ?_ | refine q_blkR ?_ | refine q_blkH ?_ | refine q_blkE rfl ?_ | refine q_loopR ?_ | refine q_loopE ?_ | (refine Ask_V0 (hc) rfl rfl ?_;conv=>whnf) | (refine Ask_S h1 rfl ?_;conv=>whnf) | (refine B2S.O (l:=[s.kind]) rfl rfl rfl ?_;conv=>whnf) | first | (refine LenQ.ok ?_;conv=>whnf) | ((first | refine Tst.T ?_ | refine Tst.F ?_ | refine Tst.decT (by assumption) ?_ | refine Tst.decF (by assumption) ?_ | refine Tst.eqT (by assumption) ?_ | refine Tst.eqF (by assumption) ?_ | refine Tst.neT (by assumption) ?_ | refine Tst.neF (by assumption) ?_ | refine Tst.isT (by assumption) ?_ | refine Tst.isF (by assumption) ?_ | refine Tst.dec (fun hb=>?_) (fun hb=>?_) | refine Tst.eqI (fun hb=>?_) (fun hb=>?_) | refine Tst.neI (fun hb=>?_) (fun hb=>?_) | refine Tst.not ?_ | refine Tst.any (fun hb=>?_) (fun hb=>?_)) <;> conv=>whnf) | (refine Ari.ok (by omega) ?_;conv=>whnf) | (refine IxO.ok (by omega) (by omega) ?_;conv=>whnf) | (refine IxS.M (by omega) (by omega) (fun _=>rfl) ?_;conv=>whnf) | (refine ⟨Nat.le_of_ble_eq_true rfl,?_⟩;conv=>whnf) | (refine ⟨rfl,?_⟩;conv=>whnf) | (refine Cat.ok (by omega) ?_;conv=>whnf))
   exact f_res (by simp) (ResL.cons (ResOne.tmp rfl) (ResL.cons (ResOne.tmp rfl) ResL.nil)) rfl rfl
  ·have h1:=each_p s s.kind _ rfl hL (check_ok h0)
   repeat' (first | (refine w_regX (ops:=⟨some 14,.mf _ _,none,0⟩ :: _) 1 .refl (by (try simp only [List.length_cons,List.length_nil,Nat.reduceAdd]);rfl) (by (try simp only [List.replicate_succ,List.replicate_zero,List.cons_append,List.nil_append,List.append_nil,Nat.reduceAdd]);rfl) (fun K' hK'=>wpOps_ok ?_);conv=>whnf) | ((try simp only [Nat.reduceAdd,Nat.reduceMul,Nat.zero_add,Nat.add_zero,Int.toNat_natCast,Int.reduceToNat,stzV,rdV]);refine hK' _ _ _ ?_;clear hK' K';first | refine q_regT ?_ | refine q_regD rfl ?_) | first | refine w_seq ?_ | refine q_seqN ?_ | (refine w_reg (by (try simp only [List.length_cons,List.length_nil,Nat.reduceAdd]);rfl) (by (try simp only [List.replicate_succ,List.replicate_zero,List.cons_append,List.nil_append,List.append_nil]);rfl) (fun K' hK'=>wpOps_ok ?_);conv=>whnf) | (refine w_condTst rfl ?_;(repeat refine Tst.not ?_);(first | refine Tst.T ?_ | refine Tst.F ?_ | refine Tst.decT (by assumption) ?_ | refine Tst.decF (by assumption) ?_ | refine Tst.eqT (by assumption) ?_ | refine Tst.eqF (by assumption) ?_ | refine Tst.neT (by assumption) ?_ | refine Tst.neF (by assumption) ?_ | refine Tst.isT (by assumption) ?_ | refine Tst.isF (by assumption) ?_ | refine Tst.dec (fun hb=>?_) (fun hb=>?_) | refine Tst.eqI (fun hb=>?_) (fun hb=>?_) | refine Tst.neI (fun hb=>?_) (fun hb=>?_) | refine Tst.not ?_ | refine Tst.any (fun hb=>?_) (fun hb=>?_)) <;> conv=>whnf) | refine w_ret ?_ | refine w_skip ?_ | refine w_blk ?_ | refine w_exit ?_ | refine q_seqR ?_ | refine q_seqE ?_ | refine q_blkN ?_ | refine q_blkR ?_ | refine q_blkH ?_ | refine q_blkE rfl ?_ | refine q_loopR ?_ | refine q_loopE ?_ | (refine Ask_V0 (hc) rfl rfl ?_;conv=>whnf) | (refine Ask_S h1 rfl ?_;conv=>whnf) | (refine B2S.O (l:=s.kind :: bodyB s (hasN s.kind.toNat)) rfl rfl rfl ?_;conv=>whnf) | first | (refine LenQ.ok ?_;conv=>whnf) | ((first | refine Tst.T ?_ | refine Tst.F ?_ | refine Tst.decT (by assumption) ?_ | refine Tst.decF (by assumption) ?_ | refine Tst.eqT (by assumption) ?_ | refine Tst.eqF (by assumption) ?_ | refine Tst.neT (by assumption) ?_ | refine Tst.neF (by assumption) ?_ | refine Tst.isT (by assumption) ?_ | refine Tst.isF (by assumption) ?_ | refine Tst.dec (fun hb=>?_) (fun hb=>?_) | refine Tst.eqI (fun hb=>?_) (fun hb=>?_) | refine Tst.neI (fun hb=>?_) (fun hb=>?_) | refine Tst.not ?_ | refine Tst.any (fun hb=>?_) (fun hb=>?_)) <;> conv=>whnf) | (refine Ari.ok (by omega) ?_;conv=>whnf) | (refine IxO.ok (by omega) (by omega) ?_;conv=>whnf) | (refine IxS.M (by omega) (by omega) (fun _=>rfl) ?_;conv=>whnf) | (refine ⟨Nat.le_of_ble_eq_true rfl,?_⟩;conv=>whnf) | (refine ⟨rfl,?_⟩;conv=>whnf) | (refine Cat.ok (by omega) ?_;conv=>whnf))
   exact f_res (by simp) (ResL.cons (ResOne.tmp rfl) (ResL.cons (ResOne.tmp rfl) ResL.nil)) rfl rfl
 ·have e:putV s=.tup [.s ⟨#[]⟩,.i (checkS s)]:=if_pos h0
  rw [e]
  repeat' (first | ((try simp only [Nat.reduceAdd,Nat.reduceMul,Nat.zero_add,Nat.add_zero,Int.toNat_natCast,Int.reduceToNat,stzV,rdV]);refine hK' _ _ _ ?_;clear hK' K';first | refine q_regT ?_ | refine q_regD rfl ?_) | first | refine w_seq ?_ | refine q_seqN ?_ | (refine w_reg (by (try simp only [List.length_cons,List.length_nil,Nat.reduceAdd]);rfl) (by (try simp only [List.replicate_succ,List.replicate_zero,List.cons_append,List.nil_append,List.append_nil]);rfl) (fun K' hK'=>wpOps_ok ?_);conv=>whnf) | (refine w_condTst rfl ?_;(repeat refine Tst.not ?_);(first | refine Tst.T ?_ | refine Tst.F ?_ | refine Tst.decT (by assumption) ?_ | refine Tst.decF (by assumption) ?_ | refine Tst.eqT (by assumption) ?_ | refine Tst.eqF (by assumption) ?_ | refine Tst.neT (by assumption) ?_ | refine Tst.neF (by assumption) ?_ | refine Tst.isT (by assumption) ?_ | refine Tst.isF (by assumption) ?_ | refine Tst.dec (fun hb=>?_) (fun hb=>?_) | refine Tst.eqI (fun hb=>?_) (fun hb=>?_) | refine Tst.neI (fun hb=>?_) (fun hb=>?_) | refine Tst.not ?_ | refine Tst.any (fun hb=>?_) (fun hb=>?_)) <;> conv=>whnf) | refine w_ret ?_ | refine w_skip ?_ | refine w_blk ?_ | refine w_exit ?_ | refine q_seqR ?_ | refine q_seqE ?_ | refine q_blkN ?_ | refine q_blkR ?_ | refine q_blkH ?_ | refine q_blkE rfl ?_ | refine q_loopR ?_ | refine q_loopE ?_ | (refine Ask_V0 (hc) rfl rfl ?_;conv=>whnf) | first | (refine LenQ.ok ?_;conv=>whnf) | ((first | refine Tst.T ?_ | refine Tst.F ?_ | refine Tst.decT (by assumption) ?_ | refine Tst.decF (by assumption) ?_ | refine Tst.eqT (by assumption) ?_ | refine Tst.eqF (by assumption) ?_ | refine Tst.neT (by assumption) ?_ | refine Tst.neF (by assumption) ?_ | refine Tst.isT (by assumption) ?_ | refine Tst.isF (by assumption) ?_ | refine Tst.dec (fun hb=>?_) (fun hb=>?_) | refine Tst.eqI (fun hb=>?_) (fun hb=>?_) | refine Tst.neI (fun hb=>?_) (fun hb=>?_) | refine Tst.not ?_ | refine Tst.any (fun hb=>?_) (fun hb=>?_)) <;> conv=>whnf) | (refine Ari.ok (by omega) ?_;conv=>whnf) | (refine IxO.ok (by omega) (by omega) ?_;conv=>whnf) | (refine IxS.M (by omega) (by omega) (fun _=>rfl) ?_;conv=>whnf) | (refine ⟨Nat.le_of_ble_eq_true rfl,?_⟩;conv=>whnf) | (refine ⟨rfl,?_⟩;conv=>whnf) | (refine Cat.ok (by omega) ?_;conv=>whnf))
  all_goals first
   | exact absurd hb h0
   | exact f_res (by simp) (ResL.cons (ResOne.tmp rfl) (ResL.cons (ResOne.tmp rfl) ResL.nil)) rfl rfl
end Go.Proofs.YtpkodpcfafipdaaGreat

namespace Go.Proofs.YtpkodpcfafipdaaGreat
open Go.RowKit
attribute [local irreducible] AW Fin FinR seqQ blkQ regQ loopQ CallsV CallsS Callable
end Go.Proofs.YtpkodpcfafipdaaGreat

namespace Go.Proofs.YtpkodpcfafipdaaGreat
open Go.RowKit
attribute [local irreducible] AW Fin FinR seqQ blkQ regQ loopQ CallsV CallsS Callable
end Go.Proofs.YtpkodpcfafipdaaGreat

namespace Go.Proofs.YtpkodpcfafipdaaGreat
open Go.RowKit
def putP (s:StzD):ByteArray × Int:=if checkS s≠0 then (⟨#[]⟩,checkS s) else (ba (s.kind :: bodyB s (hasN s.kind.toNat)),0)
def p_stanza_Put (x:StanzaStanza):Option (ByteArray × Int):=if stzFits x then some (putP (stzOf x)) else none
theorem p_stanza_Put_v (x:StanzaStanza):CallsO Tryz.prog 26 [x.v] (fun r:ByteArray × Int=>.tup [V.s r.1,V.i r.2]) (p_stanza_Put x):=callsO_if fun h=>by
 rw [stz_V h]
 have e:=put_v (stzOf x) h.2.1 h.2.2.1 h.2.2.2
 unfold putV at e
 unfold putP
 split at e
 ·rename_i h0;rw [if_pos h0];exact e
 ·rename_i h0;rw [if_neg h0];exact e
end Go.Proofs.YtpkodpcfafipdaaGreat

namespace Go.Proofs
open Go.Shelf
def Tryz.lays169_ren:Go.Shelf.Ren:=⟨fun | 169=>65 | n=>n,fun | 70=>126 | 9=>9 | 0=>0 | 72=>128 | 37=>106 | 127=>154 | 3=>3 | 5=>5 | n=>n,fun | n=>n⟩
theorem Tryz.lays169:Go.Proofs.Lays.n169 Tryz.prog Tryz.lays169_ren:={
 mixed:=by kernel_rfl
 f169:=Tryz.func65.trans (congrArg some (by kernel_rfl))
 t0:=Tryz.underlying0
 a0:=Tryz.isAgg0
 z0:=Tryz.sizeOf0
 v0:=Tryz.zeroValue0
 t3:=Tryz.underlying3
 a3:=Tryz.isAgg3
 z3:=Tryz.sizeOf3
 v3:=Tryz.zeroValue3
 t9:=Tryz.underlying9
 a9:=Tryz.isAgg9
 z9:=Tryz.sizeOf9
 v9:=Tryz.zeroValue9
 t37:=Tryz.underlying106
 a37:=Tryz.isAgg106
 z37:=Tryz.sizeOf106
 v37:=Tryz.zeroValue106
 t70:=Tryz.underlying126
 a70:=Tryz.isAgg126
 z70:=Tryz.sizeOf126
 v70:=Tryz.zeroValue126
 t72:=Tryz.underlying128
 a72:=Tryz.isAgg128
 z72:=Tryz.sizeOf128
 v72:=Tryz.zeroValue128
 t127:=Tryz.underlying154
 a127:=Tryz.isAgg154
 z127:=Tryz.sizeOf154
 v127:=Tryz.zeroValue154 }
theorem Tryz.Builder_Extra_169:Builder.Extra Tryz.prog Tryz.lays169_ren:={
 sizeBuilder:=by kernel_rfl
 liesBuilder:=by kernel_rfl
 t5:=Tryz.underlying5
 a5:=Tryz.isAgg5
 z5:=Tryz.sizeOf5
 v5:=Tryz.zeroValue5
 infoByte:=by kernel_rfl
 cellsByte:=by kernel_rfl
 sizeByte:=by kernel_rfl
 neB5:=by decide }
open Go.RowKit in
theorem Tryz.Builder_String_any (B b:Nat) (l:List UInt8) (w:World) (h:Lib.IsBuilder 128 5 B b (Lib.byteCells l) w) (hBw:B≤w.heap.size) :
  Calls Tryz.prog 65 #[.pointer (some ⟨b,0,none⟩)] w fun e w'=>e=.returned (.string ⟨l.toArray⟩)∧Below B w w':=Any.Builder_String_any Tryz.lays169 Tryz.Builder_Extra_169 B b l w h hBw
end Go.Proofs

namespace Go.Proofs.YtpkodpcfafipdaaGreat
open Go.RowKit
set_option maxHeartbeats 1000000 in
set_option maxRecDepth 100000 in
theorem cc_used (b:Nat) (w:World) (h0:w.cell? ⟨b,0,none⟩=some (.pointer (some ⟨b,0,none⟩))) :
  Calls Tryz.prog 86 #[.pointer (some ⟨b,0,none⟩)] w fun e w'=>e=.returned (.tuple #[])∧w'=w:=by
 obtain ⟨j,hj,_⟩:=Option.map_eq_some_iff.1 Tryz.Builder_Extra_169.sizeBuilder
 have mixed:Tryz.prog.follows .mixedOrders=true:=mix
 go_enter Tryz.func86,Tryz.ntmps86
 go_wp2
 rw [Lib.run_neq_ptr_same w _ Tryz.underlying126 hj]
 go_wp2
 go_end0
 exact ⟨rfl,rfl⟩
set_option maxHeartbeats 1000000 in
set_option maxRecDepth 100000 in
theorem cc_fresh (b:Nat) (w:World) (h0:w.cell? ⟨b,0,none⟩=some (.pointer none)) (hsh:w.shape? b=some (128,2)) (hfz:w.frozen? ⟨b,0,none⟩=false) :
  Calls Tryz.prog 86 #[.pointer (some ⟨b,0,none⟩)] w fun e w'=>e=.returned (.tuple #[])∧w'=w.setCell ⟨b,0,none⟩ (.pointer (some ⟨b,0,none⟩)):=by
 obtain ⟨j,hj,hjs⟩:=Option.map_eq_some_iff.1 Tryz.Builder_Extra_169.sizeBuilder
 have mixed:Tryz.prog.follows .mixedOrders=true:=mix
 go_enter Tryz.func86,Tryz.ntmps86
 go_wp2
 rw [Lib.run_to_unsafe w ⟨b,0,none⟩ Tryz.underlying126 Tryz.underlying168 hj (by rw [hjs];decide) hsh (Nat.zero_lt_succ 1)]
 simp only [Result.andThen]
 rw [Oper.upon_value]
 go_wp2
 rw [run_callFunc_extern Tryz.func100 (by kernel_rfl) (by kernel_rfl) (by kernel_rfl) (e:=Extern.AbiNoEscape.same) (by kernel_rfl)]
 rw [Lib.run_noEscape]
 simp only [Result.andThen]
 rw [Oper.upon_value]
 go_wp2
 rw [Lib.run_from_unsafe w ⟨b,0,none⟩ Tryz.underlying168 Tryz.underlying126 hj hsh Tryz.Builder_Extra_169.liesBuilder]
 simp only [Result.andThen]
 rw [Oper.upon_value]
 go_wp2
 go_end0
 exact ⟨rfl,rfl⟩
theorem cc_any (B b:Nat) (bs:List Value) (w:World) (h:Lib.IsBuilder 128 5 B b bs w) :
  Calls Tryz.prog 86 #[.pointer (some ⟨b,0,none⟩)] w fun e w'=>e=.returned (.tuple #[])∧(Lib.BuilderAt 128 5 B b (.pointer (some ⟨b,0,none⟩)) bs w'∧Below B w w'):=by
 rcases h with h | h
 ·refine (cc_fresh b w h.cell0 h.shape h.frozen0).mono ?_
  rintro e w' ⟨rfl,rfl⟩
  exact ⟨rfl,h.used _,(Below.refl B w).setCell (p:=⟨b,0,none⟩) h.1 _⟩
 ·refine (cc_used b w h.cell0).mono ?_
  rintro e w' ⟨rfl,rfl⟩
  exact ⟨rfl,h,Below.refl B _⟩
set_option maxHeartbeats 2000000 in
set_option maxRecDepth 100000 in
theorem write_c (B b:Nat) (bs:List Value) (s:ByteArray) (w:World) (h:Lib.IsBuilder 128 5 B b bs w) (hlen:bs.length + s.size≤140737488355328) (hBw:B≤w.heap.size) :
  Calls Tryz.prog 64 #[.pointer (some ⟨b,0,none⟩),.string s] w fun e w'=>e=.returned (.tuple #[.int .i64 s.size,.nilIface])∧(Lib.BuilderAt 128 5 B b (.pointer (some ⟨b,0,none⟩)) (bs++Lib.strCells s) w'∧Below B w w'):=by
 obtain ⟨i0,hi,hz0,hz1,hz2⟩:=info_parts Tryz.Builder_Extra_169.infoByte
 have mixed:Tryz.prog.follows .mixedOrders=true:=mix
 have e240:∀ args w,(callFunc 86 args).run Tryz.prog w=.ok (.enter 86 args) w:=enters_of Tryz.func86 (by kernel_rfl) rfl
 go_enter Tryz.func64,Tryz.ntmps64
 go_wp2_with (go_at_fn 86;refine (cc_any B b bs _ h).mono ?_)
 rintro e w1 ⟨rfl,h1,hb1⟩
 obtain ⟨hB,v,hbk,hown,hne⟩:=h1
 have c0:w1.cell? ⟨b,0,none⟩=some (.pointer (some ⟨b,0,none⟩)):=by rw [Lib.cell_of_heap hbk];rfl
 have c1:w1.cell? ⟨b,1,none⟩=some v:=by rw [Lib.cell_of_heap hbk];rfl
 go_wp2_with (at_builtin;refine Lib.wpList_append_own_string _ rfl _ _ 106 9 rfl B 5 i0 Tryz.underlying106 Tryz.underlying9 hi hz0 hz1 hz2 _ _ _ rfl hown s rfl ?c3 ?c4 ?c5 ?_)
 case c3=>unfold maxLen;omega
 case c4=>omega
 case c5=>have:=hb1.size;omega
 intro v' w2 hown' hgrow _
 have hlt:b < w1.heap.size:=by
  rcases Nat.lt_or_ge b w1.heap.size with h' | h'
  ·exact h'
  ·simp [Array.getElem?_eq_none h'] at hbk
 have hb2:w2.heap[b]?=some (.cells #[.pointer (some ⟨b,0,none⟩),v] 128 (0,0)):=by
  rw [hgrow.block b hlt (fun e=>hne e.symm)]
  exact hbk
 have d0:w2.cell? ⟨b,0,none⟩=some (.pointer (some ⟨b,0,none⟩)):=by rw [Lib.cell_of_heap hb2];rfl
 have d1:w2.cell? ⟨b,1,none⟩=some v:=by rw [Lib.cell_of_heap hb2];rfl
 have f1:w2.frozen? ⟨b,1,none⟩=false:=Lib.frozen_of_heap hb2 1
 obtain ⟨ao,n',cap,rfl⟩ : ∃ ao n' cap,v'=.slice ao n' cap:=by
  rcases hown'.2 with ⟨hv,_⟩ | ⟨g,cap,cur,hv,_⟩
  ·exact ⟨_,_,_,hv⟩
  ·exact ⟨_,_,_,hv⟩
 go_wp2
 go_ret2
 refine ⟨rfl,?_,?_⟩
 ·exact Lib.BuilderAt.put (T:=128) (e:=5) hB hb2 (bs':=bs++Lib.strCells s) (by simpa [Lib.strCells_length] using hown') Tryz.Builder_Extra_169.neB5
 ·exact (hb1.grown hgrow (by have:=hb1.size;omega) (fun k hk=>(hown.lt k hk).1)).setCell (p:=⟨b,1,none⟩) hB _
theorem isb_below {T e:TypeId} {B b:Nat} {bs:List Value} {w w' : World} (h:Lib.IsBuilder T e B b bs w) (hb:Below w.heap.size w w'):Lib.IsBuilder T e B b bs w':=by
 have one:∀ p,Lib.BuilderAt T e B b p bs w→Lib.BuilderAt T e B b p bs w':=fun p hp=>by
  have hlt:=hp.lt
  obtain ⟨h1,v,h2,h3,h4⟩:=hp
  refine ⟨h1,v,(hb.block b hlt).trans h2,h3.kept (row:=none) ⟨hb.os,hb.tape,hb.output,hb.size,fun k hk _=>hb.block k hk⟩ ?_,h4⟩
  cases v.ownBlock with
  | none=>exact .inl rfl
  | some k=>exact .inr (by simp)
 rcases h with h | h
 ·exact .inl (one _ h)
 ·exact .inr (one _ h)
theorem calls_lit {P:Program} {f:FuncId} {vs rs:List Value} (h:CallsV P f (vs.map V.lit) (.tup (rs.map V.lit))) (hv:∀ v ∈ vs,v.oneCell'=true) (w:World) (hml:ML w):Calls P f vs.toArray w (Ret w (.tuple rs.toArray)):=by
 obtain ⟨_,n,hn⟩:=hml
 let m:Mem:=fun a=>if a=⟨0,0,none⟩ then some (.int .i64 n) else none
 have hm:∀ a u,m a=some u→w.cell? a=some u:=fun a u hu=>by
  by_cases e:a=⟨0,0,none⟩
  ·have:m a=some (.int .i64 n):=if_pos e
   rw [this] at hu;cases hu;rw [e];exact hn
  ·have:m a=none:=if_neg e
   rw [this] at hu;cases hu
 refine (h m w vs.toArray ⟨n,if_pos rfl⟩ hm ⟨by simp,fun j h1 h2=>?_⟩).mono ?_
 ·have hj:j < vs.length:=by simpa using h1
  have e1:vs.toArray[j]=vs[j]:=by simp
  have e2:(vs.map V.lit)[j]=V.lit vs[j]:=by simp
  rw [e1,e2]
  exact .lit (hv _ (List.getElem_mem hj))
 ·rintro e w' ⟨c,m',rfl,hb,_,_,_,hr⟩
  refine ⟨congrArg Ending.returned ?_,hb⟩
  cases hr with
  | @tup _ cs _ hl hr =>
   congr 1
   apply Array.ext
   ·simpa using hl
   ·intro j h1 h2
    have hj:j < rs.length:=by simpa using h2
    have:=hr j h1 (by simpa using hj)
    rw [List.getElem_map] at this
    rw [this.int];simp
end Go.Proofs.YtpkodpcfafipdaaGreat

namespace Go.Proofs.YtpkodpcfafipdaaGreat
open Go.RowKit
structure InsRoads (P:Program) (k:FuncId) (es:Nat) (E:TypeId):Prop where
 shift:∀ (b n c i vb voff vc:Nat) (cs vs:List Value) (w:World) (tA tB:TypeId) (kA kB:Nat),i < n→n + 1≤c→n + 1≤1000000→vb≠b→cs.length=n * es→vs.length=es →
  (∀ j v,cs[j]?=some v→w.cell? ⟨b,j,none⟩=some v)→(∀ j,j < (n + 1) * es→(w.cell? ⟨b,j,none⟩).isSome=true)→(∀ j,j < (n + 1) * es→w.frozen? ⟨b,j,none⟩=false) →
  (∀ j v,vs[j]?=some v→w.cell? ⟨vb,voff + j,none⟩=some v)→(∀ v ∈ cs,v.oneCell'=true)→(∀ v ∈ vs,v.oneCell'=true) →
  w.shape? vb=some (tA,kA)→w.shape? b=some (tB,kB)→kA≠0→kB≠0→w.frozen? ⟨b,kB,none⟩=false →
  Calls P k #[.slice (some ⟨b,0,none⟩) n c,.int .i64 i,.slice (some ⟨vb,voff,none⟩) 1 vc] w fun e w' =>
   e=.returned (.slice (some ⟨b,0,none⟩) (n + 1) c)∧w'=(w.drew.setCells b ((i + 1) * es) (cs.drop (i * es))).setCells b (i * es) vs
 end_room:∀ (b n c vb voff vc:Nat) (vs:List Value) (w:World),n + 1≤c→n + 1≤1000000→vs.length=es →
  (∀ j,j < es→(w.cell? ⟨b,n * es + j,none⟩).isSome=true)→(∀ j,j < es→w.frozen? ⟨b,n * es + j,none⟩=false) →
  (∀ j v,vs[j]?=some v→w.cell? ⟨vb,voff + j,none⟩=some v)→(∀ v ∈ vs,v.oneCell'=true) →
  Calls P k #[.slice (some ⟨b,0,none⟩) n c,.int .i64 n,.slice (some ⟨vb,voff,none⟩) 1 vc] w fun e w' =>
   e=.returned (.slice (some ⟨b,0,none⟩) (n + 1) c)∧w'=w.setCells b (n * es) vs
 end_grow:∀ (base:Option Addr) (n c vb voff vc:Nat) (cs vs:List Value) (w:World),n≤c→c < n + 1→n + 1≤1000000→cs.length=n * es→vs.length=es→(base=none→n=0) →
  (∀ a,base=some a→∀ j v,cs[j]?=some v→w.cell? (a.add j)=some v)→(∀ j v,vs[j]?=some v→w.cell? ⟨vb,voff + j,none⟩=some v)→(∀ v ∈ vs,v.oneCell'=true) →
  Calls P k #[.slice base n c,.int .i64 n,.slice (some ⟨vb,voff,none⟩) 1 vc] w fun e w' =>
   ∃ zs:Array Value,e=.returned (.slice (some ⟨w.heap.size,0,none⟩) (n + 1) (grownCap w (n + 1) c E))∧w'=w.drew.alloc (.cells ((cs++vs).toArray++zs) E)
 grow:∀ (b n c i vb voff vc:Nat) (cs vs:List Value) (w:World),i < n→n≤c→c < n + 1→n + 1≤1000000→cs.length=n * es→vs.length=es →
  (∀ j v,cs[j]?=some v→w.cell? ⟨b,j,none⟩=some v)→(∀ j v,vs[j]?=some v→w.cell? ⟨vb,voff + j,none⟩=some v)→(∀ v ∈ cs,v.oneCell'=true)→(∀ v ∈ vs,v.oneCell'=true) →
  Calls P k #[.slice (some ⟨b,0,none⟩) n c,.int .i64 i,.slice (some ⟨vb,voff,none⟩) 1 vc] w fun e w' =>
   ∃ ROW:Array Value,(n + 1) * es≤ROW.size∧(∀ (j:Nat) (v:Value),(cs.take (i * es))[j]?=some v→ROW[j]?=some v)∧e=.returned (.slice (some ⟨w.heap.size,0,none⟩) (n + 1) (grownCap w (n + 1) c E)) ∧
    w'=(((w.alloc (.cells ROW E)).drew.setCells w.heap.size (i * es) vs).drew).setCells w.heap.size ((i + 1) * es) (cs.drop (i * es))
end Go.Proofs.YtpkodpcfafipdaaGreat

namespace Go.Proofs.YtpkodpcfafipdaaGreat
open Go.RowKit
structure CloRoads (P:Program) (k:FuncId) (es:Nat) (E:TypeId):Prop where
 some_:∀ (A:Addr) (n c:Nat) (cs:List Value) (w:World),0 < n→n≤1000000→cs.length=n * es→(∀ j v,cs[j]?=some v→w.cell? (A.add j)=some v)→(∀ v ∈ cs,v.oneCell'=true) →
  Calls P k #[.slice (some A) n c] w fun e w'=>∃ ZS:Array Value,e=.returned (.slice (some ⟨w.heap.size + 1,0,none⟩) n (grownCap (w.alloc (.cells #[] E)) n 0 E))∧w'=(w.alloc (.cells #[] E)).drew.alloc (.cells (cs.toArray++ZS) E)∧grownCap (w.alloc (.cells #[] E)) n 0 E * es≤(cs.toArray++ZS).size
 zero_:∀ (A:Addr) (c:Nat) (w:World),Calls P k #[.slice (some A) 0 c] w fun e w'=>e=.returned (.slice (some ⟨w.heap.size,0,none⟩) 0 0)∧∃ q,w'=(w.alloc (.cells #[] E)).drewN q
 nil_:∀ (n c:Nat) (w:World),Calls P k #[.slice none n c] w fun e w'=>e=.returned (.slice none 0 0)∧w'=w
section
variable {β : Type} {r : β} {P : Program} {st : List Slot}
end
def V.litD:V→Bool
 | .lit _=>true
 | .agg cs | .tup cs=>litL cs
 | .sl [] _=>true
 | _=>false
where litL:List V→Bool
 | []=>true
 | v :: vs=>v.litD && litL vs
theorem litL_get:∀ {l:List V},V.litD.litL l=true→∀ j (h:j < l.length),l[j].litD=true
 | v :: l,h,0,_=>by simp [V.litD.litL] at h;simpa using h.1
 | v :: l,h,j + 1,hj=>by simp [V.litD.litL] at h;simpa using litL_get h.2 j (by simpa using hj)
theorem Rep.litD {m:Mem} {bk:Bks} {c:Value} {v:V} (h:Rep m bk c v):v.litD=true→∀ (m' : Mem) (bk' : Bks),Rep m' bk' c v:=by
 induction h with
 | lit h=>intro _ _ _;exact .lit h
 | agg hl h1 _ ih=>intro hv m' bk';exact .agg hl h1 fun j a b=>ih j a b (litL_get (by simpa [V.litD] using hv) j b) m' bk'
 | tup hl _ ih=>intro hv m' bk';exact .tup hl fun j a b=>ih j a b (litL_get (by simpa [V.litD] using hv) j b) m' bk'
 | @sl bk b o n cap es full xs us hn hc hf hes h1 hm h _ =>
  intro hv m' bk'
  cases xs with
  | nil=>exact .sl (us:=us) hn hc hf hes h1 (fun k hk=>absurd hk (by simp)) (fun k hk=>absurd hk (by simp))
  | cons x xs=>simp [V.litD] at hv
 | slnil hf=>intro _ _ _;exact .slnil hf
 | _=>intro hv;simp [V.litD] at hv
end Go.Proofs.YtpkodpcfafipdaaGreat

namespace Go.Proofs.YtpkodpcfafipdaaGreat
open Go.RowKit
theorem Rep.renTo {m:Mem} {bk:Bks} {c:Value} {v:V} (sg:List Nat) {bk2:Bks} (hb:∀ k x,bk k=some x→bk2 (sgm sg k)=some x) (h:Rep m bk c v):Rep m bk2 c (v.ren sg):=by
 induction h with
 | lit h=>exact .lit h
 | @agg _ cs vs hl h1 _ ih =>
  refine .agg (by rw [renL_len];exact hl) (fun v hv=>?_) fun j a b=>?_
  ·obtain ⟨j,hj,rfl⟩:=List.getElem_of_mem hv
   rw [renL_len] at hj
   rw [renL_get sg vs j hj,ren_one]
   exact h1 _ (List.getElem_mem hj)
  ·have hj:j < vs.length:=by rw [renL_len] at b;exact b
   rw [renL_get sg vs j hj]
   exact ih j a hj hb
 | @tup _ cs vs hl _ ih =>
  refine .tup (by rw [renL_len];exact hl) fun j a b=>?_
  have hj:j < vs.length:=by rw [renL_len] at b;exact b
  rw [renL_get sg vs j hj]
  exact ih j a hj hb
 | sl hn hc hf hes h1 hm h _=>exact .sl hn hc hf hes h1 hm h
 | slnil hf=>exact .slnil hf
 | osl h1 hc hf hs=>exact .osl (hb _ _ h1) hc hf hs
 | oslnil=>exact .oslnil
 | ptr h1=>exact .ptr (hb _ _ h1)
 | eptr h1 hm h _=>exact .eptr h1 hm h
 | @clo _ fn cs vs hv hl _ ih =>
  refine .clo hv (by rw [renL_len];exact hl) fun j a b=>?_
  have hj:j < vs.length:=by rw [renL_len] at b;exact b
  rw [renL_get sg vs j hj]
  exact ih j a hj hb
 | @bnd _ fn cs vs hl _ ih =>
  refine .bnd (by rw [renL_len];exact hl) fun j a b=>?_
  have hj:j < vs.length:=by rw [renL_len] at b;exact b
  rw [renL_get sg vs j hj]
  exact ih j a hj hb
 | any=>exact .any
def Slot.ren (sg:List Nat):Slot→Slot
 | .live cs f=>.live (V.ren.renL sg cs) f
 | s=>s
def updL:List Slot→List Nat→List Slot→List Slot
 | st,i :: sg,s :: l=>updL (st.set i s) sg l
 | st,_,_=>st
theorem updL_out:∀ (sg:List Nat) (l:List Slot) (st:List Slot) (j:Nat),j ∉ sg→(updL st sg l)[j]?=st[j]?
 | [],l,st,_,_=>by cases l <;> rfl
 | _ :: _,[],_,_,_=>rfl
 | i :: sg,s :: l,st,j,h=>by
  rw [updL,updL_out sg l _ j fun q=>h (List.mem_cons_of_mem _ q),List.getElem?_set,if_neg (fun e:i=j=>h (by rw [← e];exact List.mem_cons_self))]
theorem updL_in:∀ (sg:List Nat) (l:List Slot) (st:List Slot),sg.Nodup→sg.length=l.length→(∀ i ∈ sg,i < st.length)→∀ k (hk:k < sg.length),(updL st sg l)[sg[k]]?=l[k]?
 | i :: sg,s :: l,st,hn,hl,hb,0,_=>by
  have hi:=(List.nodup_cons.1 hn).1
  rw [updL]
  show (updL (st.set i s) sg l)[i]?=some s
  rw [updL_out sg l _ i hi,List.getElem?_set,if_pos rfl,if_pos (hb i List.mem_cons_self)]
 | i :: sg,s :: l,st,hn,hl,hb,k + 1,hk=>by
  rw [updL]
  show (updL (st.set i s) sg l)[sg[k]'(by simpa using hk)]?=l[k]?
  exact updL_in sg l _ (List.nodup_cons.1 hn).2 (by simpa using hl) (fun j hj=>by rw [List.length_set];exact hb j (List.mem_cons_of_mem _ hj)) k (by simpa using hk)
theorem updL_eff:∀ (sg:List Nat) (l:List Slot) (st:List Slot),updL st sg l=AStep.eff st (sg.zip l)
 | [],l,st=>by cases l <;> rfl
 | _ :: _,[],_=>rfl
 | i :: sg,s :: l,st=>by rw [updL,updL_eff sg l];rfl
theorem nodup_at {l:List Nat} (h:l.Nodup) {i j:Nat} (hi:i < l.length) (hj:j < l.length) (e:l[i]=l[j]):i=j:=by
 rcases Nat.lt_trichotomy i j with g | g | g
 ·exact absurd e (List.pairwise_iff_getElem.1 h i j hi hj g)
 ·exact g
 ·exact absurd e.symm (List.pairwise_iff_getElem.1 h j i hj hi g)
theorem sgm_at (sg:List Nat) (k:Nat) (h:k < sg.length):sgm sg k=sg[k]:=by unfold sgm;simp [List.getD,h]
open Classical in
theorem callsS_among {P:Program} {f:FuncId} {args0:List V} {v0:V} {st0 st0' : List Slot} (h:CallsS P f args0 st0 v0 st0') (hl:st0'.length=st0.length) (sg:List Nat) (hsl:sg.length=st0.length) (hnd:sg.Nodup) {st:List Slot} (hst:∀ k (hk:k < sg.length),st[sg[k]]?=(st0.map (Slot.ren sg))[k]?)
  (ha:V.idlt.belowL st0.length args0=true) (hc:∀ (k:Nat) (cs:List V) (fz:Nat),st0[k]?=some (.live cs fz)→V.idlt.belowL st0.length cs=true) :
  CallsS P f (V.ren.renL sg args0) st (v0.ren sg) (updL st sg (st0'.map (Slot.ren sg))):=by
 intro B m0 m bk w cargs hg hsim hargs
 have hlt:∀ i ∈ sg,i < st.length:=fun i hi=>by
  obtain ⟨k,hk,rfl⟩:=List.getElem_of_mem hi
  have e:=hst k hk
  rw [List.getElem?_map,List.getElem?_eq_getElem (show k < st0.length by omega)] at e
  exact (List.getElem?_eq_some_iff.1 e).1
 have at0:∀ (k:Nat) (s:Slot),st0[k]?=some s→k < sg.length∧st[sgm sg k]?=some (s.ren sg):=fun k s hs=>by
  have hk:k < sg.length:=by have:=(List.getElem?_eq_some_iff.1 hs).1;omega
  refine ⟨hk,?_⟩
  rw [sgm_at sg k hk,hst k hk,List.getElem?_map,hs];rfl
 let oth:Nat→Prop:=fun b=>∃ (j:Nat) (c:List V) (g:Nat) (x:Nat × Nat),j ∉ sg∧st[j]?=some (.live c g)∧bk j=some x∧x.1=b
 let B1:Kp:=⟨B.n,fun b=>B.ex b∨oth b⟩
 let bk1:Bks:=cutBk st0.length fun i=>bk (sgm sg i)
 have bk1e:∀ k,k < st0.length→bk1 k=bk (sgm sg k):=fun k hk=>by show cutBk _ _ k=_;unfold cutBk;rw [if_pos hk]
 have fits1:B1.fits w.heap.size:=⟨hsim.base.1,fun b hb=>by
  rcases hb with hb | ⟨j,c,g,x,_,h2,h3,rfl⟩
  ·exact hsim.base.2 b hb
  ·rcases hsim.blk j c g h2 with ⟨_,_,n3⟩ | ⟨b,sz,arr,t,lo,hi,hlv⟩
   ·rw [n3] at h3;cases h3
   ·have e:=hlv.at_;rw [h3] at e;injection e with e;subst e;exact live_lt hlv⟩
 have sim1:Sim B1 m m bk1 w st0:=by
  refine ⟨fits1,hsim.mem,fun _ _ h=>h,fun _ _ h=>.inl h,fun k cs fz hk=>?_,fun i j ci fi cj fj x y hi hj hx hy e=>?_,fun k hk=>?_⟩
  ·obtain ⟨hks,hks2⟩:=at0 k _ hk
   have hkn:k < st0.length:=by omega
   rcases hsim.blk _ _ _ hks2 with ⟨n1,n2,n3⟩ | ⟨b,sz,arr,t,lo,hi,hlv⟩
   ·refine .inl ⟨?_,n2,by rw [bk1e k hkn];exact n3⟩
    have:=congrArg List.length n1
    rw [renL_len] at this
    exact List.length_eq_zero_iff.1 this
   ·refine .inr ⟨b,sz,arr,t,lo,hi,⟨by rw [bk1e k hkn];exact hlv.at_,⟨hlv.own.1,fun q=>?_⟩,hlv.heap,hlv.size,hlv.free,by have:=hlv.fit;rwa [renL_len] at this,fun u hu=>by have:=hlv.one _ (renL_mem (sg:=sg) hu);rwa [ren_one] at this,fun j hj=>?_,hlv.mu,hlv.fz⟩⟩
    ·rcases q with q | ⟨j,c,g,x,q1,q2,q3,q4⟩
     ·exact hlv.own.2 q
     ·have:=hsim.inj j (sgm sg k) c g _ fz x (b,sz) q2 hks2 q3 hlv.at_ q4
      rw [this,sgm_at sg k hks] at q1
      exact q1 (List.getElem_mem _)
    ·obtain ⟨u,g1,g2⟩:=hlv.rep j (by rw [renL_len];exact hj)
     exact ⟨u,g1,(Rep.ren g2 cs[j] (renL_get sg cs j hj _).symm).cut (belowL_get (hc k cs fz hk) j hj)⟩
  ·obtain ⟨a1,a2⟩:=at0 i _ hi
   obtain ⟨b1,b2⟩:=at0 j _ hj
   rw [bk1e i (by omega)] at hx
   rw [bk1e j (by omega)] at hy
   have e2:=hsim.inj _ _ _ _ _ _ x y a2 b2 hx hy e
   rw [sgm_at sg i a1,sgm_at sg j b1] at e2
   exact nodup_at hnd a1 b1 e2
  ·by_cases hkn:k < st0.length
   ·rw [bk1e k hkn]
    rcases hk with hk | hk
    ·rw [List.getElem?_eq_getElem hkn] at hk;cases hk
    ·exact hsim.nb _ (.inr (at0 k _ hk).2)
   ·show cutBk _ _ k=none
    unfold cutBk;rw [if_neg hkn]
 have args1:RepA m bk1 cargs args0:=⟨by rw [hargs.1,renL_len],fun j h1 h2 =>
  (Rep.ren (hargs.2 j h1 (by rw [renL_len];exact h2)) _ (renL_get sg args0 j h2 _).symm).cut (belowL_get ha j h2)⟩
 refine (h B1 m m bk1 w cargs hg sim1 args1).mono ?_
 rintro e w' ⟨c,rfl,m',bk',g1,g2,g3,g4,g5⟩
 have out:∀ k,st0.length≤k→bk' k=none:=fun k hk=>g1.nb k (.inl (List.getElem?_eq_none (by omega)))
 let bk2:Bks:=fun id=>if id ∈ sg then bk' (sg.idxOf id) else bk id
 have bki:∀ k (hk:k < sg.length),bk2 sg[k]=bk' k:=fun k hk=>by
  show (if sg[k] ∈ sg then _ else _)=_
  rw [if_pos (List.getElem_mem _)]
  congr 1
  exact nodup_at hnd (List.idxOf_lt_length_of_mem (List.getElem_mem _)) hk (List.getElem_idxOf _)
 have bko:∀ j,j ∉ sg→bk2 j=bk j:=fun j hj=>if_neg hj
 have up:∀ k x,bk' k=some x→bk2 (sgm sg k)=some x:=fun k x hx=>by
  have hk:k < sg.length:=by
   rcases Nat.lt_or_ge k sg.length with g | g
   ·exact g
   ·rw [out k (by omega)] at hx;cases hx
  rw [sgm_at sg k hk,bki k hk];exact hx
 have ge:∀ id x,bk id=some x→bk2 id=some x:=fun id x hx=>by
  by_cases hid:id ∈ sg
  ·obtain ⟨k,hk,rfl⟩:=List.getElem_of_mem hid
   rw [bki k hk]
   exact g4 k x (by rw [bk1e k (by omega),sgm_at sg k hk];exact hx)
  ·rw [bko id hid];exact hx
 have inn:∀ k (hk:k < sg.length),(updL st sg (st0'.map (Slot.ren sg)))[sg[k]]?=(st0'.map (Slot.ren sg))[k]?:=fun k hk=>updL_in sg _ st hnd (by rw [List.length_map];omega) hlt k hk
 have otm:∀ (b:Nat),oth b→∀ k,m' ⟨b,k,none⟩=m ⟨b,k,none⟩:=fun b hb k=>by
  cases hm:m ⟨b,k,none⟩ with
  | some u=>exact g3 _ _ hm
  | none =>
   cases hm' : m' ⟨b,k,none⟩ with
   | none=>rfl
   | some u =>
    rcases g1.old _ _ hm' with q | q
    ·rw [hm] at q;cases q
    ·exact absurd (.inr hb) q.2
 have liveIn:∀ (k:Nat) (cs:List V) (fz:Nat),(st0'.map (Slot.ren sg))[k]?=some (.live cs fz)→∃ cs0,st0'[k]?=some (.live cs0 fz)∧cs=V.ren.renL sg cs0:=fun k cs fz hk=>by
  rw [List.getElem?_map] at hk
  cases hs:st0'[k]? with
  | none=>rw [hs] at hk;cases hk
  | some s =>
   rw [hs] at hk
   cases s with
   | live c g=>simp only [Option.map_some,Slot.ren,Option.some.injEq,Slot.live.injEq] at hk;obtain ⟨rfl,rfl⟩:=hk;exact ⟨c,rfl,rfl⟩
   | fresh=>simp [Slot.ren] at hk
   | dead=>simp [Slot.ren] at hk
 have all:∀ (j:Nat) (cs:List V) (fz:Nat) (x:Nat × Nat),(updL st sg (st0'.map (Slot.ren sg)))[j]?=some (.live cs fz)→bk2 j=some x→(∃ k,∃ hk:k < sg.length,j=sg[k]∧bk' k=some x∧¬ oth x.1∧∃ cs0,st0'[k]?=some (.live cs0 fz))∨(j ∉ sg∧st[j]?=some (.live cs fz)∧bk j=some x∧oth x.1):=fun j cs fz x hj hx=>by
  by_cases hjs:j ∈ sg
  ·obtain ⟨k,hk,rfl⟩:=List.getElem_of_mem hjs
   rw [inn k hk] at hj
   obtain ⟨cs0,q1,_⟩:=liveIn k cs fz hj
   rw [bki k hk] at hx
   refine .inl ⟨k,hk,rfl,hx,fun q=>?_,cs0,q1⟩
   rcases g1.blk k cs0 fz q1 with ⟨_,_,n3⟩ | ⟨b,sz,arr,t,lo,hi,hlv⟩
   ·rw [n3] at hx;cases hx
   ·have e:=hlv.at_;rw [hx] at e;injection e with e;subst e;exact hlv.own.2 (.inr q)
  ·rw [updL_out _ _ _ _ hjs] at hj
   rw [bko j hjs] at hx
   exact .inr ⟨hjs,hj,hx,j,cs,fz,x,hjs,hj,hx,rfl⟩
 refine ⟨c,rfl,m',bk2,⟨hsim.base.le g5.size,g1.mem,fun a u hu=>g3 _ _ (hsim.ext a u hu),fun a u hu=>?_,fun j cs fz hj=>?_,fun i j ci fi cj fj x y hi hj hx hy e=>?_,fun id hid=>?_⟩,g2.renTo sg up,g3,ge,⟨g5.toBelow,fun k hk=>g5.kep k (.inl hk),g5.shp,g5.oth⟩⟩
 ·rcases g1.old a u hu with q | q
  ·exact hsim.old a u q
  ·exact .inr ⟨q.1,fun h=>q.2 (.inl h)⟩
 ·by_cases hjs:j ∈ sg
  ·obtain ⟨k,hk,rfl⟩:=List.getElem_of_mem hjs
   rw [inn k hk] at hj
   obtain ⟨cs0,q1,rfl⟩:=liveIn k cs fz hj
   rcases g1.blk k cs0 fz q1 with ⟨n1,n2,n3⟩ | ⟨b,sz,arr,t,lo,hi,hlv⟩
   ·exact .inl ⟨by rw [n1];rfl,n2,by rw [bki k hk];exact n3⟩
   ·refine .inr ⟨b,sz,arr,t,lo,hi,⟨by rw [bki k hk];exact hlv.at_,⟨hlv.own.1,fun h=>hlv.own.2 (.inl h)⟩,hlv.heap,hlv.size,hlv.free,by rw [renL_len];exact hlv.fit,fun u hu=>?_,fun i hi'=>?_,hlv.mu,hlv.fz⟩⟩
    ·obtain ⟨i,hi',rfl⟩:=List.getElem_of_mem hu
     rw [renL_len] at hi'
     rw [renL_get sg cs0 i hi',ren_one]
     exact hlv.one _ (List.getElem_mem _)
    ·rw [renL_len] at hi'
     obtain ⟨u,r1,r2⟩:=hlv.rep i hi'
     refine ⟨u,r1,?_⟩
     rw [renL_get sg cs0 i hi']
     exact r2.renTo sg up
  ·rw [updL_out _ _ _ _ hjs] at hj
   rcases hsim.blk j cs fz hj with ⟨n1,n2,n3⟩ | ⟨b,sz,arr,t,lo,hi,hlv⟩
   ·exact .inl ⟨n1,n2,by rw [bko j hjs];exact n3⟩
   ·have ho:oth b:=⟨j,cs,fz,(b,sz),hjs,hj,hlv.at_,rfl⟩
    refine .inr ⟨b,sz,arr,t,lo,hi,⟨by rw [bko j hjs];exact hlv.at_,hlv.own,?_,hlv.size,hlv.free,hlv.fit,hlv.one,fun i hi'=>?_,fun i hi'=>?_,fun i hi'=>?_⟩⟩
    ·rw [g5.kep b (.inr ho) (live_lt hlv)];exact hlv.heap
    ·obtain ⟨u,r1,r2⟩:=hlv.rep i hi'
     exact ⟨u,r1,r2.mono g3 ge⟩
    ·rw [otm b ho];exact hlv.mu i hi'
    ·rw [otm b ho];exact hlv.fz i hi'
 ·rcases all i ci fi x hi hx with ⟨k,hk,rfl,a1,a2,ca,a3⟩ | ⟨a0,a1,a2,a3⟩
  ·rcases all j cj fj y hj hy with ⟨k',hk',rfl,b1,b2,cb,b3⟩ | ⟨b0,b1,b2,b3⟩
   ·have:=g1.inj k k' _ _ _ _ x y a3 b3 a1 b1 e
    subst this;rfl
   ·exact absurd (e ▸ b3) a2
  ·rcases all j cj fj y hj hy with ⟨k',hk',rfl,b1,b2,cb,b3⟩ | ⟨b0,b1,b2,b3⟩
   ·exact absurd (e ▸ a3) b2
   ·exact hsim.inj i j _ _ _ _ x y a1 b1 a2 b2 e
 ·by_cases hjs:id ∈ sg
  ·obtain ⟨k,hk,rfl⟩:=List.getElem_of_mem hjs
   rw [inn k hk] at hid
   rw [bki k hk]
   rcases hid with hid | hid
   ·rw [List.getElem?_eq_getElem (by rw [List.length_map];omega)] at hid;cases hid
   ·rw [List.getElem?_map] at hid
    cases hs:st0'[k]? with
    | none=>rw [hs] at hid;cases hid
    | some s =>
     rw [hs] at hid
     cases s with
     | fresh=>exact g1.nb k (.inr hs)
     | live c g=>simp [Slot.ren] at hid
     | dead=>simp [Slot.ren] at hid
  ·rw [updL_out _ _ _ _ hjs] at hid
   rw [bko id hjs]
   exact hsim.nb id hid
end Go.Proofs.YtpkodpcfafipdaaGreat

namespace Go.Proofs.YtpkodpcfafipdaaGreat
open Go.RowKit
mutual
theorem litD_idlt:∀ v:V,v.litD=true→v.idlt 0=true
 | .lit _,_=>rfl
 | .agg cs,h=>litL_idlt cs h
 | .tup cs,h=>litL_idlt cs h
 | .sl _ _,_=>rfl
 | .osl _ _ _ _ _,h=>by simp [V.litD] at h
 | .ptr _ _,h=>by simp [V.litD] at h
 | .eptr _,_=>rfl
 | .clo _ cs,h=>by simp [V.litD] at h
 | .any,_=>rfl
theorem litL_idlt:∀ l:List V,V.litD.litL l=true→V.idlt.belowL 0 l=true
 | [],_=>rfl
 | v :: l,h=>by
  simp only [V.litD.litL,Bool.and_eq_true] at h
  simp only [V.idlt.belowL,Bool.and_eq_true]
  exact ⟨litD_idlt v h.1,litL_idlt l h.2⟩
end
inductive FzT (st:List Slot) (i:Nat):List V→List V→List Nat→Prop
 | nil:FzT st i [] [] []
 | id {v l l' r} (h:v.idlt 0=true) (t:FzT st i l l' r):FzT st i (v :: l) (v :: l') r
 | ptr {j cs us frz l l' r} (hj:st[j]?=some (.live cs frz)) (hne:j≠i) (h:SlWL cs us) (t:FzT st i l l' r):FzT st i (.ptr j 0 :: l) (.eptr us :: l') (j :: r)
theorem FzT.congr {st st2:List Slot} {i:Nat} {l l' : List V} {r:List Nat} (h:FzT st i l l' r):(∀ k,k ∈ r→st2[k]?=st[k]?)→FzT st2 i l l' r:=by
 induction h with
 | nil=>exact fun _=>.nil
 | id h _ ih=>exact fun hst=>.id h (ih hst)
 | ptr hj hne h _ ih=>exact fun hst=>.ptr ((hst _ (by simp)).trans hj) hne h (ih fun k hk=>hst k (by simp [hk]))
theorem FzT.rep {B:Kp} {m0 m mb:Mem} {bk bk' : Bks} {w:World} {st:List Slot} {i:Nat} {l l' : List V} {r:List Nat} (h:FzT st i l l' r) (hsim:Sim B m0 m bk w st) (mle:∀ a u,m a=some u→mb a=some u)
  (hmb:∀ (j:Nat) (c:List V) (g:Nat) (x:Nat × Nat),j≠i→st[j]?=some (.live c g)→bk j=some x→∀ a:Addr,a.block=x.1→mb a=w.cell? a):∀ {cs:List Value},RepL m bk cs l→RepL mb bk' cs l':=by
 induction h with
 | nil=>intro cs h;exact ⟨h.1,fun j _ h2=>absurd h2 (by simp)⟩
 | @id v l l' r h0 t ih =>
  intro cs hr
  cases cs with
  | nil=>have:=hr.1;simp at this
  | cons c cs =>
   have g0:=hr.2 0 (by simp) (by simp)
   have ih':=@ih cs ⟨by simpa using hr.1,fun j h1 h2=>hr.2 (j + 1) (Nat.succ_lt_succ h1) (Nat.succ_lt_succ h2)⟩
   refine ⟨by simpa using ih'.1,fun j h1 h2=>?_⟩
   cases j with
   | zero=>exact (Rep.zero g0 h0).mono mle fun _ _ h=>h
   | succ j=>exact ih'.2 j (Nat.lt_of_succ_lt_succ h1) (Nat.lt_of_succ_lt_succ h2)
 | @ptr j csj us frz l l' r hj hne hw t ih =>
  intro cs hr
  cases cs with
  | nil=>have:=hr.1;simp at this
  | cons c cs =>
   have g0:=hr.2 0 (by simp) (by simp)
   have ih':=@ih cs ⟨by simpa using hr.1,fun j h1 h2=>hr.2 (j + 1) (Nat.succ_lt_succ h1) (Nat.succ_lt_succ h2)⟩
   refine ⟨by simpa using ih'.1,fun k h1 h2=>?_⟩
   cases k with
   | succ k=>exact ih'.2 k (Nat.lt_of_succ_lt_succ h1) (Nat.lt_of_succ_lt_succ h2)
   | zero =>
    have gg:∀ c,Rep m bk c (.ptr j 0)→Rep mb bk' c (.eptr us):=fun c g0=>by
     cases g0 with
     | @ptr _ _ b sz _ hb =>
     obtain ⟨arr,t,lo,hi',hlv,hrep⟩:=sim_live hsim hj hb
     obtain ⟨hl,hat⟩:=hw.at
     refine .eptr (us:=fun k=>arr.getD k undef) (fun u hu=>?_) (fun k hk=>?_) (fun k hk=>?_)
     ·obtain ⟨k,hk,rfl⟩:=List.getElem_of_mem hu
      exact (hat k (by omega) hk).one (hlv.one _ (List.getElem_mem _))
     ·obtain ⟨u,g1,g2⟩:=hlv.rep k (by omega)
      rw [hmb j _ _ _ hne hj hb _ rfl,Nat.zero_add]
      simp only [World.cell?,hlv.heap,Array.getD_eq_getD_getElem?,g1];rfl
     ·obtain ⟨u,g1,g2⟩:=hlv.rep k (by omega)
      have e:arr.getD k undef=u:=by simp [Array.getD_eq_getD_getElem?,g1]
      rw [e]
      exact ((hat k (by omega) hk).rep g2).mono mle fun _ _ h=>h
    exact gg _ g0
end Go.Proofs.YtpkodpcfafipdaaGreat

namespace Go.Proofs.YtpkodpcfafipdaaGreat
open Go.RowKit
structure DelRoads (P:Program) (k:FuncId) (es:Nat):Prop where
 main:∀ (b n c i j:Nat) (cs:List Value) (w:World),i < j→j≤n→n≤c→n≤1000000→cs.length=n * es→(∀ t v,cs[t]?=some v→w.cell? ⟨b,t,none⟩=some v)→(∀ t,t < n * es→w.frozen? ⟨b,t,none⟩=false)→(∀ v ∈ cs,v.oneCell'=true) →
  Calls P k #[.slice (some ⟨b,0,none⟩) n c,.int .i64 i,.int .i64 j] w fun e w'=>∃ zs:List Value,zs.length=(j - i) * es∧(∀ v ∈ zs,v.oneCell'=true)∧e=.returned (.slice (some ⟨b,0,none⟩) (n - (j - i)) c)∧w'=(w.drew.setCells b (i * es) (cs.drop (j * es))).setCells b ((n - (j - i)) * es) zs
end Go.Proofs.YtpkodpcfafipdaaGreat

namespace Go.Proofs.YtpkodpcfafipdaaGreat
open Go.RowKit
theorem callsR_c {P:Program} {f:FuncId} {fn:Func} {ac:BCode} {n n0:Nat} {rs:List ARes} {args:List V} {v:V} {st st' : List Slot} (hmix:P.follows .mixedOrders=true) (hf:P.funcs[f]?=some fn) (hc:compF P fn=some (ac.er,n,rs)) (hn0:st.length=n0)
  (h:initK args n fun fr=>wpC P n0 ac (FinQ (FinR st rs v st')) fr st):CallsS P f args st v st' :=
 callsR_comp hmix hf hc hn0 (wpC_ok (fun _ _ _ h=>h.out) (initK_ok h))
section
variable {β : Type} {r : β} {P : Program} {st : List Slot}
end
end Go.Proofs.YtpkodpcfafipdaaGreat

namespace Go.Proofs.YtpkodpcfafipdaaGreat
open Go.RowKit
def tru? (m:Option Bool):Option Bool:=if m=some true then some true else none
theorem tru_of {m:Option Bool} {r:Bool} (h:tru? m=some r):r=true∧m=some true:=by
 unfold tru? at h
 split at h
 ·exact ⟨(Option.some.inj h).symm,‹_›⟩
 ·cases h
theorem tru_ok {m:Option Bool} (h:m=some true):tru? m=some true:=if_pos h
theorem tru_closed {P:Program} {k:FuncId} {vs:List V} {m:Option Bool} (h:CallsO P k vs V.b (tru? m)) (hm:m=some true):CallsO P k vs V.b m:=fun v hv=>by
 rw [hm] at hv
 cases hv
 exact h true (tru_ok hm)
theorem tstT_c {b:Bool} {A B:Prop} {X:Option Bool} (H:(bif b then X else some false)=some true) (h:b=true→X=some true→A):Tst b A B :=
 tst_c H h fun _ h=>by cases h
theorem tstF_c {b:Bool} {A B:Prop} {X:Option Bool} (H:(bif b then some false else X)=some true) (h:b=false→X=some true→B):Tst b A B :=
 tst_c H (fun _ h=>by cases h) h
theorem mksA_c {β:Type} {r:β} {α:Type} {f:α→V} {x0:α} {n:Int} {bytes:Nat} {z:List V} {X:List α→Option β} {k:Nat→List V→Bool→Prop} (H:(mk? n x0).bind X=some r) (hz:(f x0).cells=z) (h1:z.length=1) (hb:bytes≤1000) (h:∀ L,X L=some r→k n.toNat (cellsM f L) true):Mks 1 bytes z n n k :=
 mks_c (X:=fun L=>if L.length=n.toNat then X L else none) (r:=r) (by
  obtain ⟨L,hL,H'⟩:=bind_c H
  rw [hL]
  unfold mk? at hL
  split at hL
  ·simp only [Option.some.injEq] at hL
   subst hL
   simpa using H'
  ·cases hL) hz h1 hb fun L hL=>by
  by_cases e:L.length=n.toNat
  ·rw [if_pos e] at hL;rw [e];exact h L hL
  ·rw [if_neg e] at hL;cases hL
def lenG? {α:Type} (n:Nat) (l:List α):Option Unit:=if n=l.length then some () else none
theorem lenG_c {β α:Type} {r:β} {n:Nat} {l:List α} {X:Unit→Option β} (H:(lenG? n l).bind X=some r):∃ u:Unit,n=l.length∧X u=some r:=by
 obtain ⟨u,hu,H⟩:=bind_c H
 unfold lenG? at hu
 split at hu
 ·exact ⟨u,‹_›,H⟩
 ·cases hu
structure GrowRoads (P:Program) (k:FuncId) (es:Nat) (E:TypeId):Prop where
 some_:∀ (b:Option Addr) (n:Nat) (w:World),0 < n→n≤1000000→Calls P k #[.slice b 0 0,.int .i64 n] w fun e w'=>∃ (ZS:Array Value) (c:Nat),e=.returned (.slice (some ⟨w.heap.size,0,none⟩) 0 c)∧w'=w.drew.alloc (.cells ZS E)∧c * es≤ZS.size
 zero_:∀ (b:Option Addr) (w:World),Calls P k #[.slice b 0 0,.int .i64 0] w fun e w'=>e=.returned (.slice b 0 0)∧w'=w
end Go.Proofs.YtpkodpcfafipdaaGreat

namespace Go.Proofs.YtpkodpcfafipdaaGreat
open Go.RowKit
def p_octet_wide (a0:Int):Option (Bool) :=
 bif (a0 == (1:Int)) then
  some true
 else
 bif (a0 == (2:Int)) then
  some true
 else
 bif (a0 == (4:Int)) then
  some true
 else
 bif (a0 == (6:Int)) then
  some true
 else
 some false
def p_octet_Lay_l1 (a1:Int) (z15:Int) (z16:Int) (z18:Int):Nat→Int→(List Int)→Option ((Int × (List Int)))
 | 0,_,_=>none
 | n + 1,y19,y20 =>
  bif (decide (y19 < z18)) then
   (pos? (w64 ((8:Int) * y19))).bind fun x22 =>
   (arr? (Int.toNat a1) y20 (w64 (w64 (z16 - (1:Int)) - y19))).bind fun x23 =>
   p_octet_Lay_l1 a1 z15 z16 z18 n (w64 (y19 + (1:Int))) (List.set y20 (Int.toNat (w64 (w64 (z16 - (1:Int)) - y19))) (IntKind.wrap .u8 (shrI .i64 z15 (w64 ((8:Int) * y19)))))
  else
  some (y19,y20)
def p_octet_Lay (a0:Int) (a1:Int):Option ((List Int) × Int) :=
 (p_octet_wide a1).bind fun v1 =>
 bif v1 then
  bif (decide (a0 < (0:Int))) then
   some ([],(8:Int))
  else
  (pos? (w64 ((8:Int) * a1))).bind fun x4 =>
  bif ((shrI .i64 a0 (w64 ((8:Int) * a1))) != (0:Int)) then
   some ([],(8:Int))
  else
  (mk? a1 (0:Int)).bind fun l6 =>
  (p_octet_Lay_l1 a1 a0 a1 a1 fuel (0:Int) l6).bind fun q26 =>
  (lenG? (Int.toNat a1) q26.2).bind fun _ =>
  some (q26.2,(0:Int))
 else
 some ([],(2:Int))
def p_frame_Put (a0:ByteArray):Option (ByteArray × Int) :=
 bif (a0.toList == (⟨#[]⟩ : ByteArray).toList) then
  some ((⟨#[]⟩ : ByteArray),(4:Int))
 else
 bif (decide ((128:Int) < (a0.size:Int))) then
  some ((⟨#[]⟩ : ByteArray),(5:Int))
 else
 (p_octet_Lay (a0.size:Int) (2:Int)).bind fun v3 =>
 (text? v3.1).bind fun s4 =>
 (cat? s4 a0).bind fun s5 =>
 some (s5,v3.2)
end Go.Proofs.YtpkodpcfafipdaaGreat

namespace Go.Proofs.YtpkodpcfafipdaaGreat
open Go.RowKit
set_option maxRecDepth 100000
set_option maxHeartbeats 4000000
def gc70:BCode:=(.seq (R_ 0 [O_ 2 (.mv (b_ false)) 0]) (.seq (.seq (R_ 0 [O_ 3 (.mv (t_ 0)) 0]) (.block 0 (.seq (.seq (R_ 0 [O_ 5 (.bin .eql (t_ 3) (i_ 1)) 0,O_ 4 (.mv (t_ 5)) 0]) (.cond (t_ 4) .skip (.seq (R_ 0 [O_ 6 (.bin .eql (t_ 3) (i_ 2)) 0,O_ 4 (.mv (t_ 6)) 0]) (.cond (t_ 4) .skip (.seq (R_ 0 [O_ 7 (.bin .eql (t_ 3) (i_ 4)) 0,O_ 4 (.mv (t_ 7)) 0]) (.cond (t_ 4) .skip (R_ 0 [O_ 8 (.bin .eql (t_ 3) (i_ 6)) 0,O_ 4 (.mv (t_ 8)) 0]))))))) (.cond (t_ 4) (.seq (R_ 0 [O_ 2 (.mv (b_ true)) 0]) .ret) .skip)))) (.seq (R_ 0 [O_ 2 (.mv (b_ false)) 0]) .ret)))
theorem gc70_ok:compF Tryz.prog Tryz.f70=some (gc70.er,9,[.tmp 2]):=by unfold gc70;kernel_rfl
theorem p_octet_wide_v (a0:Int):CallsO Tryz.prog 70 [.i a0] V.b (p_octet_wide a0):=by
 refine callsO_comp mix Tryz.func70 gc70_ok fun r H=>?_
 rw [p_octet_wide] at H
 conv=>whnf
 refine tst_c H (fun b1 H=>?_) (fun b1 H=>?_)
 ·conv=>whnf
  refine Tst.T ?_;conv=>whnf
  exact fb_ H
 conv=>whnf
 refine tst_c H (fun b2 H=>?_) (fun b2 H=>?_)
 ·conv=>whnf
  refine Tst.T ?_;conv=>whnf
  exact fb_ H
 conv=>whnf
 refine tst_c H (fun b3 H=>?_) (fun b3 H=>?_)
 ·conv=>whnf
  refine Tst.T ?_;conv=>whnf
  exact fb_ H
 conv=>whnf
 refine tst_c H (fun b4 H=>?_) (fun b4 H=>?_)
 ·conv=>whnf
  exact fb_ H
 conv=>whnf
 exact fb_ H
def gc49:BCode:=(.seq (R_ 0 [O_ 4 (.mv (.const (.slice none 0 0))) 0,O_ 5 (.mv (i_ 0)) 0]) (.seq (.seq (R_ 0 [O_ 8 (.mv (t_ 1)) 0,O_ 9 (.cl 70 [(t_ 8)]) 0,O_ 10 (.un .not (t_ 9)) 0]) (.cond (t_ 10) (.seq (R_ 0 [O_ 4 (.mv (.const (.slice none 0 0))) 0,O_ 5 (.mv (i_ 2)) 0]) .ret) .skip)) (.seq (.seq (R_ 0 [O_ 11 (.mv (t_ 0)) 0,O_ 12 (.bin .lss (t_ 11) (i_ 0)) 0,O_ 13 (.mv (t_ 12)) 0,⟨(some 14),.mv (t_ 0),(some (13,false)),0⟩,⟨(some 15),.mv (t_ 1),(some (13,false)),0⟩,⟨(some 16),.bin .mul (i_ 8) (t_ 15),(some (13,false)),0⟩,⟨(some 17),.bin .shr (t_ 14) (t_ 16),(some (13,false)),0⟩,⟨(some 18),.bin .neq (t_ 17) (i_ 0),(some (13,false)),0⟩,O_ 19 (.pick (t_ 13) (b_ true) (t_ 18)) 0]) (.cond (t_ 19) (.seq (R_ 0 [O_ 4 (.mv (.const (.slice none 0 0))) 0,O_ 5 (.mv (i_ 8)) 0]) .ret) .skip)) (.seq (R_ 1 [O_ 20 (.mv (t_ 1)) 0,O_ 21 (.mks 1 1 [(.lit (.int .u8 0))] (t_ 20) (t_ 20)) 0,O_ 6 (.mv (t_ 21)) 1]) (.seq (.seq (R_ 0 [O_ 22 (.mv (t_ 1)) 0,O_ 23 (.mv (i_ 0)) 0]) (.block 0 (.loop (.seq (R_ 0 [O_ 24 (.bin .lss (t_ 23) (t_ 22)) 0]) (.seq (.cond (t_ 24) .skip (.exit 0)) (.seq (.block 1 (.seq (R_ 0 [O_ 25 (.mv (t_ 23)) 0,O_ 7 (.mv (t_ 25)) 0]) (R_ 0 [O_ 26 (.mv (t_ 6)) 0,O_ 27 (.mv (t_ 1)) 0,O_ 28 (.bin .sub (t_ 27) (i_ 1)) 0,O_ 29 (.mv (t_ 7)) 0,O_ 30 (.bin .sub (t_ 28) (t_ 29)) 0,O_ 31 (.mv (t_ 0)) 0,O_ 32 (.mv (t_ 7)) 0,O_ 33 (.bin .mul (i_ 8) (t_ 32)) 0,O_ 34 (.bin .shr (t_ 31) (t_ 33)) 0,O_ 35 (.cvi .u8 (t_ 34)) 0,O_ 36 (.ixs 1 (t_ 26) (t_ 30)) 0,U_ (.st 1 (t_ 36) (t_ 35)) 0]))) (R_ 0 [O_ 37 (.bin .add (t_ 23) (i_ 1)) 0,O_ 23 (.mv (t_ 37)) 0]))))))) (.seq (R_ 0 [O_ 38 (.mv (t_ 6)) 0,O_ 4 (.mv (t_ 38)) 0,O_ 5 (.mv (i_ 0)) 0]) .ret))))))
theorem gc49_ok:compF Tryz.prog Tryz.f49=some (gc49.er,39,[.tmp 4,.tmp 5]):=by unfold gc49;kernel_rfl
theorem p_octet_Lay_v (a0:Int) (a1:Int):CallsO Tryz.prog 49 [.i a0,.i a1] (fun r:(List Int) × Int=>.tup [(fun l:List Int=>V.sl (l.map V.y8) false) r.1,V.i r.2]) (p_octet_Lay a0 a1):=by
 refine callsO_comp mix Tryz.func49 gc49_ok fun r H=>?_
 rw [p_octet_Lay] at H
 conv=>whnf
 refine ask_c (p_octet_wide_v _) H rfl rfl (fun v1 H=>?_);conv=>whnf
 refine Tst.not ?_
 refine tst_d H (fun b2 H=>?_) (fun b2 H=>?_)
 ·conv=>whnf
  refine finR_c (enc:=(fun r:(List Int) × Int=>.tup [(fun l:List Int=>V.sl (l.map V.y8) false) r.1,V.i r.2])) H ?_;conv=>whnf
  exact ⟨_,.tup (.cons (.c (.slw)) (.cons (.c (.id rfl)) (.nil)))⟩
 conv=>whnf
 refine tst_c H (fun b3 H=>?_) (fun b3 H=>?_)
 ·conv=>whnf
  iterate 6 (refine Tst.T ?_;conv=>whnf)
  refine finR_c (enc:=(fun r:(List Int) × Int=>.tup [(fun l:List Int=>V.sl (l.map V.y8) false) r.1,V.i r.2])) H ?_;conv=>whnf
  exact ⟨_,.tup (.cons (.c (.slw)) (.cons (.c (.id rfl)) (.nil)))⟩
 conv=>whnf
 iterate 2 (refine Tst.F ?_;conv=>whnf)
 refine Ari.w ?_;conv=>whnf
 refine Tst.F ?_;conv=>whnf
 refine Shr.ok (pos_c H).1 ((fun H=>?_) (pos_c H).2);conv=>whnf
 iterate 2 (refine Tst.F ?_;conv=>whnf)
 refine tst_c H (fun b5 H=>?_) (fun b5 H=>?_)
 ·conv=>whnf
  refine finR_c (enc:=(fun r:(List Int) × Int=>.tup [(fun l:List Int=>V.sl (l.map V.y8) false) r.1,V.i r.2])) H ?_;conv=>whnf
  exact ⟨_,.tup (.cons (.c (.slw)) (.cons (.c (.id rfl)) (.nil)))⟩
 conv=>whnf
 refine mksA_c (f:=V.y8) H rfl rfl (by decide) (fun l6 H=>?_);conv=>whnf
 obtain ⟨o8,HL9,HQ10⟩:=bind_c H
 refine loop_c [23] [7,24,25,26,27,28,29,30,31,32,33,34,35,36,37,21] [7,24,25,26,27,28,29,30,31,32,33,34,35,36,37,21] (fun n vals st=>(∃ y12 y13,p_octet_Lay_l1  a1 a0 a1 a1 n y12 y13=some o8∧vals=[.i y12]∧st=[.live (cellsM V.y8 y13) 0])) fuel 1 [] (⟨_,_,HL9,rfl,rfl⟩) (Nat.zero_le _) rfl (by kernel_rfl) (by kernel_rfl) rfl (wkB_live0 rfl (cellsM_idlt (f:=V.y8) (fun _=>rfl) _) rfl trivial) ?_
 rintro (_ | n11) _ _ (⟨y12,y13,H,rfl,rfl⟩)
 ·rw [p_octet_Lay_l1] at H;cases H
 rw [p_octet_Lay_l1] at H
 conv=>whnf
 refine tst_d H (fun b14 H=>?_) (fun b14 H=>?_)
 ·conv=>whnf
  obtain rfl:=Option.some.inj H
  have H:=HQ10
  try dsimp only at H
  obtain ⟨_,h18,H⟩:=lenG_c H
  refine finRz_c (enc:=(fun r:(List Int) × Int=>.tup [(fun l:List Int=>V.sl (l.map V.y8) false) r.1,V.i r.2])) [0] H ?_;conv=>whnf
  refine ⟨Nat.zero_le _,?_⟩;conv=>whnf
  exact ⟨_,.tup (.cons (.c (fzc_made (f:=V.y8) (l:=y13) rfl rfl rfl h18 (fun _=>rfl) (fun _=>rfl))) (.cons (.c (.id rfl)) (.nil)))⟩
 conv=>whnf
 iterate 3 (refine Ari.w ?_;conv=>whnf)
 refine Shr.ok (pos_c H).1 ((fun H=>?_) (pos_c H).2);conv=>whnf
 refine Ari.w ?_;conv=>whnf
 refine ⟨rfl,ixa_c H (fun x16 h17 H=>?_)⟩;conv=>whnf
 refine ⟨Nat.zero_le _,sto_c (f:=V.y8) (es:=1) h17 (x':=IntKind.wrap .u8 (shrI .i64 a0 (w64 ((8:Int) * y12)))) (fun _=>rfl) 0 (by omega) (Nat.le_of_ble_eq_true rfl) (by rfl) ?_⟩;conv=>whnf
 refine Ari.w ?_;conv=>whnf
 exact again_c [7,24,25,26,27,28,29,30,31,32,33,34,35,36,37,21] n11 1 [] (⟨_,_,H,rfl,rfl⟩) (Nat.lt_succ_self _) (Nat.zero_le _) rfl (by kernel_rfl) (by kernel_rfl) rfl (wkB_live0 rfl (cellsM_idlt (f:=V.y8) (fun _=>rfl) _) rfl trivial)
def gc63:BCode:=(.seq (R_ 0 [O_ 2 (.mv (.const (.string ⟨#[]⟩))) 0,O_ 3 (.mv (i_ 0)) 0]) (.seq (.seq (R_ 0 [O_ 6 (.mv (t_ 0)) 0,O_ 7 (.bin .eql (t_ 6) (.const (.string ⟨#[]⟩))) 0]) (.cond (t_ 7) (.seq (R_ 0 [O_ 2 (.mv (.const (.string ⟨#[]⟩))) 0,O_ 3 (.mv (i_ 4)) 0]) .ret) .skip)) (.seq (.seq (R_ 0 [O_ 8 (.mv (t_ 0)) 0,O_ 9 (.lent (t_ 8)) 0,O_ 10 (.bin .gtr (t_ 9) (i_ 128)) 0]) (.cond (t_ 10) (.seq (R_ 0 [O_ 2 (.mv (.const (.string ⟨#[]⟩))) 0,O_ 3 (.mv (i_ 5)) 0]) .ret) .skip)) (.seq (R_ 0 [O_ 12 (.mv (t_ 0)) 0,O_ 13 (.lent (t_ 12)) 0,O_ 14 (.cl 49 [(t_ 13),(i_ 2)]) 0,O_ 11 (.mv (t_ 14)) 0,O_ 15 (.ex (t_ 11) 0) 0,O_ 16 (.ex (t_ 11) 1) 0,O_ 4 (.mv (t_ 15)) 0,O_ 5 (.mv (t_ 16)) 0]) (.seq (R_ 0 [O_ 17 (.mv (t_ 4)) 0,O_ 18 (.b2s (t_ 17)) 0,O_ 19 (.mv (t_ 0)) 0,O_ 20 (.bin .add (t_ 18) (t_ 19)) 0,O_ 21 (.mv (t_ 5)) 0,O_ 2 (.mv (t_ 20)) 0,O_ 3 (.mv (t_ 21)) 0]) .ret)))))
theorem gc63_ok:compF Tryz.prog Tryz.f63=some (gc63.er,22,[.tmp 2,.tmp 3]):=by unfold gc63;kernel_rfl
theorem p_frame_Put_v (a0:ByteArray):CallsO Tryz.prog 63 [.s a0] (fun r:ByteArray × Int=>.tup [V.s r.1,V.i r.2]) (p_frame_Put a0):=by
 refine callsO_comp mix Tryz.func63 gc63_ok fun r H=>?_
 rw [p_frame_Put] at H
 conv=>whnf
 refine tst_c H (fun b1 H=>?_) (fun b1 H=>?_)
 ·conv=>whnf
  exact fin0_c (enc:=(fun r:ByteArray × Int=>.tup [V.s r.1,V.i r.2])) H (.inr rfl) (.cons (.tmp rfl) (.cons (.tmp rfl) (.nil))) rfl rfl
 conv=>whnf
 refine tst_c H (fun b2 H=>?_) (fun b2 H=>?_)
 ·conv=>whnf
  exact fin0_c (enc:=(fun r:ByteArray × Int=>.tup [V.s r.1,V.i r.2])) H (.inr rfl) (.cons (.tmp rfl) (.cons (.tmp rfl) (.nil))) rfl rfl
 conv=>whnf
 refine ask_c (p_octet_Lay_v _ _) H rfl rfl (fun v3 H=>?_);conv=>whnf
 refine b2sI_c H (fun s4 H=>?_);conv=>whnf
 refine cat_c H (fun s5 H=>?_);conv=>whnf
 exact fin0_c (enc:=(fun r:ByteArray × Int=>.tup [V.s r.1,V.i r.2])) H (.inr rfl) (.cons (.tmp rfl) (.cons (.tmp rfl) (.nil))) rfl rfl
end Go.Proofs.YtpkodpcfafipdaaGreat

namespace Go.Proofs.YtpkodpcfafipdaaGreat
open Go.RowKit
def joinL (put:ByteArray→Option (ByteArray × Int)):List ByteArray→List UInt8→Option (ByteArray × Int)
 | [],acc=>some (⟨acc.toArray⟩,0)
 | s :: l,acc=>(put s).bind fun r=>if r.2≠0 then some (⟨#[]⟩,r.2) else if acc.length + r.1.size≤1000000000 then joinL put l (acc++r.1.data.toList) else none
def p_frame_Join (l:List ByteArray):Option (ByteArray × Int):=if l.length≤1000000 then joinL p_frame_Put l [] else none
theorem strCells_bytes (s:ByteArray) (acc:List UInt8):Lib.byteCells acc++Lib.strCells s=Lib.byteCells (acc++s.data.toList):=by
 simp [Lib.byteCells,Lib.strCells]
set_option maxHeartbeats 2000000 in
theorem frameJoin_c (A:Option Addr) (n cap:Nat) (ss:List ByteArray) (w:World) (hml:ML w) (hn:n=ss.length) (hn2:n≤1000000) (hs:∀ k (h:k < ss.length),∃ b o,A=some ⟨b,o,none⟩∧w.cell? ⟨b,o + k,none⟩=some (.string ss[k])) (r:ByteArray × Int) (hr:joinL p_frame_Put ss []=some r) :
  Calls Tryz.prog 42 #[.slice A n cap] w (Ret w (.tuple #[.string r.1,.int .i64 r.2])):=by
 have HS:=Lib.hid hs
 have HN:=Lib.hid hn
 have HR:=Lib.hid hr
 clear hs hn hr
 go_enter Tryz.func42,Tryz.ntmps42
 go_wp2
 go_loopw [6,7,8,11] (fun _ _ _ i wr=>∃ (k:Nat) (acc:List UInt8),k≤n∧i=.int .i64 k∧Lib.IsBuilder 128 5 w.heap.size w.heap.size (Lib.byteCells acc) wr∧acc.length≤1000000000∧Below w.heap.size w wr∧joinL p_frame_Put (ss.drop k) acc=some r) (fun _ _ _ i _=>n - (intOf i).toNat)
 case atStart=>exact ⟨0,[],Nat.zero_le _,rfl,Lib.fresh_isBuilder _ _ _,Nat.zero_le _,bel_,HR.out⟩
 case round =>
  obtain ⟨k,acc,hk,rfl,hb,ha,hB,hj⟩:=hrel
  have hbl:=hb
  have HB:=Lib.hid hb
  have HJ:=Lib.hid hj
  clear hb hbl hj
  by_cases hlt:k < n
  ·have hkl:k < ss.length:=by rw [← HN.out];exact hlt
   obtain ⟨b,o,rfl,hc⟩:=HS.out k hkl
   have hcw:wr.cell? ⟨b,o + k,none⟩=some (.string ss[k]):=(hB.cell (p:=⟨b,o + k,none⟩) (cell_lt hc)).trans hc
   obtain ⟨hm1,m,hm2⟩:=hml
   have hmr:ML wr:=⟨Nat.lt_of_lt_of_le hm1 hB.size,m,(hB.cell (p:=⟨0,0,none⟩) hm1).trans hm2⟩
   clear hc hm2
   have hjj:=HJ.out
   rw [List.drop_eq_getElem_cons hkl,joinL] at hjj
   cases hq:p_frame_Put ss[k] with
   | none=>rw [hq] at hjj;cases hjj
   | some q =>
    rw [hq,Option.bind_some] at hjj
    obtain ⟨q1,q2⟩:=q
    have HP:=Lib.hid (calls_lit (vs:=[.string ss[k]]) (rs:=[.string q1,.int .i64 q2]) (p_frame_Put_v ss[k] (q1,q2) hq) (by simp [Value.oneCell']))
    have HQ:=Lib.hid hjj
    clear hq hjj
    by_cases h0:q2=0
    ·subst h0
     have hq2:=HQ.out
     rw [if_neg (by simp)] at hq2
     split at hq2
     case isFalse=>cases hq2
     rename_i hlen
     have HZ:=Lib.hid hq2
     clear hq2 HQ
     go_wp2_with (first
      | (go_at_call 63;(with_reducible refine (HP.out wr hmr).mono ?_);rintro e w1 ⟨rfl,hb1⟩;have hbw:=isb_below HB.out hb1;have hB1:=hB.trans (hb1.mono hB.size);have hz1:=hb1.size)
      | (go_at_call 64;(with_reducible refine (write_c _ _ _ q1 _ hbw (by rw [Lib.byteCells_length];omega) (Nat.le_trans hB.size hz1)).mono ?_);rintro e w2 ⟨rfl,hb2,hB2⟩))
     exact ⟨⟨k + 1,acc++q1.data.toList,by omega,by go_num,.inr (by rw [← strCells_bytes];exact hb2),by simp;omega,hB1.trans hB2,HZ.out⟩,by simp [intOf];omega⟩
    ·have hq2:=HQ.out
     rw [if_pos h0] at hq2
     have hr:r=(⟨#[]⟩,q2):=(Option.some.inj hq2).symm
     clear hq2 HQ
     have HR2:=Lib.hid hr
     clear hr
     have hne:(q2 != 0)=true:=by simpa using h0
     go_wp2_with (first
      | (go_at_call 63;(with_reducible refine (HP.out wr hmr).mono ?_);rintro e w1 ⟨rfl,hb1⟩;have hB1:=hB.trans (hb1.mono hB.size)))
     go_ret2
     exact ⟨by rw [HR2.out];rfl,hB1⟩
  ·have hkn:k=ss.length:=by have:=HN.out;omega
   have hjj:=HJ.out
   rw [hkn,List.drop_length,joinL] at hjj
   have hr:r=(⟨acc.toArray⟩,0):=(Option.some.inj hjj).symm
   have HR2:=Lib.hid hr
   have hbb:=HB.out
   have HK:=Lib.hid hkn
   clear hjj hr hkn
   go_wp2_with (first
    | (go_at_call 65;(with_reducible refine (Tryz.Builder_String_any _ _ acc _ hbb hB.size).mono ?_);rintro e w2 ⟨rfl,hB2⟩))
   go_ret2
   exact ⟨by rw [HR2.out];rfl,hB.trans hB2⟩
theorem flat_s (L:List ByteArray):((List.map V.s L).flatMap V.cells)=L.map V.s:=by
 induction L with
 | nil=>rfl
 | cons y L ih=>simp [V.cells,ih]
theorem p_frame_Join_v {u:Bool} (l:List ByteArray):CallsO Tryz.prog 42 [.sl (List.map V.s l) u] (fun r:ByteArray × Int=>.tup [V.s r.1,V.i r.2]) (p_frame_Join l):=by
 intro r hr m w cargs hg hmem hargs
 unfold p_frame_Join at hr
 split at hr
 case isFalse=>cases hr
 rename_i hl
 obtain ⟨hsz,hrp⟩:=hargs
 obtain ⟨c,rfl⟩ : ∃ c,cargs=#[c]:=by
  have h1:cargs.size=1:=hsz
  exact ⟨cargs[0],by apply Array.ext;simp [h1];intro i a b;simp at b;subst b;rfl⟩
 have h0:=hrp 0 (by simp) (by simp)
 simp only [List.getElem_cons_zero] at h0
 change Rep m noBk c _ at h0
 obtain ⟨n,hn⟩:=hg
 have hml:ML w:=⟨by have:=cell_lt (hmem _ _ hn);omega,n,hmem _ _ hn⟩
 have fin:∀ (A:Option Addr) (k cap:Nat),c=.slice A k cap→k=l.length→(∀ j (h:j < l.length),∃ b o,A=some ⟨b,o,none⟩∧w.cell? ⟨b,o + j,none⟩=some (.string l[j]))→Calls Tryz.prog 42 #[c] w fun e w'=>∃ c m',e=.returned c∧Below w.heap.size w w'∧(∀ a u,m' a=some u→w'.cell? a=some u)∧(∀ a u,m a=some u→m' a=some u)∧(∀ a u,m' a=some u→m a=some u∨w.heap.size≤a.block)∧Rep m' noBk c (.tup [V.s r.1,V.i r.2]):=fun A k cap hc hk hs=>by
  subst hc
  refine (frameJoin_c A k cap l w hml hk (by omega) hs r hr).mono ?_
  rintro e w' ⟨rfl,hb⟩
  refine ⟨_,m,rfl,hb,fun a u h=>(hb.cell (cell_lt (hmem a u h))).trans (hmem a u h),fun _ _ h=>h,fun _ _ h=>.inl h,.tup rfl fun j h1 h2=>?_⟩
  have:j=0∨j=1:=by simp at h1;omega
  rcases this with rfl | rfl
  ·exact .lit rfl
  ·exact .lit rfl
 cases l with
 | nil =>
  cases h0 with
  | sl hn hc hf hes h1 hm h=>exact fin _ _ _ rfl (by simpa using hn) fun j h=>absurd h (Nat.not_lt_zero _)
  | slnil hf=>exact fin _ _ _ rfl rfl fun j h=>absurd h (Nat.not_lt_zero _)
 | cons x l =>
  generalize hL:x :: l=L at *
  have hfl:=flat_s L
  have hlen:(List.map V.s L).length=L.length:=List.length_map ..
  generalize hX:List.map V.s L=X at *
  cases h0 with
  | slnil hf=>exfalso;rw [← hL] at hlen;cases hlen
  | @sl _ b o k cap es full xs us hn hc hf hes h1 hm h =>
   refine fin _ _ _ rfl (hn.trans hlen) fun j hj=>⟨b,o,rfl,?_⟩
   have hj2:j < (X.flatMap V.cells).length:=by rw [hfl,hlen];exact hj
   have e1:=hm j hj2
   have e2:=h j hj2
   have e3:(X.flatMap V.cells)[j]=V.s L[j]:=by
    rw [List.getElem_of_eq hfl hj2]
    subst hX
    simp
   rw [e3] at e2
   have e4:=e2.int
   rw [e4] at e1
   exact hmem _ _ e1
end Go.Proofs.YtpkodpcfafipdaaGreat

namespace Go.Proofs.YtpkodpcfafipdaaGreat
open Go.RowKit
theorem wcl_fz {st:List Slot} {sg:List Nat} {n:Nat} {l l' : List V} {rd:List Nat} (h:FzL st l l' rd):WCL st sg n l l':=by
 induction h with
 | nil=>exact .nil
 | cons h _ ih=>exact .cons (.fz h) ih
structure FzW (st:List Slot) (u v:V):Prop where
 out:∃ l l' rd,u=.agg l∧v=.agg l'∧FzL st l l' rd∧l'.all V.one=true
end Go.Proofs.YtpkodpcfafipdaaGreat

namespace Go.Proofs.YtpkodpcfafipdaaGreat
open Go.RowKit
def Slot.okN (n:Nat):Slot→Bool
 | .live cs _=>V.idlt.belowL n cs
 | _=>true
mutual
theorem idlt_mo {n m:Nat} (hm:n≤m):∀ v:V,v.idlt n=true→v.idlt m=true
 | .lit _,_=>rfl
 | .agg cs,h=>idltL_mo hm cs h
 | .tup cs,h=>idltL_mo hm cs h
 | .sl _ _,_=>rfl
 | .osl _ _ _ _ _,h=>by simp [V.idlt] at h ⊢;omega
 | .ptr _ _,h=>by simp [V.idlt] at h ⊢;omega
 | .eptr _,_=>rfl
 | .clo _ cs,h=>idltL_mo hm cs h
 | .any,_=>rfl
theorem idltL_mo {n m:Nat} (hm:n≤m):∀ l:List V,V.idlt.belowL n l=true→V.idlt.belowL m l=true
 | [],_=>rfl
 | v :: l,h=>by
  simp only [V.idlt.belowL,Bool.and_eq_true] at h ⊢
  exact ⟨idlt_mo hm v h.1,idltL_mo hm l h.2⟩
end
theorem okN_M {n k:Nat} {cs:List V} (h:V.idlt.belowL 0 cs=true):Slot.okN n (.live cs k)=true:=idltL_up _ h
def keptA (n:Nat):List Slot→List Slot→Prop
 | [],_=>True
 | s :: r,st=>(st[0]?=some s∧s.okN n=true)∧keptA n r st.tail
def keptK (n:Nat):List Slot→List Slot→Nat→Prop
 | [],_,_=>True
 | _ :: r,st,0=>keptA n r st.tail
 | s :: r,st,i + 1=>(st[0]?=some s∧s.okN n=true)∧keptK n r st.tail i
theorem keptA_ok {n:Nat}:∀ {r st:List Slot},keptA n r st→∀ (k:Nat) (s:Slot),r[k]?=some s→st[k]?=some s∧s.okN n=true
 | [],st,_,k,s,hk=>by simp at hk
 | x :: r,st,h,0,s,hk=>by
  simp only [List.getElem?_cons_zero,Option.some.injEq] at hk
  subst hk;exact h.1
 | x :: r,st,h,k + 1,s,hk=>by
  rw [List.getElem?_cons_succ] at hk
  obtain ⟨h1,h2⟩:=keptA_ok h.2 k s hk
  rw [List.getElem?_tail] at h1
  exact ⟨h1,h2⟩
theorem keptK_ok {n:Nat}:∀ {r st:List Slot} {i:Nat},keptK n r st i→∀ (k:Nat) (s:Slot),k≠i→r[k]?=some s→st[k]?=some s∧s.okN n=true
 | [],st,i,_,k,s,_,hk=>by simp at hk
 | x :: r,st,0,h,0,s,hn,hk=>absurd rfl hn
 | x :: r,st,0,h,k + 1,s,hn,hk=>by
  rw [List.getElem?_cons_succ] at hk
  obtain ⟨h1,h2⟩:=keptA_ok h k s hk
  rw [List.getElem?_tail] at h1
  exact ⟨h1,h2⟩
 | x :: r,st,i + 1,h,0,s,hn,hk=>by
  simp only [List.getElem?_cons_zero,Option.some.injEq] at hk
  subst hk;exact h.1
 | x :: r,st,i + 1,h,k + 1,s,hn,hk=>by
  rw [List.getElem?_cons_succ] at hk
  obtain ⟨h1,h2⟩:=keptK_ok h.2 k s (fun e=>hn (by rw [e])) hk
  rw [List.getElem?_tail] at h1
  exact ⟨h1,h2⟩
theorem finP_c {rs:List ARes} {fr:List V} {st st0:List Slot} {α:Type} {enc:α→V} {x y:α} {e:AExit} {T:α→List V} {i:Nat} (is:List Nat) (he:e=.normal∨e=.ret) (H:some x=some y) (hi:i < st0.length)
  (h:frzI is st fun st=>keptK st0.length st0 st i∧(∃ T0 rd,st[i]?=some (.live T0 0)∧FzL st T0 (T x) rd∧(T x).all V.one=true)∧resK fr st rs fun vs=>mkRK vs fun v=>v=enc x∧v.idlt 0=true):FinQ (FinR st0 rs (enc y) (st0.set i (.live (T y) 0))) e fr st:=by
 cases H
 obtain ⟨st1,hf,h1,⟨T0,rd,h2,h3,h4⟩,h⟩:=frzI_ok h
 obtain ⟨vs,h5,h6⟩:=resK_ok h
 rw [mkRK_eq] at h6
 obtain ⟨h6,h7⟩:=h6
 have one:∀ v ∈ T x,v.one=true:=by simpa using h4
 have get:∀ (k:Nat),(st0.set i (.live (T x) 0))[k]?=if i=k then some (.live (T x) 0) else st0[k]?:=fun k=>by
  rw [List.getElem?_set]
  by_cases e:i=k
  ·rw [if_pos e,if_pos hi,if_pos e]
  ·rw [if_neg e,if_neg e]
 refine ⟨he,[],st1,vs,hf,h5,.v (.c (.ren (by rw [← h6,ren_nil]) (by rw [← h6];exact idlt_up _ h7))),fun i _ _=>rfl,⟨List.length_set ..,fun k cs f hk=>?_,fun k hk=>?_,fun i j _ _ _ _ _ _ h=>h⟩⟩
 ·rw [get] at hk
  by_cases e:i=k
  ·rw [if_pos e] at hk
   simp only [Option.some.injEq,Slot.live.injEq] at hk
   obtain ⟨rfl,rfl⟩:=hk
   subst e
   exact ⟨T0,h2,wcl_fz h3,.inl one⟩
  ·rw [if_neg e] at hk
   obtain ⟨g1,g2⟩:=keptK_ok h1 k _ (fun q=>e q.symm) hk
   exact ⟨cs,g1,wcl_nil g2,.inr (renL_nil _).symm⟩
 ·rw [get] at hk
  by_cases e:i=k
  ·rw [if_pos e] at hk;cases hk
  ·rw [if_neg e] at hk
   exact (keptK_ok h1 k _ (fun q=>e q.symm) hk).1
end Go.Proofs.YtpkodpcfafipdaaGreat

namespace Go.Proofs.YtpkodpcfafipdaaGreat
open Go.RowKit
section
variable {β : Type} {r : β} {P : Program} {st : List Slot}
theorem owl_fix {i:Nat} {st0:List Slot} (h0:st0=[.fresh,.fresh]) (hi:i < 2) (h:st0[i]?≠some .fresh) {A:Prop}:A:=by
 subst h0
 exfalso;apply h
 rcases i with _ | _ | i
 ·rfl
 ·rfl
 ·omega
end
end Go.Proofs.YtpkodpcfafipdaaGreat

namespace Go.Proofs.YtpkodpcfafipdaaGreat
open Go.RowKit
set_option maxHeartbeats 1000000 in
set_option maxRecDepth 100000 in
theorem a_load (b off:Nat) (n:Int) (w:World) (h0:w.cell? ⟨b,off,none⟩=some (.int .i64 n)) :
  Calls Tryz.prog 34 #[.pointer (some ⟨b,off,none⟩)] w fun e w'=>e=.returned (.int .i64 n)∧w'=w:=by
 have mixed:Tryz.prog.follows .mixedOrders=true:=mix
 go_enter Tryz.func34,Tryz.ntmps34
 go_wp2
 rw [run_call_load Tryz.func57 (by kernel_rfl) (by kernel_rfl) (by kernel_rfl) .i64 (by kernel_rfl) h0]
 rw [Oper.upon_value]
 go_wp2
 go_ret
 exact ⟨rfl,rfl⟩
set_option maxHeartbeats 1000000 in
set_option maxRecDepth 100000 in
theorem a_store (b off:Nat) (n:Int) (u:Value) (w:World) (h0:w.cell? ⟨b,off,none⟩=some u) (hz:w.frozen? ⟨b,off,none⟩=false) :
  Calls Tryz.prog 43 #[.pointer (some ⟨b,off,none⟩),.int .i64 n] w fun e w'=>e=.returned (.tuple #[])∧w'=w.setCell ⟨b,off,none⟩ (.int .i64 n):=by
 have mixed:Tryz.prog.follows .mixedOrders=true:=mix
 go_enter Tryz.func43,Tryz.ntmps43
 go_wp2
 rw [run_call_store Tryz.func66 (by kernel_rfl) (by kernel_rfl) (by kernel_rfl) (by kernel_rfl) h0 hz]
 rw [Oper.upon_value]
 go_wp2
 go_end0
 exact ⟨rfl,rfl⟩
set_option maxHeartbeats 1000000 in
set_option maxRecDepth 100000 in
theorem a_add (b off:Nat) (x n:Int) (w:World) (h0:w.cell? ⟨b,off,none⟩=some (.int .i64 x)) (hz:w.frozen? ⟨b,off,none⟩=false) :
  Calls Tryz.prog 44 #[.pointer (some ⟨b,off,none⟩),.int .i64 n] w fun e w'=>e=.returned (.int .i64 (IntKind.wrap .i64 (x + n)))∧w'=w.setCell ⟨b,off,none⟩ (.int .i64 (IntKind.wrap .i64 (x + n))):=by
 have mixed:Tryz.prog.follows .mixedOrders=true:=mix
 go_enter Tryz.func44,Tryz.ntmps44
 go_wp2
 rw [run_call_add Tryz.func67 (by kernel_rfl) (by kernel_rfl) (by kernel_rfl) .i64 (by kernel_rfl) h0 hz (s:=IntKind.wrap .i64 (x + n)) rfl]
 rw [Oper.upon_value]
 go_wp2
 go_ret
 rw [show IntKind.wrap .i64 (x + n)=wrap64 (x + n) by rw [IntKind.wrap_i64,wrap64]]
 exact ⟨rfl,rfl⟩
theorem arg1 {m:Mem} {bk:Bks} {cargs:Array Value} {x:V} (h:RepA m bk cargs [x]):∃ c,cargs=#[c]∧Rep m bk c x:=by
 obtain ⟨hsz,hrp⟩:=h
 have h1:cargs.size=1:=hsz
 refine ⟨cargs[0],?_,hrp 0 (by omega) (by simp)⟩
 apply Array.ext
 ·simp [h1]
 ·intro i a b
  have:i=0:=by simp at b;omega
  subst this;rfl
theorem arg2 {m:Mem} {bk:Bks} {cargs:Array Value} {x y:V} (h:RepA m bk cargs [x,y]):∃ c d,cargs=#[c,d]∧Rep m bk c x∧Rep m bk d y:=by
 obtain ⟨hsz,hrp⟩:=h
 have h1:cargs.size=2:=hsz
 refine ⟨cargs[0],cargs[1],?_,hrp 0 (by omega) (by simp),hrp 1 (by omega) (by simp)⟩
 apply Array.ext
 ·simp [h1]
 ·intro i a b
  have:i=0∨i=1:=by simp at b;omega
  rcases this with rfl | rfl <;> rfl
theorem callsS_load {st:List Slot} {id off frz:Nat} {cs:List V} {n:Int} (hi:st[id]?=some (.live cs frz)) (hc:cs[off]?=some (.i n)):CallsS Tryz.prog 34 [.ptr id off] st (.i n) st:=by
 intro B m0 m bk w cargs hg hsim hargs
 obtain ⟨c,rfl,h0⟩:=arg1 hargs
 cases h0 with
 | @ptr _ _ b bsz _ hb =>
  obtain ⟨arr,tt,lo,hi',hlv,_⟩:=sim_live hsim hi hb
  obtain ⟨ho,e⟩:=List.getElem?_eq_some_iff.1 hc
  obtain ⟨u,hu,hr⟩:=hlv.rep off ho
  rw [e] at hr
  have hu2:u=.int .i64 n:=hr.int
  subst hu2
  refine (a_load b off n w (by simp [World.cell?,hlv.heap,hu])).mono ?_
  rintro e w' ⟨rfl,rfl⟩
  exact ⟨_,rfl,m,bk,hsim,.lit rfl,fun _ _ h=>h,fun _ _ h=>h,Bel.refl _ _⟩
theorem aft_cell {B:Kp} {m0 m:Mem} {bk:Bks} {w:World} {st:List Slot} {id off b bsz:Nat} {cs:List V} {x:Int} (hsim:Sim B m0 m bk w st) (hi:st[id]?=some (.live cs 0)) (hb:bk id=some (b,bsz)) (ho:off < cs.length) {v:V} {c:Value} (hr:Rep m bk c v) :
  Aft B m0 m bk w (st.set id (.live (cs.set off (.i x)) 0)) v c (w.setCell ⟨b,off,none⟩ (.int .i64 x)):=by
 obtain ⟨arr,tt,lo,hi',hlv,_⟩:=sim_live hsim hi hb
 have hfit:=hlv.fit
 have hsize:=hlv.size
 obtain ⟨⟨arr',g1,g2,g3⟩,g4,g5,g6,g7,g8⟩:=setCells_heap b tt (lo,hi') [Value.int .i64 x] off w arr hlv.heap (by simp;omega)
 refine ⟨m,bk,hsim.write hi hlv g1 g2 g4 g5 (fun k hk=>absurd hk (Nat.not_lt_zero _)) (by simpa using hfit) (fun u hu=>?_) (fun k hk=>?_),hr,fun _ _ h=>h,fun _ _ h=>h,Bel.write g6 g7 g8 hlv.heap g1 g2 g4 g5 hlv.own⟩
 ·rcases List.mem_or_eq_of_mem_set hu with h | rfl
  ·exact hlv.one u h
  ·rfl
 ·rw [g3]
  have hk' : k < cs.length:=by simpa using hk
  by_cases c:k=off
  ·subst c
   rw [if_pos (by simp)]
   refine ⟨.int .i64 x,by simp,?_⟩
   rw [List.getElem_set_self]
   exact .lit rfl
  ·rw [if_neg (by simp;omega),List.getElem_set_ne (Ne.symm c)]
   exact hlv.rep k hk'
theorem live_cell {B:Kp} {m0 m:Mem} {bk:Bks} {w:World} {st:List Slot} {id off b bsz:Nat} {cs:List V} (hsim:Sim B m0 m bk w st) (hi:st[id]?=some (.live cs 0)) (hb:bk id=some (b,bsz)) {x:Int} (hc:cs[off]?=some (.i x)):w.cell? ⟨b,off,none⟩=some (.int .i64 x)∧w.frozen? ⟨b,off,none⟩=false:=by
 obtain ⟨arr,tt,lo,hi',hlv,_⟩:=sim_live hsim hi hb
 obtain ⟨ho,e⟩:=List.getElem?_eq_some_iff.1 hc
 obtain ⟨u,hu,hr⟩:=hlv.rep off ho
 rw [e] at hr
 have hu2:u=.int .i64 x:=hr.int
 subst hu2
 refine ⟨by simp [World.cell?,hlv.heap,hu],?_⟩
 have:=hlv.free
 simp only [World.frozen?,hlv.heap,Bool.and_eq_false_iff,decide_eq_false_iff_not]
 omega
theorem callsS_store {st:List Slot} {id off:Nat} {cs:List V} {x n:Int} (hi:st[id]?=some (.live cs 0)) (hc:cs[off]?=some (.i x)):CallsS Tryz.prog 43 [.ptr id off,.i n] st (.tup []) (st.set id (.live (cs.set off (.i n)) 0)):=by
 intro B m0 m bk w cargs hg hsim hargs
 obtain ⟨c,d,rfl,h0,h1⟩:=arg2 hargs
 have hd:d=.int .i64 n:=h1.int
 subst hd
 cases h0 with
 | @ptr _ _ b bsz _ hb =>
  obtain ⟨q1,q2⟩:=live_cell hsim hi hb hc
  refine (a_store b off n _ w q1 q2).mono ?_
  rintro e w' ⟨rfl,rfl⟩
  exact ⟨_,rfl,aft_cell hsim hi hb (List.getElem?_eq_some_iff.1 hc).1 (.tup (by simp) fun j h=>absurd h (Nat.not_lt_zero _))⟩
theorem callsS_add {st:List Slot} {id off:Nat} {cs:List V} {x n:Int} (hi:st[id]?=some (.live cs 0)) (hc:cs[off]?=some (.i x)):CallsS Tryz.prog 44 [.ptr id off,.i n] st (.i (IntKind.wrap .i64 (x + n))) (st.set id (.live (cs.set off (.i (IntKind.wrap .i64 (x + n)))) 0)):=by
 intro B m0 m bk w cargs hg hsim hargs
 obtain ⟨c,d,rfl,h0,h1⟩:=arg2 hargs
 have hd:d=.int .i64 n:=h1.int
 subst hd
 cases h0 with
 | @ptr _ _ b bsz _ hb =>
  obtain ⟨q1,q2⟩:=live_cell hsim hi hb hc
  refine (a_add b off x n w q1 q2).mono ?_
  rintro e w' ⟨rfl,rfl⟩
  exact ⟨_,rfl,aft_cell hsim hi hb (List.getElem?_eq_some_iff.1 hc).1 (.lit rfl)⟩
end Go.Proofs.YtpkodpcfafipdaaGreat

namespace Go.Proofs.YtpkodpcfafipdaaGreat
abbrev muLink:Go.Conc.Locks.MuLink:={ lock:=91,unlock:=92,ilock:=104,iunlock:=105,lockSlow:=120,unlockSlow:=123,disable:=116,enable:=118,acquire:=119,relMerge:=121,cas32:=117,add32:=122,tMutex:=85,tIMutex:=83,tPMutex:=176,tPIMutex:=184,tPI32:=186,tUP:=168,tNoCopy:=79,tU32:=57 }
theorem muLib:Go.Conc.Locks.MuLib Tryz.prog muLink :=
 ⟨Tryz.func91,Tryz.func92,Tryz.func104,Tryz.func105,Tryz.func116,Tryz.func118,Tryz.func119,Tryz.func121,Tryz.func117,Tryz.func122,Tryz.underlying83,Tryz.runUnderlying83,Tryz.sizeOf83,Tryz.isAgg83,Tryz.zeroValue83,Tryz.underlying85,Tryz.runUnderlying85,Tryz.sizeOf85,Tryz.isAgg85,Tryz.zeroValue85,Tryz.underlying176,Tryz.runUnderlying176,Tryz.sizeOf176,Tryz.isAgg176,Tryz.zeroValue176,Tryz.underlying184,Tryz.runUnderlying184,Tryz.sizeOf184,Tryz.isAgg184,Tryz.zeroValue184,Tryz.underlying186,Tryz.runUnderlying186,Tryz.sizeOf186,Tryz.isAgg186,Tryz.zeroValue186,Tryz.underlying168,Tryz.runUnderlying168,Tryz.sizeOf168,Tryz.isAgg168,Tryz.zeroValue168,Tryz.underlying79,Tryz.runUnderlying79,Tryz.sizeOf79,Tryz.isAgg79,Tryz.zeroValue79,Tryz.underlying21,Tryz.runUnderlying21,Tryz.sizeOf21,Tryz.isAgg21,Tryz.zeroValue21,(by kernel_rfl)⟩
end Go.Proofs.YtpkodpcfafipdaaGreat

