/- A part of the proof: 4 texts joined. -/
import Derived.Test.YtbimgghogflikaaGreatDoorSaA13
import Derived.Test.YtbimgghogflikaaGreatDoorSaA11
set_option linter.all false
namespace Go.Proofs.YtbimgghogflikaaGreatDoor
open Go.RowKit
structure RdD where
 s:ByteArray
 at_:Int
 bad:Int
def rdV (r:RdD):V:=.agg [.s r.s,.i r.at_,.i r.bad]
def wideL (w:Int):Bool:=w == 1 || w == 2 || w == 4 || w == 6
theorem wide_v (w:Int):CallsV Tryz.prog 51 [.i w] (.b (wideL w)):=by
 refine callsV_comp mix Tryz.func51 ac51_ok ?_
 unfold ac51
 simp only [List.length_cons,List.length_nil,List.replicate_succ,List.replicate_zero,List.cons_append,List.nil_append,Nat.reduceAdd,Nat.reduceSub]
 repeat' (first | (first | refine w_blk ?_ | refine w_seq ?_ | refine w_reg (by (try simp only [List.length_cons,List.length_nil,Nat.reduceAdd]);rfl) (by (try simp only [List.replicate_succ,List.replicate_zero,List.cons_append,List.nil_append,List.append_nil]);rfl) (fun K' hK'=>?_) | refine w_condT rfl ?_ | refine w_condF rfl ?_ | (refine w_cond2 rfl (fun hb=>?_) (fun hb=>?_) <;> simp only [putF,List.set_cons_zero,List.set_cons_succ,evO,List.getD_cons_zero,List.getD_cons_succ,V.ofValue,ofC,V.cells,partV,List.drop_zero,List.drop_succ_cons,List.take_succ_cons,List.take_zero,Nat.reduceAdd,Nat.reduceMul,Nat.zero_add,Nat.add_zero,if_true,if_false,Bool.false_eq_true,List.nil_append,List.cons_append,List.append_nil,List.map_cons,List.map_nil,rdV,List.set]) | refine w_ret ?_ | refine w_skip ?_ | refine w_exit ?_ | refine q_seqN ?_ | refine q_seqR ?_ | refine q_seqE ?_ | refine q_blkN ?_ | refine q_blkR ?_ | refine q_blkH ?_ | refine q_blkE rfl ?_ | refine q_loopR ?_ | refine q_loopE ?_ | (refine x_end ?_;refine hK' _ _ _ ?_;clear hK' K';first | refine q_regT ?_ | refine q_regD rfl ?_)) | ((first | refine x_mv rfl ?_ | refine x_off rfl ?_ | refine x_ldP rfl rfl rfl (Nat.le_of_ble_eq_true rfl) ?_ | refine x_faP rfl rfl ?_ | refine x_ldE rfl rfl (Nat.le_of_ble_eq_true rfl) ?_ | refine x_faE rfl rfl (Nat.le_of_ble_eq_true rfl) ?_ | refine x_add rfl rfl rfl (by omega) ?_ | refine x_sub rfl rfl rfl (by omega) ?_ | refine x_cat rfl rfl rfl (by omega) ?_ | refine x_binI rfl rfl rfl rfl ?_ | refine x_binS rfl rfl rfl rfl ?_ | refine x_pick rfl rfl ?_ | refine x_un rfl rfl rfl ?_ | refine x_bx rfl rfl rfl ?_ | refine x_al rfl rfl rfl ?_ | refine x_st rfl rfl rfl rfl rfl (Nat.le_of_ble_eq_true rfl) (Nat.le_of_ble_eq_true rfl) ?_ | refine x_eqa rfl rfl rfl rfl rfl rfl ?_ | refine x_bd rfl rfl ?_ | refine x_ex rfl rfl rfl ?_ | refine x_fd rfl rfl (Nat.le_of_ble_eq_true rfl) ?_ | refine x_lenM rfl rfl ?_ | refine x_lenS rfl rfl ?_ | refine x_lent rfl rfl ?_ | refine x_lenO rfl rfl ?_ | refine x_binb rfl rfl rfl ?_ | refine x_cvs rfl rfl ?_ | refine x_cvi0 rfl rfl (by omega) ?_ | refine x_bs rfl rfl rfl rfl ?_ | refine x_mf rfl ?_ | refine x_s2b rfl rfl ?_ | refine x_eqpP rfl rfl rfl ?_ | refine x_eqpN rfl rfl rfl ?_ | refine x_ncP rfl rfl ?_ | refine x_ncE rfl rfl ?_ | refine x_ncC rfl rfl ?_);simp only [putF,List.set_cons_zero,List.set_cons_succ,evO,List.getD_cons_zero,List.getD_cons_succ,V.ofValue,ofC,V.cells,partV,List.drop_zero,List.drop_succ_cons,List.take_succ_cons,List.take_zero,Nat.reduceAdd,Nat.reduceMul,Nat.zero_add,Nat.add_zero,if_true,if_false,Bool.false_eq_true,List.nil_append,List.cons_append,List.append_nil,List.map_cons,List.map_nil,rdV,List.set]) | (refine x_case rfl (fun hb=>?_) (fun hb=>?_) <;> simp only [putF,List.set_cons_zero,List.set_cons_succ,evO,List.getD_cons_zero,List.getD_cons_succ,V.ofValue,ofC,V.cells,partV,List.drop_zero,List.drop_succ_cons,List.take_succ_cons,List.take_zero,Nat.reduceAdd,Nat.reduceMul,Nat.zero_add,Nat.add_zero,if_true,if_false,Bool.false_eq_true,List.nil_append,List.cons_append,List.append_nil,List.map_cons,List.map_nil,rdV,List.set]))
 all_goals refine f_lit (by simp) rfl ?_
 all_goals (simp at *;simp [wideL, *])
end Go.Proofs.YtbimgghogflikaaGreatDoor

namespace Go.Proofs.YtbimgghogflikaaGreatDoor
open Go.RowKit
section
variable {P : Program} {n0 : Nat} {base c : Nat} {os : List AOper} {fp : List (List Nat × List Nat)} {fr : List V} {st : List Slot} {K : List (List Nat × List Nat) → List V → List Slot → Prop} {d : Option Nat} {g : Option (Nat × Bool)} {x y z : Operand}
end
attribute [local irreducible] CallsS CallsV Callable
end Go.Proofs.YtbimgghogflikaaGreatDoor

namespace Go.Proofs.YtbimgghogflikaaGreatDoor
open Go.RowKit
theorem cellsM_byte (l:List UInt8):cellsM byteV l=l.map byteV:=by
 induction l with
 | nil=>rfl
 | cons b l ih=>rw [show cellsM byteV (b :: l)=[byteV b]++cellsM byteV l from rfl,ih];rfl
theorem fzc_bytes {st:List Slot} {l:List UInt8} {i n frz:Nat} {full:Bool} {cs:List V} (hi:st[i]?=some (.live cs frz)) (hc:cs=l.map byteV) (hf:frz=cs.length) (hn:n=l.length):FzC st (.osl i 0 n 1 full) (.sl (l.map byteV) false) [i] :=
 fzc_made hi (by rw [cellsM_byte];exact hc) hf hn (fun _=>rfl) (fun _=>rfl)
theorem f_bytesE {fr:List V} {st:List Slot} {t u i n frz:Nat} {full:Bool} {e:AExit} {cs:List V} {l:List UInt8} {x:Int} (he:e=.normal∨e=.ret) (ht:fr.getD t .any=.osl i 0 n 1 full) (hu:fr.getD u .any=.i x) (hi:st[i]?=some (.live cs frz)) (hc:cs=l.map byteV) (hf:frz≤cs.length) (hn:n=l.length) :
  Fin [.tmp t,.tmp u] (.tup [.sl (l.map byteV) false,.i x]) e fr st :=
 ⟨he,st.set i (.live cs cs.length),.step .refl hi hf (Nat.le_refl _),_,[i],.cons (.tmp ht) (.cons (.tmp hu) .nil),
  .tup (.cons (r:=[i]) (.c (fzc_bytes (cs:=cs) (frz:=cs.length) (by rw [List.getElem?_set,if_pos rfl,if_pos (List.getElem?_eq_some_iff.1 hi).1]) hc rfl hn)) (.cons (r:=[]) (.c (.id rfl)) .nil))⟩
theorem byte_nat (n:Nat) (h:n < 256):byteV (UInt8.ofNat n)=.lit (.int .u8 n):=by
 unfold byteV;rw [UInt8.toNat_ofNat'];congr 3;omega
def sayB (s:ByteArray):List UInt8:=UInt8.ofNat s.size :: s.data.toList
theorem u8_wrap (m:Nat):IntKind.u8.wrap (m:Int)=((UInt8.ofNat m).toNat:Int):=by
 rw [UInt8.toNat_ofNat']
 simp only [IntKind.wrap,IntKind.signed,IntKind.bits]
 first | omega | (simp;done) | (simp;omega)
theorem fdiv_nat (m p:Nat):(m:Int).fdiv (2 ^ p)=((m / 2 ^ p:Nat):Int):=by
 rw [show ((2:Int) ^ p)=((2 ^ p:Nat):Int) by simp,Int.fdiv_eq_ediv_of_nonneg _ (Int.natCast_nonneg _)];rfl
attribute [local irreducible] AW Fin FinR seqQ blkQ regQ loopQ CallsV CallsS Callable
attribute [local irreducible] unrQ
theorem oct_say_v (s:ByteArray) (most:Nat) (hs:s.size≤most) (hm:most≤255):CallsV Tryz.prog 38 [.s s,.i most] (.tup [.sl ((sayB s).map byteV) false,.i 0]):=by
 refine callsV_comp mix Tryz.func38 ac38_ok ?_
 unfold ac38
 simp only [List.length_cons,List.length_nil,List.replicate_succ,List.replicate_zero,List.cons_append,List.nil_append,Nat.reduceAdd,Nat.reduceSub]
 have hby:=byte_nat s.size (by omega)
 have hcs:(sayB s).map byteV=[.lit (.int .u8 s.size)]++s.data.toList.map byteV:=by rw [← hby];rfl
 have hln:(sayB s).length=1 + s.size:=by rw [sayB,List.length_cons,bl_len];omega
 by_cases h0:s.size=0
 ·have he:s.data.toList=[]:=List.eq_nil_of_length_eq_zero (by simpa using h0)
  repeat' (first | ((try simp only [Nat.reduceAdd,Nat.reduceMul,Nat.zero_add,Nat.add_zero,Int.toNat_natCast,Int.reduceToNat,rdV]);refine hK' _ _ _ ?_;clear hK' K';first | refine q_regT ?_ | refine q_regD rfl ?_) | first | refine w_seq ?_ | refine q_seqN ?_ | (refine w_reg (by (try simp only [List.length_cons,List.length_nil,Nat.reduceAdd]);rfl) (by (try simp only [List.replicate_succ,List.replicate_zero,List.cons_append,List.nil_append,List.append_nil]);rfl) (fun K' hK'=>wpOps_ok ?_);conv=>whnf) | (refine w_condTst rfl ?_;(repeat refine Tst.not ?_);(first | refine Tst.T ?_ | refine Tst.F ?_ | refine Tst.decT (by assumption) ?_ | refine Tst.decF (by assumption) ?_ | refine Tst.eqT (by assumption) ?_ | refine Tst.eqF (by assumption) ?_ | refine Tst.neT (by assumption) ?_ | refine Tst.neF (by assumption) ?_ | refine Tst.isT (by assumption) ?_ | refine Tst.isF (by assumption) ?_ | refine Tst.dec (fun hb=>?_) (fun hb=>?_) | refine Tst.eqI (fun hb=>?_) (fun hb=>?_) | refine Tst.neI (fun hb=>?_) (fun hb=>?_) | refine Tst.not ?_ | refine Tst.any (fun hb=>?_) (fun hb=>?_)) <;> conv=>whnf) | refine w_ret ?_ | refine w_skip ?_ | refine w_blk ?_ | refine w_exit ?_ | refine q_seqR ?_ | refine q_seqE ?_ | refine q_blkN ?_ | refine q_blkR ?_ | refine q_blkH ?_ | refine q_blkE rfl ?_ | refine q_loopR ?_ | refine q_loopE ?_ | (refine Ari.u8 (by omega) ?_;conv=>whnf) | (refine App_strZ h0 (SrcV.osl rfl (Nat.le_of_ble_eq_true rfl)) ?_;conv=>whnf) | first | (refine LenQ.ok ?_;conv=>whnf) | ((first | refine Tst.T ?_ | refine Tst.F ?_ | refine Tst.decT (by assumption) ?_ | refine Tst.decF (by assumption) ?_ | refine Tst.eqT (by assumption) ?_ | refine Tst.eqF (by assumption) ?_ | refine Tst.neT (by assumption) ?_ | refine Tst.neF (by assumption) ?_ | refine Tst.isT (by assumption) ?_ | refine Tst.isF (by assumption) ?_ | refine Tst.dec (fun hb=>?_) (fun hb=>?_) | refine Tst.eqI (fun hb=>?_) (fun hb=>?_) | refine Tst.neI (fun hb=>?_) (fun hb=>?_) | refine Tst.not ?_ | refine Tst.any (fun hb=>?_) (fun hb=>?_)) <;> conv=>whnf) | (refine Ari.ok (by omega) ?_;conv=>whnf) | (refine IxO.ok (by omega) (by omega) ?_;conv=>whnf) | (refine IxS.M (by omega) (by omega) (fun _=>rfl) ?_;conv=>whnf) | (refine ⟨Nat.le_of_ble_eq_true rfl,?_⟩;conv=>whnf) | (refine ⟨rfl,?_⟩;conv=>whnf) | (refine Cat.ok (by omega) ?_;conv=>whnf))
  ·split at hb <;> omega
  ·trace_state;exact f_bytesE (by simp) rfl rfl rfl (by rw [hcs,he];rfl) (Nat.le_refl _) (by rw [hln,h0])
 ·repeat' (first | ((try simp only [Nat.reduceAdd,Nat.reduceMul,Nat.zero_add,Nat.add_zero,Int.toNat_natCast,Int.reduceToNat,rdV]);refine hK' _ _ _ ?_;clear hK' K';first | refine q_regT ?_ | refine q_regD rfl ?_) | first | refine w_seq ?_ | refine q_seqN ?_ | (refine w_reg (by (try simp only [List.length_cons,List.length_nil,Nat.reduceAdd]);rfl) (by (try simp only [List.replicate_succ,List.replicate_zero,List.cons_append,List.nil_append,List.append_nil]);rfl) (fun K' hK'=>wpOps_ok ?_);conv=>whnf) | (refine w_condTst rfl ?_;(repeat refine Tst.not ?_);(first | refine Tst.T ?_ | refine Tst.F ?_ | refine Tst.decT (by assumption) ?_ | refine Tst.decF (by assumption) ?_ | refine Tst.eqT (by assumption) ?_ | refine Tst.eqF (by assumption) ?_ | refine Tst.neT (by assumption) ?_ | refine Tst.neF (by assumption) ?_ | refine Tst.isT (by assumption) ?_ | refine Tst.isF (by assumption) ?_ | refine Tst.dec (fun hb=>?_) (fun hb=>?_) | refine Tst.eqI (fun hb=>?_) (fun hb=>?_) | refine Tst.neI (fun hb=>?_) (fun hb=>?_) | refine Tst.not ?_ | refine Tst.any (fun hb=>?_) (fun hb=>?_)) <;> conv=>whnf) | refine w_ret ?_ | refine w_skip ?_ | refine w_blk ?_ | refine w_exit ?_ | refine q_seqR ?_ | refine q_seqE ?_ | refine q_blkN ?_ | refine q_blkR ?_ | refine q_blkH ?_ | refine q_blkE rfl ?_ | refine q_loopR ?_ | refine q_loopE ?_ | (refine Ari.u8 (by omega) ?_;conv=>whnf) | (refine App_strN (SrcV.osl rfl (Nat.le_of_ble_eq_true rfl)) rfl (by omega) (by omega) (by decide) rfl ?_;conv=>whnf) | first | (refine LenQ.ok ?_;conv=>whnf) | ((first | refine Tst.T ?_ | refine Tst.F ?_ | refine Tst.decT (by assumption) ?_ | refine Tst.decF (by assumption) ?_ | refine Tst.eqT (by assumption) ?_ | refine Tst.eqF (by assumption) ?_ | refine Tst.neT (by assumption) ?_ | refine Tst.neF (by assumption) ?_ | refine Tst.isT (by assumption) ?_ | refine Tst.isF (by assumption) ?_ | refine Tst.dec (fun hb=>?_) (fun hb=>?_) | refine Tst.eqI (fun hb=>?_) (fun hb=>?_) | refine Tst.neI (fun hb=>?_) (fun hb=>?_) | refine Tst.not ?_ | refine Tst.any (fun hb=>?_) (fun hb=>?_)) <;> conv=>whnf) | (refine Ari.ok (by omega) ?_;conv=>whnf) | (refine IxO.ok (by omega) (by omega) ?_;conv=>whnf) | (refine IxS.M (by omega) (by omega) (fun _=>rfl) ?_;conv=>whnf) | (refine ⟨Nat.le_of_ble_eq_true rfl,?_⟩;conv=>whnf) | (refine ⟨rfl,?_⟩;conv=>whnf) | (refine Cat.ok (by omega) ?_;conv=>whnf))
  ·split at hb <;> omega
  ·exact f_bytesE (by simp) rfl rfl rfl (by rw [hcs];rfl) (Nat.le_refl _) hln.symm
end Go.Proofs.YtbimgghogflikaaGreatDoor

namespace Go.Proofs.YtbimgghogflikaaGreatDoor
open Go.RowKit
def beL (n w:Nat):List UInt8:=match w with
 | 1=>[UInt8.ofNat (n / 2 ^ 0)]
 | _=>[UInt8.ofNat (n / 2 ^ 40),UInt8.ofNat (n / 2 ^ 32),UInt8.ofNat (n / 2 ^ 24),UInt8.ofNat (n / 2 ^ 16),UInt8.ofNat (n / 2 ^ 8),UInt8.ofNat (n / 2 ^ 0)]
theorem shr0 (m w:Nat) (hw:w=1∨w=6) (h:m < 256 ^ w):(m:Int).fdiv (2 ^ (min (8 * (w:Int)).toNat IntKind.i64.bits))=0:=by
 have e:(min (8 * (w:Int)).toNat IntKind.i64.bits)=8 * w:=by
  have:IntKind.i64.bits=64:=rfl
  rw [this];omega
 rw [e,fdiv_nat,show (2:Nat) ^ (8 * w)=256 ^ w by rw [Nat.pow_mul],Nat.div_eq_of_lt h];rfl
theorem shr_byte (m a:Nat) (k:Int) (hk:k=(a:Nat)) (ha:a≤64):V.lit (.int .u8 (IntKind.u8.wrap ((m:Int).fdiv (2 ^ (min k.toNat IntKind.i64.bits)))))=byteV (UInt8.ofNat (m / 2 ^ a)):=by
 subst hk
 have e:(min (a:Int).toNat IntKind.i64.bits)=a:=by
  have:IntKind.i64.bits=64:=rfl
  rw [this];omega
 rw [e,fdiv_nat,u8_wrap];rfl
attribute [local irreducible] AW Fin FinR seqQ blkQ regQ loopQ CallsV CallsS Callable
attribute [local irreducible] unrQ
set_option maxRecDepth 10000 in
theorem lay1_v (m:Nat) (h:m < 256):CallsV Tryz.prog 37 [.i m,.i 1] (.tup [.sl ((beL m 1).map byteV) false,.i 0]):=by
 have hs:=shr0 m 1 (.inl rfl) h
 have hw:CallsV Tryz.prog 51 [.i 1] (.b true):=wide_v 1
 refine callsV_comp mix Tryz.func37 ac37_ok ?_
 unfold ac37
 simp only [List.length_cons,List.length_nil,List.replicate_succ,List.replicate_zero,List.cons_append,List.nil_append,Nat.reduceAdd,Nat.reduceSub]
 repeat' (first | ((try simp only [Nat.reduceAdd,Nat.reduceMul,Nat.zero_add,Nat.add_zero,Int.toNat_natCast,Int.reduceToNat,rdV,Int.reduceAdd,Int.reduceSub,Int.reduceMul,Int.reduceToNat,Nat.mul_one]);refine hK' _ _ _ ?_;clear hK' K';first | refine q_regT ?_ | refine q_regD rfl ?_) | first | refine w_seq ?_ | refine q_seqN ?_ | (refine w_reg (by (try simp only [List.length_cons,List.length_nil,Nat.reduceAdd]);rfl) (by (try simp only [List.replicate_succ,List.replicate_zero,List.cons_append,List.nil_append,List.append_nil]);rfl) (fun K' hK'=>wpOps_ok ?_);conv=>whnf) | (refine w_condTst rfl ?_;(repeat refine Tst.not ?_);(first | refine Tst.T ?_ | refine Tst.F ?_ | refine Tst.decT (by assumption) ?_ | refine Tst.decF (by assumption) ?_ | refine Tst.eqT (by assumption) ?_ | refine Tst.eqF (by assumption) ?_ | refine Tst.neT (by assumption) ?_ | refine Tst.neF (by assumption) ?_ | refine Tst.isT (by assumption) ?_ | refine Tst.isF (by assumption) ?_ | refine Tst.dec (fun hb=>?_) (fun hb=>?_) | refine Tst.eqI (fun hb=>?_) (fun hb=>?_) | refine Tst.neI (fun hb=>?_) (fun hb=>?_) | refine Tst.not ?_ | refine Tst.any (fun hb=>?_) (fun hb=>?_)) <;> conv=>whnf) | refine w_ret ?_ | refine w_skip ?_ | refine w_blk ?_ | refine w_exit ?_ | refine q_seqR ?_ | refine q_seqE ?_ | refine q_blkN ?_ | refine q_blkR ?_ | refine q_blkH ?_ | refine q_blkE rfl ?_ | refine q_loopR ?_ | refine q_loopE ?_ | (refine Ask_V0 (hw) rfl rfl ?_;conv=>whnf) | (refine w_unr' 7 ?_) | (refine q_unrN ?_) | (refine q_unrR ?_) | (refine q_unrE ?_) | (refine Shr.ok (by omega) ?_;conv=>whnf) | (refine Mks.ok (by omega) (by omega) (by omega) (by decide) ?_;conv=>whnf) | (refine Ari.ok (by omega) ?_;conv=>whnf) | (refine Ari.u8 (by omega) ?_;conv=>whnf) | (refine Ari.w ?_;conv=>whnf) | first | (refine LenQ.ok ?_;conv=>whnf) | ((first | refine Tst.T ?_ | refine Tst.F ?_ | refine Tst.decT (by assumption) ?_ | refine Tst.decF (by assumption) ?_ | refine Tst.eqT (by assumption) ?_ | refine Tst.eqF (by assumption) ?_ | refine Tst.neT (by assumption) ?_ | refine Tst.neF (by assumption) ?_ | refine Tst.isT (by assumption) ?_ | refine Tst.isF (by assumption) ?_ | refine Tst.dec (fun hb=>?_) (fun hb=>?_) | refine Tst.eqI (fun hb=>?_) (fun hb=>?_) | refine Tst.neI (fun hb=>?_) (fun hb=>?_) | refine Tst.not ?_ | refine Tst.any (fun hb=>?_) (fun hb=>?_)) <;> conv=>whnf) | (refine Ari.ok (by omega) ?_;conv=>whnf) | (refine IxO.ok (by omega) (by omega) ?_;conv=>whnf) | (refine IxS.M (by omega) (by omega) (fun _=>rfl) ?_;conv=>whnf) | (refine ⟨Nat.le_of_ble_eq_true rfl,?_⟩;conv=>whnf) | (refine ⟨rfl,?_⟩;conv=>whnf) | (refine Cat.ok (by omega) ?_;conv=>whnf))
 refine f_bytesE (l:=beL m 1) (by simp) rfl rfl rfl ?_ (Nat.zero_le _) rfl
 exact congrArg (fun v=>[v]) (shr_byte m 0 0 rfl (by decide))
set_option maxRecDepth 10000 in
theorem lay6_v (m:Nat) (h:m < 256 ^ 6):CallsV Tryz.prog 37 [.i m,.i 6] (.tup [.sl ((beL m 6).map byteV) false,.i 0]):=by
 have hs:=shr0 m 6 (.inr rfl) h
 have hw:CallsV Tryz.prog 51 [.i 6] (.b true):=wide_v 6
 refine callsV_comp mix Tryz.func37 ac37_ok ?_
 unfold ac37
 simp only [List.length_cons,List.length_nil,List.replicate_succ,List.replicate_zero,List.cons_append,List.nil_append,Nat.reduceAdd,Nat.reduceSub]
 repeat' (first | ((try simp only [Nat.reduceAdd,Nat.reduceMul,Nat.zero_add,Nat.add_zero,Int.toNat_natCast,Int.reduceToNat,rdV,Int.reduceAdd,Int.reduceSub,Int.reduceMul,Int.reduceToNat,Nat.mul_one]);refine hK' _ _ _ ?_;clear hK' K';first | refine q_regT ?_ | refine q_regD rfl ?_) | first | refine w_seq ?_ | refine q_seqN ?_ | (refine w_reg (by (try simp only [List.length_cons,List.length_nil,Nat.reduceAdd]);rfl) (by (try simp only [List.replicate_succ,List.replicate_zero,List.cons_append,List.nil_append,List.append_nil]);rfl) (fun K' hK'=>wpOps_ok ?_);conv=>whnf) | (refine w_condTst rfl ?_;(repeat refine Tst.not ?_);(first | refine Tst.T ?_ | refine Tst.F ?_ | refine Tst.decT (by assumption) ?_ | refine Tst.decF (by assumption) ?_ | refine Tst.eqT (by assumption) ?_ | refine Tst.eqF (by assumption) ?_ | refine Tst.neT (by assumption) ?_ | refine Tst.neF (by assumption) ?_ | refine Tst.isT (by assumption) ?_ | refine Tst.isF (by assumption) ?_ | refine Tst.dec (fun hb=>?_) (fun hb=>?_) | refine Tst.eqI (fun hb=>?_) (fun hb=>?_) | refine Tst.neI (fun hb=>?_) (fun hb=>?_) | refine Tst.not ?_ | refine Tst.any (fun hb=>?_) (fun hb=>?_)) <;> conv=>whnf) | refine w_ret ?_ | refine w_skip ?_ | refine w_blk ?_ | refine w_exit ?_ | refine q_seqR ?_ | refine q_seqE ?_ | refine q_blkN ?_ | refine q_blkR ?_ | refine q_blkH ?_ | refine q_blkE rfl ?_ | refine q_loopR ?_ | refine q_loopE ?_ | (refine Ask_V0 (hw) rfl rfl ?_;conv=>whnf) | (refine w_unr' 7 ?_) | (refine q_unrN ?_) | (refine q_unrR ?_) | (refine q_unrE ?_) | (refine Shr.ok (by omega) ?_;conv=>whnf) | (refine Mks.ok (by omega) (by omega) (by omega) (by decide) ?_;conv=>whnf) | (refine Ari.ok (by omega) ?_;conv=>whnf) | (refine Ari.u8 (by omega) ?_;conv=>whnf) | (refine Ari.w ?_;conv=>whnf) | first | (refine LenQ.ok ?_;conv=>whnf) | ((first | refine Tst.T ?_ | refine Tst.F ?_ | refine Tst.decT (by assumption) ?_ | refine Tst.decF (by assumption) ?_ | refine Tst.eqT (by assumption) ?_ | refine Tst.eqF (by assumption) ?_ | refine Tst.neT (by assumption) ?_ | refine Tst.neF (by assumption) ?_ | refine Tst.isT (by assumption) ?_ | refine Tst.isF (by assumption) ?_ | refine Tst.dec (fun hb=>?_) (fun hb=>?_) | refine Tst.eqI (fun hb=>?_) (fun hb=>?_) | refine Tst.neI (fun hb=>?_) (fun hb=>?_) | refine Tst.not ?_ | refine Tst.any (fun hb=>?_) (fun hb=>?_)) <;> conv=>whnf) | (refine Ari.ok (by omega) ?_;conv=>whnf) | (refine IxO.ok (by omega) (by omega) ?_;conv=>whnf) | (refine IxS.M (by omega) (by omega) (fun _=>rfl) ?_;conv=>whnf) | (refine ⟨Nat.le_of_ble_eq_true rfl,?_⟩;conv=>whnf) | (refine ⟨rfl,?_⟩;conv=>whnf) | (refine Cat.ok (by omega) ?_;conv=>whnf))
 refine f_bytesE (l:=beL m 6) (by simp) rfl rfl rfl ?_ (Nat.zero_le _) rfl
 have e:∀ (v0 v1 v2 v3 v4 v5 u0 u1 u2 u3 u4 u5:V),v0=u0→v1=u1→v2=u2→v3=u3→v4=u4→v5=u5→[v0,v1,v2,v3,v4,v5]=[u0,u1,u2,u3,u4,u5]:=by
  intros;subst_vars;rfl
 exact e _ _ _ _ _ _ _ _ _ _ _ _ (shr_byte m 40 40 rfl (by decide)) (shr_byte m 32 32 rfl (by decide)) (shr_byte m 24 24 rfl (by decide)) (shr_byte m 16 16 rfl (by decide)) (shr_byte m 8 8 rfl (by decide)) (shr_byte m 0 0 rfl (by decide))
end Go.Proofs.YtbimgghogflikaaGreatDoor

