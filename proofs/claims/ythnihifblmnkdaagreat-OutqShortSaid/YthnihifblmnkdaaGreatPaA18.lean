/- A part of the proof: 12 texts joined. -/
import Derived.Test.YthnihifblmnkdaaGreatPaA16
import Derived.Test.YthnihifblmnkdaaGreatPaA15
import Derived.Test.YthnihifblmnkdaaGreatPaA17
import Derived.Test.YthnihifblmnkdaaGreatPaA12
import Derived.KernelRfl
import Derived.Test.YthnihifblmnkdaaGreatPaA14
set_option linter.all false
namespace Go.Proofs.YthnihifblmnkdaaGreat
open Go.RowKit
theorem at_nat {α:Type} (l:List α) (k:Nat):at? l (k:Int)=l[k]?:=by
 unfold at?;rw [if_pos (Int.natCast_nonneg k)];rfl
theorem at_lt {α:Type} {l:List α} {k:Nat} (h:k < l.length):at? l (k:Int)=some l[k]:=by rw [at_nat,List.getElem?_eq_getElem h]
theorem w64_id {r:Int} (h:-9223372036854775808≤r∧r≤9223372036854775807):w64 r=r:=wrap_ok h
theorem w64_succ {k:Nat} (h:k≤1000000):w64 ((k:Int) + 1)=((k + 1:Nat):Int):=by rw [w64_id (by omega)];rfl
theorem lt_tt {a b:Nat} (h:a < b):decide ((a:Int) < (b:Int))=true:=by simpa using h
theorem lt_ff {a b:Nat} (h:b≤a):decide ((a:Int) < (b:Int))=false:=by simpa using h
theorem drop_at {α:Type} {l:List α} {k:Nat} (h:k < l.length):l.drop k=l[k] :: l.drop (k + 1):=List.drop_eq_getElem_cons h
theorem fuel_pos:(1000000:Nat) < fuel:=by decide
theorem cutTo {α:Type} {l:List α} {k:Nat} (h:k≤l.length):cut? l none (some (k:Int))=some (l.take k):=by
 unfold cut?
 simp only [Option.getD_none,Option.getD_some]
 rw [if_pos (by omega)]
 simp
theorem cutFrom {α:Type} {l:List α} {k:Nat} (h:k≤l.length):cut? l (some (k:Int)) none=some (l.drop k):=by
 unfold cut?
 simp only [Option.getD_none,Option.getD_some]
 rw [if_pos (by omega)]
 rw [List.take_of_length_le (by simp)];rfl
theorem u64_id {r:Int} (hr:0≤r∧r≤9223372036854775807):IntKind.u64.wrap r=r:=by
 simp only [IntKind.wrap,IntKind.signed,IntKind.bits]
 first | omega | (simp;omega)
theorem fdivN (m p:Nat):(m:Int).fdiv (2 ^ p)=((m / 2 ^ p:Nat):Int):=by
 rw [show ((2:Int) ^ p)=((2 ^ p:Nat):Int) by simp,Int.fdiv_eq_ediv_of_nonneg _ (Int.natCast_nonneg _)];rfl
theorem half_p {i j:Nat} (h:i + j≤100000):w64 (shrI .u64 (IntKind.wrap .u64 (w64 ((i:Int) + (j:Int)))) (1:Int))=(((i + j) / 2:Nat):Int):=by
 have e1:w64 ((i:Int) + (j:Int))=((i + j:Nat):Int):=by rw [w64_id (by omega)];omega
 have e2:IntKind.wrap .u64 ((i + j:Nat):Int)=((i + j:Nat):Int):=u64_id (by omega)
 have e:(min (1:Int).toNat IntKind.u64.bits)=1:=rfl
 have e3:shrI .u64 ((i + j:Nat):Int) 1=(((i + j) / 2:Nat):Int):=by
  unfold shrI
  rw [e,fdivN]
 rw [e1,e2,e3]
 exact w64_id (by omega)
theorem app_ok {α:Type} {a b:List α} (h:a.length + b.length≤1000000):app? a b=some (a++b):=if_pos h
theorem byte_at {s:ByteArray} {k:Nat} (h:k < s.size):byte? s (k:Int)=some (s[k].toNat:Int):=by
 unfold byte?
 rw [dif_pos ⟨Int.natCast_nonneg k,h⟩];rfl
theorem byte_ne (a b:UInt8):((a.toNat:Int) != (b.toNat:Int))=!(a == b):=by
 by_cases h:a=b
 ·subst h;simp
 ·have h1:(a == b)=false:=by simpa using h
  have h2:¬ ((a.toNat:Int)=(b.toNat:Int)):=fun e=>h (UInt8.toNat_inj.1 (Int.natCast_inj.1 e))
  rw [h1];simpa using h2
theorem tl_data (s:ByteArray):s.toList=s.data.toList:=by rw [ByteArray.toList_eq]
theorem eqT_refl (a:ByteArray):(a.toList == a.toList)=true:=by simp
theorem eqT_iff {a b:ByteArray}:(a.toList == b.toList)=true ↔ a=b:=by
 rw [beq_iff_eq,tl_data,tl_data]
 exact ⟨fun h=>by cases a;cases b;congr 1;exact Array.ext' h,fun h=>by rw [h]⟩
theorem cmp_less:∀ (a b:List UInt8),Op.bytesLess a b=decide (Lib.compareBytes a b < 0)
 | [],[]=>by simp [Op.bytesLess,Lib.compareBytes]
 | [],_ :: _=>by simp [Op.bytesLess,Lib.compareBytes]
 | _ :: _,[]=>by simp [Op.bytesLess,Lib.compareBytes]
 | a :: xs,b :: ys=>by
  unfold Op.bytesLess Lib.compareBytes
  rw [cmp_less xs ys]
  by_cases h:a < b
  ·simp [h]
  ·by_cases h2:b < a
   ·have hne:a≠b:=fun e=>by subst e;exact UInt8.lt_irrefl _ h2
    simp [h,h2,hne]
   ·have e:a=b:=by
     apply UInt8.toNat_inj.1
     rw [UInt8.lt_iff_toNat_lt] at h h2;omega
    subst e;simp [h]
theorem cmp_refl:∀ a:List UInt8,Lib.compareBytes a a=0
 | []=>by simp [Lib.compareBytes]
 | a :: xs=>by unfold Lib.compareBytes;rw [if_neg (UInt8.lt_irrefl _),if_neg (UInt8.lt_irrefl _)];exact cmp_refl xs
theorem cmp_eq0:∀ {a b:List UInt8},Lib.compareBytes a b=0→a=b
 | [],[],_=>rfl
 | [],_ :: _,h=>by simp [Lib.compareBytes] at h
 | _ :: _,[],h=>by simp [Lib.compareBytes] at h
 | a :: xs,b :: ys,h=>by
  unfold Lib.compareBytes at h
  split at h
  ·omega
  ·split at h
   ·omega
   ·rename_i h1 h2
    have e:a=b:=by
     apply UInt8.toNat_inj.1
     rw [UInt8.lt_iff_toNat_lt] at h1 h2;omega
    rw [e,cmp_eq0 h]
theorem cmp_anti:∀ (a b:List UInt8),Lib.compareBytes b a=- Lib.compareBytes a b
 | [],[]=>by simp [Lib.compareBytes]
 | [],_ :: _=>by simp [Lib.compareBytes]
 | _ :: _,[]=>by simp [Lib.compareBytes]
 | a :: xs,b :: ys=>by
  unfold Lib.compareBytes
  rw [cmp_anti xs ys]
  by_cases h:a < b
  ·have h2:¬ b < a:=by rw [UInt8.lt_iff_toNat_lt] at h ⊢;omega
   simp [h,h2]
  ·by_cases h2:b < a
   ·simp [h,h2]
   ·simp [h,h2]
theorem cmp_trans:∀ {a b c:List UInt8},Lib.compareBytes a b < 0→Lib.compareBytes b c < 0→Lib.compareBytes a c < 0
 | [],[],_,h,_=>by simp [Lib.compareBytes] at h
 | _ :: _,[],_,h,_=>by simp [Lib.compareBytes] at h
 | _,_ :: _,[],_,h=>by simp [Lib.compareBytes] at h
 | [],_ :: _,_ :: _,_,_=>by simp [Lib.compareBytes]
 | a :: xs,b :: ys,c :: cs,h1,h2=>by
  unfold Lib.compareBytes at h1 h2 ⊢
  by_cases x:a < b
  ·by_cases y:b < c
   ·rw [if_pos (UInt8.lt_trans x y)];omega
   ·rw [if_neg y] at h2
    by_cases z:c < b
    ·rw [if_pos z] at h2;omega
    ·have e:b=c:=by
      apply UInt8.toNat_inj.1
      rw [UInt8.lt_iff_toNat_lt] at y z;omega
     subst e
     rw [if_pos x];omega
  ·rw [if_neg x] at h1
   by_cases x2:b < a
   ·rw [if_pos x2] at h1;omega
   ·rw [if_neg x2] at h1
    have e:a=b:=by
     apply UInt8.toNat_inj.1
     rw [UInt8.lt_iff_toNat_lt] at x x2;omega
    subst e
    by_cases y:a < c
    ·rw [if_pos y];omega
    ·rw [if_neg y] at h2 ⊢
     by_cases z:c < a
     ·rw [if_pos z] at h2;omega
     ·rw [if_neg z] at h2 ⊢
      exact cmp_trans h1 h2
end Go.Proofs.YthnihifblmnkdaaGreat

namespace Go.Proofs.YthnihifblmnkdaaGreat
open Go.RowKit
set_option maxRecDepth 100000
set_option maxHeartbeats 4000000
def dc71:BCode:=(.seq (R_ 0 [O_ 4 (.mv (.const (.slice none 0 0))) 0]) (.seq (R_ 0 [O_ 8 (.mv (t_ 0)) 0,O_ 9 (.mv (t_ 1)) 0,O_ 10 (.cl 97 [(t_ 8),(t_ 9)]) 0,O_ 5 (.mv (t_ 10)) 0]) (.seq (.seq (R_ 0 [O_ 11 (.mv (t_ 5)) 0,O_ 12 (.bin .eql (t_ 11) (.const (.int .i64 (-1)))) 0]) (.cond (t_ 12) (.seq (R_ 0 [O_ 13 (.mv (t_ 0)) 0,O_ 4 (.mv (t_ 13)) 0]) .ret) .skip)) (.seq (.seq (R_ 0 [O_ 14 (.mv (t_ 5)) 0,O_ 15 (.bin .add (t_ 14) (i_ 1)) 0,O_ 6 (.mv (t_ 15)) 0]) (.block 0 (.loop (.seq (.seq (R_ 0 [O_ 16 (.mv (t_ 6)) 0,O_ 17 (.mv (t_ 0)) 0,O_ 18 (.lens (t_ 17)) 0,O_ 19 (.bin .lss (t_ 16) (t_ 18)) 0]) (.cond (t_ 19) .skip (.exit 0))) (.seq (.block 1 (.seq (R_ 1 [O_ 22 (.mv (t_ 0)) 0,O_ 23 (.mv (t_ 6)) 0,O_ 24 (.ixs 5 (t_ 22) (t_ 23)) 0,O_ 25 (.ld 5 true (t_ 24)) 0,O_ 7 (.al (.agg [(.lit (.string ⟨#[]⟩)),(.lit (.bool false)),(.lit (.int .i64 0)),(.lit (.int .i64 0)),(.lit (.int .i64 0))])) 0,U_ (.st 5 (t_ 7) (t_ 25)) 1]) (.seq (R_ 0 [O_ 26 (.mv (t_ 1)) 0,O_ 27 (.ld 5 true (t_ 7)) 0,O_ 28 (.cv (t_ 26) [(t_ 27)]) 0,O_ 29 (.un .not (t_ 28)) 0]) (.cond (t_ 29) (.seq (R_ 0 [O_ 30 (.mv (t_ 0)) 0,O_ 31 (.mv (t_ 5)) 0,O_ 32 (.ld 5 true (t_ 7)) 0,O_ 33 (.ixs 5 (t_ 30) (t_ 31)) 0,U_ (.st 5 (t_ 33) (t_ 32)) 0]) (R_ 0 [O_ 34 (.mv (t_ 5)) 0,O_ 35 (.bin .add (t_ 34) (i_ 1)) 0,O_ 5 (.mv (t_ 35)) 0])) .skip)))) (R_ 0 [O_ 20 (.mv (t_ 6)) 0,O_ 21 (.bin .add (t_ 20) (i_ 1)) 0,O_ 6 (.mv (t_ 21)) 0])))))) (.seq (R_ 0 [O_ 36 (.mv (t_ 0)) 0,O_ 37 (.mv (t_ 5)) 0,O_ 38 (.sls 5 (t_ 36) (some (t_ 37)) none none) 0,U_ (.clr 5 (t_ 38)) 0]) (.seq (R_ 0 [O_ 39 (.mv (t_ 0)) 0,O_ 40 (.mv (t_ 5)) 0,O_ 41 (.sls 5 (t_ 39) none (some (t_ 40)) none) 0,O_ 4 (.mv (t_ 41)) 0]) .ret))))))
theorem dc71_ok:compF Tryz.prog Tryz.f71=some (dc71.er,42,[.tmp 4]):=by unfold dc71;kernel_rfl
theorem dfi71 (fn:MailEntry→Option Bool) (p:MailEntry→Bool) (rows:List MailEntry) (hn:rows.length≤1000000) (hf:∀ x ∈ rows,fn x=some (p x)):∀ (n k F:Nat),k + n=rows.length→n < F →
  p_slices_IndexFunc_mail_State_mail_Entry__l1 fn rows rows.length F k=some (if (rows.drop k).any p=true then .inl ((k + (rows.drop k).findIdx p:Nat):Int) else .inr (rows.length:Int))
 | 0,k,F + 1,hk,hF=>by
  have e:rows.drop k=[]:=List.drop_of_length_le (by omega)
  have:k=rows.length:=by omega
  rw [p_slices_IndexFunc_mail_State_mail_Entry__l1,lt_ff (by omega),e,this];rfl
 | n + 1,k,F + 1,hk,hF=>by
  have hlt:k < rows.length:=by omega
  rw [p_slices_IndexFunc_mail_State_mail_Entry__l1,lt_tt hlt,at_lt hlt,drop_at hlt]
  simp only [cond_true,Option.bind_some,hf _ (List.getElem_mem hlt)]
  cases hp:p rows[k] with
  | true=>rw [List.any_cons,hp,List.findIdx_cons,hp];rfl
  | false =>
   simp only [cond_false]
   rw [w64_succ (by omega),dfi71 fn p rows hn hf n (k + 1) F (by omega) (by omega)]
   simp only [List.any_cons,hp,Bool.false_or,List.findIdx_cons,cond_false]
   split
   ·congr 3;omega
   ·rfl
theorem dfx71 {fn:MailEntry→Option Bool} (p:MailEntry→Bool) {rows:List MailEntry} (hn:rows.length≤1000000) (hf:∀ x ∈ rows,fn x=some (p x)):p_slices_IndexFunc_mail_State_mail_Entry_ rows fn=some (if rows.any p=true then (rows.findIdx p:Int) else -1):=by
 unfold p_slices_IndexFunc_mail_State_mail_Entry_
 have:=dfi71 fn p rows hn hf rows.length 0 fuel (by omega) (by have:=fuel_pos;omega)
 rw [show ((0:Int))=((0:Nat):Int) from rfl,this,List.drop_zero]
 cases rows.any p <;> simp
theorem dfS71 (l:List MailEntry) {g:Nat} {caps:List V} {fn:MailEntry→Option Bool} (hc:Clo1 Tryz.prog g caps MailEntry.v V.b fn) (p:MailEntry→Bool) (hn:l.length≤1000000) (hf:∀ x ∈ l,fn x=some (p x)) :
  CallsS Tryz.prog 71 [.osl 0 0 l.length 5 false,.clo (.func g) caps] [.live (cellsM MailEntry.v l) 0] (.osl 0 0 (l.filter fun x=>!p x).length 5 false) [.live (cellsM MailEntry.v (l.filter fun x=>!p x)) 0]:=by
 refine callsR_c (n0:=1) mix Tryz.func71 dc71_ok rfl ?_
 conv=>whnf
 refine askT_c (X:=some) (r:=if l.any p=true then (l.findIdx p:Int) else -1) [0] (p_slices_IndexFunc_mail_State_mail_Entry__v l fn hc) (by rw [dfx71 p hn hf];rfl) (.cons (.c (fzown (f:=MailEntry.v) (l:=l) rfl rfl (fun _=>rfl) (fun _=>rfl))) (.cons (.c (.id (by exact hc.own))) .nil)) (fun _=>rfl) (fun x H=>?_)
 obtain rfl:=Option.some.inj H
 conv=>whnf
 by_cases hany:l.any p=true
 ·rw [if_pos hany]
  have hk0:l.findIdx p < l.length:=List.findIdx_lt_length_of_exists (by simpa using hany)
  refine Tst.isF (beq_eq_false_iff_ne.2 (by omega)) ?_;conv=>whnf
  refine Ari.w ?_;conv=>whnf
  have hw:IntKind.i64.wrap ((l.findIdx p:Int) + 1)=((l.findIdx p + 1:Nat):Int):=w64_succ (by omega)
  rw [hw]
  refine loop_c [5,6] [7,16,17,18,19,20,21,22,23,24,25,26,27,28,29,30,31,32,33,34,35] [7,16,17,18,19,20,21,22,23,24,25,26,27,28,29,30,31,32,33,34,35] (fun n vals st=>∃ (i j:Nat) (y:List MailEntry),vals=[.i i,.i j]∧st=[.live (cellsM MailEntry.v y) 0]∧y.length=l.length∧i < j∧j≤l.length∧y.drop j=l.drop j∧y.take i=(l.take j).filter (fun x=>!p x)∧i≤l.length∧n=l.length - j) (l.length - (l.findIdx p + 1)) 1 [] ⟨l.findIdx p,l.findIdx p + 1,l,rfl,rfl,rfl,by omega,by omega,rfl,df_start hk0,by omega,rfl⟩ (Nat.le_refl _) rfl
   (by simp only [maskF,setF,List.set_cons_zero,List.set_cons_succ,V.ren.renL,V.ren,renL_id _ hc.own] <;> rfl) (by simp only [maskF,setF,List.set_cons_zero,List.set_cons_succ,V.idlt.belowL,V.idlt,fun n=>idltL_up (n:=n) _ hc.own] <;> rfl) rfl (wkB_live0 rfl (cellsM_idlt (f:=MailEntry.v) (fun _=>rfl) _) rfl trivial) ?_
  rintro n _ _ ⟨i,j,y,rfl,rfl,hyl,hij,hjl,hyd,hyt,hil,rfl⟩
  conv=>whnf
  by_cases hj:j < l.length
  ·refine Tst.isT (lt_tt hj) ?_;conv=>whnf
   have hmem:l[j] ∈ l:=List.getElem_mem hj
   have hx:y[(j:Int).toNat]?=some l[j]:=by
    rw [Int.toNat_natCast]
    have h1:(y.drop j)[0]?=(l.drop j)[0]?:=by rw [hyd]
    rw [List.getElem?_drop,List.getElem?_drop,Nat.add_zero] at h1
    rw [h1,List.getElem?_eq_getElem hj]
   refine ⟨rfl,⟨Int.natCast_nonneg _,by rw [Int.toNat_natCast];exact hj,?_⟩⟩;conv=>whnf
   refine ldo_c (f:=MailEntry.v) (es:=5) hx (fun _=>rfl) 0 (by omega) (by decide) ?_;conv=>whnf
   refine lq_ ?_;conv=>whnf
   refine askC_c (X:=some) (r:=p l[j]) (a:=l[j]) hc (by rw [hf _ hmem];rfl) (fza_ids rfl) (fun v H=>?_)
   obtain rfl:=Option.some.inj H
   conv=>whnf
   have hw1:IntKind.i64.wrap ((j:Int) + 1)=((j + 1:Nat):Int):=w64_succ (by omega)
   have hw2:IntKind.i64.wrap ((i:Int) + 1)=((i + 1:Nat):Int):=w64_succ (by omega)
   cases hp:p l[j] with
   | false =>
    refine Tst.isT rfl ?_;conv=>whnf
    refine ⟨rfl,⟨Int.natCast_nonneg _,by rw [Int.toNat_natCast];omega,?_⟩⟩;conv=>whnf
    refine ⟨Nat.zero_le _,sto_c (f:=MailEntry.v) (l:=y) (n:=i) (es:=5) (x:=y[i]'(by omega)) (List.getElem?_eq_getElem (by omega)) (x':=l[j]) (fun _=>rfl) 0 (by rw [Int.toNat_natCast];omega) (Nat.le_of_ble_eq_true rfl) (by rfl) ?_⟩;conv=>whnf
    refine Ari.w ?_;conv=>whnf
    refine Ari.w ?_;conv=>whnf
    rw [hw1,hw2]
    have hd:=df_keep hyl hij hj hyd hyt hp
    exact again_c [7,16,17,18,19,20,21,22,23,24,25,26,27,28,29,30,31,32,33,34,35] (l.length - (j + 1)) 1 [] ⟨i + 1,j + 1,y.set i l[j],rfl,rfl,by rw [List.length_set];exact hyl,by omega,by omega,hd.1,hd.2,by omega,rfl⟩ (by omega) (Nat.le_refl _) rfl
     (by simp only [maskF,setF,List.set_cons_zero,List.set_cons_succ,V.ren.renL,V.ren,renL_id _ hc.own] <;> rfl) (by simp only [maskF,setF,List.set_cons_zero,List.set_cons_succ,V.idlt.belowL,V.idlt,fun n=>idltL_up (n:=n) _ hc.own] <;> rfl) rfl (wkB_live0 rfl (cellsM_idlt (f:=MailEntry.v) (fun _=>rfl) _) rfl trivial)
   | true =>
    refine Tst.isF rfl ?_;conv=>whnf
    refine Ari.w ?_;conv=>whnf
    rw [hw1]
    have hd:=df_skip hj hyd hyt hp
    exact again_c [7,16,17,18,19,20,21,22,23,24,25,26,27,28,29,30,31,32,33,34,35] (l.length - (j + 1)) 1 [] ⟨i,j + 1,y,rfl,rfl,hyl,by omega,by omega,hd.1,hd.2,hil,rfl⟩ (by omega) (Nat.le_refl _) rfl
     (by simp only [maskF,setF,List.set_cons_zero,List.set_cons_succ,V.ren.renL,V.ren,renL_id _ hc.own] <;> rfl) (by simp only [maskF,setF,List.set_cons_zero,List.set_cons_succ,V.idlt.belowL,V.idlt,fun n=>idltL_up (n:=n) _ hc.own] <;> rfl) rfl (wkB_live0 rfl (cellsM_idlt (f:=MailEntry.v) (fun _=>rfl) _) rfl trivial)
  ·refine Tst.isF (lt_ff (by omega)) ?_;conv=>whnf
   have hjl' : j=l.length:=by omega
   subst hjl'
   rw [List.take_length] at hyt
   have hfl:(l.filter fun x=>!p x).length=i:=by rw [← hyt,List.length_take];omega
   refine ⟨rfl,sloT_c i rfl (by omega) ?_⟩;conv=>whnf
   refine ⟨rfl,clr_c (cs':=cellsM MailEntry.v (l.filter fun x=>!p x)) (Nat.zero_le _) (by rw [cellsM_len (f:=MailEntry.v) (es:=5) (fun _=>rfl),hyl];exact (Nat.zero_add _).symm ▸ Nat.mul_le_mul_right _ (by omega)) (by omega) (by rw [Nat.zero_add,← hyt];exact (cellsM_take (f:=MailEntry.v) (es:=5) (fun _=>rfl) y i (by omega)).1.symm) ?_⟩;conv=>whnf
   refine ⟨rfl,sloP_c i rfl (by omega) ?_⟩;conv=>whnf
   rw [hfl]
   exact ⟨f_R0 (.inr rfl) (.cons (.tmp rfl) .nil) rfl rfl rfl rfl ⟨idltL_up _ (cellsM_idlt (f:=MailEntry.v) (fun _=>rfl) _),trivial⟩⟩
 ·rw [if_neg hany]
  refine Tst.isT rfl ?_;conv=>whnf
  have hfe:(l.filter fun x=>!p x)=l:=List.filter_eq_self.2 fun x hx=>by
   have:=fun h=>hany (List.any_eq_true.2 ⟨x,hx,h⟩)
   simpa using this
  rw [hfe]
  exact ⟨f_R0 (.inr rfl) (.cons (.tmp rfl) .nil) rfl rfl rfl rfl ⟨idltL_up _ (cellsM_idlt (f:=MailEntry.v) (fun _=>rfl) _),trivial⟩⟩
theorem delF71_v:DelFSaid Tryz.prog 71 MailEntry.v 5:=fun l _ _ _ hc p hn hf=>dfS71 l hc p hn hf
theorem delF71_n:DelFNil Tryz.prog 71 MailEntry.v:=fun {g} {caps} {fn} hc=>by
 refine callsO_comp mix Tryz.func71 dc71_ok (fun r H0=>?_)
 conv=>whnf
 refine askF_c (X:=some) (r:=(-1:Int)) (p_slices_IndexFunc_mail_State_mail_Entry__v [] fn hc) (by rfl) (.cons (.c .slw) (.cons (.c (.id (by exact hc.own))) .nil)) (fun x H=>?_)
 obtain rfl:=Option.some.inj H
 conv=>whnf
 refine Tst.isT rfl ?_;conv=>whnf
 exact fin0_c (enc:=fun _:Unit=>V.sl [] true) H0 (.inr rfl) (.cons (.tmp rfl) .nil) rfl rfl
end Go.Proofs.YthnihifblmnkdaaGreat

namespace Go.Proofs.YthnihifblmnkdaaGreat
open Go.RowKit
def tru? (m:Option Bool):Option Bool:=if m=some true then some true else none
theorem tru_of {m:Option Bool} {r:Bool} (h:tru? m=some r):r=true∧m=some true:=by
 unfold tru? at h
 split at h
 ·exact ⟨(Option.some.inj h).symm,‹_›⟩
 ·cases h
theorem tru_ok {m:Option Bool} (h:m=some true):tru? m=some true:=if_pos h
theorem tru_closed {P:Program} {k:FuncId} {vs:List V} {m:Option Bool} (h:CallsO P k vs V.b (tru? m)) (hm:m=some true):CallsO P k vs V.b m:=fun v hv=>by
 rw [hm] at hv
 cases hv
 exact h true (tru_ok hm)
theorem tstT_c {b:Bool} {A B:Prop} {X:Option Bool} (H:(bif b then X else some false)=some true) (h:b=true→X=some true→A):Tst b A B :=
 tst_c H h fun _ h=>by cases h
theorem tstF_c {b:Bool} {A B:Prop} {X:Option Bool} (H:(bif b then some false else X)=some true) (h:b=false→X=some true→B):Tst b A B :=
 tst_c H (fun _ h=>by cases h) h
theorem litL_M {α:Type} {f:α→V} (hlit:∀ a,V.litD.litL (f a).cells=true) (l:List α):V.litD.litL (cellsM f l)=true:=litL_mem fun v hv=>by
 obtain ⟨a,_,ha⟩:=List.mem_flatMap.1 hv
 exact mem_litL (hlit a) v ha
structure GrowRoads (P:Program) (k:FuncId) (es:Nat) (E:TypeId):Prop where
 some_:∀ (b:Option Addr) (n:Nat) (w:World),0 < n→n≤1000000→Calls P k #[.slice b 0 0,.int .i64 n] w fun e w'=>∃ (ZS:Array Value) (c:Nat),e=.returned (.slice (some ⟨w.heap.size,0,none⟩) 0 c)∧w'=w.drew.alloc (.cells ZS E)∧c * es≤ZS.size
 zero_:∀ (b:Option Addr) (w:World),Calls P k #[.slice b 0 0,.int .i64 0] w fun e w'=>e=.returned (.slice b 0 0)∧w'=w
end Go.Proofs.YthnihifblmnkdaaGreat

namespace Go.Proofs.YthnihifblmnkdaaGreat
open Go.RowKit
theorem Rep.renTo {m:Mem} {bk:Bks} {c:Value} {v:V} (sg:List Nat) {bk2:Bks} (hb:∀ k x,bk k=some x→bk2 (sgm sg k)=some x) (h:Rep m bk c v):Rep m bk2 c (v.ren sg):=by
 induction h with
 | lit h=>exact .lit h
 | @agg _ cs vs hl h1 _ ih =>
  refine .agg (by rw [renL_len];exact hl) (fun v hv=>?_) fun j a b=>?_
  ·obtain ⟨j,hj,rfl⟩:=List.getElem_of_mem hv
   rw [renL_len] at hj
   rw [renL_get sg vs j hj,ren_one]
   exact h1 _ (List.getElem_mem hj)
  ·have hj:j < vs.length:=by rw [renL_len] at b;exact b
   rw [renL_get sg vs j hj]
   exact ih j a hj hb
 | @tup _ cs vs hl _ ih =>
  refine .tup (by rw [renL_len];exact hl) fun j a b=>?_
  have hj:j < vs.length:=by rw [renL_len] at b;exact b
  rw [renL_get sg vs j hj]
  exact ih j a hj hb
 | sl hn hc hf hes h1 hm h _=>exact .sl hn hc hf hes h1 hm h
 | slnil hf=>exact .slnil hf
 | osl h1 hc hf hs=>exact .osl (hb _ _ h1) hc hf hs
 | ptr h1=>exact .ptr (hb _ _ h1)
 | eptr h1 hm h _=>exact .eptr h1 hm h
 | @clo _ fn cs vs hv hl _ ih =>
  refine .clo hv (by rw [renL_len];exact hl) fun j a b=>?_
  have hj:j < vs.length:=by rw [renL_len] at b;exact b
  rw [renL_get sg vs j hj]
  exact ih j a hj hb
 | @bnd _ fn cs vs hl _ ih =>
  refine .bnd (by rw [renL_len];exact hl) fun j a b=>?_
  have hj:j < vs.length:=by rw [renL_len] at b;exact b
  rw [renL_get sg vs j hj]
  exact ih j a hj hb
 | any=>exact .any
theorem callsS_new {P:Program} {f:FuncId} {args:List V} {v:V} {s0 s1:Slot} (h:CallsS P f args [.fresh,.fresh] v [s0,s1]) (ha:V.idlt.belowL 0 args=true) {i j:Nat} (hij:i≠j) {st:List Slot} (hi:st[i]?=some .fresh) (hj:st[j]?=some .fresh)
  (h0:∀ cs f,s0=.live cs f∨s1=.live cs f→V.litD.litL cs=true):CallsS P f args st (v.ren [i,j]) ((st.set i s0).set j s1):=by
 intro B m0 m bk w cargs hg hsim hargs
 have sim1:Sim w.heap.size m m noBk w [.fresh,.fresh]:=by
  refine ⟨Nat.le_refl _,hsim.mem,fun _ _ h=>h,fun _ _ h=>.inl h,fun k c g hk=>?_,fun a b ci fi cj fj x y h1 h2 _ _ _=>?_,fun _ _=>rfl⟩
  ·rcases k with _ | _ | k <;> simp at hk
  ·rcases a with _ | _ | a <;> simp at h1
 have args1:RepA m noBk cargs args:=⟨hargs.1,fun k a b=>(hargs.2 k a b).zero (belowL_get ha k b)⟩
 refine (h w.heap.size m m noBk w cargs hg sim1 args1).mono ?_
 rintro e w' ⟨c,rfl,m',bk',g1,g2,g3,g4,g5⟩
 let bk2:Bks:=fun k=>if k=i then bk' 0 else if k=j then bk' 1 else bk k
 have bi:bk2 i=bk' 0:=if_pos rfl
 have bj:bk2 j=bk' 1:=by show (if j=i then _ else if j=j then _ else _)=_;rw [if_neg (fun e=>hij e.symm),if_pos rfl]
 have bo:∀ k,k≠i→k≠j→bk2 k=bk k:=fun k h1 h2=>by show (if k=i then _ else if k=j then _ else _)=_;rw [if_neg h1,if_neg h2]
 have hil:=(List.getElem?_eq_some_iff.1 hi).1
 have hjl:=(List.getElem?_eq_some_iff.1 hj).1
 have bki:bk i=none:=hsim.nb i (.inr hi)
 have bkj:bk j=none:=hsim.nb j (.inr hj)
 have get:∀ k,((st.set i s0).set j s1)[k]?=if k=j then some s1 else if k=i then some s0 else st[k]?:=fun k=>by
  by_cases e1:k=j
  ·subst e1;rw [List.getElem?_set,if_pos rfl,List.length_set,if_pos hjl,if_pos rfl]
  ·rw [List.getElem?_set,if_neg (fun e=>e1 e.symm),if_neg e1]
   by_cases e2:k=i
   ·subst e2;rw [List.getElem?_set,if_pos rfl,if_pos hil,if_pos rfl]
   ·rw [List.getElem?_set,if_neg (fun e=>e2 e.symm),if_neg e2]
 have up:∀ k x,bk' k=some x→bk2 (sgm [i,j] k)=some x:=fun k x hx=>by
  have hk2:∀ q:Nat,[Slot.fresh,Slot.fresh].length≤q→bk' q=none:=fun q hq=>g1.nb q (.inl (List.getElem?_eq_none (by simpa using hq)))
  rcases k with _ | _ | k
  ·show bk2 i=some x;rw [bi];exact hx
  ·show bk2 j=some x;rw [bj];exact hx
  ·rw [hk2 (k + 2) (by simp)] at hx;cases hx
 have out:∀ a:Addr,a.block < w.heap.size→m' a=m a:=fun a ha=>by
  cases hm:m a with
  | some u=>exact g3 _ _ hm
  | none =>
   cases hm' : m' a with
   | none=>rfl
   | some u =>
    rcases g1.old a u hm' with q | q
    ·rw [hm] at q;cases q
    ·omega
 have one:∀ (k id:Nat) (cs:List V) (frz:Nat),[s0,s1][k]?=some (.live cs frz)→bk2 id=bk' k→(∃ q,s0=.live cs q∨s1=.live cs q)→∃ b sz arr t lo hi,LiveAt B m' bk2 w' id cs frz b sz arr t lo hi∧w.heap.size≤b:=fun k id cs frz hk hid hc=>by
  obtain ⟨b,sz,arr,t,lo,hi',hl⟩:=g1.blk k cs frz hk
  obtain ⟨q,hq⟩:=hc
  refine ⟨b,sz,arr,t,lo,hi',⟨by rw [hid];exact hl.at_,Nat.le_trans hsim.base hl.own,hl.heap,hl.size,hl.free,hl.fit,hl.one,fun n hn=>?_,hl.mu,hl.fz⟩,hl.own⟩
  obtain ⟨u,q1,q2⟩:=hl.rep n hn
  exact ⟨u,q1,q2.litD (litL_get (h0 cs q hq) n hn) m' bk2⟩
 have all:∀ (k:Nat) (cs:List V) (frz:Nat),((st.set i s0).set j s1)[k]?=some (.live cs frz)→∃ b sz arr t lo hi,LiveAt B m' bk2 w' k cs frz b sz arr t lo hi∧((k=i∨k=j)→w.heap.size≤b)∧(k≠i→k≠j→b < w.heap.size):=fun k cs frz hk=>by
  rw [get] at hk
  by_cases e1:k=j
  ·subst e1
   rw [if_pos rfl] at hk
   obtain ⟨b,sz,arr,t,lo,hi',h1,h2⟩:=one 1 k cs frz (by simpa using hk) bj ⟨frz,.inr (by simpa using hk)⟩
   exact ⟨b,sz,arr,t,lo,hi',h1,fun _=>h2,fun _ h=>absurd rfl h⟩
  ·rw [if_neg e1] at hk
   by_cases e2:k=i
   ·subst e2
    rw [if_pos rfl] at hk
    obtain ⟨b,sz,arr,t,lo,hi',h1,h2⟩:=one 0 k cs frz (by simpa using hk) bi ⟨frz,.inl (by simpa using hk)⟩
    exact ⟨b,sz,arr,t,lo,hi',h1,fun _=>h2,fun h _=>absurd rfl h⟩
   ·rw [if_neg e2] at hk
    obtain ⟨b,sz,arr,t,lo,hi',hl⟩:=hsim.blk k cs frz hk
    have hb:b < w.heap.size:=by
     rcases Nat.lt_or_ge b w.heap.size with h | h
     ·exact h
     ·have:=hl.heap;rw [Array.getElem?_eq_none h] at this;cases this
    refine ⟨b,sz,arr,t,lo,hi',⟨by rw [bo k e2 e1];exact hl.at_,hl.own,by rw [g5.block b hb];exact hl.heap,hl.size,hl.free,hl.fit,hl.one,fun n hn=>?_,fun n hn=>by rw [out _ hb];exact hl.mu n hn,fun n hn=>by rw [out _ hb];exact hl.fz n hn⟩,fun h=>?_,fun _ _=>hb⟩
    ·obtain ⟨u,q1,q2⟩:=hl.rep n hn
     refine ⟨u,q1,q2.mono g3 fun q x hq=>?_⟩
     rw [bo q (fun e=>by rw [e,bki] at hq;cases hq) (fun e=>by rw [e,bkj] at hq;cases hq)];exact hq
    ·rcases h with h | h
     ·exact absurd h e2
     ·exact absurd h e1
 refine ⟨c,rfl,m',bk2,⟨Nat.le_trans hsim.base g5.size,g1.mem,fun a u h=>g3 _ _ (hsim.ext a u h),fun a u h=>?_,fun k cs frz hk=>?_,fun a b ci fi cj fj x y h1 h2 hx hy he=>?_,fun k hk=>?_⟩,g2.renTo [i,j] up,g3,fun k x hk=>?_,?_⟩
 ·rcases g1.old a u h with q | q
  ·exact hsim.old a u q
  ·exact .inr (Nat.le_trans hsim.base q)
 ·obtain ⟨b,sz,arr,t,lo,hi',h1,_⟩:=all k cs frz hk
  exact ⟨b,sz,arr,t,lo,hi',h1⟩
 ·obtain ⟨b1,z1,r1,t1,l1,u1,p1,p2,p3⟩:=all a ci fi h1
  obtain ⟨b2,z2,r2,t2,l2,u2,q1,q2,q3⟩:=all b cj fj h2
  have ex:x=(b1,z1):=by have:=p1.at_;rw [hx] at this;exact Option.some.inj this
  have ey:y=(b2,z2):=by have:=q1.at_;rw [hy] at this;exact Option.some.inj this
  subst ex ey
  have hb:b1=b2:=he
  rw [get] at h1 h2
  by_cases ai:a=i <;> by_cases aj:a=j <;> by_cases ci' : b=i <;> by_cases cj' : b=j
  all_goals first
   | (rw [ai,ci'];done)
   | (rw [aj,cj'];done)
   | (exact absurd (ai.symm.trans aj) hij)
   | (exact absurd (ci'.symm.trans cj') hij)
   | skip
  ·rw [if_neg aj,if_pos ai] at h1
   rw [if_pos cj'] at h2
   have:=g1.inj 0 1 ci fi cj fj (b1,z1) (b2,z2) (by simpa using h1) (by simpa using h2) (by rw [← bi,← ai];exact hx) (by rw [← bj,← cj'];exact hy) hb
   omega
  ·have:=p2 (.inl ai);have:=q3 ci' cj';omega
  ·rw [if_pos aj] at h1
   rw [if_neg cj',if_pos ci'] at h2
   have:=g1.inj 1 0 ci fi cj fj (b1,z1) (b2,z2) (by simpa using h1) (by simpa using h2) (by rw [← bj,← aj];exact hx) (by rw [← bi,← ci'];exact hy) hb
   omega
  ·have:=p2 (.inr aj);have:=q3 ci' cj';omega
  ·have:=q2 (.inl ci');have:=p3 ai aj;omega
  ·have:=q2 (.inr cj');have:=p3 ai aj;omega
  ·rw [if_neg aj,if_neg ai] at h1
   rw [if_neg cj',if_neg ci'] at h2
   exact hsim.inj a b ci fi cj fj (b1,z1) (b2,z2) h1 h2 (by rw [← bo a ai aj];exact hx) (by rw [← bo b ci' cj'];exact hy) hb
 ·rw [get] at hk
  by_cases e1:k=j
  ·subst e1
   rw [if_pos rfl] at hk
   rw [bj]
   rcases hk with hk | hk
   ·cases hk
   ·exact g1.nb 1 (.inr (by simpa using hk))
  ·rw [if_neg e1] at hk
   by_cases e2:k=i
   ·subst e2
    rw [if_pos rfl] at hk
    rw [bi]
    rcases hk with hk | hk
    ·cases hk
    ·exact g1.nb 0 (.inr (by simpa using hk))
   ·rw [if_neg e2] at hk
    rw [bo k e2 e1]
    exact hsim.nb k hk
 ·rw [bo k (fun e=>by rw [e,bki] at hk;cases hk) (fun e=>by rw [e,bkj] at hk;cases hk)];exact hk
 ·exact ⟨g5.toBelow.mono hsim.base,g5.shp,g5.oth⟩
theorem wcl_fz {st:List Slot} {sg:List Nat} {n:Nat} {l l' : List V} {rd:List Nat} (h:FzL st l l' rd):WCL st sg n l l':=by
 induction h with
 | nil=>exact .nil
 | cons h _ ih=>exact .cons (.fz h) ih
structure FzW (st:List Slot) (u v:V):Prop where
 out:∃ l l' rd,u=.agg l∧v=.agg l'∧FzL st l l' rd∧l'.all V.one=true
end Go.Proofs.YthnihifblmnkdaaGreat

namespace Go.Proofs.YthnihifblmnkdaaGreat
open Go.RowKit
def Slot.okN (n:Nat):Slot→Bool
 | .live cs _=>V.idlt.belowL n cs
 | _=>true
mutual
theorem idlt_mo {n m:Nat} (hm:n≤m):∀ v:V,v.idlt n=true→v.idlt m=true
 | .lit _,_=>rfl
 | .agg cs,h=>idltL_mo hm cs h
 | .tup cs,h=>idltL_mo hm cs h
 | .sl _ _,_=>rfl
 | .osl _ _ _ _ _,h=>by simp [V.idlt] at h ⊢;omega
 | .ptr _ _,h=>by simp [V.idlt] at h ⊢;omega
 | .eptr _,_=>rfl
 | .clo _ cs,h=>idltL_mo hm cs h
 | .any,_=>rfl
theorem idltL_mo {n m:Nat} (hm:n≤m):∀ l:List V,V.idlt.belowL n l=true→V.idlt.belowL m l=true
 | [],_=>rfl
 | v :: l,h=>by
  simp only [V.idlt.belowL,Bool.and_eq_true] at h ⊢
  exact ⟨idlt_mo hm v h.1,idltL_mo hm l h.2⟩
end
theorem okN_mo {n m:Nat} {s:Slot} (h:s.okN n=true) (hm:Nat.le n m):s.okN m=true:=by
 cases s with
 | live cs f=>exact idltL_mo hm cs h
 | fresh=>rfl
 | dead=>rfl
theorem okN_M {n k:Nat} {cs:List V} (h:V.idlt.belowL 0 cs=true):Slot.okN n (.live cs k)=true:=idltL_up _ h
def keptA (n:Nat):List Slot→List Slot→Prop
 | [],_=>True
 | s :: r,st=>(st[0]?=some s∧s.okN n=true)∧keptA n r st.tail
def keptK (n:Nat):List Slot→List Slot→Nat→Prop
 | [],_,_=>True
 | _ :: r,st,0=>keptA n r st.tail
 | s :: r,st,i + 1=>(st[0]?=some s∧s.okN n=true)∧keptK n r st.tail i
theorem keptA_ok {n:Nat}:∀ {r st:List Slot},keptA n r st→∀ (k:Nat) (s:Slot),r[k]?=some s→st[k]?=some s∧s.okN n=true
 | [],st,_,k,s,hk=>by simp at hk
 | x :: r,st,h,0,s,hk=>by
  simp only [List.getElem?_cons_zero,Option.some.injEq] at hk
  subst hk;exact h.1
 | x :: r,st,h,k + 1,s,hk=>by
  rw [List.getElem?_cons_succ] at hk
  obtain ⟨h1,h2⟩:=keptA_ok h.2 k s hk
  rw [List.getElem?_tail] at h1
  exact ⟨h1,h2⟩
theorem keptK_ok {n:Nat}:∀ {r st:List Slot} {i:Nat},keptK n r st i→∀ (k:Nat) (s:Slot),k≠i→r[k]?=some s→st[k]?=some s∧s.okN n=true
 | [],st,i,_,k,s,_,hk=>by simp at hk
 | x :: r,st,0,h,0,s,hn,hk=>absurd rfl hn
 | x :: r,st,0,h,k + 1,s,hn,hk=>by
  rw [List.getElem?_cons_succ] at hk
  obtain ⟨h1,h2⟩:=keptA_ok h k s hk
  rw [List.getElem?_tail] at h1
  exact ⟨h1,h2⟩
 | x :: r,st,i + 1,h,0,s,hn,hk=>by
  simp only [List.getElem?_cons_zero,Option.some.injEq] at hk
  subst hk;exact h.1
 | x :: r,st,i + 1,h,k + 1,s,hn,hk=>by
  rw [List.getElem?_cons_succ] at hk
  obtain ⟨h1,h2⟩:=keptK_ok h.2 k s (fun e=>hn (by rw [e])) hk
  rw [List.getElem?_tail] at h1
  exact ⟨h1,h2⟩
theorem finP_c {rs:List ARes} {fr:List V} {st st0:List Slot} {α:Type} {enc:α→V} {x y:α} {e:AExit} {T:α→List V} {i:Nat} (is:List Nat) (he:e=.normal∨e=.ret) (H:some x=some y) (hi:i < st0.length)
  (h:frzI is st fun st=>keptK st0.length st0 st i∧(∃ T0 rd,st[i]?=some (.live T0 0)∧FzL st T0 (T x) rd∧(T x).all V.one=true)∧resK fr st rs fun vs=>mkRK vs fun v=>v=enc x∧v.idlt 0=true):FinQ (FinR st0 rs (enc y) (st0.set i (.live (T y) 0))) e fr st:=by
 cases H
 obtain ⟨st1,hf,h1,⟨T0,rd,h2,h3,h4⟩,h⟩:=frzI_ok h
 obtain ⟨vs,h5,h6⟩:=resK_ok h
 rw [mkRK_eq] at h6
 obtain ⟨h6,h7⟩:=h6
 have one:∀ v ∈ T x,v.one=true:=by simpa using h4
 have get:∀ (k:Nat),(st0.set i (.live (T x) 0))[k]?=if i=k then some (.live (T x) 0) else st0[k]?:=fun k=>by
  rw [List.getElem?_set]
  by_cases e:i=k
  ·rw [if_pos e,if_pos hi,if_pos e]
  ·rw [if_neg e,if_neg e]
 refine ⟨he,[],st1,vs,hf,h5,.v (.c (.ren (by rw [← h6,ren_nil]) (by rw [← h6];exact idlt_up _ h7))),fun i _ _=>rfl,⟨List.length_set ..,fun k cs f hk=>?_,fun k hk=>?_,fun i j _ _ _ _ _ _ h=>h⟩⟩
 ·rw [get] at hk
  by_cases e:i=k
  ·rw [if_pos e] at hk
   simp only [Option.some.injEq,Slot.live.injEq] at hk
   obtain ⟨rfl,rfl⟩:=hk
   subst e
   exact ⟨T0,h2,wcl_fz h3,.inl one⟩
  ·rw [if_neg e] at hk
   obtain ⟨g1,g2⟩:=keptK_ok h1 k _ (fun q=>e q.symm) hk
   exact ⟨cs,g1,wcl_nil g2,.inr (renL_nil _).symm⟩
 ·rw [get] at hk
  by_cases e:i=k
  ·rw [if_pos e] at hk;cases hk
  ·rw [if_neg e] at hk
   exact (keptK_ok h1 k _ (fun q=>e q.symm) hk).1
theorem askP_c {β:Type} {r:β} {P:Program} {st st0:List Slot} {α:Type} {enc:α→V} {st' : α→List Slot} {m:Option α} {X:α→Option β} {f:Nat} {vs vs' : List V} {k:V→List Nat→List Nat→List Slot→Prop} (hc:∀ s,m=some s→CallsS P f vs' st0 (enc s) (st' s)) (H:m.bind X=some r) (hv:vs=vs') (hs:st=st0) (hl:∀ s,(st' s).length=st0.length)
  (h:∀ s,X s=some r→k (enc s) [] ((allEff (st' s)).map Prod.fst) (st' s)):Ask P f vs st k:=by
 subst hv hs
 obtain ⟨s,hs,H⟩:=bind_c H
 exact Ask_S (hc s hs) (hl s) (h s H)
end Go.Proofs.YthnihifblmnkdaaGreat

namespace Go.Proofs.YthnihifblmnkdaaGreat
open Go.RowKit
end Go.Proofs.YthnihifblmnkdaaGreat

namespace Go.Proofs.YthnihifblmnkdaaGreat
open Go.RowKit
def p_pres_Split (a0:ByteArray):Option (ByteArray × ByteArray × Int) :=
 (p_strings_Cut a0 (⟨#[32]⟩ : ByteArray)).bind fun v1 =>
 bif v1.2.2 then
  (p_addr_IsBare v1.1).bind fun v3 =>
  bif v3 then
   (p_addr_Resource v1.2.1).bind fun v5 =>
   bif (v5 != (0:Int)) then
    some ((⟨#[]⟩ : ByteArray),(⟨#[]⟩ : ByteArray),v5)
   else
   some (v1.1,v1.2.1,(0:Int))
  else
  some ((⟨#[]⟩ : ByteArray),(⟨#[]⟩ : ByteArray),(11:Int))
 else
 some ((⟨#[]⟩ : ByteArray),(⟨#[]⟩ : ByteArray),(4:Int))
def p_mail_key (a0:ByteArray):Option (Bool) :=
 (p_pres_Split a0).bind fun v1 =>
 some (v1.2.2 == (0:Int))
def p_mail_Off_l1 (z7:List MailEntry) (z8:Int):Nat→Int→Int→Option ((Int × Int))
 | 0,_,_=>none
 | n + 1,y6,y9 =>
  bif (decide (y9 < z8)) then
   (at? z7 y9).bind fun x11 =>
   bif x11.P.On then
    p_mail_Off_l1 z7 z8 n y6 (w64 (y9 + (1:Int)))
   else
   p_mail_Off_l1 z7 z8 n (w64 (y6 + (1:Int))) (w64 (y9 + (1:Int)))
  else
  some (y6,y9)
def p_mail_Off (a0:List MailEntry):Option (Int) :=
 (p_mail_Off_l1 a0 (a0.length:Int) fuel (0:Int) (0:Int)).bind fun q14 =>
 some q14.1
def p_mail_Find_l1 (z7:ByteArray) (z9:List MailEntry) (z10:Int):Nat→Int→Int→Option ((Int × Int))
 | 0,_,_=>none
 | n + 1,y8,y11 =>
  bif (decide (y11 < z10)) then
   (at? z9 y11).bind fun x13 =>
   bif (x13.Key.toList == z7.toList) then
    some (y11,y11)
   else
   p_mail_Find_l1 z7 z9 z10 n y8 (w64 (y11 + (1:Int)))
  else
  some (y8,y11)
def p_mail_Find (a0:List MailEntry) (a1:ByteArray):Option (Int) :=
 (p_mail_Find_l1 a1 a0 (a0.length:Int) fuel (-1:Int) (0:Int)).bind fun q16 =>
 some q16.1
def p_mail_State_ordered_l1 (z8:List MailEntry) (z9:Int) (z10:List MailEntry) (z11:Int):Nat→Int→Option (Bool ⊕ Int)
 | 0,_=>none
 | n + 1,y12 =>
  bif (decide (y12 < z11)) then
   (at? z10 y12).bind fun x14 =>
   bif (x14.P.On != (decide (z9≤y12))) then
    some (.inl false)
   else
   (p_mail_Find z8 x14.Key).bind fun v16 =>
   bif (v16 != y12) then
    some (.inl false)
   else
   p_mail_State_ordered_l1 z8 z9 z10 z11 n (w64 (y12 + (1:Int)))
  else
  some (.inr y12)
def p_mail_State_ordered (a0:List MailEntry):Option (Bool) :=
 (p_mail_Off a0).bind fun v1 =>
 (p_mail_State_ordered_l1 a0 v1 a0 (a0.length:Int) fuel (0:Int)).bind fun o18=>match o18 with
 | .inl q19 =>
  some q19
 | .inr q20 =>
  some true
def p_mail_Check_l1 (z8:List MailEntry) (z9:Int):Nat→Int→Option (Int ⊕ Int)
 | 0,_=>none
 | n + 1,y10 =>
  bif (decide (y10 < z9)) then
   (at? z8 y10).bind fun x12 =>
   (p_mail_key x12.Key).bind fun v13 =>
   bif v13 then
    p_mail_Check_l1 z8 z9 n (w64 (y10 + (1:Int)))
   else
   some (.inl (11:Int))
  else
  some (.inr y10)
def p_mail_Check_l2 (z24:List MailEntry) (z25:Int):Nat→Int→Option (Int ⊕ Int)
 | 0,_=>none
 | n + 1,y26 =>
  bif (decide (y26 < z25)) then
   (at? z24 y26).bind fun x28 =>
   (p_pres_Check x28.P).bind fun v29 =>
   bif (v29 != (0:Int)) then
    some (.inl v29)
   else
   p_mail_Check_l2 z24 z25 n (w64 (y26 + (1:Int)))
  else
  some (.inr y26)
def p_mail_Check (a0:List MailEntry):Option (Int) :=
 bif (decide ((16:Int) < (a0.length:Int))) then
  some (5:Int)
 else
 (p_mail_Check_l1 a0 (a0.length:Int) fuel (0:Int)).bind fun o15=>match o15 with
 | .inl q16 =>
  some q16
 | .inr q17 =>
  (p_mail_Check_l2 a0 (a0.length:Int) fuel (0:Int)).bind fun o31=>match o31 with
  | .inl q32 =>
   some q32
  | .inr q33 =>
   (p_mail_State_ordered a0).bind fun v34 =>
   bif v34 then
    some (0:Int)
   else
   some (10:Int)
def p_outq_in (a0:Int):Option (Bool) :=
 bif (decide ((0:Int)≤a0)) then
  some (decide (a0≤(1099511627776:Int)))
 else
 some false
def p_outq_Check (a0:Ref27State):Option (Int) :=
 (p_mail_Check a0.Mail).bind fun v1 =>
 bif (v1 != (0:Int)) then
  some v1
 else
 (p_snap_Check a0.Snap).bind fun v3 =>
 bif (v3 != (0:Int)) then
  some v3
 else
 (p_outq_in a0.Sent).bind fun v5 =>
 bif v5 then
  (p_outq_in a0.Lost).bind fun v7 =>
  bif v7 then
   some (0:Int)
  else
  some (8:Int)
 else
 some (8:Int)
def p_outq_counter_told (a0:OutqTeller):Option (OutqTeller) :=
 some (OutqTeller.mk (OutqCounter.mk (if (1099511627776:Int) < w64 (a0.counter.sent + (1:Int)) then (1099511627776:Int) else w64 (a0.counter.sent + (1:Int)))) a0.st a0.eyes a0.book)
def p_mail_Take (a0:List MailEntry):Option ((List MailEntry) × MailEntry × Bool) :=
 bif ((a0.length:Int) == (0:Int)) then
  some (a0,(MailEntry.mk (⟨#[]⟩ : ByteArray) (PresPres.mk false (0:Int) (0:Int) (0:Int))),false)
 else
 (p_mail_Check a0).bind fun v2 =>
 bif (v2 != (0:Int)) then
  some (a0,(MailEntry.mk (⟨#[]⟩ : ByteArray) (PresPres.mk false (0:Int) (0:Int) (0:Int))),false)
 else
 (cut? a0 (some (1:Int)) none).bind fun x4 =>
 (at? a0 (0:Int)).bind fun x5 =>
 some (x4,x5,true)
def p_outq_teller_next (a0:OutqTeller):Option (OutqTeller × StanzaStanza × Bool) :=
 bif a0.st.Snap.On then
  (p_snap_Next a0.st.Snap a0.eyes a0.book).bind fun v2 =>
  bif v2.2.2 then
   (p_outq_counter_told (OutqTeller.mk a0.counter (Ref27State.mk a0.st.Mail v2.1 a0.st.Sent a0.st.Lost) a0.eyes a0.book)).bind fun v4 =>
   some (v4,v2.2.1,v2.2.2)
  else
  some (a0,v2.2.1,v2.2.2)
 else
 (p_mail_Take a0.st.Mail).bind fun v5 =>
 bif v5.2.2 then
  (p_outq_counter_told (OutqTeller.mk a0.counter (Ref27State.mk v5.1 a0.st.Snap a0.st.Sent a0.st.Lost) a0.eyes a0.book)).bind fun v7 =>
  (p_pres_Split v5.2.1.Key).bind fun v8 =>
  (p_pres_Say v8.1 v8.2.1 v5.2.1.P).bind fun v9 =>
  some (v7,v9,true)
 else
 some (a0,(StanzaStanza.mk (0:Int) (⟨#[]⟩ : ByteArray) (⟨#[]⟩ : ByteArray) (⟨#[]⟩ : ByteArray) (0:Int) (0:Int) (0:Int) (0:Int)),false)
def p_outq_Flush_l1 (z8:Int):Nat→(List StanzaStanza)→OutqTeller→Option (((List StanzaStanza) × OutqTeller))
 | 0,_,_=>none
 | n + 1,y9,y10 =>
  bif (decide ((y9.length:Int) < (if (1000:Int) < z8 then (1000:Int) else z8))) then
   (p_outq_teller_next y10).bind fun v13 =>
   bif v13.2.2 then
    (app? y9 [v13.2.1]).bind fun l15 =>
    p_outq_Flush_l1 z8 n l15 v13.1
   else
   some (y9,v13.1)
  else
  some (y9,y10)
def p_outq_Flush (a0:Ref27State) (a1:SnapEyes) (a2:BookState) (a3:Int):Option (Ref27State × (List StanzaStanza)) :=
 (p_outq_Check a0).bind fun v1 =>
 bif (v1 != (0:Int)) then
  some (a0,[])
 else
 (p_outq_Flush_l1 a3 fuel [] (OutqTeller.mk (OutqCounter.mk a0.Sent) a0 a1 a2)).bind fun q17 =>
 some ((Ref27State.mk q17.2.st.Mail q17.2.st.Snap q17.2.counter.sent q17.2.st.Lost),q17.1)
def p_outq_Next (a0:Ref27State) (a1:SnapEyes) (a2:BookState):Option (Ref27State × StanzaStanza × Bool) :=
 (p_outq_Flush a0 a1 a2 (1:Int)).bind fun v1 =>
 bif ((v1.2.length:Int) == (0:Int)) then
  some (a0,(StanzaStanza.mk (0:Int) (⟨#[]⟩ : ByteArray) (⟨#[]⟩ : ByteArray) (⟨#[]⟩ : ByteArray) (0:Int) (0:Int) (0:Int) (0:Int)),false)
 else
 (at? v1.2 (0:Int)).bind fun x3 =>
 some (v1.1,x3,true)
def p_pres_Newer (a0:PresPres) (a1:PresPres):Option (Bool) :=
 some (decide (a1.Seq < a0.Seq))
def p_mail_Put (a0:List MailEntry) (a1:ByteArray) (a2:PresPres):Option ((List MailEntry) × Int) :=
 (clone? a0).bind fun l1 =>
 (p_mail_Check a0).bind fun v2 =>
 bif (v2 != (0:Int)) then
  some (l1,v2)
 else
 (p_mail_key a1).bind fun v4 =>
 bif v4 then
  (p_pres_Check a2).bind fun v6 =>
  bif (v6 != (0:Int)) then
   some (l1,v6)
  else
  (p_mail_Find a0 a1).bind fun v8 =>
  bif (v8 == (-1:Int)) then
   bif ((a0.length:Int) == (16:Int)) then
    some (l1,(7:Int))
   else
   bif a2.On then
    (insAt? l1 (l1.length:Int) (MailEntry.mk a1 a2)).bind fun v12 =>
    some (v12,(0:Int))
   else
   (p_mail_Off l1).bind fun v13 =>
   (insAt? l1 v13 (MailEntry.mk a1 a2)).bind fun v14 =>
   some (v14,(0:Int))
  else
  (at? a0 v8).bind fun x15 =>
  (p_pres_Newer a2 x15.P).bind fun v16 =>
  bif v16 then
   (at? a0 v8).bind fun x18 =>
   bif (a2.On == x18.P.On) then
    (at? l1 v8).bind fun x20 =>
    some ((List.set l1 (Int.toNat v8) (MailEntry.mk x20.Key a2)),(0:Int))
   else
   (del? l1 v8 (w64 (v8 + (1:Int)))).bind fun v22 =>
   bif a2.On then
    (insAt? v22 (v22.length:Int) (MailEntry.mk a1 a2)).bind fun v24 =>
    some (v24,(0:Int))
   else
   (p_mail_Off v22).bind fun v25 =>
   (insAt? v22 v25 (MailEntry.mk a1 a2)).bind fun v26 =>
   some (v26,(0:Int))
  else
  some (l1,(0:Int))
 else
 some (l1,(11:Int))
def p_outq_State_anew (a0:Ref27State):Option (Ref27State) :=
 (p_snap_Begin).bind fun v1 =>
 some (Ref27State.mk [] v1 a0.Sent a0.Lost)
def p_outq_Add (a0:Ref27State) (a1:ByteArray) (a2:PresPres):Option (Ref27State) :=
 (p_outq_Check a0).bind fun v1 =>
 bif (v1 != (0:Int)) then
  some a0
 else
 (p_snap_Covers a0.Snap a1).bind fun v3 =>
 bif v3 then
  some a0
 else
 (p_mail_Put a0.Mail a1 a2).bind fun v5 =>
 bif (v5.2 == (0:Int)) then
  some (Ref27State.mk v5.1 a0.Snap a0.Sent a0.Lost)
 else
 bif (v5.2 == (7:Int)) then
  (p_outq_State_anew a0).bind fun v8 =>
  some (Ref27State.mk v8.Mail v8.Snap v8.Sent (if (1099511627776:Int) < w64 (v8.Lost + (1:Int)) then (1099511627776:Int) else w64 (v8.Lost + (1:Int))))
 else
 some a0
def p_outq_Begin (a0:Ref27State):Option (Ref27State) :=
 (p_outq_Check a0).bind fun v1 =>
 bif (v1 != (0:Int)) then
  some a0
 else
 (p_outq_State_anew a0).bind fun v3 =>
 some v3
def p_mail_Entry_user (a0:MailEntry):Option (ByteArray) :=
 (p_pres_Split a0.Key).bind fun v1 =>
 some v1.1
def p_mail_Drop_1 (a0:MailEntry) (c0:ByteArray):Option (Bool) :=
 (p_mail_Entry_user a0).bind fun v1 =>
 some (v1.toList == c0.toList)
def p_mail_Drop (a0:List MailEntry) (a1:ByteArray):Option ((List MailEntry) × Int) :=
 (clone? a0).bind fun l1 =>
 (p_mail_Check a0).bind fun v2 =>
 bif (v2 != (0:Int)) then
  some (l1,(0:Int))
 else
 (delF? (fun x0=>p_mail_Drop_1 x0 a1) l1).bind fun v4 =>
 some (v4,w64 ((a0.length:Int) - (v4.length:Int)))
def p_outq_Forget (a0:Ref27State) (a1:ByteArray):Option (Ref27State) :=
 (p_outq_Check a0).bind fun v1 =>
 bif (v1 == (0:Int)) then
  (p_mail_Drop a0.Mail a1).bind fun v3 =>
  some (Ref27State.mk v3.1 a0.Snap a0.Sent a0.Lost)
 else
 some a0
def p_outq_Len (a0:Ref27State):Option (Int) :=
 bif a0.Snap.On then
  some (w64 ((a0.Mail.length:Int) + (1:Int)))
 else
 some (a0.Mail.length:Int)
def p_outq_Wants (a0:Ref27State):Option (Bool) :=
 (p_outq_Len a0).bind fun v1 =>
 some (decide ((0:Int) < v1))
def p_slices_Equal_mail_State_mail_Entry__l1 (z7:List MailEntry) (z8:List MailEntry) (z9:Int):Nat→Int→Option (Bool ⊕ Int)
 | 0,_=>none
 | n + 1,y10 =>
  bif (decide (y10 < z9)) then
   (at? z7 y10).bind fun x12 =>
   (at? z8 y10).bind fun x13 =>
   bif ((x12.Key.toList == x13.Key.toList) && ((x12.P.On == x13.P.On) && ((x12.P.Show == x13.P.Show) && ((x12.P.Prio == x13.P.Prio) && ((x12.P.Seq == x13.P.Seq) && true))))) then
    p_slices_Equal_mail_State_mail_Entry__l1 z7 z8 z9 n (w64 (y10 + (1:Int)))
   else
   some (.inl false)
  else
  some (.inr y10)
def p_slices_Equal_mail_State_mail_Entry_ (a0:List MailEntry) (a1:List MailEntry):Option (Bool) :=
 bif ((a0.length:Int) != (a1.length:Int)) then
  some false
 else
 (p_slices_Equal_mail_State_mail_Entry__l1 a0 a1 (a0.length:Int) fuel (0:Int)).bind fun o15=>match o15 with
 | .inl q16 =>
  some q16
 | .inr q17 =>
  some true
def p_mail_Same (a0:List MailEntry) (a1:List MailEntry):Option (Bool) :=
 (p_slices_Equal_mail_State_mail_Entry_ a0 a1).bind fun v1 =>
 some v1
def p_outq_Same (a0:Ref27State) (a1:Ref27State):Option (Bool) :=
 (p_mail_Same a0.Mail a1.Mail).bind fun v1 =>
 bif v1 then
  bif ((a0.Snap.On == a1.Snap.On) && ((a0.Snap.Begun == a1.Snap.Begun) && ((a0.Snap.After.toList == a1.Snap.After.toList) && ((a0.Snap.Told == a1.Snap.Told) && true)))) then
   bif (a0.Sent == a1.Sent) then
    some (a0.Lost == a1.Lost)
   else
   some false
  else
  some false
 else
 some false
end Go.Proofs.YthnihifblmnkdaaGreat

namespace Go.Proofs.YthnihifblmnkdaaGreat
open Go.RowKit
section
variable {β : Type} {r : β} {P : Program} {st : List Slot}
theorem appNq_c {α:Type} {f:α→V} {F G:List α} {id bytes es:Nat} {s x:V} {rd rd' : List Nat} {X:List α→Option β} {k:V→List Nat→List Nat→List Slot→Prop} (H:(app? F G).bind X=some r) (hes:∀ a,(f a).cells.length=es) (hs:SrcV st es s F.length (cellsM f F) rd) (hfu:s.full=true) (hx:SrcX st es x G.length (cellsM f G) rd')
  (hb:bytes≤1000) (hf:st[id]?=some .fresh) (hg:G≠[]) (h:∀ L,L≠[]→X L=some r→ssetK st id (.live (cellsM f L) 0) fun st'=>k (.osl id 0 L.length es false) (rd++rd') [id] st'):App st id es bytes s x k:=by
 obtain ⟨L,hL,H⟩:=bind_c H
 obtain ⟨rfl,hn⟩:=app_len hL
 have:=h _ (fun e=>hg (List.append_eq_nil_iff.1 e).2) H
 rw [ssetK_eq] at this
 refine App.Ns hs hfu hx (List.length_pos_iff.2 hg) hn hb hf ?_
 rwa [cellsM_app',List.length_append] at this
theorem appOq_c {α:Type} {f:α→V} {F G:List α} {i id bytes es fz:Nat} {x:V} {rd' : List Nat} {X:List α→Option β} {k:V→List Nat→List Nat→List Slot→Prop} (H:(app? F G).bind X=some r) (hes:∀ a,(f a).cells.length=es) (hi:st[i]?=some (.live (cellsM f F) fz)) (hz:fz=0) (hx:SrcX st es x G.length (cellsM f G) rd')
  (hb:bytes≤1000) (hf:st[id]?=some .fresh) (hg:G≠[]) (h:∀ L,L≠[]→X L=some r→ssetK st i .dead fun st1=>ssetK st1 id (.live (cellsM f L) 0) fun st'=>k (.osl id 0 L.length es false) (rd'++[i]) [i,id] st'):App st id es bytes (.osl i 0 F.length es false) x k:=by
 obtain ⟨L,hL,H⟩:=bind_c H
 obtain ⟨rfl,hn⟩:=app_len hL
 have:=h _ (fun e=>hg (List.append_eq_nil_iff.1 e).2) H
 rw [ssetK_eq,ssetK_eq] at this
 refine App.Os hi (cellsM_len hes F) hz hx (List.length_pos_iff.2 hg) hn hb hf ?_
 rwa [cellsM_app',List.length_append] at this
theorem owl_fix {i:Nat} {st0:List Slot} (h0:st0=[.fresh,.fresh]) (hi:i < 2) (h:st0[i]?≠some .fresh) {A:Prop}:A:=by
 subst h0
 exfalso;apply h
 rcases i with _ | _ | i
 ·rfl
 ·rfl
 ·omega
end
end Go.Proofs.YthnihifblmnkdaaGreat

namespace Go.Proofs.YthnihifblmnkdaaGreat
open Go.RowKit
def p_ref25_Light_l1 (z5:List MailEntry):Nat→Int→Option (Bool ⊕ Int)
 | 0,_=>none
 | n + 1,y6 =>
  bif (decide (y6 < (z5.length:Int))) then
   (at? z5 y6).bind fun x8 =>
   bif (decide ((100:Int) < (x8.Key.size:Int))) then
    some (.inl false)
   else
   p_ref25_Light_l1 z5 n (w64 (y6 + (1:Int)))
  else
  some (.inr y6)
def p_ref25_Light (a0:List MailEntry) (a1:Int):Option (Bool) :=
 bif (decide (a1 < (a0.length:Int))) then
  some false
 else
 (p_ref25_Light_l1 a0 fuel (0:Int)).bind fun o10=>match o10 with
 | .inl q11 =>
  some q11
 | .inr q12 =>
  some true
def p_law27_awake:Option (Bool) :=
 (p_book_Set (BookState.mk (0:Int) []) (⟨#[97,64,120]⟩ : ByteArray) (⟨#[]⟩ : ByteArray) (1:Int) (0:Int)).bind fun v1 =>
 (p_outq_Begin (Ref27State.mk [] (SnapState.mk false false (⟨#[]⟩ : ByteArray) (0:Int)) (0:Int) (0:Int))).bind fun v2 =>
 (p_outq_Add v2 (⟨#[97,64,120,32]⟩ : ByteArray) (PresPres.mk true (0:Int) (0:Int) (9:Int))).bind fun v3 =>
 (p_outq_Flush v3 (SnapEyes.mk [(⟨#[97,64,120]⟩ : ByteArray)] []) v1.1 (9:Int)).bind fun v4 =>
 (p_outq_Add v4.1 (⟨#[98,64,120,32]⟩ : ByteArray) (PresPres.mk false (0:Int) (0:Int) (4:Int))).bind fun v5 =>
 (p_outq_Next v5 (SnapEyes.mk [(⟨#[97,64,120]⟩ : ByteArray)] []) v1.1).bind fun v6 =>
 (p_outq_Forget v5 (⟨#[98,64,120]⟩ : ByteArray)).bind fun v7 =>
 (p_outq_Wants v3).bind fun v8 =>
 bif v8 then
  (p_outq_Len v3).bind fun v10 =>
  bif (v10 == (1:Int)) then
   bif ((v4.2.length:Int) == (3:Int)) then
    (at? v4.2 (0:Int)).bind fun x13 =>
    bif (x13.Kind == (36:Int)) then
     (at? v4.2 (1:Int)).bind fun x15 =>
     bif (x15.User.toList == (⟨#[97,64,120]⟩ : ByteArray).toList) then
      (at? v4.2 (2:Int)).bind fun x17 =>
      bif (x17.Kind == (37:Int)) then
       bif (v4.1.Sent == (3:Int)) then
        (p_outq_Wants v4.1).bind fun v20 =>
        bif v20 then
         some false
        else
        bif ((v6.2.1.Kind == (35:Int)) && ((v6.2.1.User.toList == (⟨#[98,64,120]⟩ : ByteArray).toList) && ((v6.2.1.Res.toList == (⟨#[]⟩ : ByteArray).toList) && ((v6.2.1.Name.toList == (⟨#[]⟩ : ByteArray).toList) && ((v6.2.1.Show == (0:Int)) && ((v6.2.1.Prio == (0:Int)) && ((v6.2.1.Code == (0:Int)) && ((v6.2.1.N == (4:Int)) && true)))))))) then
         bif v6.2.2 then
          bif (v6.1.Sent == (4:Int)) then
           (p_outq_Same v7 v4.1).bind fun v25 =>
           bif v25 then
            (p_outq_Same v5 v4.1).bind fun v27 =>
            bif v27 then
             some false
            else
            (p_outq_Check v6.1).bind fun v29 =>
            bif (v29 == (0:Int)) then
             (p_outq_Check (Ref27State.mk [] (SnapState.mk false false (⟨#[]⟩ : ByteArray) (0:Int)) (-1:Int) (0:Int))).bind fun v31 =>
             bif (v31 == (8:Int)) then
              some true
             else
             some false
            else
            some false
           else
           some false
          else
          some false
         else
         some false
        else
        some false
       else
       some false
      else
      some false
     else
     some false
    else
    some false
   else
   some false
  else
  some false
 else
 some false
def p_law25_Own_l1 (z5:List MailEntry):Nat→(List MailEntry)→Int→Option (((List MailEntry) × Int))
 | 0,_,_=>none
 | n + 1,y6,y7 =>
  bif (decide (y7 < (z5.length:Int))) then
   (at? z5 y7).bind fun x9 =>
   (at? z5 y7).bind fun x10 =>
   (app? y6 [(MailEntry.mk x9.Key x10.P)]).bind fun l11 =>
   p_law25_Own_l1 z5 n l11 (w64 (y7 + (1:Int)))
  else
  some (y6,y7)
def p_law25_Own (a0:List MailEntry):Option ((List MailEntry)) :=
 (p_law25_Own_l1 a0 fuel [] (0:Int)).bind fun q13 =>
 some q13.1
def p_law27_own (a0:Ref27State):Option (Ref27State) :=
 (p_law25_Own a0.Mail).bind fun v1 =>
 some (Ref27State.mk v1 a0.Snap a0.Sent a0.Lost)
def p_law25_Back_l1 (z5:List MailEntry):Nat→(List MailEntry)→Int→Option (((List MailEntry) × Int))
 | 0,_,_=>none
 | n + 1,y6,y7 =>
  bif (decide (y7 < (z5.length:Int))) then
   (at? z5 y7).bind fun x9 =>
   (at? z5 y7).bind fun x10 =>
   (app? y6 [(MailEntry.mk x9.Key x10.P)]).bind fun l11 =>
   p_law25_Back_l1 z5 n l11 (w64 (y7 + (1:Int)))
  else
  some (y6,y7)
def p_law25_Back (a0:List MailEntry):Option ((List MailEntry)) :=
 (p_law25_Back_l1 a0 fuel [] (0:Int)).bind fun q13 =>
 some q13.1
def p_law27_Back (a0:Ref27State):Option (Ref27State) :=
 (p_law25_Back a0.Mail).bind fun v1 =>
 some (Ref27State.mk v1 a0.Snap a0.Sent a0.Lost)
def p_ref23_Split_l1 (z6:ByteArray):Nat→Int→Option (Int)
 | 0,_=>none
 | n + 1,y7 =>
  bif (decide (y7 < (z6.size:Int))) then
   (byte? z6 y7).bind fun c9 =>
   bif (c9 != (32:Int)) then
    p_ref23_Split_l1 z6 n (w64 (y7 + (1:Int)))
   else
   some y7
  else
  some y7
def p_ref23_Split (a0:ByteArray):Option (ByteArray × ByteArray × Int) :=
 (p_ref23_Split_l1 a0 fuel (0:Int)).bind fun q12 =>
 bif (q12 == (a0.size:Int)) then
  some ((⟨#[]⟩ : ByteArray),(⟨#[]⟩ : ByteArray),(4:Int))
 else
 (sub? a0 none (some q12)).bind fun s14 =>
 (sub? a0 (some (w64 (q12 + (1:Int)))) none).bind fun s15 =>
 (p_ref09_IsBare s14).bind fun v16 =>
 bif v16 then
  (p_ref09_Resource s15).bind fun v18 =>
  bif (v18 != (0:Int)) then
   (p_ref09_Resource s15).bind fun v20 =>
   some ((⟨#[]⟩ : ByteArray),(⟨#[]⟩ : ByteArray),v20)
  else
  some (s14,s15,(0:Int))
 else
 some ((⟨#[]⟩ : ByteArray),(⟨#[]⟩ : ByteArray),(11:Int))
def p_ref25_key (a0:ByteArray):Option (Bool) :=
 (p_ref23_Split a0).bind fun v1 =>
 some (v1.2.2 == (0:Int))
def p_ref23_Check (a0:PresPres):Option (Int) :=
 bif (decide (a0.Show < (0:Int))) then
  some (8:Int)
 else
 bif (decide ((4:Int) < a0.Show)) then
  some (8:Int)
 else
 bif (decide (a0.Prio < (-128:Int))) then
  some (8:Int)
 else
 bif (decide ((127:Int) < a0.Prio)) then
  some (8:Int)
 else
 bif (decide (a0.Seq < (0:Int))) then
  some (8:Int)
 else
 bif (decide ((1099511627776:Int) < a0.Seq)) then
  some (8:Int)
 else
 bif a0.On then
  some (0:Int)
 else
 bif (a0.Show != (0:Int)) then
  some (4:Int)
 else
 bif (a0.Prio != (0:Int)) then
  some (4:Int)
 else
 some (0:Int)
def p_ref25_Find_l1 (z5:List MailEntry) (z6:ByteArray):Nat→Int→Option (Int ⊕ Int)
 | 0,_=>none
 | n + 1,y7 =>
  bif (decide (y7 < (z5.length:Int))) then
   (at? z5 y7).bind fun x9 =>
   bif (x9.Key.toList == z6.toList) then
    some (.inl y7)
   else
   p_ref25_Find_l1 z5 z6 n (w64 (y7 + (1:Int)))
  else
  some (.inr y7)
def p_ref25_Find (a0:List MailEntry) (a1:ByteArray):Option (Int) :=
 (p_ref25_Find_l1 a0 a1 fuel (0:Int)).bind fun o11=>match o11 with
 | .inl q12 =>
  some q12
 | .inr q13 =>
  some (-1:Int)
def p_ref25_Check_l1 (z5:List MailEntry):Nat→Int→Option (Int ⊕ Int)
 | 0,_=>none
 | n + 1,y6 =>
  bif (decide (y6 < (z5.length:Int))) then
   (at? z5 y6).bind fun x8 =>
   (p_ref25_key x8.Key).bind fun v9 =>
   bif v9 then
    p_ref25_Check_l1 z5 n (w64 (y6 + (1:Int)))
   else
   some (.inl (11:Int))
  else
  some (.inr y6)
def p_ref25_Check_l2 (z17:List MailEntry):Nat→Int→Option (Int ⊕ Int)
 | 0,_=>none
 | n + 1,y18 =>
  bif (decide (y18 < (z17.length:Int))) then
   (at? z17 y18).bind fun x20 =>
   (p_ref23_Check x20.P).bind fun v21 =>
   bif (v21 != (0:Int)) then
    (at? z17 y18).bind fun x23 =>
    (p_ref23_Check x23.P).bind fun v24 =>
    some (.inl v24)
   else
   p_ref25_Check_l2 z17 n (w64 (y18 + (1:Int)))
  else
  some (.inr y18)
def p_ref25_Check_l3 (z31:List MailEntry):Nat→Int→Option (Int ⊕ Int)
 | 0,_=>none
 | n + 1,y32 =>
  bif (decide (y32 < (z31.length:Int))) then
   bif (decide ((0:Int) < y32)) then
    (at? z31 (w64 (y32 - (1:Int)))).bind fun x35 =>
    bif x35.P.On then
     (at? z31 y32).bind fun x37 =>
     bif x37.P.On then
      (at? z31 y32).bind fun x39 =>
      (p_ref25_Find z31 x39.Key).bind fun v40 =>
      bif (v40 != y32) then
       some (.inl (10:Int))
      else
      p_ref25_Check_l3 z31 n (w64 (y32 + (1:Int)))
     else
     some (.inl (10:Int))
    else
    (at? z31 y32).bind fun x42 =>
    (p_ref25_Find z31 x42.Key).bind fun v43 =>
    bif (v43 != y32) then
     some (.inl (10:Int))
    else
    p_ref25_Check_l3 z31 n (w64 (y32 + (1:Int)))
   else
   (at? z31 y32).bind fun x45 =>
   (p_ref25_Find z31 x45.Key).bind fun v46 =>
   bif (v46 != y32) then
    some (.inl (10:Int))
   else
   p_ref25_Check_l3 z31 n (w64 (y32 + (1:Int)))
  else
  some (.inr y32)
def p_ref25_Check (a0:List MailEntry):Option (Int) :=
 bif (decide ((16:Int) < (a0.length:Int))) then
  some (5:Int)
 else
 (p_ref25_Check_l1 a0 fuel (0:Int)).bind fun o11=>match o11 with
 | .inl q12 =>
  some q12
 | .inr q13 =>
  (p_ref25_Check_l2 a0 fuel (0:Int)).bind fun o25=>match o25 with
  | .inl q26 =>
   some q26
  | .inr q27 =>
   (p_ref25_Check_l3 a0 fuel (0:Int)).bind fun o48=>match o48 with
   | .inl q49 =>
    some q49
   | .inr q50 =>
    some (0:Int)
def p_ref26_Check (a0:SnapState):Option (Int) :=
 bif a0.On then
  bif a0.Begun then
   bif (decide (a0.Told < (0:Int))) then
    some (8:Int)
   else
   bif (decide ((1099511627776:Int) < a0.Told)) then
    some (8:Int)
   else
   some (0:Int)
  else
  bif (a0.After.toList == (⟨#[]⟩ : ByteArray).toList) then
   bif (a0.Told != (0:Int)) then
    some (4:Int)
   else
   bif (decide (a0.Told < (0:Int))) then
    some (8:Int)
   else
   bif (decide ((1099511627776:Int) < a0.Told)) then
    some (8:Int)
   else
   some (0:Int)
  else
  some (4:Int)
 else
 bif ((a0.On == false) && ((a0.Begun == false) && ((a0.After.toList == (⟨#[]⟩ : ByteArray).toList) && ((a0.Told == (0:Int)) && true)))) then
  bif a0.Begun then
   bif (decide (a0.Told < (0:Int))) then
    some (8:Int)
   else
   bif (decide ((1099511627776:Int) < a0.Told)) then
    some (8:Int)
   else
   some (0:Int)
  else
  bif (a0.After.toList == (⟨#[]⟩ : ByteArray).toList) then
   bif (a0.Told != (0:Int)) then
    some (4:Int)
   else
   bif (decide (a0.Told < (0:Int))) then
    some (8:Int)
   else
   bif (decide ((1099511627776:Int) < a0.Told)) then
    some (8:Int)
   else
   some (0:Int)
  else
  some (4:Int)
 else
 some (4:Int)
def p_ref27_Check (a0:Ref27State):Option (Int) :=
 (p_ref25_Check a0.Mail).bind fun v1 =>
 bif (v1 != (0:Int)) then
  (p_ref25_Check a0.Mail).bind fun v3 =>
  some v3
 else
 (p_ref26_Check a0.Snap).bind fun v4 =>
 bif (v4 != (0:Int)) then
  (p_ref26_Check a0.Snap).bind fun v6 =>
  some v6
 else
 bif (decide (a0.Sent < (0:Int))) then
  some (8:Int)
 else
 bif (decide ((1099511627776:Int) < a0.Sent)) then
  some (8:Int)
 else
 bif (decide (a0.Lost < (0:Int))) then
  some (8:Int)
 else
 bif (decide ((1099511627776:Int) < a0.Lost)) then
  some (8:Int)
 else
 some (0:Int)
def p_ref26_Covers (a0:SnapState) (a1:ByteArray):Option (Bool) :=
 bif a0.On then
  bif a0.Begun then
   some (!(Op.bytesLess a1.toList a0.After.toList || a1.toList == a0.After.toList))
  else
  some true
 else
 some false
def p_ref23_Newer (a0:PresPres) (a1:PresPres):Option (Bool) :=
 some (decide (a1.Seq < a0.Seq))
def p_ref25_kind_l1 (z7:List MailEntry) (z8:Bool) (z9:ByteArray):Nat→(List MailEntry)→Int→Option (((List MailEntry) × Int))
 | 0,_,_=>none
 | n + 1,y10,y11 =>
  bif (decide (y11 < (z7.length:Int))) then
   (at? z7 y11).bind fun x13 =>
   bif (x13.P.On == z8) then
    (at? z7 y11).bind fun x15 =>
    bif (x15.Key.toList == z9.toList) then
     p_ref25_kind_l1 z7 z8 z9 n y10 (w64 (y11 + (1:Int)))
    else
    (at? z7 y11).bind fun x17 =>
    (app? y10 [x17]).bind fun l18 =>
    p_ref25_kind_l1 z7 z8 z9 n l18 (w64 (y11 + (1:Int)))
   else
   p_ref25_kind_l1 z7 z8 z9 n y10 (w64 (y11 + (1:Int)))
  else
  some (y10,y11)
def p_ref25_kind (a0:List MailEntry) (a1:Bool) (a2:ByteArray):Option ((List MailEntry)) :=
 (p_ref25_kind_l1 a0 a1 a2 fuel [] (0:Int)).bind fun q20 =>
 some q20.1
def p_ref25_Put (a0:List MailEntry) (a1:ByteArray) (a2:PresPres):Option ((List MailEntry) × Int) :=
 (p_ref25_Check a0).bind fun v1 =>
 bif (v1 != (0:Int)) then
  (p_ref25_Check a0).bind fun v3 =>
  some (a0,v3)
 else
 (p_ref25_key a1).bind fun v4 =>
 bif v4 then
  (p_ref23_Check a2).bind fun v6 =>
  bif (v6 != (0:Int)) then
   (p_ref23_Check a2).bind fun v8 =>
   some (a0,v8)
  else
  (p_ref25_Find a0 a1).bind fun v9 =>
  bif (decide ((0:Int)≤v9)) then
   (at? a0 v9).bind fun x11 =>
   (p_ref23_Newer a2 x11.P).bind fun v12 =>
   bif v12 then
    (at? a0 v9).bind fun x14 =>
    bif (x14.P.On == a2.On) then
     (app? ([]:List MailEntry) a0).bind fun l16 =>
     (at? l16 v9).bind fun x17 =>
     some ((List.set l16 (Int.toNat v9) (MailEntry.mk x17.Key a2)),(0:Int))
    else
    bif (decide (v9 < (0:Int))) then
     bif (decide ((16:Int)≤(a0.length:Int))) then
      some (a0,(7:Int))
     else
     (p_ref25_kind a0 false a1).bind fun l21 =>
     (p_ref25_kind a0 true a1).bind fun l22 =>
     bif a2.On then
      (app? l22 [(MailEntry.mk a1 a2)]).bind fun l24 =>
      (app? l21 l24).bind fun l25 =>
      some (l25,(0:Int))
     else
     (app? l21 [(MailEntry.mk a1 a2)]).bind fun l26 =>
     (app? l26 l22).bind fun l27 =>
     some (l27,(0:Int))
    else
    (p_ref25_kind a0 false a1).bind fun l28 =>
    (p_ref25_kind a0 true a1).bind fun l29 =>
    bif a2.On then
     (app? l29 [(MailEntry.mk a1 a2)]).bind fun l31 =>
     (app? l28 l31).bind fun l32 =>
     some (l32,(0:Int))
    else
    (app? l28 [(MailEntry.mk a1 a2)]).bind fun l33 =>
    (app? l33 l29).bind fun l34 =>
    some (l34,(0:Int))
   else
   some (a0,(0:Int))
  else
  bif (decide (v9 < (0:Int))) then
   bif (decide ((16:Int)≤(a0.length:Int))) then
    some (a0,(7:Int))
   else
   (p_ref25_kind a0 false a1).bind fun l37 =>
   (p_ref25_kind a0 true a1).bind fun l38 =>
   bif a2.On then
    (app? l38 [(MailEntry.mk a1 a2)]).bind fun l40 =>
    (app? l37 l40).bind fun l41 =>
    some (l41,(0:Int))
   else
   (app? l37 [(MailEntry.mk a1 a2)]).bind fun l42 =>
   (app? l42 l38).bind fun l43 =>
   some (l43,(0:Int))
  else
  (p_ref25_kind a0 false a1).bind fun l44 =>
  (p_ref25_kind a0 true a1).bind fun l45 =>
  bif a2.On then
   (app? l45 [(MailEntry.mk a1 a2)]).bind fun l47 =>
   (app? l44 l47).bind fun l48 =>
   some (l48,(0:Int))
  else
  (app? l44 [(MailEntry.mk a1 a2)]).bind fun l49 =>
  (app? l49 l45).bind fun l50 =>
  some (l50,(0:Int))
 else
 some (a0,(11:Int))
def p_ref27_Add (a0:Ref27State) (a1:ByteArray) (a2:PresPres):Option (Ref27State) :=
 (p_ref27_Check a0).bind fun v1 =>
 bif (v1 != (0:Int)) then
  some a0
 else
 (p_ref26_Covers a0.Snap a1).bind fun v3 =>
 bif v3 then
  some a0
 else
 (p_ref25_Put a0.Mail a1 a2).bind fun v5 =>
 bif (v5.2 == (7:Int)) then
  some (Ref27State.mk [] (SnapState.mk true false (⟨#[]⟩ : ByteArray) (0:Int)) a0.Sent (if w64 (a0.Lost + (1:Int)) < (1099511627776:Int) then w64 (a0.Lost + (1:Int)) else (1099511627776:Int)))
 else
 bif (v5.2 == (0:Int)) then
  some (Ref27State.mk v5.1 a0.Snap a0.Sent a0.Lost)
 else
 some a0
def p_ref25_Same_l1 (z6:List MailEntry) (z7:List MailEntry):Nat→Int→Option (Bool ⊕ Int)
 | 0,_=>none
 | n + 1,y8 =>
  bif (decide (y8 < (z6.length:Int))) then
   (at? z6 y8).bind fun x10 =>
   (at? z7 y8).bind fun x11 =>
   bif ((x10.Key.toList == x11.Key.toList) && ((x10.P.On == x11.P.On) && ((x10.P.Show == x11.P.Show) && ((x10.P.Prio == x11.P.Prio) && ((x10.P.Seq == x11.P.Seq) && true))))) then
    p_ref25_Same_l1 z6 z7 n (w64 (y8 + (1:Int)))
   else
   some (.inl false)
  else
  some (.inr y8)
def p_ref25_Same (a0:List MailEntry) (a1:List MailEntry):Option (Bool) :=
 bif ((a0.length:Int) != (a1.length:Int)) then
  some false
 else
 (p_ref25_Same_l1 a0 a1 fuel (0:Int)).bind fun o13=>match o13 with
 | .inl q14 =>
  some q14
 | .inr q15 =>
  some true
def p_ref27_Same (a0:Ref27State) (a1:Ref27State):Option (Bool) :=
 (p_ref25_Same a0.Mail a1.Mail).bind fun v1 =>
 bif v1 then
  bif ((a0.Snap.On == a1.Snap.On) && ((a0.Snap.Begun == a1.Snap.Begun) && ((a0.Snap.After.toList == a1.Snap.After.toList) && ((a0.Snap.Told == a1.Snap.Told) && true)))) then
   bif (a0.Sent == a1.Sent) then
    some (a0.Lost == a1.Lost)
   else
   some false
  else
  some false
 else
 some false
def p_ref27_Begin (a0:Ref27State):Option (Ref27State) :=
 (p_ref27_Check a0).bind fun v1 =>
 bif (v1 != (0:Int)) then
  some a0
 else
 some (Ref27State.mk [] (SnapState.mk true false (⟨#[]⟩ : ByteArray) (0:Int)) a0.Sent a0.Lost)
def p_ref25_Drop_l1 (z9:List MailEntry) (z10:ByteArray):Nat→(List MailEntry)→Int→Option (((List MailEntry) × Int))
 | 0,_,_=>none
 | n + 1,y11,y12 =>
  bif (decide (y12 < (z9.length:Int))) then
   (at? z9 y12).bind fun x14 =>
   (p_ref23_Split x14.Key).bind fun v15 =>
   bif (v15.1.toList == z10.toList) then
    p_ref25_Drop_l1 z9 z10 n y11 (w64 (y12 + (1:Int)))
   else
   (at? z9 y12).bind fun x17 =>
   (app? y11 [x17]).bind fun l18 =>
   p_ref25_Drop_l1 z9 z10 n l18 (w64 (y12 + (1:Int)))
  else
  some (y11,y12)
def p_ref25_Drop (a0:List MailEntry) (a1:ByteArray):Option ((List MailEntry) × Int) :=
 (p_ref25_Check a0).bind fun v1 =>
 bif (v1 != (0:Int)) then
  some (a0,(0:Int))
 else
 (p_ref25_Drop_l1 a0 a1 fuel [] (0:Int)).bind fun q20 =>
 some (q20.1,w64 ((a0.length:Int) - (q20.1.length:Int)))
def p_ref27_Forget (a0:Ref27State) (a1:ByteArray):Option (Ref27State) :=
 (p_ref27_Check a0).bind fun v1 =>
 bif (v1 == (0:Int)) then
  (p_ref25_Drop a0.Mail a1).bind fun v3 =>
  some (Ref27State.mk v3.1 a0.Snap a0.Sent a0.Lost)
 else
 some a0
def p_ref27_Wants (a0:Ref27State):Option (Bool) :=
 bif a0.Snap.On then
  some true
 else
 some (decide ((0:Int) < (a0.Mail.length:Int)))
def p_ref27_Len (a0:Ref27State):Option (Int) :=
 bif a0.Snap.On then
  some (w64 ((a0.Mail.length:Int) + (1:Int)))
 else
 some (a0.Mail.length:Int)
def p_law27_OutqChanges (a0:Ref27State) (a1:MailEntry) (a2:ByteArray):Option (Bool) :=
 ((
  (p_ref25_Light a0.Mail (20:Int)).bind fun v1 =>
  bif v1 then
   bif (decide ((100:Int) < (a0.Snap.After.size:Int))) then
    (p_law27_awake).bind fun v4 =>
    some (.inl v4)
   else
   bif (decide ((100:Int) < (a1.Key.size:Int))) then
    (p_law27_awake).bind fun v6 =>
    some (.inl v6)
   else
   bif (decide ((100:Int) < (a2.size:Int))) then
    (p_law27_awake).bind fun v8 =>
    some (.inl v8)
   else
   some (.inr ())
  else
  (p_law27_awake).bind fun v9 =>
  some (.inl v9)):Option (Bool ⊕ Unit)).bind fun o10=>match o10 with
 | .inl q11 =>
  some q11
 | .inr q12 =>
  (p_law27_own a0).bind fun v13 =>
  (p_outq_Add v13 a1.Key a1.P).bind fun v14 =>
  (p_law27_Back v14).bind fun v15 =>
  (p_ref27_Add a0 a1.Key a1.P).bind fun v16 =>
  (p_ref27_Same v15 v16).bind fun v17 =>
  bif v17 then
   (p_outq_Begin v13).bind fun v19 =>
   (p_law27_Back v19).bind fun v20 =>
   (p_ref27_Begin a0).bind fun v21 =>
   (p_ref27_Same v20 v21).bind fun v22 =>
   bif v22 then
    (p_outq_Forget v13 a2).bind fun v24 =>
    (p_law27_Back v24).bind fun v25 =>
    (p_ref27_Forget a0 a2).bind fun v26 =>
    (p_ref27_Same v25 v26).bind fun v27 =>
    bif v27 then
     (p_outq_Check v13).bind fun v29 =>
     (p_ref27_Check a0).bind fun v30 =>
     bif (v29 == v30) then
      (p_outq_Wants v13).bind fun v32 =>
      (p_ref27_Wants a0).bind fun v33 =>
      bif (v32 == v33) then
       (p_outq_Len v13).bind fun v35 =>
       (p_ref27_Len a0).bind fun v36 =>
       bif (v35 == v36) then
        (p_law27_Back v13).bind fun v38 =>
        (p_ref27_Same v38 a0).bind fun v39 =>
        bif v39 then
         (p_law27_awake).bind fun v41 =>
         some v41
        else
        some false
       else
       some false
      else
      some false
     else
     some false
    else
    some false
   else
   some false
  else
  some false
end Go.Proofs.YthnihifblmnkdaaGreat

namespace Go.Proofs.YthnihifblmnkdaaGreat
open Go.RowKit
def presCheckL (p:PresPres):Int :=
 if p.Show < 0∨4 < p.Show∨p.Prio < -128∨127 < p.Prio∨p.Seq < 0∨1099511627776 < p.Seq then 8
 else if p.On=false∧(p.Show≠0∨p.Prio≠0) then 4 else 0
def namedL (u r:ByteArray):Bool:=decide (resL r.data.toList=0) && isBareL u.data.toList
def keyL (u r:ByteArray):ByteArray:=if namedL u r=true then u++⟨#[32]⟩++r else ⟨#[]⟩
theorem cat_sz (u r:ByteArray) (hu:u.size≤100000) (hr:r.size≤100000):u.size + (⟨#[32]⟩ : ByteArray).size≤4611686018427387904∧(u++(⟨#[32]⟩ : ByteArray)).size + r.size≤4611686018427387904:=by
 rw [ByteArray.size_append]
 have:(⟨#[32]⟩ : ByteArray).size=1:=rfl
 omega
instance:Inhabited BookRow:=⟨⟨⟨#[]⟩,⟨#[]⟩,⟨false,0,0,0⟩⟩⟩
instance:Inhabited PresPres:=⟨⟨false,0,0,0⟩⟩
def keyR (r:BookRow):ByteArray:=keyL r.User r.Res
def smallR (r:BookRow):Prop:=r.User.size≤100000∧r.Res.size≤100000
def manyL (rows:List BookRow) (u:ByteArray):Nat:=rows.countP fun r=>r.User.toList == u.toList
def errL:List BookRow→Int
 | []=>0
 | r :: l=>if presCheckL r.P≠0 then presCheckL r.P else if r.P.On=false then 4 else errL l
theorem err_at (rows:List BookRow) (k:Nat) (h:k < rows.length):errL (rows.drop k)=if presCheckL rows[k].P≠0 then presCheckL rows[k].P else if rows[k].P.On=false then 4 else errL (rows.drop (k + 1)):=by
 rw [List.drop_eq_getElem_cons h];rfl
def idxL (p:BookRow→Bool) (rows:List BookRow):Int:=if rows.any p=true then (rows.findIdx p:Nat) else -1
def lessR (a b:BookRow):Bool:=Op.bytesLess (keyR a).toList (keyR b).toList
def okAt (seq:Int) (rows:List BookRow) (i:Nat):Bool :=
 match rows[i]? with
 | none=>true
 | some x=>decide (1≤x.P.Seq) && decide (x.P.Seq≤seq) && (match i with | 0=>true | j + 1=>match rows[j]? with | some y=>lessR y x | none=>true) && !(rows.take i).any (fun o=>o.P.Seq == x.P.Seq)
def ordL (seq:Int) (rows:List BookRow):Bool:=(List.range rows.length).all (okAt seq rows)
theorem okAt_0 {seq:Int} {rows:List BookRow} (h:0 < rows.length):okAt seq rows 0=(decide ((1:Int)≤rows[0].P.Seq) && decide (rows[0].P.Seq≤seq) && true && !(rows.take 0).any (fun o=>o.P.Seq == rows[0].P.Seq)):=by
 simp only [okAt,List.getElem?_eq_getElem h]
theorem okAt_s {seq:Int} {rows:List BookRow} (j:Nat) (h:j + 1 < rows.length):okAt seq rows (j + 1)=(decide (1≤rows[j + 1].P.Seq) && decide (rows[j + 1].P.Seq≤seq) && lessR rows[j] rows[j + 1] && !(rows.take (j + 1)).any (fun o=>o.P.Seq == rows[j + 1].P.Seq)):=by
 simp only [okAt,List.getElem?_eq_getElem h,List.getElem?_eq_getElem (show j < rows.length by omega)]
theorem ord_yes {seq:Int} {rows:List BookRow} (h:∀ i,i < rows.length→okAt seq rows i=true):ordL seq rows=true:=by
 unfold ordL
 rw [List.all_eq_true]
 exact fun i hi=>h i (List.mem_range.1 hi)
def fullL (rows:List BookRow):Bool:=rows.any fun r=>decide (3 < manyL rows r.User)
def emptyL (rows:List BookRow):Bool:=rows.any fun r=>(keyR r).toList == (⟨#[]⟩ : ByteArray).toList
def bookCheck (seq:Int) (rows:List BookRow):Int :=
 if 16 < rows.length then 5 else if seq < 0∨1099511627776 < seq then 8 else if emptyL rows=true then 11 else if errL rows≠0 then errL rows else if ordL seq rows=false then 10 else if fullL rows=true then 7 else 0
def smallB (rows:List BookRow):Prop:=∀ r ∈ rows,smallR r
def cmpR (r:BookRow) (k:ByteArray):Int:=Lib.compareBytes (keyR r).data.toList k.data.toList
structure StandsAt (rows:List BookRow) (k:ByteArray) (pos:Nat):Prop where
 le:pos≤rows.length
 lt:∀ i (h:i < rows.length),i < pos→cmpR rows[i] k < 0
 ge:∀ i (h:i < rows.length),pos≤i→0≤cmpR rows[i] k
def foundB (rows:List BookRow) (k:ByteArray) (pos:Nat):Bool:=match rows[pos]? with
 | some r=>cmpR r k == 0
 | none=>false
end Go.Proofs.YthnihifblmnkdaaGreat

namespace Go.Proofs.YthnihifblmnkdaaGreat
open Go.RowKit
def sortedR (rows:List BookRow):Prop:=∀ i j (hj:j < rows.length) (hi:i < j),cmpR rows[i] (keyR rows[j]) < 0
theorem sorted_next {rows:List BookRow} (h:∀ i (hj:i + 1 < rows.length),lessR rows[i] rows[i + 1]=true):sortedR rows:=by
 intro i j hj hi
 induction j with
 | zero=>omega
 | succ j ih =>
  have h1:=h j hj
  unfold lessR at h1
  rw [cmp_less,decide_eq_true_eq,ByteArray.toList_eq,ByteArray.toList_eq] at h1
  rcases Nat.lt_or_ge i j with h2 | h2
  ·exact cmp_trans (ih (by omega) h2) h1
  ·have:i=j:=by omega
   subst this;exact h1
theorem okAt_all {seq:Int} {rows:List BookRow} (h:ordL seq rows=true) (i:Nat) (hi:i < rows.length):okAt seq rows i=true:=by
 unfold ordL at h
 rw [List.all_eq_true] at h
 exact h i (List.mem_range.2 hi)
theorem ord_sorted {seq:Int} {rows:List BookRow} (h:ordL seq rows=true):sortedR rows:=by
 refine sorted_next fun i hj=>?_
 have:=okAt_all h (i + 1) hj
 rw [okAt_s i hj] at this
 simp only [Bool.and_eq_true] at this
 exact this.1.2
theorem check_ord {seq:Int} {rows:List BookRow} (h:bookCheck seq rows=0):ordL seq rows=true:=by
 unfold bookCheck at h
 by_cases h0:ordL seq rows=true
 ·exact h0
 ·exfalso
  have h1:ordL seq rows=false:=by simpa using h0
  repeat' split at h
  all_goals first | omega | contradiction
theorem check_len {seq:Int} {rows:List BookRow} (h:bookCheck seq rows=0):rows.length≤16:=by
 unfold bookCheck at h
 by_cases h0:16 < rows.length
 ·rw [if_pos h0] at h;omega
 ·omega
theorem check_seq {seq:Int} {rows:List BookRow} (h:bookCheck seq rows=0):0≤seq∧seq≤1099511627776:=by
 unfold bookCheck at h
 by_cases h0:seq < 0∨1099511627776 < seq
 ·rw [if_pos h0] at h;split at h <;> omega
 ·omega
def posL (rows:List BookRow) (k:ByteArray):Nat:=rows.findIdx fun r=>decide (0≤cmpR r k)
theorem stands {rows:List BookRow} (hs:sortedR rows) (k:ByteArray):StandsAt rows k (posL rows k):=by
 refine ⟨List.findIdx_le_length,fun i h hi=>?_,fun i h hi=>?_⟩
 ·have:=List.not_of_lt_findIdx hi
  simpa using this
 ·have hx:=List.findIdx_getElem (p:=fun r=>decide (0≤cmpR r k)) (xs:=rows) (w:=Nat.lt_of_le_of_lt hi h)
  rw [decide_eq_true_eq] at hx
  rcases Nat.lt_or_ge (posL rows k) i with h2 | h2
  ·have h3:=hs (posL rows k) i h h2
   have h4:=cmp_anti k.data.toList (keyR rows[posL rows k]).data.toList
   have hx' : 0≤Lib.compareBytes (keyR rows[posL rows k]).data.toList k.data.toList:=hx
   rcases Int.lt_or_le (Lib.compareBytes (keyR rows[i]).data.toList k.data.toList) 0 with h5 | h5
   ·have:=cmp_trans h3 h5;omega
   ·exact h5
  ·have e:i=posL rows k:=by unfold posL at *;omega
   subst e;exact hx
def setL (seq:Int) (rows:List BookRow) (u r:ByteArray) (sh prio:Int):Int × List BookRow × PresPres × Int :=
 let x:BookRow:=⟨u,r,⟨true,sh,prio,0⟩⟩
 let k:=keyR x
 if bookCheck seq rows≠0 then (seq,rows,⟨false,0,0,0⟩,bookCheck seq rows)
 else if (k.toList == (⟨#[]⟩ : ByteArray).toList)=true then (seq,rows,⟨false,0,0,0⟩,11)
 else if presCheckL x.P≠0 then (seq,rows,⟨false,0,0,0⟩,presCheckL x.P)
 else if foundB rows k (posL rows k)=false∧(16≤rows.length∨3≤manyL rows u) then (seq,rows,⟨false,0,0,0⟩,7)
 else if 1099511627776≤seq then (seq,rows,⟨false,0,0,0⟩,9)
 else (seq + 1,rows.take (posL rows k)++⟨u,r,⟨true,sh,prio,seq + 1⟩⟩ :: rows.drop (if foundB rows k (posL rows k)=true then posL rows k + 1 else posL rows k),⟨true,sh,prio,seq + 1⟩,0)
def offL (seq:Int) (rows:List BookRow) (u r:ByteArray):Int × List BookRow × PresPres × Int :=
 let k:=keyL u r
 if bookCheck seq rows≠0 then (seq,rows,⟨false,0,0,0⟩,bookCheck seq rows)
 else if foundB rows k (posL rows k)=false∨(k.toList == (⟨#[]⟩ : ByteArray).toList)=true then (seq,rows,⟨false,0,0,0⟩,6)
 else if 1099511627776≤seq then (seq,rows,⟨false,0,0,0⟩,9)
 else (seq + 1,rows.take (posL rows k)++rows.drop (posL rows k + 1),⟨false,0,0,seq + 1⟩,0)
def rowAt (rows:List BookRow) (i:Nat):BookRow × Bool:=match rows[i]? with
 | some x=>(x,true)
 | none=>(⟨⟨#[]⟩,⟨#[]⟩,⟨false,0,0,0⟩⟩,false)
theorem rowAt_lt {rows:List BookRow} {i:Nat} (h:i < rows.length):rowAt rows i=(rows[i],true):=by unfold rowAt;rw [List.getElem?_eq_getElem h]
theorem rowAt_ge {rows:List BookRow} {i:Nat} (h:rows.length≤i):rowAt rows i=(⟨⟨#[]⟩,⟨#[]⟩,⟨false,0,0,0⟩⟩,false):=by unfold rowAt;rw [List.getElem?_eq_none h]
def nxtL (seq:Int) (rows:List BookRow) (k:ByteArray):BookRow × Bool :=
 if bookCheck seq rows≠0 then (⟨⟨#[]⟩,⟨#[]⟩,⟨false,0,0,0⟩⟩,false)
 else rowAt rows (if foundB rows k (posL rows k)=true then posL rows k + 1 else posL rows k)
theorem found_lt {rows:List BookRow} {k:ByteArray} {pos:Nat} (h:foundB rows k pos=true):pos < rows.length:=by
 unfold foundB at h
 rcases Nat.lt_or_ge pos rows.length with h2 | h2
 ·exact h2
 ·rw [List.getElem?_eq_none h2] at h;simp at h
end Go.Proofs.YthnihifblmnkdaaGreat

namespace Go.Proofs.YthnihifblmnkdaaGreat
open Go.RowKit
structure Good (seq:Int) (rows:List BookRow):Prop where
 len:rows.length≤16
 seq0:0≤seq
 seqM:seq≤1099511627776
 key:∀ r ∈ rows,((keyR r).toList == (⟨#[]⟩ : ByteArray).toList)=false
 pres:∀ r ∈ rows,presCheckL r.P=0∧r.P.On=true
 rng:∀ r ∈ rows,1≤r.P.Seq∧r.P.Seq≤seq
 ord:rows.Pairwise fun a b=>cmpR a (keyR b) < 0
 diff:rows.Pairwise fun a b=>a.P.Seq≠b.P.Seq
 many:∀ r ∈ rows,manyL rows r.User≤3
theorem err_0:∀ {rows:List BookRow},(∀ r ∈ rows,presCheckL r.P=0∧r.P.On=true)→errL rows=0
 | [],_=>rfl
 | r :: l,h=>by
  have h1:=h r (by simp)
  unfold errL
  rw [if_neg (by simpa using h1.1),if_neg (by rw [h1.2];simp)]
  exact err_0 fun x hx=>h x (by simp [hx])
theorem good_check {seq:Int} {rows:List BookRow} (h:Good seq rows):bookCheck seq rows=0:=by
 have e1:emptyL rows=false:=by
  unfold emptyL;rw [List.any_eq_false]
  intro r hr;rw [h.key r hr];simp
 have e2:=err_0 h.pres
 have e3:ordL seq rows=true:=ord_yes fun i hi=>by
  have hm:=h.rng _ (List.getElem_mem hi)
  have hd:((rows.take i).any fun o=>o.P.Seq == rows[i].P.Seq)=false:=by
   rw [List.any_eq_false]
   intro o ho
   obtain ⟨j,hj,rfl⟩:=List.mem_take_iff_getElem.1 ho
   have:=List.pairwise_iff_getElem.1 h.diff j i (by omega) hi (by omega)
   simpa using this
  cases i with
  | zero=>rw [okAt_0 hi,hd];simp;omega
  | succ j =>
   have hl:=List.pairwise_iff_getElem.1 h.ord j (j + 1) (by omega) hi (by omega)
   have:lessR rows[j] rows[j + 1]=true:=by
    unfold lessR
    rw [ByteArray.toList_eq,ByteArray.toList_eq,cmp_less,decide_eq_true_eq];exact hl
   rw [okAt_s j hi,hd,this];simp;omega
 have e4:fullL rows=false:=by
  unfold fullL;rw [List.any_eq_false]
  intro r hr;have:=h.many r hr;simp;omega
 have h1:=h.len
 have h2:=h.seq0
 have h3:=h.seqM
 unfold bookCheck
 rw [if_neg (by omega),if_neg (by omega),e1,if_neg (by simp),e2,if_neg (by simp),e3,if_neg (by simp),e4,if_neg (by simp)]
theorem pos_of {rows:List BookRow} {k:ByteArray} {p:Nat} (h:StandsAt rows k p):posL rows k=p:=by
 rcases Nat.lt_trichotomy (posL rows k) p with h1 | h1 | h1
 ·have hl:posL rows k < rows.length:=Nat.lt_of_lt_of_le h1 h.le
  have hx:=List.findIdx_getElem (p:=fun r=>decide (0≤cmpR r k)) (xs:=rows) (w:=hl)
  rw [decide_eq_true_eq] at hx
  have h2:=h.lt (posL rows k) hl h1
  have hx' : 0≤cmpR rows[posL rows k] k:=hx
  omega
 ·exact h1
 ·have hl:p < rows.length:=Nat.lt_of_lt_of_le h1 List.findIdx_le_length
  have h2:=List.not_of_lt_findIdx h1
  have h3:=h.ge p hl (Nat.le_refl _)
  simp at h2;omega
structure Cut3 (K:ByteArray) (A M B:List BookRow):Prop where
 a:∀ x ∈ A,cmpR x K < 0
 m:∀ x ∈ M,cmpR x K=0
 b:∀ x ∈ B,0 < cmpR x K
theorem cut_stands {K:ByteArray} {A M B:List BookRow} (h:Cut3 K A M B):StandsAt (A++(M++B)) K A.length:=by
 refine ⟨by simp,fun i hi h1=>?_,fun i hi h1=>?_⟩
 ·rw [List.getElem_append_left h1];exact h.a _ (List.getElem_mem h1)
 ·rw [List.getElem_append_right h1]
  have:=List.getElem_mem (l:=M++B) (n:=i - A.length) (by simp at hi ⊢;omega)
  rcases List.mem_append.1 this with g | g
  ·rw [h.m _ g];exact Int.le_refl _
  ·exact Int.le_of_lt (h.b _ g)
theorem cut_pos {K:ByteArray} {A M B:List BookRow} (h:Cut3 K A M B):posL (A++(M++B)) K=A.length:=pos_of (cut_stands h)
theorem cut_yes {K:ByteArray} {A B:List BookRow} {x:BookRow} (h:Cut3 K A [x] B):foundB (A++([x]++B)) K A.length=true:=by
 unfold foundB
 have:(A++([x]++B))[A.length]?=some x:=by rw [List.getElem?_append_right (Nat.le_refl _),Nat.sub_self];rfl
 rw [this]
 simp [h.m x (by simp)]
theorem cut_no {K:ByteArray} {A B:List BookRow} (h:Cut3 K A [] B):foundB (A++([]++B)) K A.length=false:=by
 unfold foundB
 have:(A++([]++B))[A.length]?=B[0]?:=by rw [List.getElem?_append_right (Nat.le_refl _),Nat.sub_self,List.nil_append]
 rw [this]
 cases B with
 | nil=>rfl
 | cons b B =>
  have:=h.b b (by simp)
  simp;omega
theorem set_cut {seq:Int} {A B:List BookRow} {M:List BookRow} {u r:ByteArray} {sh prio:Int} (hg:bookCheck seq (A++(M++B))=0) (hM:M.length≤1) (hc:Cut3 (keyL u r) A M B) (hk:((keyL u r).toList == (⟨#[]⟩ : ByteArray).toList)=false) (hp:presCheckL ⟨true,sh,prio,0⟩=0) (hs:seq < 1099511627776) :
  setL seq (A++(M++B)) u r sh prio=if M=[]∧(16≤(A++(M++B)).length∨3≤manyL (A++(M++B)) u) then (seq,A++(M++B),⟨false,0,0,0⟩,7) else (seq + 1,A++([⟨u,r,⟨true,sh,prio,seq + 1⟩⟩]++B),⟨true,sh,prio,seq + 1⟩,0):=by
 unfold setL
 have hkr:keyR ⟨u,r,⟨true,sh,prio,0⟩⟩=keyL u r:=rfl
 simp only [hkr]
 rw [if_neg (by simpa using hg),if_neg (by rw [hk];simp),if_neg (by simpa using hp),cut_pos hc]
 rcases M with _ | ⟨x,M⟩
 ·rw [cut_no hc]
  by_cases h:16≤(A++([]++B)).length∨3≤manyL (A++([]++B)) u
  ·rw [if_pos ⟨rfl,h⟩,if_pos ⟨rfl,h⟩]
  ·have h1:¬ (false=false∧(16≤(A++([]++B)).length∨3≤manyL (A++([]++B)) u)):=fun g=>h g.2
   have h2:¬ (([]:List BookRow)=[]∧(16≤(A++([]++B)).length∨3≤manyL (A++([]++B)) u)):=fun g=>h g.2
   rw [if_neg h1,if_neg h2,if_neg (show ¬ 1099511627776≤seq by omega),if_neg (show ¬ false=true by simp)]
   rw [List.take_left,List.drop_left];rfl
 ·have:M=[]:=by cases M with | nil=>rfl | cons _ _=>simp at hM
  subst this
  have h1:¬ (true=false∧(16≤(A++([x]++B)).length∨3≤manyL (A++([x]++B)) u)):=by rintro ⟨g,_⟩;cases g
  have h2:¬ ([x]=[]∧(16≤(A++([x]++B)).length∨3≤manyL (A++([x]++B)) u)):=by rintro ⟨g,_⟩;cases g
  rw [cut_yes hc,if_neg h1,if_neg h2,if_neg (show ¬ 1099511627776≤seq by omega),if_pos (show true=true from rfl)]
  rw [List.take_left,← List.drop_drop,List.drop_left];rfl
theorem off_cut {seq:Int} {A B:List BookRow} {M:List BookRow} {u r:ByteArray} (hg:bookCheck seq (A++(M++B))=0) (hM:M.length≤1) (hc:Cut3 (keyL u r) A M B) (hk:((keyL u r).toList == (⟨#[]⟩ : ByteArray).toList)=false) (hs:seq < 1099511627776) :
  offL seq (A++(M++B)) u r=if M=[] then (seq,A++(M++B),⟨false,0,0,0⟩,6) else (seq + 1,A++([]++B),⟨false,0,0,seq + 1⟩,0):=by
 unfold offL
 simp only
 rw [if_neg (by simpa using hg),cut_pos hc]
 rcases M with _ | ⟨x,M⟩
 ·rw [cut_no hc,if_pos (.inl rfl),if_pos rfl]
 ·have:M=[]:=by cases M with | nil=>rfl | cons _ _=>simp at hM
  subst this
  have h1:¬ (true=false∨((keyL u r).toList == (⟨#[]⟩ : ByteArray).toList)=true):=by
   rw [hk];rintro (g | g) <;> cases g
  rw [cut_yes hc,if_neg h1,if_neg (show ¬ 1099511627776≤seq by omega),if_neg (show ¬ [x]=[] by simp)]
  rw [List.take_left,← List.drop_drop,List.drop_left];rfl
end Go.Proofs.YthnihifblmnkdaaGreat

