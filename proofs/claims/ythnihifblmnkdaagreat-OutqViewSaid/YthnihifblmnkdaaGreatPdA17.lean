/- A part of the proof: 16 texts joined. -/
import Derived.Test.YthnihifblmnkdaaGreatPdA16
import Derived.Test.YthnihifblmnkdaaGreatPdA11
import Derived.KernelRfl
import Derived.Test.YthnihifblmnkdaaGreatPdA14
import Derived.Test.YthnihifblmnkdaaGreatPdA13
import Derived.Test.YthnihifblmnkdaaGreatPdA15
import Derived.Test.YthnihifblmnkdaaGreatPdA12
set_option linter.all false
namespace Go.Proofs.YthnihifblmnkdaaGreat
open Go.RowKit
set_option maxRecDepth 100000
set_option maxHeartbeats 4000000
def gc97:BCode:=(.seq (R_ 0 [O_ 4 (.mv (i_ 0)) 0]) (.seq (.seq (R_ 0 [O_ 6 (.mv (t_ 0)) 0,O_ 7 (.lens (t_ 6)) 0,O_ 8 (.mv (i_ 0)) 0]) (.block 0 (.loop (.seq (R_ 0 [O_ 9 (.bin .lss (t_ 8) (t_ 7)) 0]) (.seq (.cond (t_ 9) .skip (.exit 0)) (.seq (.block 1 (.seq (R_ 0 [O_ 10 (.mv (t_ 8)) 0,O_ 5 (.mv (t_ 10)) 0]) (.seq (R_ 0 [O_ 11 (.mv (t_ 1)) 0,O_ 12 (.mv (t_ 0)) 0,O_ 13 (.mv (t_ 5)) 0,O_ 14 (.ixs 5 (t_ 12) (t_ 13)) 0,O_ 15 (.ld 5 true (t_ 14)) 0,O_ 16 (.cv (t_ 11) [(t_ 15)]) 0]) (.cond (t_ 16) (.seq (R_ 0 [O_ 17 (.mv (t_ 5)) 0,O_ 4 (.mv (t_ 17)) 0]) .ret) .skip)))) (R_ 0 [O_ 18 (.bin .add (t_ 8) (i_ 1)) 0,O_ 8 (.mv (t_ 18)) 0]))))))) (.seq (R_ 0 [O_ 4 (.mv (.const (.int .i64 (-1)))) 0]) .ret)))
theorem gc97_ok:compF Tryz.prog Tryz.f97=some (gc97.er,19,[.tmp 4]):=by unfold gc97;kernel_rfl
theorem p_slices_IndexFunc_mail_State_mail_Entry__v {u1:Bool} (a0:List MailEntry) (a1:MailEntry→Option Bool) {a1_g:Nat} {a1_k:List V} (a1_h:Clo1 Tryz.prog a1_g a1_k MailEntry.v V.b a1):CallsO Tryz.prog 97 [.sl (List.map MailEntry.v a0) u1,.clo (.func a1_g) a1_k] V.i (p_slices_IndexFunc_mail_State_mail_Entry_ a0 a1):=by
 refine callsO_comp mix Tryz.func97 gc97_ok fun r H=>?_
 rw [p_slices_IndexFunc_mail_State_mail_Entry_] at H
 conv=>whnf
 refine LenQ.M ?_;conv=>whnf
 obtain ⟨o2,HL3,HQ4⟩:=bind_c H
 refine loop_c [4,8] [5,9,10,11,12,13,14,15,16,17,18] [5,9,10,11,12,13,14,15,16,17,18] (fun n vals st=>(∃ y6,p_slices_IndexFunc_mail_State_mail_Entry__l1  a1 a0 (a0.length:Int) n y6=some o2∧vals=[.i (0:Int),.i y6]∧st=[])) fuel 0 [] (⟨_,HL3,rfl,rfl⟩) (Nat.zero_le _) rfl (by simp only [maskF,setF,List.set_cons_zero,List.set_cons_succ,V.ren.renL,V.ren,renL_id _ a1_h.own] <;> rfl) (by simp only [maskF,setF,List.set_cons_zero,List.set_cons_succ,V.idlt.belowL,V.idlt,fun n=>idltL_up (n:=n) _ a1_h.own] <;> rfl) rfl trivial ?_
 rintro (_ | n5) _ _ (⟨y6,H,rfl,rfl⟩)
 ·rw [p_slices_IndexFunc_mail_State_mail_Entry__l1] at H;cases H
 rw [p_slices_IndexFunc_mail_State_mail_Entry__l1] at H
 conv=>whnf
 refine tst_d H (fun b7 H=>?_) (fun b7 H=>?_)
 ·conv=>whnf
  obtain rfl:=Option.some.inj H
  have H:=HQ4
  try dsimp only at H
  exact fi_ H
 conv=>whnf
 refine ixs_c (f:=MailEntry.v) H (fun _=>rfl) (fun x8 H=>?_);conv=>whnf
 refine askC_c a1_h H (.cons (fzagg (.cons (.id rfl) (.cons (.id rfl) (.cons (.id rfl) (.cons (.id rfl) (.cons (.id rfl) (.nil)))))) rfl) (.nil)) (fun v9 H=>?_);conv=>whnf
 refine tst_c H (fun b10 H=>?_) (fun b10 H=>?_)
 ·conv=>whnf
  obtain rfl:=Option.some.inj H
  have H:=HQ4
  try dsimp only at H
  exact fi_ H
 conv=>whnf
 refine Ari.w ?_;conv=>whnf
 exact again_c [5,9,10,11,12,13,14,15,16,17,18] n5 0 [] (⟨_,H,rfl,rfl⟩) (Nat.lt_succ_self _) (Nat.zero_le _) rfl (by simp only [maskF,setF,List.set_cons_zero,List.set_cons_succ,V.ren.renL,V.ren,renL_id _ a1_h.own] <;> rfl) (by simp only [maskF,setF,List.set_cons_zero,List.set_cons_succ,V.idlt.belowL,V.idlt,fun n=>idltL_up (n:=n) _ a1_h.own] <;> rfl) rfl trivial
end Go.Proofs.YthnihifblmnkdaaGreat

namespace Go.Proofs.YthnihifblmnkdaaGreat
open Go.RowKit
theorem at_nat {α:Type} (l:List α) (k:Nat):at? l (k:Int)=l[k]?:=by
 unfold at?;rw [if_pos (Int.natCast_nonneg k)];rfl
theorem at_lt {α:Type} {l:List α} {k:Nat} (h:k < l.length):at? l (k:Int)=some l[k]:=by rw [at_nat,List.getElem?_eq_getElem h]
theorem w64_id {r:Int} (h:-9223372036854775808≤r∧r≤9223372036854775807):w64 r=r:=wrap_ok h
theorem w64_succ {k:Nat} (h:k≤1000000):w64 ((k:Int) + 1)=((k + 1:Nat):Int):=by rw [w64_id (by omega)];rfl
theorem lt_tt {a b:Nat} (h:a < b):decide ((a:Int) < (b:Int))=true:=by simpa using h
theorem lt_ff {a b:Nat} (h:b≤a):decide ((a:Int) < (b:Int))=false:=by simpa using h
theorem drop_at {α:Type} {l:List α} {k:Nat} (h:k < l.length):l.drop k=l[k] :: l.drop (k + 1):=List.drop_eq_getElem_cons h
theorem fuel_pos:(1000000:Nat) < fuel:=by decide
theorem cutTo {α:Type} {l:List α} {k:Nat} (h:k≤l.length):cut? l none (some (k:Int))=some (l.take k):=by
 unfold cut?
 simp only [Option.getD_none,Option.getD_some]
 rw [if_pos (by omega)]
 simp
theorem cutFrom {α:Type} {l:List α} {k:Nat} (h:k≤l.length):cut? l (some (k:Int)) none=some (l.drop k):=by
 unfold cut?
 simp only [Option.getD_none,Option.getD_some]
 rw [if_pos (by omega)]
 rw [List.take_of_length_le (by simp)];rfl
theorem u64_id {r:Int} (hr:0≤r∧r≤9223372036854775807):IntKind.u64.wrap r=r:=by
 simp only [IntKind.wrap,IntKind.signed,IntKind.bits]
 first | omega | (simp;omega)
theorem fdivN (m p:Nat):(m:Int).fdiv (2 ^ p)=((m / 2 ^ p:Nat):Int):=by
 rw [show ((2:Int) ^ p)=((2 ^ p:Nat):Int) by simp,Int.fdiv_eq_ediv_of_nonneg _ (Int.natCast_nonneg _)];rfl
theorem half_p {i j:Nat} (h:i + j≤100000):w64 (shrI .u64 (IntKind.wrap .u64 (w64 ((i:Int) + (j:Int)))) (1:Int))=(((i + j) / 2:Nat):Int):=by
 have e1:w64 ((i:Int) + (j:Int))=((i + j:Nat):Int):=by rw [w64_id (by omega)];omega
 have e2:IntKind.wrap .u64 ((i + j:Nat):Int)=((i + j:Nat):Int):=u64_id (by omega)
 have e:(min (1:Int).toNat IntKind.u64.bits)=1:=rfl
 have e3:shrI .u64 ((i + j:Nat):Int) 1=(((i + j) / 2:Nat):Int):=by
  unfold shrI
  rw [e,fdivN]
 rw [e1,e2,e3]
 exact w64_id (by omega)
theorem app_ok {α:Type} {a b:List α} (h:a.length + b.length≤1000000):app? a b=some (a++b):=if_pos h
theorem byte_at {s:ByteArray} {k:Nat} (h:k < s.size):byte? s (k:Int)=some (s[k].toNat:Int):=by
 unfold byte?
 rw [dif_pos ⟨Int.natCast_nonneg k,h⟩];rfl
theorem byte_ne (a b:UInt8):((a.toNat:Int) != (b.toNat:Int))=!(a == b):=by
 by_cases h:a=b
 ·subst h;simp
 ·have h1:(a == b)=false:=by simpa using h
  have h2:¬ ((a.toNat:Int)=(b.toNat:Int)):=fun e=>h (UInt8.toNat_inj.1 (Int.natCast_inj.1 e))
  rw [h1];simpa using h2
theorem tl_data (s:ByteArray):s.toList=s.data.toList:=by rw [ByteArray.toList_eq]
def eqT (a b:ByteArray):Bool:=a.toList == b.toList
theorem eqT_refl (a:ByteArray):(a.toList == a.toList)=true:=by simp
theorem eqT_iff {a b:ByteArray}:(a.toList == b.toList)=true ↔ a=b:=by
 rw [beq_iff_eq,tl_data,tl_data]
 exact ⟨fun h=>by cases a;cases b;congr 1;exact Array.ext' h,fun h=>by rw [h]⟩
theorem cmp_less:∀ (a b:List UInt8),Op.bytesLess a b=decide (Lib.compareBytes a b < 0)
 | [],[]=>by simp [Op.bytesLess,Lib.compareBytes]
 | [],_ :: _=>by simp [Op.bytesLess,Lib.compareBytes]
 | _ :: _,[]=>by simp [Op.bytesLess,Lib.compareBytes]
 | a :: xs,b :: ys=>by
  unfold Op.bytesLess Lib.compareBytes
  rw [cmp_less xs ys]
  by_cases h:a < b
  ·simp [h]
  ·by_cases h2:b < a
   ·have hne:a≠b:=fun e=>by subst e;exact UInt8.lt_irrefl _ h2
    simp [h,h2,hne]
   ·have e:a=b:=by
     apply UInt8.toNat_inj.1
     rw [UInt8.lt_iff_toNat_lt] at h h2;omega
    subst e;simp [h]
theorem cmp_refl:∀ a:List UInt8,Lib.compareBytes a a=0
 | []=>by simp [Lib.compareBytes]
 | a :: xs=>by unfold Lib.compareBytes;rw [if_neg (UInt8.lt_irrefl _),if_neg (UInt8.lt_irrefl _)];exact cmp_refl xs
theorem cmp_eq0:∀ {a b:List UInt8},Lib.compareBytes a b=0→a=b
 | [],[],_=>rfl
 | [],_ :: _,h=>by simp [Lib.compareBytes] at h
 | _ :: _,[],h=>by simp [Lib.compareBytes] at h
 | a :: xs,b :: ys,h=>by
  unfold Lib.compareBytes at h
  split at h
  ·omega
  ·split at h
   ·omega
   ·rename_i h1 h2
    have e:a=b:=by
     apply UInt8.toNat_inj.1
     rw [UInt8.lt_iff_toNat_lt] at h1 h2;omega
    rw [e,cmp_eq0 h]
theorem cmp_anti:∀ (a b:List UInt8),Lib.compareBytes b a=- Lib.compareBytes a b
 | [],[]=>by simp [Lib.compareBytes]
 | [],_ :: _=>by simp [Lib.compareBytes]
 | _ :: _,[]=>by simp [Lib.compareBytes]
 | a :: xs,b :: ys=>by
  unfold Lib.compareBytes
  rw [cmp_anti xs ys]
  by_cases h:a < b
  ·have h2:¬ b < a:=by rw [UInt8.lt_iff_toNat_lt] at h ⊢;omega
   simp [h,h2]
  ·by_cases h2:b < a
   ·simp [h,h2]
   ·simp [h,h2]
theorem cmp_trans:∀ {a b c:List UInt8},Lib.compareBytes a b < 0→Lib.compareBytes b c < 0→Lib.compareBytes a c < 0
 | [],[],_,h,_=>by simp [Lib.compareBytes] at h
 | _ :: _,[],_,h,_=>by simp [Lib.compareBytes] at h
 | _,_ :: _,[],_,h=>by simp [Lib.compareBytes] at h
 | [],_ :: _,_ :: _,_,_=>by simp [Lib.compareBytes]
 | a :: xs,b :: ys,c :: cs,h1,h2=>by
  unfold Lib.compareBytes at h1 h2 ⊢
  by_cases x:a < b
  ·by_cases y:b < c
   ·rw [if_pos (UInt8.lt_trans x y)];omega
   ·rw [if_neg y] at h2
    by_cases z:c < b
    ·rw [if_pos z] at h2;omega
    ·have e:b=c:=by
      apply UInt8.toNat_inj.1
      rw [UInt8.lt_iff_toNat_lt] at y z;omega
     subst e
     rw [if_pos x];omega
  ·rw [if_neg x] at h1
   by_cases x2:b < a
   ·rw [if_pos x2] at h1;omega
   ·rw [if_neg x2] at h1
    have e:a=b:=by
     apply UInt8.toNat_inj.1
     rw [UInt8.lt_iff_toNat_lt] at x x2;omega
    subst e
    by_cases y:a < c
    ·rw [if_pos y];omega
    ·rw [if_neg y] at h2 ⊢
     by_cases z:c < a
     ·rw [if_pos z] at h2;omega
     ·rw [if_neg z] at h2 ⊢
      exact cmp_trans h1 h2
end Go.Proofs.YthnihifblmnkdaaGreat

namespace Go.Proofs.YthnihifblmnkdaaGreat
open Go.RowKit
set_option maxRecDepth 100000
set_option maxHeartbeats 4000000
def dc71:BCode:=(.seq (R_ 0 [O_ 4 (.mv (.const (.slice none 0 0))) 0]) (.seq (R_ 0 [O_ 8 (.mv (t_ 0)) 0,O_ 9 (.mv (t_ 1)) 0,O_ 10 (.cl 97 [(t_ 8),(t_ 9)]) 0,O_ 5 (.mv (t_ 10)) 0]) (.seq (.seq (R_ 0 [O_ 11 (.mv (t_ 5)) 0,O_ 12 (.bin .eql (t_ 11) (.const (.int .i64 (-1)))) 0]) (.cond (t_ 12) (.seq (R_ 0 [O_ 13 (.mv (t_ 0)) 0,O_ 4 (.mv (t_ 13)) 0]) .ret) .skip)) (.seq (.seq (R_ 0 [O_ 14 (.mv (t_ 5)) 0,O_ 15 (.bin .add (t_ 14) (i_ 1)) 0,O_ 6 (.mv (t_ 15)) 0]) (.block 0 (.loop (.seq (.seq (R_ 0 [O_ 16 (.mv (t_ 6)) 0,O_ 17 (.mv (t_ 0)) 0,O_ 18 (.lens (t_ 17)) 0,O_ 19 (.bin .lss (t_ 16) (t_ 18)) 0]) (.cond (t_ 19) .skip (.exit 0))) (.seq (.block 1 (.seq (R_ 1 [O_ 22 (.mv (t_ 0)) 0,O_ 23 (.mv (t_ 6)) 0,O_ 24 (.ixs 5 (t_ 22) (t_ 23)) 0,O_ 25 (.ld 5 true (t_ 24)) 0,O_ 7 (.al (.agg [(.lit (.string ⟨#[]⟩)),(.lit (.bool false)),(.lit (.int .i64 0)),(.lit (.int .i64 0)),(.lit (.int .i64 0))])) 0,U_ (.st 5 (t_ 7) (t_ 25)) 1]) (.seq (R_ 0 [O_ 26 (.mv (t_ 1)) 0,O_ 27 (.ld 5 true (t_ 7)) 0,O_ 28 (.cv (t_ 26) [(t_ 27)]) 0,O_ 29 (.un .not (t_ 28)) 0]) (.cond (t_ 29) (.seq (R_ 0 [O_ 30 (.mv (t_ 0)) 0,O_ 31 (.mv (t_ 5)) 0,O_ 32 (.ld 5 true (t_ 7)) 0,O_ 33 (.ixs 5 (t_ 30) (t_ 31)) 0,U_ (.st 5 (t_ 33) (t_ 32)) 0]) (R_ 0 [O_ 34 (.mv (t_ 5)) 0,O_ 35 (.bin .add (t_ 34) (i_ 1)) 0,O_ 5 (.mv (t_ 35)) 0])) .skip)))) (R_ 0 [O_ 20 (.mv (t_ 6)) 0,O_ 21 (.bin .add (t_ 20) (i_ 1)) 0,O_ 6 (.mv (t_ 21)) 0])))))) (.seq (R_ 0 [O_ 36 (.mv (t_ 0)) 0,O_ 37 (.mv (t_ 5)) 0,O_ 38 (.sls 5 (t_ 36) (some (t_ 37)) none none) 0,U_ (.clr 5 (t_ 38)) 0]) (.seq (R_ 0 [O_ 39 (.mv (t_ 0)) 0,O_ 40 (.mv (t_ 5)) 0,O_ 41 (.sls 5 (t_ 39) none (some (t_ 40)) none) 0,O_ 4 (.mv (t_ 41)) 0]) .ret))))))
theorem dc71_ok:compF Tryz.prog Tryz.f71=some (dc71.er,42,[.tmp 4]):=by unfold dc71;kernel_rfl
theorem dfi71 (fn:MailEntry→Option Bool) (p:MailEntry→Bool) (rows:List MailEntry) (hn:rows.length≤1000000) (hf:∀ x ∈ rows,fn x=some (p x)):∀ (n k F:Nat),k + n=rows.length→n < F →
  p_slices_IndexFunc_mail_State_mail_Entry__l1 fn rows rows.length F k=some (if (rows.drop k).any p=true then .inl ((k + (rows.drop k).findIdx p:Nat):Int) else .inr (rows.length:Int))
 | 0,k,F + 1,hk,hF=>by
  have e:rows.drop k=[]:=List.drop_of_length_le (by omega)
  have:k=rows.length:=by omega
  rw [p_slices_IndexFunc_mail_State_mail_Entry__l1,lt_ff (by omega),e,this];rfl
 | n + 1,k,F + 1,hk,hF=>by
  have hlt:k < rows.length:=by omega
  rw [p_slices_IndexFunc_mail_State_mail_Entry__l1,lt_tt hlt,at_lt hlt,drop_at hlt]
  simp only [cond_true,Option.bind_some,hf _ (List.getElem_mem hlt)]
  cases hp:p rows[k] with
  | true=>rw [List.any_cons,hp,List.findIdx_cons,hp];rfl
  | false =>
   simp only [cond_false]
   rw [w64_succ (by omega),dfi71 fn p rows hn hf n (k + 1) F (by omega) (by omega)]
   simp only [List.any_cons,hp,Bool.false_or,List.findIdx_cons,cond_false]
   split
   ·congr 3;omega
   ·rfl
theorem dfx71 {fn:MailEntry→Option Bool} (p:MailEntry→Bool) {rows:List MailEntry} (hn:rows.length≤1000000) (hf:∀ x ∈ rows,fn x=some (p x)):p_slices_IndexFunc_mail_State_mail_Entry_ rows fn=some (if rows.any p=true then (rows.findIdx p:Int) else -1):=by
 unfold p_slices_IndexFunc_mail_State_mail_Entry_
 have:=dfi71 fn p rows hn hf rows.length 0 fuel (by omega) (by have:=fuel_pos;omega)
 rw [show ((0:Int))=((0:Nat):Int) from rfl,this,List.drop_zero]
 cases rows.any p <;> simp
theorem dfS71 (l:List MailEntry) {g:Nat} {caps:List V} {fn:MailEntry→Option Bool} (hc:Clo1 Tryz.prog g caps MailEntry.v V.b fn) (p:MailEntry→Bool) (hn:l.length≤1000000) (hf:∀ x ∈ l,fn x=some (p x)) :
  CallsS Tryz.prog 71 [.osl 0 0 l.length 5 false,.clo (.func g) caps] [.live (cellsM MailEntry.v l) 0] (.osl 0 0 (l.filter fun x=>!p x).length 5 false) [.live (cellsM MailEntry.v (l.filter fun x=>!p x)) 0]:=by
 refine callsR_c (n0:=1) mix Tryz.func71 dc71_ok rfl ?_
 conv=>whnf
 refine askT_c (X:=some) (r:=if l.any p=true then (l.findIdx p:Int) else -1) [0] (p_slices_IndexFunc_mail_State_mail_Entry__v l fn hc) (by rw [dfx71 p hn hf];rfl) (.cons (.c (fzown (f:=MailEntry.v) (l:=l) rfl rfl (fun _=>rfl) (fun _=>rfl))) (.cons (.c (.id (by exact hc.own))) .nil)) (fun _=>rfl) (fun x H=>?_)
 obtain rfl:=Option.some.inj H
 conv=>whnf
 by_cases hany:l.any p=true
 ·rw [if_pos hany]
  have hk0:l.findIdx p < l.length:=List.findIdx_lt_length_of_exists (by simpa using hany)
  refine Tst.isF (beq_eq_false_iff_ne.2 (by omega)) ?_;conv=>whnf
  refine Ari.w ?_;conv=>whnf
  have hw:IntKind.i64.wrap ((l.findIdx p:Int) + 1)=((l.findIdx p + 1:Nat):Int):=w64_succ (by omega)
  rw [hw]
  refine loop_c [5,6] [7,16,17,18,19,20,21,22,23,24,25,26,27,28,29,30,31,32,33,34,35] [7,16,17,18,19,20,21,22,23,24,25,26,27,28,29,30,31,32,33,34,35] (fun n vals st=>∃ (i j:Nat) (y:List MailEntry),vals=[.i i,.i j]∧st=[.live (cellsM MailEntry.v y) 0]∧y.length=l.length∧i < j∧j≤l.length∧y.drop j=l.drop j∧y.take i=(l.take j).filter (fun x=>!p x)∧i≤l.length∧n=l.length - j) (l.length - (l.findIdx p + 1)) 1 [] ⟨l.findIdx p,l.findIdx p + 1,l,rfl,rfl,rfl,by omega,by omega,rfl,df_start hk0,by omega,rfl⟩ (Nat.le_refl _) rfl
   (by simp only [maskF,setF,List.set_cons_zero,List.set_cons_succ,V.ren.renL,V.ren,renL_id _ hc.own] <;> rfl) (by simp only [maskF,setF,List.set_cons_zero,List.set_cons_succ,V.idlt.belowL,V.idlt,fun n=>idltL_up (n:=n) _ hc.own] <;> rfl) rfl (wkB_live0 rfl (cellsM_idlt (f:=MailEntry.v) (fun _=>rfl) _) rfl trivial) ?_
  rintro n _ _ ⟨i,j,y,rfl,rfl,hyl,hij,hjl,hyd,hyt,hil,rfl⟩
  conv=>whnf
  by_cases hj:j < l.length
  ·refine Tst.isT (lt_tt hj) ?_;conv=>whnf
   have hmem:l[j] ∈ l:=List.getElem_mem hj
   have hx:y[(j:Int).toNat]?=some l[j]:=by
    rw [Int.toNat_natCast]
    have h1:(y.drop j)[0]?=(l.drop j)[0]?:=by rw [hyd]
    rw [List.getElem?_drop,List.getElem?_drop,Nat.add_zero] at h1
    rw [h1,List.getElem?_eq_getElem hj]
   refine ⟨rfl,⟨Int.natCast_nonneg _,by rw [Int.toNat_natCast];exact hj,?_⟩⟩;conv=>whnf
   refine ldo_c (f:=MailEntry.v) (es:=5) hx (fun _=>rfl) 0 (by omega) (by decide) ?_;conv=>whnf
   refine lq_ ?_;conv=>whnf
   refine askC_c (X:=some) (r:=p l[j]) (a:=l[j]) hc (by rw [hf _ hmem];rfl) (fza_ids rfl) (fun v H=>?_)
   obtain rfl:=Option.some.inj H
   conv=>whnf
   have hw1:IntKind.i64.wrap ((j:Int) + 1)=((j + 1:Nat):Int):=w64_succ (by omega)
   have hw2:IntKind.i64.wrap ((i:Int) + 1)=((i + 1:Nat):Int):=w64_succ (by omega)
   cases hp:p l[j] with
   | false =>
    refine Tst.isT rfl ?_;conv=>whnf
    refine ⟨rfl,⟨Int.natCast_nonneg _,by rw [Int.toNat_natCast];omega,?_⟩⟩;conv=>whnf
    refine ⟨Nat.zero_le _,sto_c (f:=MailEntry.v) (l:=y) (n:=i) (es:=5) (x:=y[i]'(by omega)) (List.getElem?_eq_getElem (by omega)) (x':=l[j]) (fun _=>rfl) 0 (by rw [Int.toNat_natCast];omega) (Nat.le_of_ble_eq_true rfl) (by rfl) ?_⟩;conv=>whnf
    refine Ari.w ?_;conv=>whnf
    refine Ari.w ?_;conv=>whnf
    rw [hw1,hw2]
    have hd:=df_keep hyl hij hj hyd hyt hp
    exact again_c [7,16,17,18,19,20,21,22,23,24,25,26,27,28,29,30,31,32,33,34,35] (l.length - (j + 1)) 1 [] ⟨i + 1,j + 1,y.set i l[j],rfl,rfl,by rw [List.length_set];exact hyl,by omega,by omega,hd.1,hd.2,by omega,rfl⟩ (by omega) (Nat.le_refl _) rfl
     (by simp only [maskF,setF,List.set_cons_zero,List.set_cons_succ,V.ren.renL,V.ren,renL_id _ hc.own] <;> rfl) (by simp only [maskF,setF,List.set_cons_zero,List.set_cons_succ,V.idlt.belowL,V.idlt,fun n=>idltL_up (n:=n) _ hc.own] <;> rfl) rfl (wkB_live0 rfl (cellsM_idlt (f:=MailEntry.v) (fun _=>rfl) _) rfl trivial)
   | true =>
    refine Tst.isF rfl ?_;conv=>whnf
    refine Ari.w ?_;conv=>whnf
    rw [hw1]
    have hd:=df_skip hj hyd hyt hp
    exact again_c [7,16,17,18,19,20,21,22,23,24,25,26,27,28,29,30,31,32,33,34,35] (l.length - (j + 1)) 1 [] ⟨i,j + 1,y,rfl,rfl,hyl,by omega,by omega,hd.1,hd.2,hil,rfl⟩ (by omega) (Nat.le_refl _) rfl
     (by simp only [maskF,setF,List.set_cons_zero,List.set_cons_succ,V.ren.renL,V.ren,renL_id _ hc.own] <;> rfl) (by simp only [maskF,setF,List.set_cons_zero,List.set_cons_succ,V.idlt.belowL,V.idlt,fun n=>idltL_up (n:=n) _ hc.own] <;> rfl) rfl (wkB_live0 rfl (cellsM_idlt (f:=MailEntry.v) (fun _=>rfl) _) rfl trivial)
  ·refine Tst.isF (lt_ff (by omega)) ?_;conv=>whnf
   have hjl' : j=l.length:=by omega
   subst hjl'
   rw [List.take_length] at hyt
   have hfl:(l.filter fun x=>!p x).length=i:=by rw [← hyt,List.length_take];omega
   refine ⟨rfl,sloT_c i rfl (by omega) ?_⟩;conv=>whnf
   refine ⟨rfl,clr_c (cs':=cellsM MailEntry.v (l.filter fun x=>!p x)) (Nat.zero_le _) (by rw [cellsM_len (f:=MailEntry.v) (es:=5) (fun _=>rfl),hyl];exact (Nat.zero_add _).symm ▸ Nat.mul_le_mul_right _ (by omega)) (by omega) (by rw [Nat.zero_add,← hyt];exact (cellsM_take (f:=MailEntry.v) (es:=5) (fun _=>rfl) y i (by omega)).1.symm) ?_⟩;conv=>whnf
   refine ⟨rfl,sloP_c i rfl (by omega) ?_⟩;conv=>whnf
   rw [hfl]
   exact ⟨f_R0 (.inr rfl) (.cons (.tmp rfl) .nil) rfl rfl rfl rfl ⟨idltL_up _ (cellsM_idlt (f:=MailEntry.v) (fun _=>rfl) _),trivial⟩⟩
 ·rw [if_neg hany]
  refine Tst.isT rfl ?_;conv=>whnf
  have hfe:(l.filter fun x=>!p x)=l:=List.filter_eq_self.2 fun x hx=>by
   have:=fun h=>hany (List.any_eq_true.2 ⟨x,hx,h⟩)
   simpa using this
  rw [hfe]
  exact ⟨f_R0 (.inr rfl) (.cons (.tmp rfl) .nil) rfl rfl rfl rfl ⟨idltL_up _ (cellsM_idlt (f:=MailEntry.v) (fun _=>rfl) _),trivial⟩⟩
theorem delF71_v:DelFSaid Tryz.prog 71 MailEntry.v 5:=fun l _ _ _ hc p hn hf=>dfS71 l hc p hn hf
theorem delF71_n:DelFNil Tryz.prog 71 MailEntry.v:=fun {g} {caps} {fn} hc=>by
 refine callsO_comp mix Tryz.func71 dc71_ok (fun r H0=>?_)
 conv=>whnf
 refine askF_c (X:=some) (r:=(-1:Int)) (p_slices_IndexFunc_mail_State_mail_Entry__v [] fn hc) (by rfl) (.cons (.c .slw) (.cons (.c (.id (by exact hc.own))) .nil)) (fun x H=>?_)
 obtain rfl:=Option.some.inj H
 conv=>whnf
 refine Tst.isT rfl ?_;conv=>whnf
 exact fin0_c (enc:=fun _:Unit=>V.sl [] true) H0 (.inr rfl) (.cons (.tmp rfl) .nil) rfl rfl
end Go.Proofs.YthnihifblmnkdaaGreat

namespace Go.Proofs.YthnihifblmnkdaaGreat
open Go.RowKit
def tru? (m:Option Bool):Option Bool:=if m=some true then some true else none
theorem tru_of {m:Option Bool} {r:Bool} (h:tru? m=some r):r=true∧m=some true:=by
 unfold tru? at h
 split at h
 ·exact ⟨(Option.some.inj h).symm,‹_›⟩
 ·cases h
theorem tru_ok {m:Option Bool} (h:m=some true):tru? m=some true:=if_pos h
theorem tru_closed {P:Program} {k:FuncId} {vs:List V} {m:Option Bool} (h:CallsO P k vs V.b (tru? m)) (hm:m=some true):CallsO P k vs V.b m:=fun v hv=>by
 rw [hm] at hv
 cases hv
 exact h true (tru_ok hm)
theorem tstT_c {b:Bool} {A B:Prop} {X:Option Bool} (H:(bif b then X else some false)=some true) (h:b=true→X=some true→A):Tst b A B :=
 tst_c H h fun _ h=>by cases h
theorem tstF_c {b:Bool} {A B:Prop} {X:Option Bool} (H:(bif b then some false else X)=some true) (h:b=false→X=some true→B):Tst b A B :=
 tst_c H (fun _ h=>by cases h) h
theorem litL_M {α:Type} {f:α→V} (hlit:∀ a,V.litD.litL (f a).cells=true) (l:List α):V.litD.litL (cellsM f l)=true:=litL_mem fun v hv=>by
 obtain ⟨a,_,ha⟩:=List.mem_flatMap.1 hv
 exact mem_litL (hlit a) v ha
def lenG? {α:Type} (n:Nat) (l:List α):Option Unit:=if n=l.length then some () else none
theorem lenG_c {β α:Type} {r:β} {n:Nat} {l:List α} {X:Unit→Option β} (H:(lenG? n l).bind X=some r):∃ u:Unit,n=l.length∧X u=some r:=by
 obtain ⟨u,hu,H⟩:=bind_c H
 unfold lenG? at hu
 split at hu
 ·exact ⟨u,‹_›,H⟩
 ·cases hu
structure GrowRoads (P:Program) (k:FuncId) (es:Nat) (E:TypeId):Prop where
 some_:∀ (b:Option Addr) (n:Nat) (w:World),0 < n→n≤1000000→Calls P k #[.slice b 0 0,.int .i64 n] w fun e w'=>∃ (ZS:Array Value) (c:Nat),e=.returned (.slice (some ⟨w.heap.size,0,none⟩) 0 c)∧w'=w.drew.alloc (.cells ZS E)∧c * es≤ZS.size
 zero_:∀ (b:Option Addr) (w:World),Calls P k #[.slice b 0 0,.int .i64 0] w fun e w'=>e=.returned (.slice b 0 0)∧w'=w
end Go.Proofs.YthnihifblmnkdaaGreat

namespace Go.Proofs.YthnihifblmnkdaaGreat
open Go.RowKit
theorem wcl_fz {st:List Slot} {sg:List Nat} {n:Nat} {l l' : List V} {rd:List Nat} (h:FzL st l l' rd):WCL st sg n l l':=by
 induction h with
 | nil=>exact .nil
 | cons h _ ih=>exact .cons (.fz h) ih
structure FzW (st:List Slot) (u v:V):Prop where
 out:∃ l l' rd,u=.agg l∧v=.agg l'∧FzL st l l' rd∧l'.all V.one=true
end Go.Proofs.YthnihifblmnkdaaGreat

namespace Go.Proofs.YthnihifblmnkdaaGreat
open Go.RowKit
def Slot.okN (n:Nat):Slot→Bool
 | .live cs _=>V.idlt.belowL n cs
 | _=>true
mutual
theorem idlt_mo {n m:Nat} (hm:n≤m):∀ v:V,v.idlt n=true→v.idlt m=true
 | .lit _,_=>rfl
 | .agg cs,h=>idltL_mo hm cs h
 | .tup cs,h=>idltL_mo hm cs h
 | .sl _ _,_=>rfl
 | .osl _ _ _ _ _,h=>by simp [V.idlt] at h ⊢;omega
 | .ptr _ _,h=>by simp [V.idlt] at h ⊢;omega
 | .eptr _,_=>rfl
 | .clo _ cs,h=>idltL_mo hm cs h
 | .any,_=>rfl
theorem idltL_mo {n m:Nat} (hm:n≤m):∀ l:List V,V.idlt.belowL n l=true→V.idlt.belowL m l=true
 | [],_=>rfl
 | v :: l,h=>by
  simp only [V.idlt.belowL,Bool.and_eq_true] at h ⊢
  exact ⟨idlt_mo hm v h.1,idltL_mo hm l h.2⟩
end
theorem okN_mo {n m:Nat} {s:Slot} (h:s.okN n=true) (hm:Nat.le n m):s.okN m=true:=by
 cases s with
 | live cs f=>exact idltL_mo hm cs h
 | fresh=>rfl
 | dead=>rfl
theorem okN_M {n k:Nat} {cs:List V} (h:V.idlt.belowL 0 cs=true):Slot.okN n (.live cs k)=true:=idltL_up _ h
def keptA (n:Nat):List Slot→List Slot→Prop
 | [],_=>True
 | s :: r,st=>(st[0]?=some s∧s.okN n=true)∧keptA n r st.tail
def keptK (n:Nat):List Slot→List Slot→Nat→Prop
 | [],_,_=>True
 | _ :: r,st,0=>keptA n r st.tail
 | s :: r,st,i + 1=>(st[0]?=some s∧s.okN n=true)∧keptK n r st.tail i
theorem keptA_ok {n:Nat}:∀ {r st:List Slot},keptA n r st→∀ (k:Nat) (s:Slot),r[k]?=some s→st[k]?=some s∧s.okN n=true
 | [],st,_,k,s,hk=>by simp at hk
 | x :: r,st,h,0,s,hk=>by
  simp only [List.getElem?_cons_zero,Option.some.injEq] at hk
  subst hk;exact h.1
 | x :: r,st,h,k + 1,s,hk=>by
  rw [List.getElem?_cons_succ] at hk
  obtain ⟨h1,h2⟩:=keptA_ok h.2 k s hk
  rw [List.getElem?_tail] at h1
  exact ⟨h1,h2⟩
theorem keptK_ok {n:Nat}:∀ {r st:List Slot} {i:Nat},keptK n r st i→∀ (k:Nat) (s:Slot),k≠i→r[k]?=some s→st[k]?=some s∧s.okN n=true
 | [],st,i,_,k,s,_,hk=>by simp at hk
 | x :: r,st,0,h,0,s,hn,hk=>absurd rfl hn
 | x :: r,st,0,h,k + 1,s,hn,hk=>by
  rw [List.getElem?_cons_succ] at hk
  obtain ⟨h1,h2⟩:=keptA_ok h k s hk
  rw [List.getElem?_tail] at h1
  exact ⟨h1,h2⟩
 | x :: r,st,i + 1,h,0,s,hn,hk=>by
  simp only [List.getElem?_cons_zero,Option.some.injEq] at hk
  subst hk;exact h.1
 | x :: r,st,i + 1,h,k + 1,s,hn,hk=>by
  rw [List.getElem?_cons_succ] at hk
  obtain ⟨h1,h2⟩:=keptK_ok h.2 k s (fun e=>hn (by rw [e])) hk
  rw [List.getElem?_tail] at h1
  exact ⟨h1,h2⟩
theorem finP_c {rs:List ARes} {fr:List V} {st st0:List Slot} {α:Type} {enc:α→V} {x y:α} {e:AExit} {T:α→List V} {i:Nat} (is:List Nat) (he:e=.normal∨e=.ret) (H:some x=some y) (hi:i < st0.length)
  (h:frzI is st fun st=>keptK st0.length st0 st i∧(∃ T0 rd,st[i]?=some (.live T0 0)∧FzL st T0 (T x) rd∧(T x).all V.one=true)∧resK fr st rs fun vs=>mkRK vs fun v=>v=enc x∧v.idlt 0=true):FinQ (FinR st0 rs (enc y) (st0.set i (.live (T y) 0))) e fr st:=by
 cases H
 obtain ⟨st1,hf,h1,⟨T0,rd,h2,h3,h4⟩,h⟩:=frzI_ok h
 obtain ⟨vs,h5,h6⟩:=resK_ok h
 rw [mkRK_eq] at h6
 obtain ⟨h6,h7⟩:=h6
 have one:∀ v ∈ T x,v.one=true:=by simpa using h4
 have get:∀ (k:Nat),(st0.set i (.live (T x) 0))[k]?=if i=k then some (.live (T x) 0) else st0[k]?:=fun k=>by
  rw [List.getElem?_set]
  by_cases e:i=k
  ·rw [if_pos e,if_pos hi,if_pos e]
  ·rw [if_neg e,if_neg e]
 refine ⟨he,[],st1,vs,hf,h5,.v (.c (.ren (by rw [← h6,ren_nil]) (by rw [← h6];exact idlt_up _ h7))),fun i _ _=>rfl,⟨List.length_set ..,fun k cs f hk=>?_,fun k hk=>?_,fun i j _ _ _ _ _ _ h=>h⟩⟩
 ·rw [get] at hk
  by_cases e:i=k
  ·rw [if_pos e] at hk
   simp only [Option.some.injEq,Slot.live.injEq] at hk
   obtain ⟨rfl,rfl⟩:=hk
   subst e
   exact ⟨T0,h2,wcl_fz h3,.inl one⟩
  ·rw [if_neg e] at hk
   obtain ⟨g1,g2⟩:=keptK_ok h1 k _ (fun q=>e q.symm) hk
   exact ⟨cs,g1,wcl_nil g2,.inr (renL_nil _).symm⟩
 ·rw [get] at hk
  by_cases e:i=k
  ·rw [if_pos e] at hk;cases hk
  ·rw [if_neg e] at hk
   exact (keptK_ok h1 k _ (fun q=>e q.symm) hk).1
theorem askP_c {β:Type} {r:β} {P:Program} {st st0:List Slot} {α:Type} {enc:α→V} {st' : α→List Slot} {m:Option α} {X:α→Option β} {f:Nat} {vs vs' : List V} {k:V→List Nat→List Nat→List Slot→Prop} (hc:∀ s,m=some s→CallsS P f vs' st0 (enc s) (st' s)) (H:m.bind X=some r) (hv:vs=vs') (hs:st=st0) (hl:∀ s,(st' s).length=st0.length)
  (h:∀ s,X s=some r→k (enc s) [] ((allEff (st' s)).map Prod.fst) (st' s)):Ask P f vs st k:=by
 subst hv hs
 obtain ⟨s,hs,H⟩:=bind_c H
 exact Ask_S (hc s hs) (hl s) (h s H)
end Go.Proofs.YthnihifblmnkdaaGreat

namespace Go.Proofs.YthnihifblmnkdaaGreat
open Go.RowKit
end Go.Proofs.YthnihifblmnkdaaGreat

namespace Go.Proofs.YthnihifblmnkdaaGreat
open Go.RowKit
def p_pres_Split (a0:ByteArray):Option (ByteArray × ByteArray × Int) :=
 (p_strings_Cut a0 (⟨#[32]⟩ : ByteArray)).bind fun v1 =>
 bif v1.2.2 then
  (p_addr_IsBare v1.1).bind fun v3 =>
  bif v3 then
   (p_addr_Resource v1.2.1).bind fun v5 =>
   bif (v5 != (0:Int)) then
    some ((⟨#[]⟩ : ByteArray),(⟨#[]⟩ : ByteArray),v5)
   else
   some (v1.1,v1.2.1,(0:Int))
  else
  some ((⟨#[]⟩ : ByteArray),(⟨#[]⟩ : ByteArray),(11:Int))
 else
 some ((⟨#[]⟩ : ByteArray),(⟨#[]⟩ : ByteArray),(4:Int))
def p_mail_key (a0:ByteArray):Option (Bool) :=
 (p_pres_Split a0).bind fun v1 =>
 some (v1.2.2 == (0:Int))
def p_mail_Off_l1 (z7:List MailEntry) (z8:Int):Nat→Int→Int→Option ((Int × Int))
 | 0,_,_=>none
 | n + 1,y6,y9 =>
  bif (decide (y9 < z8)) then
   (at? z7 y9).bind fun x11 =>
   bif x11.P.On then
    p_mail_Off_l1 z7 z8 n y6 (w64 (y9 + (1:Int)))
   else
   p_mail_Off_l1 z7 z8 n (w64 (y6 + (1:Int))) (w64 (y9 + (1:Int)))
  else
  some (y6,y9)
def p_mail_Off (a0:List MailEntry):Option (Int) :=
 (p_mail_Off_l1 a0 (a0.length:Int) fuel (0:Int) (0:Int)).bind fun q14 =>
 some q14.1
def p_mail_Find_l1 (z7:ByteArray) (z9:List MailEntry) (z10:Int):Nat→Int→Int→Option ((Int × Int))
 | 0,_,_=>none
 | n + 1,y8,y11 =>
  bif (decide (y11 < z10)) then
   (at? z9 y11).bind fun x13 =>
   bif (x13.Key.toList == z7.toList) then
    some (y11,y11)
   else
   p_mail_Find_l1 z7 z9 z10 n y8 (w64 (y11 + (1:Int)))
  else
  some (y8,y11)
def p_mail_Find (a0:List MailEntry) (a1:ByteArray):Option (Int) :=
 (p_mail_Find_l1 a1 a0 (a0.length:Int) fuel (-1:Int) (0:Int)).bind fun q16 =>
 some q16.1
def p_mail_State_ordered_l1 (z8:List MailEntry) (z9:Int) (z10:List MailEntry) (z11:Int):Nat→Int→Option (Bool ⊕ Int)
 | 0,_=>none
 | n + 1,y12 =>
  bif (decide (y12 < z11)) then
   (at? z10 y12).bind fun x14 =>
   bif (x14.P.On != (decide (z9≤y12))) then
    some (.inl false)
   else
   (p_mail_Find z8 x14.Key).bind fun v16 =>
   bif (v16 != y12) then
    some (.inl false)
   else
   p_mail_State_ordered_l1 z8 z9 z10 z11 n (w64 (y12 + (1:Int)))
  else
  some (.inr y12)
def p_mail_State_ordered (a0:List MailEntry):Option (Bool) :=
 (p_mail_Off a0).bind fun v1 =>
 (p_mail_State_ordered_l1 a0 v1 a0 (a0.length:Int) fuel (0:Int)).bind fun o18=>match o18 with
 | .inl q19 =>
  some q19
 | .inr q20 =>
  some true
def p_mail_Check_l1 (z8:List MailEntry) (z9:Int):Nat→Int→Option (Int ⊕ Int)
 | 0,_=>none
 | n + 1,y10 =>
  bif (decide (y10 < z9)) then
   (at? z8 y10).bind fun x12 =>
   (p_mail_key x12.Key).bind fun v13 =>
   bif v13 then
    p_mail_Check_l1 z8 z9 n (w64 (y10 + (1:Int)))
   else
   some (.inl (11:Int))
  else
  some (.inr y10)
def p_mail_Check_l2 (z24:List MailEntry) (z25:Int):Nat→Int→Option (Int ⊕ Int)
 | 0,_=>none
 | n + 1,y26 =>
  bif (decide (y26 < z25)) then
   (at? z24 y26).bind fun x28 =>
   (p_pres_Check x28.P).bind fun v29 =>
   bif (v29 != (0:Int)) then
    some (.inl v29)
   else
   p_mail_Check_l2 z24 z25 n (w64 (y26 + (1:Int)))
  else
  some (.inr y26)
def p_mail_Check (a0:List MailEntry):Option (Int) :=
 bif (decide ((16:Int) < (a0.length:Int))) then
  some (5:Int)
 else
 (p_mail_Check_l1 a0 (a0.length:Int) fuel (0:Int)).bind fun o15=>match o15 with
 | .inl q16 =>
  some q16
 | .inr q17 =>
  (p_mail_Check_l2 a0 (a0.length:Int) fuel (0:Int)).bind fun o31=>match o31 with
  | .inl q32 =>
   some q32
  | .inr q33 =>
   (p_mail_State_ordered a0).bind fun v34 =>
   bif v34 then
    some (0:Int)
   else
   some (10:Int)
def p_outq_in (a0:Int):Option (Bool) :=
 bif (decide ((0:Int)≤a0)) then
  some (decide (a0≤(1099511627776:Int)))
 else
 some false
def p_outq_Check (a0:Ref27State):Option (Int) :=
 (p_mail_Check a0.Mail).bind fun v1 =>
 bif (v1 != (0:Int)) then
  some v1
 else
 (p_snap_Check a0.Snap).bind fun v3 =>
 bif (v3 != (0:Int)) then
  some v3
 else
 (p_outq_in a0.Sent).bind fun v5 =>
 bif v5 then
  (p_outq_in a0.Lost).bind fun v7 =>
  bif v7 then
   some (0:Int)
  else
  some (8:Int)
 else
 some (8:Int)
def p_outq_counter_told (a0:OutqTeller):Option (OutqTeller) :=
 some (OutqTeller.mk (OutqCounter.mk (if (1099511627776:Int) < w64 (a0.counter.sent + (1:Int)) then (1099511627776:Int) else w64 (a0.counter.sent + (1:Int)))) a0.st a0.eyes a0.book)
def p_mail_Take (a0:List MailEntry):Option ((List MailEntry) × MailEntry × Bool) :=
 bif ((a0.length:Int) == (0:Int)) then
  some (a0,(MailEntry.mk (⟨#[]⟩ : ByteArray) (PresPres.mk false (0:Int) (0:Int) (0:Int))),false)
 else
 (p_mail_Check a0).bind fun v2 =>
 bif (v2 != (0:Int)) then
  some (a0,(MailEntry.mk (⟨#[]⟩ : ByteArray) (PresPres.mk false (0:Int) (0:Int) (0:Int))),false)
 else
 (cut? a0 (some (1:Int)) none).bind fun x4 =>
 (at? a0 (0:Int)).bind fun x5 =>
 some (x4,x5,true)
def p_outq_teller_next (a0:OutqTeller):Option (OutqTeller × StanzaStanza × Bool) :=
 bif a0.st.Snap.On then
  (p_snap_Next a0.st.Snap a0.eyes a0.book).bind fun v2 =>
  bif v2.2.2 then
   (p_outq_counter_told (OutqTeller.mk a0.counter (Ref27State.mk a0.st.Mail v2.1 a0.st.Sent a0.st.Lost) a0.eyes a0.book)).bind fun v4 =>
   some (v4,v2.2.1,v2.2.2)
  else
  some (a0,v2.2.1,v2.2.2)
 else
 (p_mail_Take a0.st.Mail).bind fun v5 =>
 bif v5.2.2 then
  (p_outq_counter_told (OutqTeller.mk a0.counter (Ref27State.mk v5.1 a0.st.Snap a0.st.Sent a0.st.Lost) a0.eyes a0.book)).bind fun v7 =>
  (p_pres_Split v5.2.1.Key).bind fun v8 =>
  (p_pres_Say v8.1 v8.2.1 v5.2.1.P).bind fun v9 =>
  some (v7,v9,true)
 else
 some (a0,(StanzaStanza.mk (0:Int) (⟨#[]⟩ : ByteArray) (⟨#[]⟩ : ByteArray) (⟨#[]⟩ : ByteArray) (0:Int) (0:Int) (0:Int) (0:Int)),false)
def p_outq_Flush_l1 (z8:Int):Nat→(List StanzaStanza)→OutqTeller→Option (((List StanzaStanza) × OutqTeller))
 | 0,_,_=>none
 | n + 1,y9,y10 =>
  bif (decide ((y9.length:Int) < (if (1000:Int) < z8 then (1000:Int) else z8))) then
   (p_outq_teller_next y10).bind fun v13 =>
   bif v13.2.2 then
    (app? y9 [v13.2.1]).bind fun l15 =>
    p_outq_Flush_l1 z8 n l15 v13.1
   else
   some (y9,v13.1)
  else
  some (y9,y10)
def p_outq_Flush (a0:Ref27State) (a1:SnapEyes) (a2:BookState) (a3:Int):Option (Ref27State × (List StanzaStanza)) :=
 (p_outq_Check a0).bind fun v1 =>
 bif (v1 != (0:Int)) then
  some (a0,[])
 else
 (p_outq_Flush_l1 a3 fuel [] (OutqTeller.mk (OutqCounter.mk a0.Sent) a0 a1 a2)).bind fun q17 =>
 some ((Ref27State.mk q17.2.st.Mail q17.2.st.Snap q17.2.counter.sent q17.2.st.Lost),q17.1)
def p_outq_Next (a0:Ref27State) (a1:SnapEyes) (a2:BookState):Option (Ref27State × StanzaStanza × Bool) :=
 (p_outq_Flush a0 a1 a2 (1:Int)).bind fun v1 =>
 bif ((v1.2.length:Int) == (0:Int)) then
  some (a0,(StanzaStanza.mk (0:Int) (⟨#[]⟩ : ByteArray) (⟨#[]⟩ : ByteArray) (⟨#[]⟩ : ByteArray) (0:Int) (0:Int) (0:Int) (0:Int)),false)
 else
 (at? v1.2 (0:Int)).bind fun x3 =>
 some (v1.1,x3,true)
def p_pres_Newer (a0:PresPres) (a1:PresPres):Option (Bool) :=
 some (decide (a1.Seq < a0.Seq))
def p_mail_Put (a0:List MailEntry) (a1:ByteArray) (a2:PresPres):Option ((List MailEntry) × Int) :=
 (clone? a0).bind fun l1 =>
 (p_mail_Check a0).bind fun v2 =>
 bif (v2 != (0:Int)) then
  some (l1,v2)
 else
 (p_mail_key a1).bind fun v4 =>
 bif v4 then
  (p_pres_Check a2).bind fun v6 =>
  bif (v6 != (0:Int)) then
   some (l1,v6)
  else
  (p_mail_Find a0 a1).bind fun v8 =>
  bif (v8 == (-1:Int)) then
   bif ((a0.length:Int) == (16:Int)) then
    some (l1,(7:Int))
   else
   bif a2.On then
    (insAt? l1 (l1.length:Int) (MailEntry.mk a1 a2)).bind fun v12 =>
    some (v12,(0:Int))
   else
   (p_mail_Off l1).bind fun v13 =>
   (insAt? l1 v13 (MailEntry.mk a1 a2)).bind fun v14 =>
   some (v14,(0:Int))
  else
  (at? a0 v8).bind fun x15 =>
  (p_pres_Newer a2 x15.P).bind fun v16 =>
  bif v16 then
   (at? a0 v8).bind fun x18 =>
   bif (a2.On == x18.P.On) then
    (at? l1 v8).bind fun x20 =>
    some ((List.set l1 (Int.toNat v8) (MailEntry.mk x20.Key a2)),(0:Int))
   else
   (del? l1 v8 (w64 (v8 + (1:Int)))).bind fun v22 =>
   bif a2.On then
    (insAt? v22 (v22.length:Int) (MailEntry.mk a1 a2)).bind fun v24 =>
    some (v24,(0:Int))
   else
   (p_mail_Off v22).bind fun v25 =>
   (insAt? v22 v25 (MailEntry.mk a1 a2)).bind fun v26 =>
   some (v26,(0:Int))
  else
  some (l1,(0:Int))
 else
 some (l1,(11:Int))
def p_outq_State_anew (a0:Ref27State):Option (Ref27State) :=
 (p_snap_Begin).bind fun v1 =>
 some (Ref27State.mk [] v1 a0.Sent a0.Lost)
def p_outq_Add (a0:Ref27State) (a1:ByteArray) (a2:PresPres):Option (Ref27State) :=
 (p_outq_Check a0).bind fun v1 =>
 bif (v1 != (0:Int)) then
  some a0
 else
 (p_snap_Covers a0.Snap a1).bind fun v3 =>
 bif v3 then
  some a0
 else
 (p_mail_Put a0.Mail a1 a2).bind fun v5 =>
 bif (v5.2 == (0:Int)) then
  some (Ref27State.mk v5.1 a0.Snap a0.Sent a0.Lost)
 else
 bif (v5.2 == (7:Int)) then
  (p_outq_State_anew a0).bind fun v8 =>
  some (Ref27State.mk v8.Mail v8.Snap v8.Sent (if (1099511627776:Int) < w64 (v8.Lost + (1:Int)) then (1099511627776:Int) else w64 (v8.Lost + (1:Int))))
 else
 some a0
def p_outq_Begin (a0:Ref27State):Option (Ref27State) :=
 (p_outq_Check a0).bind fun v1 =>
 bif (v1 != (0:Int)) then
  some a0
 else
 (p_outq_State_anew a0).bind fun v3 =>
 some v3
def p_mail_Entry_user (a0:MailEntry):Option (ByteArray) :=
 (p_pres_Split a0.Key).bind fun v1 =>
 some v1.1
def p_mail_Drop_1 (a0:MailEntry) (c0:ByteArray):Option (Bool) :=
 (p_mail_Entry_user a0).bind fun v1 =>
 some (v1.toList == c0.toList)
def p_mail_Drop (a0:List MailEntry) (a1:ByteArray):Option ((List MailEntry) × Int) :=
 (clone? a0).bind fun l1 =>
 (p_mail_Check a0).bind fun v2 =>
 bif (v2 != (0:Int)) then
  some (l1,(0:Int))
 else
 (delF? (fun x0=>p_mail_Drop_1 x0 a1) l1).bind fun v4 =>
 some (v4,w64 ((a0.length:Int) - (v4.length:Int)))
def p_outq_Forget (a0:Ref27State) (a1:ByteArray):Option (Ref27State) :=
 (p_outq_Check a0).bind fun v1 =>
 bif (v1 == (0:Int)) then
  (p_mail_Drop a0.Mail a1).bind fun v3 =>
  some (Ref27State.mk v3.1 a0.Snap a0.Sent a0.Lost)
 else
 some a0
def p_outq_Len (a0:Ref27State):Option (Int) :=
 bif a0.Snap.On then
  some (w64 ((a0.Mail.length:Int) + (1:Int)))
 else
 some (a0.Mail.length:Int)
def p_outq_Wants (a0:Ref27State):Option (Bool) :=
 (p_outq_Len a0).bind fun v1 =>
 some (decide ((0:Int) < v1))
def p_slices_Equal_mail_State_mail_Entry__l1 (z7:List MailEntry) (z8:List MailEntry) (z9:Int):Nat→Int→Option (Bool ⊕ Int)
 | 0,_=>none
 | n + 1,y10 =>
  bif (decide (y10 < z9)) then
   (at? z7 y10).bind fun x12 =>
   (at? z8 y10).bind fun x13 =>
   bif ((x12.Key.toList == x13.Key.toList) && ((x12.P.On == x13.P.On) && ((x12.P.Show == x13.P.Show) && ((x12.P.Prio == x13.P.Prio) && ((x12.P.Seq == x13.P.Seq) && true))))) then
    p_slices_Equal_mail_State_mail_Entry__l1 z7 z8 z9 n (w64 (y10 + (1:Int)))
   else
   some (.inl false)
  else
  some (.inr y10)
def p_slices_Equal_mail_State_mail_Entry_ (a0:List MailEntry) (a1:List MailEntry):Option (Bool) :=
 bif ((a0.length:Int) != (a1.length:Int)) then
  some false
 else
 (p_slices_Equal_mail_State_mail_Entry__l1 a0 a1 (a0.length:Int) fuel (0:Int)).bind fun o15=>match o15 with
 | .inl q16 =>
  some q16
 | .inr q17 =>
  some true
def p_mail_Same (a0:List MailEntry) (a1:List MailEntry):Option (Bool) :=
 (p_slices_Equal_mail_State_mail_Entry_ a0 a1).bind fun v1 =>
 some v1
def p_outq_Same (a0:Ref27State) (a1:Ref27State):Option (Bool) :=
 (p_mail_Same a0.Mail a1.Mail).bind fun v1 =>
 bif v1 then
  bif ((a0.Snap.On == a1.Snap.On) && ((a0.Snap.Begun == a1.Snap.Begun) && ((a0.Snap.After.toList == a1.Snap.After.toList) && ((a0.Snap.Told == a1.Snap.Told) && true)))) then
   bif (a0.Sent == a1.Sent) then
    some (a0.Lost == a1.Lost)
   else
   some false
  else
  some false
 else
 some false
end Go.Proofs.YthnihifblmnkdaaGreat

namespace Go.Proofs.YthnihifblmnkdaaGreat
open Go.RowKit
section
variable {β : Type} {r : β} {P : Program} {st : List Slot}
end
end Go.Proofs.YthnihifblmnkdaaGreat

namespace Go.Proofs.YthnihifblmnkdaaGreat
open Go.RowKit
def p_law27_awake:Option (Bool) :=
 (p_book_Set (BookState.mk (0:Int) []) (⟨#[97,64,120]⟩ : ByteArray) (⟨#[]⟩ : ByteArray) (1:Int) (0:Int)).bind fun v1 =>
 (p_outq_Begin (Ref27State.mk [] (SnapState.mk false false (⟨#[]⟩ : ByteArray) (0:Int)) (0:Int) (0:Int))).bind fun v2 =>
 (p_outq_Add v2 (⟨#[97,64,120,32]⟩ : ByteArray) (PresPres.mk true (0:Int) (0:Int) (9:Int))).bind fun v3 =>
 (p_outq_Flush v3 (SnapEyes.mk [(⟨#[97,64,120]⟩ : ByteArray)] []) v1.1 (9:Int)).bind fun v4 =>
 (p_outq_Add v4.1 (⟨#[98,64,120,32]⟩ : ByteArray) (PresPres.mk false (0:Int) (0:Int) (4:Int))).bind fun v5 =>
 (p_outq_Next v5 (SnapEyes.mk [(⟨#[97,64,120]⟩ : ByteArray)] []) v1.1).bind fun v6 =>
 (p_outq_Forget v5 (⟨#[98,64,120]⟩ : ByteArray)).bind fun v7 =>
 (p_outq_Wants v3).bind fun v8 =>
 bif v8 then
  (p_outq_Len v3).bind fun v10 =>
  bif (v10 == (1:Int)) then
   bif ((v4.2.length:Int) == (3:Int)) then
    (at? v4.2 (0:Int)).bind fun x13 =>
    bif (x13.Kind == (36:Int)) then
     (at? v4.2 (1:Int)).bind fun x15 =>
     bif (x15.User.toList == (⟨#[97,64,120]⟩ : ByteArray).toList) then
      (at? v4.2 (2:Int)).bind fun x17 =>
      bif (x17.Kind == (37:Int)) then
       bif (v4.1.Sent == (3:Int)) then
        (p_outq_Wants v4.1).bind fun v20 =>
        bif v20 then
         some false
        else
        bif ((v6.2.1.Kind == (35:Int)) && ((v6.2.1.User.toList == (⟨#[98,64,120]⟩ : ByteArray).toList) && ((v6.2.1.Res.toList == (⟨#[]⟩ : ByteArray).toList) && ((v6.2.1.Name.toList == (⟨#[]⟩ : ByteArray).toList) && ((v6.2.1.Show == (0:Int)) && ((v6.2.1.Prio == (0:Int)) && ((v6.2.1.Code == (0:Int)) && ((v6.2.1.N == (4:Int)) && true)))))))) then
         bif v6.2.2 then
          bif (v6.1.Sent == (4:Int)) then
           (p_outq_Same v7 v4.1).bind fun v25 =>
           bif v25 then
            (p_outq_Same v5 v4.1).bind fun v27 =>
            bif v27 then
             some false
            else
            (p_outq_Check v6.1).bind fun v29 =>
            bif (v29 == (0:Int)) then
             (p_outq_Check (Ref27State.mk [] (SnapState.mk false false (⟨#[]⟩ : ByteArray) (0:Int)) (-1:Int) (0:Int))).bind fun v31 =>
             bif (v31 == (8:Int)) then
              some true
             else
             some false
            else
            some false
           else
           some false
          else
          some false
         else
         some false
        else
        some false
       else
       some false
      else
      some false
     else
     some false
    else
    some false
   else
   some false
  else
  some false
 else
 some false
def p_ref23_Split_l1 (z6:ByteArray):Nat→Int→Option (Int)
 | 0,_=>none
 | n + 1,y7 =>
  bif (decide (y7 < (z6.size:Int))) then
   (byte? z6 y7).bind fun c9 =>
   bif (c9 != (32:Int)) then
    p_ref23_Split_l1 z6 n (w64 (y7 + (1:Int)))
   else
   some y7
  else
  some y7
def p_ref23_Split (a0:ByteArray):Option (ByteArray × ByteArray × Int) :=
 (p_ref23_Split_l1 a0 fuel (0:Int)).bind fun q12 =>
 bif (q12 == (a0.size:Int)) then
  some ((⟨#[]⟩ : ByteArray),(⟨#[]⟩ : ByteArray),(4:Int))
 else
 (sub? a0 none (some q12)).bind fun s14 =>
 (sub? a0 (some (w64 (q12 + (1:Int)))) none).bind fun s15 =>
 (p_ref09_IsBare s14).bind fun v16 =>
 bif v16 then
  (p_ref09_Resource s15).bind fun v18 =>
  bif (v18 != (0:Int)) then
   (p_ref09_Resource s15).bind fun v20 =>
   some ((⟨#[]⟩ : ByteArray),(⟨#[]⟩ : ByteArray),v20)
  else
  some (s14,s15,(0:Int))
 else
 some ((⟨#[]⟩ : ByteArray),(⟨#[]⟩ : ByteArray),(11:Int))
def p_ref25_key (a0:ByteArray):Option (Bool) :=
 (p_ref23_Split a0).bind fun v1 =>
 some (v1.2.2 == (0:Int))
def p_ref23_Check (a0:PresPres):Option (Int) :=
 bif (decide (a0.Show < (0:Int))) then
  some (8:Int)
 else
 bif (decide ((4:Int) < a0.Show)) then
  some (8:Int)
 else
 bif (decide (a0.Prio < (-128:Int))) then
  some (8:Int)
 else
 bif (decide ((127:Int) < a0.Prio)) then
  some (8:Int)
 else
 bif (decide (a0.Seq < (0:Int))) then
  some (8:Int)
 else
 bif (decide ((1099511627776:Int) < a0.Seq)) then
  some (8:Int)
 else
 bif a0.On then
  some (0:Int)
 else
 bif (a0.Show != (0:Int)) then
  some (4:Int)
 else
 bif (a0.Prio != (0:Int)) then
  some (4:Int)
 else
 some (0:Int)
def p_ref25_Find_l1 (z5:List MailEntry) (z6:ByteArray):Nat→Int→Option (Int ⊕ Int)
 | 0,_=>none
 | n + 1,y7 =>
  bif (decide (y7 < (z5.length:Int))) then
   (at? z5 y7).bind fun x9 =>
   bif (x9.Key.toList == z6.toList) then
    some (.inl y7)
   else
   p_ref25_Find_l1 z5 z6 n (w64 (y7 + (1:Int)))
  else
  some (.inr y7)
def p_ref25_Find (a0:List MailEntry) (a1:ByteArray):Option (Int) :=
 (p_ref25_Find_l1 a0 a1 fuel (0:Int)).bind fun o11=>match o11 with
 | .inl q12 =>
  some q12
 | .inr q13 =>
  some (-1:Int)
def p_ref25_Check_l1 (z5:List MailEntry):Nat→Int→Option (Int ⊕ Int)
 | 0,_=>none
 | n + 1,y6 =>
  bif (decide (y6 < (z5.length:Int))) then
   (at? z5 y6).bind fun x8 =>
   (p_ref25_key x8.Key).bind fun v9 =>
   bif v9 then
    p_ref25_Check_l1 z5 n (w64 (y6 + (1:Int)))
   else
   some (.inl (11:Int))
  else
  some (.inr y6)
def p_ref25_Check_l2 (z17:List MailEntry):Nat→Int→Option (Int ⊕ Int)
 | 0,_=>none
 | n + 1,y18 =>
  bif (decide (y18 < (z17.length:Int))) then
   (at? z17 y18).bind fun x20 =>
   (p_ref23_Check x20.P).bind fun v21 =>
   bif (v21 != (0:Int)) then
    (at? z17 y18).bind fun x23 =>
    (p_ref23_Check x23.P).bind fun v24 =>
    some (.inl v24)
   else
   p_ref25_Check_l2 z17 n (w64 (y18 + (1:Int)))
  else
  some (.inr y18)
def p_ref25_Check_l3 (z31:List MailEntry):Nat→Int→Option (Int ⊕ Int)
 | 0,_=>none
 | n + 1,y32 =>
  bif (decide (y32 < (z31.length:Int))) then
   bif (decide ((0:Int) < y32)) then
    (at? z31 (w64 (y32 - (1:Int)))).bind fun x35 =>
    bif x35.P.On then
     (at? z31 y32).bind fun x37 =>
     bif x37.P.On then
      (at? z31 y32).bind fun x39 =>
      (p_ref25_Find z31 x39.Key).bind fun v40 =>
      bif (v40 != y32) then
       some (.inl (10:Int))
      else
      p_ref25_Check_l3 z31 n (w64 (y32 + (1:Int)))
     else
     some (.inl (10:Int))
    else
    (at? z31 y32).bind fun x42 =>
    (p_ref25_Find z31 x42.Key).bind fun v43 =>
    bif (v43 != y32) then
     some (.inl (10:Int))
    else
    p_ref25_Check_l3 z31 n (w64 (y32 + (1:Int)))
   else
   (at? z31 y32).bind fun x45 =>
   (p_ref25_Find z31 x45.Key).bind fun v46 =>
   bif (v46 != y32) then
    some (.inl (10:Int))
   else
   p_ref25_Check_l3 z31 n (w64 (y32 + (1:Int)))
  else
  some (.inr y32)
def p_ref25_Check (a0:List MailEntry):Option (Int) :=
 bif (decide ((16:Int) < (a0.length:Int))) then
  some (5:Int)
 else
 (p_ref25_Check_l1 a0 fuel (0:Int)).bind fun o11=>match o11 with
 | .inl q12 =>
  some q12
 | .inr q13 =>
  (p_ref25_Check_l2 a0 fuel (0:Int)).bind fun o25=>match o25 with
  | .inl q26 =>
   some q26
  | .inr q27 =>
   (p_ref25_Check_l3 a0 fuel (0:Int)).bind fun o48=>match o48 with
   | .inl q49 =>
    some q49
   | .inr q50 =>
    some (0:Int)
def p_ref26_Check (a0:SnapState):Option (Int) :=
 bif a0.On then
  bif a0.Begun then
   bif (decide (a0.Told < (0:Int))) then
    some (8:Int)
   else
   bif (decide ((1099511627776:Int) < a0.Told)) then
    some (8:Int)
   else
   some (0:Int)
  else
  bif (a0.After.toList == (⟨#[]⟩ : ByteArray).toList) then
   bif (a0.Told != (0:Int)) then
    some (4:Int)
   else
   bif (decide (a0.Told < (0:Int))) then
    some (8:Int)
   else
   bif (decide ((1099511627776:Int) < a0.Told)) then
    some (8:Int)
   else
   some (0:Int)
  else
  some (4:Int)
 else
 bif ((a0.On == false) && ((a0.Begun == false) && ((a0.After.toList == (⟨#[]⟩ : ByteArray).toList) && ((a0.Told == (0:Int)) && true)))) then
  bif a0.Begun then
   bif (decide (a0.Told < (0:Int))) then
    some (8:Int)
   else
   bif (decide ((1099511627776:Int) < a0.Told)) then
    some (8:Int)
   else
   some (0:Int)
  else
  bif (a0.After.toList == (⟨#[]⟩ : ByteArray).toList) then
   bif (a0.Told != (0:Int)) then
    some (4:Int)
   else
   bif (decide (a0.Told < (0:Int))) then
    some (8:Int)
   else
   bif (decide ((1099511627776:Int) < a0.Told)) then
    some (8:Int)
   else
   some (0:Int)
  else
  some (4:Int)
 else
 some (4:Int)
def p_ref27_Check (a0:Ref27State):Option (Int) :=
 (p_ref25_Check a0.Mail).bind fun v1 =>
 bif (v1 != (0:Int)) then
  (p_ref25_Check a0.Mail).bind fun v3 =>
  some v3
 else
 (p_ref26_Check a0.Snap).bind fun v4 =>
 bif (v4 != (0:Int)) then
  (p_ref26_Check a0.Snap).bind fun v6 =>
  some v6
 else
 bif (decide (a0.Sent < (0:Int))) then
  some (8:Int)
 else
 bif (decide ((1099511627776:Int) < a0.Sent)) then
  some (8:Int)
 else
 bif (decide (a0.Lost < (0:Int))) then
  some (8:Int)
 else
 bif (decide ((1099511627776:Int) < a0.Lost)) then
  some (8:Int)
 else
 some (0:Int)
def p_ref26_Covers (a0:SnapState) (a1:ByteArray):Option (Bool) :=
 bif a0.On then
  bif a0.Begun then
   some (!(Op.bytesLess a1.toList a0.After.toList || a1.toList == a0.After.toList))
  else
  some true
 else
 some false
def p_ref23_Newer (a0:PresPres) (a1:PresPres):Option (Bool) :=
 some (decide (a1.Seq < a0.Seq))
def p_ref25_kind_l1 (z7:List MailEntry) (z8:Bool) (z9:ByteArray):Nat→(List MailEntry)→Int→Option (((List MailEntry) × Int))
 | 0,_,_=>none
 | n + 1,y10,y11 =>
  bif (decide (y11 < (z7.length:Int))) then
   (at? z7 y11).bind fun x13 =>
   bif (x13.P.On == z8) then
    (at? z7 y11).bind fun x15 =>
    bif (x15.Key.toList == z9.toList) then
     p_ref25_kind_l1 z7 z8 z9 n y10 (w64 (y11 + (1:Int)))
    else
    (at? z7 y11).bind fun x17 =>
    (app? y10 [x17]).bind fun l18 =>
    p_ref25_kind_l1 z7 z8 z9 n l18 (w64 (y11 + (1:Int)))
   else
   p_ref25_kind_l1 z7 z8 z9 n y10 (w64 (y11 + (1:Int)))
  else
  some (y10,y11)
def p_ref25_kind (a0:List MailEntry) (a1:Bool) (a2:ByteArray):Option ((List MailEntry)) :=
 (p_ref25_kind_l1 a0 a1 a2 fuel [] (0:Int)).bind fun q20 =>
 some q20.1
def p_ref25_Put (a0:List MailEntry) (a1:ByteArray) (a2:PresPres):Option ((List MailEntry) × Int) :=
 (p_ref25_Check a0).bind fun v1 =>
 bif (v1 != (0:Int)) then
  (p_ref25_Check a0).bind fun v3 =>
  some (a0,v3)
 else
 (p_ref25_key a1).bind fun v4 =>
 bif v4 then
  (p_ref23_Check a2).bind fun v6 =>
  bif (v6 != (0:Int)) then
   (p_ref23_Check a2).bind fun v8 =>
   some (a0,v8)
  else
  (p_ref25_Find a0 a1).bind fun v9 =>
  bif (decide ((0:Int)≤v9)) then
   (at? a0 v9).bind fun x11 =>
   (p_ref23_Newer a2 x11.P).bind fun v12 =>
   bif v12 then
    (at? a0 v9).bind fun x14 =>
    bif (x14.P.On == a2.On) then
     (app? ([]:List MailEntry) a0).bind fun l16 =>
     (at? l16 v9).bind fun x17 =>
     some ((List.set l16 (Int.toNat v9) (MailEntry.mk x17.Key a2)),(0:Int))
    else
    bif (decide (v9 < (0:Int))) then
     bif (decide ((16:Int)≤(a0.length:Int))) then
      some (a0,(7:Int))
     else
     (p_ref25_kind a0 false a1).bind fun l21 =>
     (p_ref25_kind a0 true a1).bind fun l22 =>
     bif a2.On then
      (app? l22 [(MailEntry.mk a1 a2)]).bind fun l24 =>
      (app? l21 l24).bind fun l25 =>
      some (l25,(0:Int))
     else
     (app? l21 [(MailEntry.mk a1 a2)]).bind fun l26 =>
     (app? l26 l22).bind fun l27 =>
     some (l27,(0:Int))
    else
    (p_ref25_kind a0 false a1).bind fun l28 =>
    (p_ref25_kind a0 true a1).bind fun l29 =>
    bif a2.On then
     (app? l29 [(MailEntry.mk a1 a2)]).bind fun l31 =>
     (app? l28 l31).bind fun l32 =>
     some (l32,(0:Int))
    else
    (app? l28 [(MailEntry.mk a1 a2)]).bind fun l33 =>
    (app? l33 l29).bind fun l34 =>
    some (l34,(0:Int))
   else
   some (a0,(0:Int))
  else
  bif (decide (v9 < (0:Int))) then
   bif (decide ((16:Int)≤(a0.length:Int))) then
    some (a0,(7:Int))
   else
   (p_ref25_kind a0 false a1).bind fun l37 =>
   (p_ref25_kind a0 true a1).bind fun l38 =>
   bif a2.On then
    (app? l38 [(MailEntry.mk a1 a2)]).bind fun l40 =>
    (app? l37 l40).bind fun l41 =>
    some (l41,(0:Int))
   else
   (app? l37 [(MailEntry.mk a1 a2)]).bind fun l42 =>
   (app? l42 l38).bind fun l43 =>
   some (l43,(0:Int))
  else
  (p_ref25_kind a0 false a1).bind fun l44 =>
  (p_ref25_kind a0 true a1).bind fun l45 =>
  bif a2.On then
   (app? l45 [(MailEntry.mk a1 a2)]).bind fun l47 =>
   (app? l44 l47).bind fun l48 =>
   some (l48,(0:Int))
  else
  (app? l44 [(MailEntry.mk a1 a2)]).bind fun l49 =>
  (app? l49 l45).bind fun l50 =>
  some (l50,(0:Int))
 else
 some (a0,(11:Int))
end Go.Proofs.YthnihifblmnkdaaGreat

namespace Go.Proofs.YthnihifblmnkdaaGreat
open Go.RowKit
def p_law27_who (a0:Int):Option (ByteArray) :=
 (text? [IntKind.wrap .u8 ((97:Int) + (Int.tmod a0 (20:Int)))]).bind fun s1 =>
 (cat? s1 (⟨#[64,120]⟩ : ByteArray)).bind fun s2 =>
 some s2
end Go.Proofs.YthnihifblmnkdaaGreat

namespace Go.Proofs.YthnihifblmnkdaaGreat
open Go.RowKit
section
variable {cs cs' p l m l' : List V} {q : Nat}
theorem lm_len {α:Type} {f:α→V} {es n:Nat} (hes:∀ a,(f a).cells.length=es) {l:List α} (h:n=List.length l):(cellsM f l).length=n * es:=by rw [cellsM_len hes,h]
theorem el_lt {α:Type} {seg:List α} {n es oo z:Nat} {x:α} (hx:seg[n]?=some x) (hz:oo + z≤es):n * es + (oo + z)≤seg.length * es:=by
 have h1:=(List.getElem?_eq_some_iff.1 hx).1
 have h2:(n + 1) * es≤seg.length * es:=Nat.mul_le_mul_right es h1
 rw [Nat.succ_mul] at h2;omega
theorem ldmo_c {α:Type} {f:α→V} {seg:List α} {n es sz:Nat} {ag:Bool} {x:α} {k:V→Prop} (hc:cs=p++cellsM f seg++m) (hx:seg[n]?=some x) (hes:∀ a,(f a).cells.length=es) (oo:Nat) (hp:q=p.length + (n * es + oo)) (hs:oo < es∧oo + agz ag sz≤es) (h:ldK (f x).cells oo sz ag k):ldK cs q sz ag k:=by
 subst hc hp
 refine ldK_app ?_ (ldo_c hx hes oo rfl hs h)
 have h1:=el_lt (z:=1) hx (show oo + 1≤es from hs.1)
 have h2:=el_lt hx hs.2
 rw [cellsM_len hes]
 omega
theorem stmo_c {α:Type} {f:α→V} {seg:List α} {n es:Nat} {vs:List V} {x:α} {k:List V→Prop} (hc:cs=p++cellsM f seg++m) (hx:seg[n]?=some x) {x' : α} (hes:∀ a,(f a).cells.length=es) (oo:Nat) (hp:q=p.length + (n * es + oo)) (hs:oo + vs.length≤es) (h' : layK (f x).cells oo vs fun cs=>cs=(f x').cells)
  (hk:p++cellsM f (seg.set n x')++m=cs') (hK:k cs'):layK cs q vs k:=by
 subst hc hp
 refine layK_app (sto_c hx hes oo rfl hs h' (by rw [hk];exact hK)) ?_
 have h2:=el_lt hx hs
 rw [cellsM_len hes];omega
theorem ldm1_c {c:V} {sz:Nat} {k:V→Prop} (hc:cs=p++[c]++m) (hp:q=p.length) (h:k c):ldK cs q sz false k:=by
 subst hc hp
 exact ldK_app (l:=[c]) (o:=0) ⟨by simp,by simp [agz]⟩ h
theorem stm1_c {c c' : V} {k:List V→Prop} (hc:cs=p++[c]++m) (hp:q=p.length) (hk:p++[c']++m=cs') (hK:k cs'):layK cs q [c'] k:=by
 subst hc hp
 refine layK_app (l:=[c]) (o:=0) (layK_of (by simp) ?_) (by simp)
 show k (p++[c']++m)
 rw [hk];exact hK
theorem stmD_c {k:List V→Prop} (hc:cs=p++l++m) (hp:q=p.length) (hl:l'.length=l.length) (hk:p++l'++m=cs') (hK:k cs'):layK cs q l' k:=by
 subst hc hp
 refine layK_app (l:=l) (o:=0) (layK_of (by omega) ?_) (by omega)
 have e:l.take 0++l'++l.drop (0 + l'.length)=l':=by rw [List.take_zero,Nat.zero_add,hl,List.drop_length];simp
 rw [e,hk];exact hK
theorem wkB_nil {n i:Nat} {sg:List Nat} {st:List Slot}:wkB n sg st i []:=trivial
theorem wkB_okN {n i:Nat} {st r:List Slot} {s:Slot} (h0:st[sgm [] i]?=some s) (hs:s.okN n=true) (hd:((List.range r.length).all fun k=>sgm [] i != sgm [] (i + 1 + k))=true) (t:wkB n [] st (i + 1) r):wkB n [] st i (s :: r):=by
 cases s with
 | live cs f=>exact ⟨⟨by rw [renL_nil];exact h0,hs,hd⟩,t⟩
 | fresh=>exact ⟨h0,t⟩
 | dead=>exact t
theorem litL_app {a b:List V} (h1:V.litD.litL a=true) (h2:V.litD.litL b=true):V.litD.litL (a++b)=true:=litL_mem fun v hv=>by
 rcases List.mem_append.1 hv with h | h
 ·exact mem_litL h1 v h
 ·exact mem_litL h2 v h
theorem one_app {a b:List V} (h1:a.all V.one=true) (h2:b.all V.one=true):(a++b).all V.one=true:=by rw [List.all_append,h1,h2];rfl
theorem one_M {α:Type} {f:α→V} (h:∀ a,(f a).cells.all V.one=true) (l:List α):(cellsM f l).all V.one=true:=by
 rw [List.all_eq_true]
 intro v hv
 obtain ⟨a,_,ha⟩:=List.mem_flatMap.1 hv
 exact List.all_eq_true.1 (h a) v ha
theorem fzl_lit {st:List Slot}:∀ {l:List V},V.idlt.belowL 0 l=true→FzL st l l []
 | [],_=>.nil
 | v :: l,h=>by
  rw [V.idlt.belowL,Bool.and_eq_true] at h
  exact .cons (.id h.1) (fzl_lit h.2)
end
end Go.Proofs.YthnihifblmnkdaaGreat

namespace Go.Proofs.YthnihifblmnkdaaGreat
open Go.RowKit
structure Ar3_Int_ where
 a0:Int
 a1:Int
 a2:Int
abbrev Ar3_Int_.v (x:Ar3_Int_):V:=.agg [.y8 x.a0,.y8 x.a1,.y8 x.a2]
structure Law27View where
 has:List PresPres
 anew:Bool
 seen:List Bool
 last:List Int
abbrev Law27View.v (x:Law27View):V:=.agg (cellsM PresPres.v x.has++([.b x.anew]++(cellsM V.b x.seen++(cellsM V.i x.last))))
def p_pres_Of (a0:StanzaStanza):Option (ByteArray × ByteArray × PresPres × Int) :=
 bif (a0.Kind != (34:Int)) then
  bif (a0.Kind != (35:Int)) then
   some ((⟨#[]⟩ : ByteArray),(⟨#[]⟩ : ByteArray),(PresPres.mk false (0:Int) (0:Int) (0:Int)),(12:Int))
  else
  (p_stanza_Check a0).bind fun v3 =>
  bif (v3 != (0:Int)) then
   some ((⟨#[]⟩ : ByteArray),(⟨#[]⟩ : ByteArray),(PresPres.mk false (0:Int) (0:Int) (0:Int)),v3)
  else
  (p_pres_Check (PresPres.mk (a0.Kind == (34:Int)) a0.Show a0.Prio a0.N)).bind fun v5 =>
  bif (v5 != (0:Int)) then
   some ((⟨#[]⟩ : ByteArray),(⟨#[]⟩ : ByteArray),(PresPres.mk false (0:Int) (0:Int) (0:Int)),v5)
  else
  some (a0.User,a0.Res,(PresPres.mk (a0.Kind == (34:Int)) a0.Show a0.Prio a0.N),(0:Int))
 else
 (p_stanza_Check a0).bind fun v7 =>
 bif (v7 != (0:Int)) then
  some ((⟨#[]⟩ : ByteArray),(⟨#[]⟩ : ByteArray),(PresPres.mk false (0:Int) (0:Int) (0:Int)),v7)
 else
 (p_pres_Check (PresPres.mk (a0.Kind == (34:Int)) a0.Show a0.Prio a0.N)).bind fun v9 =>
 bif (v9 != (0:Int)) then
  some ((⟨#[]⟩ : ByteArray),(⟨#[]⟩ : ByteArray),(PresPres.mk false (0:Int) (0:Int) (0:Int)),v9)
 else
 some (a0.User,a0.Res,(PresPres.mk (a0.Kind == (34:Int)) a0.Show a0.Prio a0.N),(0:Int))
def p_law27_view_tell_l1:Nat→Int→Law27View→Option ((Int × Law27View))
 | 0,_,_=>none
 | n + 1,y9,y10 =>
  bif (decide (y9 < (20:Int))) then
   (lenG? 20 y10.has).bind fun _ =>
   bif y10.anew then
    (arr? 20 y10.seen y9).bind fun x15 =>
    bif x15 then
     p_law27_view_tell_l1 n (w64 (y9 + (1:Int))) y10
    else
    (arr? 20 y10.has y9).bind fun x18 =>
    p_law27_view_tell_l1 n (w64 (y9 + (1:Int))) (Law27View.mk (List.set y10.has (Int.toNat y9) (PresPres.mk false (0:Int) (0:Int) (0:Int))) y10.anew y10.seen y10.last)
   else
   p_law27_view_tell_l1 n (w64 (y9 + (1:Int))) y10
  else
  some (y9,y10)
def p_law27_view_tell (a0:Law27View) (a1:StanzaStanza):Option (Law27View × Bool) :=
 bif (a1.Kind == (36:Int)) then
  (lenG? 20 a0.has).bind fun _ =>
  (lenG? 20 a0.seen).bind fun _ =>
  some ((Law27View.mk a0.has true (List.replicate 20 false) a0.last),true)
 else
 bif (a1.Kind == (37:Int)) then
  (p_law27_view_tell_l1 fuel (0:Int) a0).bind fun q21 =>
  (lenG? 20 q21.2.has).bind fun _ =>
  some ((Law27View.mk q21.2.has false q21.2.seen q21.2.last),true)
 else
 (p_pres_Of a1).bind fun v23 =>
 bif (v23.2.2.2 != (0:Int)) then
  some (a0,false)
 else
 bif (v23.1.toList == (⟨#[]⟩ : ByteArray).toList) then
  some (a0,false)
 else
 (byte? v23.1 (0:Int)).bind fun c26 =>
 (arr? 20 a0.last (Int.tmod (w64 (IntKind.wrap .u8 (c26 - (97:Int)))) (20:Int))).bind fun x27 =>
 (lenG? 20 a0.has).bind fun _ =>
 (lenG? 20 a0.seen).bind fun _ =>
 bif (decide (v23.2.2.1.Seq < x27)) then
  some (a0,false)
 else
 (arr? 20 a0.last (Int.tmod (w64 (IntKind.wrap .u8 (c26 - (97:Int)))) (20:Int))).bind fun x32 =>
 bif (v23.2.2.1.Seq == x32) then
  bif a0.anew then
   (arr? 20 a0.last (Int.tmod (w64 (IntKind.wrap .u8 (c26 - (97:Int)))) (20:Int))).bind fun x36 =>
   (arr? 20 a0.seen (Int.tmod (w64 (IntKind.wrap .u8 (c26 - (97:Int)))) (20:Int))).bind fun x38 =>
   bif v23.2.2.1.On then
    (arr? 20 a0.has (Int.tmod (w64 (IntKind.wrap .u8 (c26 - (97:Int)))) (20:Int))).bind fun x41 =>
    some ((Law27View.mk (List.set a0.has (Int.toNat (Int.tmod (w64 (IntKind.wrap .u8 (c26 - (97:Int)))) (20:Int))) v23.2.2.1) a0.anew (List.set a0.seen (Int.toNat (Int.tmod (w64 (IntKind.wrap .u8 (c26 - (97:Int)))) (20:Int))) true) (List.set a0.last (Int.toNat (Int.tmod (w64 (IntKind.wrap .u8 (c26 - (97:Int)))) (20:Int))) v23.2.2.1.Seq)),true)
   else
   (arr? 20 a0.has (Int.tmod (w64 (IntKind.wrap .u8 (c26 - (97:Int)))) (20:Int))).bind fun x43 =>
   some ((Law27View.mk (List.set a0.has (Int.toNat (Int.tmod (w64 (IntKind.wrap .u8 (c26 - (97:Int)))) (20:Int))) (PresPres.mk false (0:Int) (0:Int) (0:Int))) a0.anew (List.set a0.seen (Int.toNat (Int.tmod (w64 (IntKind.wrap .u8 (c26 - (97:Int)))) (20:Int))) true) (List.set a0.last (Int.toNat (Int.tmod (w64 (IntKind.wrap .u8 (c26 - (97:Int)))) (20:Int))) v23.2.2.1.Seq)),true)
  else
  some (a0,false)
 else
 (arr? 20 a0.last (Int.tmod (w64 (IntKind.wrap .u8 (c26 - (97:Int)))) (20:Int))).bind fun x45 =>
 (arr? 20 a0.seen (Int.tmod (w64 (IntKind.wrap .u8 (c26 - (97:Int)))) (20:Int))).bind fun x47 =>
 bif v23.2.2.1.On then
  (arr? 20 a0.has (Int.tmod (w64 (IntKind.wrap .u8 (c26 - (97:Int)))) (20:Int))).bind fun x50 =>
  some ((Law27View.mk (List.set a0.has (Int.toNat (Int.tmod (w64 (IntKind.wrap .u8 (c26 - (97:Int)))) (20:Int))) v23.2.2.1) a0.anew (List.set a0.seen (Int.toNat (Int.tmod (w64 (IntKind.wrap .u8 (c26 - (97:Int)))) (20:Int))) true) (List.set a0.last (Int.toNat (Int.tmod (w64 (IntKind.wrap .u8 (c26 - (97:Int)))) (20:Int))) v23.2.2.1.Seq)),true)
 else
 (arr? 20 a0.has (Int.tmod (w64 (IntKind.wrap .u8 (c26 - (97:Int)))) (20:Int))).bind fun x52 =>
 some ((Law27View.mk (List.set a0.has (Int.toNat (Int.tmod (w64 (IntKind.wrap .u8 (c26 - (97:Int)))) (20:Int))) (PresPres.mk false (0:Int) (0:Int) (0:Int))) a0.anew (List.set a0.seen (Int.toNat (Int.tmod (w64 (IntKind.wrap .u8 (c26 - (97:Int)))) (20:Int))) true) (List.set a0.last (Int.toNat (Int.tmod (w64 (IntKind.wrap .u8 (c26 - (97:Int)))) (20:Int))) v23.2.2.1.Seq)),true)
def p_law27_OutqView_l1 (z10:Ar3_Int_):Nat→Int→SnapEyes→Option ((Int × SnapEyes))
 | 0,_,_=>none
 | n + 1,y9,y11 =>
  bif (decide (y9 < (20:Int))) then
   (arr? 3 [z10.a0,z10.a1,z10.a2] (w64 (Int.tdiv y9 (8:Int)))).bind fun x13 =>
   (pos? (Int.tmod y9 (8:Int))).bind fun x15 =>
   bif ((andI .u8 (shrI .u8 x13 (Int.tmod y9 (8:Int))) (1:Int)) == (1:Int)) then
    (p_law27_who (IntKind.wrap .u8 y9)).bind fun v17 =>
    (app? y11.Users [v17]).bind fun l18 =>
    p_law27_OutqView_l1 z10 n (w64 (y9 + (1:Int))) (SnapEyes.mk l18 y11.Keys)
   else
   p_law27_OutqView_l1 z10 n (w64 (y9 + (1:Int))) y11
  else
  some (y9,y11)
def p_law27_OutqView_l3 (z71:List StanzaStanza):Nat→Int→Law27View→Option (Bool ⊕ (Int × Law27View))
 | 0,_,_=>none
 | n + 1,y72,y76 =>
  bif (decide (y72 < (z71.length:Int))) then
   (at? z71 y72).bind fun x79 =>
   (p_law27_view_tell y76 x79).bind fun v80 =>
   bif v80.2 then
    p_law27_OutqView_l3 z71 n (w64 (y72 + (1:Int))) v80.1
   else
   some (.inl false)
  else
  some (.inr (y72,y76))
def p_law27_OutqView_l2 (z29:List Law27Deed) (z31:SnapEyes):Nat→Int→BookState→Law27View→Ref27State→Option (Bool ⊕ (Int × BookState × Law27View × Ref27State))
 | 0,_,_,_,_=>none
 | n + 1,y30,y32,y33,y34 =>
  bif (decide (y30 < (z29.length:Int))) then
   (at? z29 y30).bind fun x36 =>
   (p_law27_who x36.Who).bind fun v37 =>
   ((
    (at? z29 y30).bind fun x38 =>
    bif x38.Off then
     (p_book_Off y32 v37 (⟨#[]⟩ : ByteArray)).bind fun v40 =>
     some (v40.2.2,v40.2.1,v40.1)
    else
    (at? z29 y30).bind fun x41 =>
    (p_book_Set y32 v37 (⟨#[]⟩ : ByteArray) (w64 (Int.tmod x41.Show (5:Int))) (0:Int)).bind fun v42 =>
    some (v42.2.2,v42.2.1,v42.1)):Option ((Int × PresPres × BookState))).bind fun q44 =>
   ((
    bif (q44.1 == (0:Int)) then
     (p_snap_Sees z31 (BookRow.mk v37 (⟨#[]⟩ : ByteArray) q44.2.1)).bind fun v46 =>
     bif v46 then
      (p_pres_Key v37 (⟨#[]⟩ : ByteArray)).bind fun v48 =>
      (p_outq_Add y34 v48 q44.2.1).bind fun v49 =>
      some v49
     else
     some y34
    else
    some y34):Option (Ref27State)).bind fun q51 =>
   ((
    (at? z29 y30).bind fun x52 =>
    bif x52.Anew then
     (p_outq_Begin q51).bind fun v54 =>
     some v54
    else
    some q51):Option (Ref27State)).bind fun q56 =>
   (at? z29 y30).bind fun x57 =>
   (p_outq_Flush q56 z31 q44.2.2 (w64 (Int.tmod x57.Tell (8:Int)))).bind fun v58 =>
   (p_law27_OutqView_l3 v58.2 fuel (0:Int) y33).bind fun o82=>match o82 with
   | .inl q83 =>
    some (.inl q83)
   | .inr q84 =>
    (p_outq_Check v58.1).bind fun v85 =>
    bif (v85 != (0:Int)) then
     some (.inl false)
    else
    bif (v58.1.Sent != w64 (q56.Sent + (v58.2.length:Int))) then
     some (.inl false)
    else
    p_law27_OutqView_l2 z29 z31 n (w64 (y30 + (1:Int))) q44.2.2 q84.2 v58.1
  else
  some (.inr (y30,y32,y33,y34))
def p_law27_OutqView_l4 (z99:List StanzaStanza):Nat→Int→Law27View→Option (Bool ⊕ (Int × Law27View))
 | 0,_,_=>none
 | n + 1,y100,y104 =>
  bif (decide (y100 < (z99.length:Int))) then
   (at? z99 y100).bind fun x106 =>
   (p_law27_view_tell y104 x106).bind fun v107 =>
   bif v107.2 then
    p_law27_OutqView_l4 z99 n (w64 (y100 + (1:Int))) v107.1
   else
   some (.inl false)
  else
  some (.inr (y100,y104))
def p_law27_OutqView_l5 (z120:SnapEyes) (z121:BookState) (z122:Law27View):Nat→Int→Option (Bool ⊕ Int)
 | 0,_=>none
 | n + 1,y119 =>
  bif (decide (y119 < (20:Int))) then
   (p_law27_who (IntKind.wrap .u8 y119)).bind fun v124 =>
   (p_book_Get z121 v124 (⟨#[]⟩ : ByteArray)).bind fun v125 =>
   (p_law27_who (IntKind.wrap .u8 y119)).bind fun v126 =>
   (p_snap_Sees z120 (BookRow.mk v126 (⟨#[]⟩ : ByteArray) (PresPres.mk false (0:Int) (0:Int) (0:Int)))).bind fun v127 =>
   bif v127 then
    (arr? 20 z122.has y119).bind fun x129 =>
    bif ((x129.On == v125.1.On) && ((x129.Show == v125.1.Show) && ((x129.Prio == v125.1.Prio) && ((x129.Seq == v125.1.Seq) && true)))) then
     p_law27_OutqView_l5 z120 z121 z122 n (w64 (y119 + (1:Int)))
    else
    some (.inl false)
   else
   (arr? 20 z122.has y119).bind fun x132 =>
   bif ((x132.On == false) && ((x132.Show == (0:Int)) && ((x132.Prio == (0:Int)) && ((x132.Seq == (0:Int)) && true)))) then
    p_law27_OutqView_l5 z120 z121 z122 n (w64 (y119 + (1:Int)))
   else
   some (.inl false)
  else
  some (.inr y119)
def p_law27_OutqView (a0:List Law27Deed) (a1:Ar3_Int_):Option (Bool) :=
 bif (decide ((80:Int) < (a0.length:Int))) then
  (p_law27_awake).bind fun v2 =>
  some v2
 else
 (p_law27_OutqView_l1 a1 fuel (0:Int) (SnapEyes.mk [] [])).bind fun q20 =>
 (p_outq_Begin (Ref27State.mk [] (SnapState.mk false false (⟨#[]⟩ : ByteArray) (0:Int)) (0:Int) (0:Int))).bind fun v21 =>
 (p_law27_OutqView_l2 a0 q20.2 fuel (0:Int) (BookState.mk (0:Int) []) (Law27View.mk (List.replicate 20 (PresPres.mk false (0:Int) (0:Int) (0:Int))) false (List.replicate 20 false) (List.replicate 20 (0:Int))) v21).bind fun o88=>match o88 with
 | .inl q89 =>
  some q89
 | .inr q90 =>
  (p_outq_Flush q90.2.2.2 q20.2 q90.2.1 (60:Int)).bind fun v91 =>
  (p_law27_OutqView_l4 v91.2 fuel (0:Int) q90.2.2.1).bind fun o109=>match o109 with
  | .inl q110 =>
   some q110
  | .inr q111 =>
   (p_outq_Wants v91.1).bind fun v112 =>
   bif v112 then
    some false
   else
   (p_law27_OutqView_l5 q20.2 q90.2.1 q111.2 fuel (0:Int)).bind fun o135=>match o135 with
   | .inl q136 =>
    some q136
   | .inr q137 =>
    (p_law27_awake).bind fun v138 =>
    some v138
end Go.Proofs.YthnihifblmnkdaaGreat

namespace Go.Proofs.YthnihifblmnkdaaGreat
open Go.ChangeShapes Go.WideShapes Go.ChangeAt Go.RowKit Go.Joins Go.Deep
structure Law27Deed.Wf (x:Law27Deed):Prop where
 Who:(Lit.int .u8 x.Who).wf=true
 Show:(Lit.int .u8 x.Show).wf=true
 Tell:(Lit.int .u8 x.Tell).wf=true
set_option maxRecDepth 100000 in
theorem rd_T64 {H:Type} {enc:TypeId × Value→H} {W:World} {spare:Nat→Bool} {held:Bool} {fuel:Nat} {cs:List Value} {y:DataW H × List MemPlace} (h:DataW.trod enc Tryz.prog W 0 spare held fuel 64 cs=some y):∃ x:Law27Deed,Law27Deed.Wf x∧RepL (MW W) noBk cs [.y8 x.Who,.y8 x.Show,.b x.Off,.y8 x.Tell,.b x.Anew]:=by
 obtain ⟨xs,n,_,_,hl,hx,hall⟩:=DataW.trod_struct Tryz.underlying64 h
 have hce:Tryz.prog.cellsOf 64=5:=by kernel_rfl
 rw [hce] at hl
 match cs,hl,hall with
 | [c0,c1,c2,c3,c4],_,hall =>
  obtain ⟨y0,hy0⟩:=get_some hx (show 0 < 5 by omega)
  have g0:DataW.trod enc Tryz.prog W 0 spare held n 5 [c0]=some y0:=by
   have hz:Tryz.prog.cellsOf 5=1:=by kernel_rfl
   have g:DataW.trod enc Tryz.prog W 0 spare held n 5 (([c0,c1,c2,c3,c4].drop 0).take (Tryz.prog.cellsOf 5))=some y0:=(hall 0 _ rfl).trans hy0
   rw [hz] at g;exact g
  obtain ⟨x0,w0,r0⟩:=rd_int Tryz.underlying5 g0
  obtain ⟨y1,hy1⟩:=get_some hx (show 1 < 5 by omega)
  have g1:DataW.trod enc Tryz.prog W 0 spare held n 5 [c1]=some y1:=by
   have hz:Tryz.prog.cellsOf 5=1:=by kernel_rfl
   have g:DataW.trod enc Tryz.prog W 0 spare held n 5 (([c0,c1,c2,c3,c4].drop 1).take (Tryz.prog.cellsOf 5))=some y1:=(hall 1 _ rfl).trans hy1
   rw [hz] at g;exact g
  obtain ⟨x1,w1,r1⟩:=rd_int Tryz.underlying5 g1
  obtain ⟨y2,hy2⟩:=get_some hx (show 2 < 5 by omega)
  have g2:DataW.trod enc Tryz.prog W 0 spare held n 4 [c2]=some y2:=by
   have hz:Tryz.prog.cellsOf 4=1:=by kernel_rfl
   have g:DataW.trod enc Tryz.prog W 0 spare held n 4 (([c0,c1,c2,c3,c4].drop 2).take (Tryz.prog.cellsOf 4))=some y2:=(hall 2 _ rfl).trans hy2
   rw [hz] at g;exact g
  obtain ⟨x2,r2⟩:=rd_bool Tryz.underlying4 g2
  obtain ⟨y3,hy3⟩:=get_some hx (show 3 < 5 by omega)
  have g3:DataW.trod enc Tryz.prog W 0 spare held n 5 [c3]=some y3:=by
   have hz:Tryz.prog.cellsOf 5=1:=by kernel_rfl
   have g:DataW.trod enc Tryz.prog W 0 spare held n 5 (([c0,c1,c2,c3,c4].drop 3).take (Tryz.prog.cellsOf 5))=some y3:=(hall 3 _ rfl).trans hy3
   rw [hz] at g;exact g
  obtain ⟨x3,w3,r3⟩:=rd_int Tryz.underlying5 g3
  obtain ⟨y4,hy4⟩:=get_some hx (show 4 < 5 by omega)
  have g4:DataW.trod enc Tryz.prog W 0 spare held n 4 [c4]=some y4:=by
   have hz:Tryz.prog.cellsOf 4=1:=by kernel_rfl
   have g:DataW.trod enc Tryz.prog W 0 spare held n 4 (([c0,c1,c2,c3,c4].drop 4).take (Tryz.prog.cellsOf 4))=some y4:=(hall 4 _ rfl).trans hy4
   rw [hz] at g;exact g
  obtain ⟨x4,r4⟩:=rd_bool Tryz.underlying4 g4
  exact ⟨⟨x0,x1,x2,x3,x4⟩,⟨w0,w1,w3⟩,repL_app r0 (repL_app r1 (repL_app r2 (repL_app r3 (repL_app r4 (repL_nil)))))⟩
theorem rd_T55 {H:Type} {enc:TypeId × Value→H} {W:World} {spare:Nat→Bool} {held:Bool} {fuel:Nat} {cs:List Value} {y:DataW H × List MemPlace} (h:DataW.trod enc Tryz.prog W 0 spare held fuel 55 cs=some y):∃ x:List Law27Deed,(∀ z ∈ x,Law27Deed.Wf z)∧RepL (MW W) noBk cs [(fun l:List Law27Deed=>V.sl (l.map Law27Deed.v) false) x] :=
 rd_slice (f:=Law27Deed.v) (es:=5) (wf:=Law27Deed.Wf) Tryz.underlying55 (fun _=>rfl) (by intro a v hv;simp [V.cells] at hv;first | (subst hv;rfl) | (rcases hv with rfl | rfl | rfl | rfl | rfl <;> rfl)) (by omega) (by kernel_rfl) (fun n cs y h=>rd_T64 h) h
structure Ar3_Int_.Wf (x:Ar3_Int_):Prop where
 a0:(Lit.int .u8 x.a0).wf=true
 a1:(Lit.int .u8 x.a1).wf=true
 a2:(Lit.int .u8 x.a2).wf=true
set_option maxRecDepth 100000 in
theorem rd_T75 {H:Type} {enc:TypeId × Value→H} {W:World} {spare:Nat→Bool} {held:Bool} {fuel:Nat} {cs:List Value} {y:DataW H × List MemPlace} (h:DataW.trod enc Tryz.prog W 0 spare held fuel 75 cs=some y):∃ x:Ar3_Int_,Ar3_Int_.Wf x∧RepL (MW W) noBk cs [.y8 x.a0,.y8 x.a1,.y8 x.a2]:=by
 obtain ⟨xs,n,_,_,hl,hx,hall⟩:=DataW.trod_array Tryz.underlying75 h
 have hce:Tryz.prog.cellsOf 75=3:=by kernel_rfl
 rw [hce] at hl
 match cs,hl,hall with
 | [c0,c1,c2],_,hall =>
  obtain ⟨y0,hy0⟩:=get_some hx (show 0 < 3 by omega)
  have g0:DataW.trod enc Tryz.prog W 0 spare held n 5 [c0]=some y0:=by
   have hz:Tryz.prog.cellsOf 5=1:=by kernel_rfl
   have g:DataW.trod enc Tryz.prog W 0 spare held n 5 (([c0,c1,c2].drop (0 * Tryz.prog.cellsOf 5)).take (Tryz.prog.cellsOf 5))=some y0:=(hall 0 (by omega)).trans hy0
   rw [hz] at g;exact g
  obtain ⟨x0,w0,r0⟩:=rd_int Tryz.underlying5 g0
  obtain ⟨y1,hy1⟩:=get_some hx (show 1 < 3 by omega)
  have g1:DataW.trod enc Tryz.prog W 0 spare held n 5 [c1]=some y1:=by
   have hz:Tryz.prog.cellsOf 5=1:=by kernel_rfl
   have g:DataW.trod enc Tryz.prog W 0 spare held n 5 (([c0,c1,c2].drop (1 * Tryz.prog.cellsOf 5)).take (Tryz.prog.cellsOf 5))=some y1:=(hall 1 (by omega)).trans hy1
   rw [hz] at g;exact g
  obtain ⟨x1,w1,r1⟩:=rd_int Tryz.underlying5 g1
  obtain ⟨y2,hy2⟩:=get_some hx (show 2 < 3 by omega)
  have g2:DataW.trod enc Tryz.prog W 0 spare held n 5 [c2]=some y2:=by
   have hz:Tryz.prog.cellsOf 5=1:=by kernel_rfl
   have g:DataW.trod enc Tryz.prog W 0 spare held n 5 (([c0,c1,c2].drop (2 * Tryz.prog.cellsOf 5)).take (Tryz.prog.cellsOf 5))=some y2:=(hall 2 (by omega)).trans hy2
   rw [hz] at g;exact g
  obtain ⟨x2,w2,r2⟩:=rd_int Tryz.underlying5 g2
  exact ⟨⟨x0,x1,x2⟩,⟨w0,w1,w2⟩,repL_app r0 (repL_app r1 (repL_app r2 (repL_nil)))⟩
end Go.Proofs.YthnihifblmnkdaaGreat

namespace Go.Proofs.YthnihifblmnkdaaGreat
open Go.RowKit
def presCheckL (p:PresPres):Int :=
 if p.Show < 0∨4 < p.Show∨p.Prio < -128∨127 < p.Prio∨p.Seq < 0∨1099511627776 < p.Seq then 8
 else if p.On=false∧(p.Show≠0∨p.Prio≠0) then 4 else 0
def namedL (u r:ByteArray):Bool:=decide (resL r.data.toList=0) && isBareL u.data.toList
def keyL (u r:ByteArray):ByteArray:=if namedL u r=true then u++⟨#[32]⟩++r else ⟨#[]⟩
theorem cat_sz (u r:ByteArray) (hu:u.size≤100000) (hr:r.size≤100000):u.size + (⟨#[32]⟩ : ByteArray).size≤4611686018427387904∧(u++(⟨#[32]⟩ : ByteArray)).size + r.size≤4611686018427387904:=by
 rw [ByteArray.size_append]
 have:(⟨#[32]⟩ : ByteArray).size=1:=rfl
 omega
instance:Inhabited BookRow:=⟨⟨⟨#[]⟩,⟨#[]⟩,⟨false,0,0,0⟩⟩⟩
instance:Inhabited PresPres:=⟨⟨false,0,0,0⟩⟩
def keyR (r:BookRow):ByteArray:=keyL r.User r.Res
def smallR (r:BookRow):Prop:=r.User.size≤100000∧r.Res.size≤100000
def manyL (rows:List BookRow) (u:ByteArray):Nat:=rows.countP fun r=>r.User.toList == u.toList
def errL:List BookRow→Int
 | []=>0
 | r :: l=>if presCheckL r.P≠0 then presCheckL r.P else if r.P.On=false then 4 else errL l
theorem err_at (rows:List BookRow) (k:Nat) (h:k < rows.length):errL (rows.drop k)=if presCheckL rows[k].P≠0 then presCheckL rows[k].P else if rows[k].P.On=false then 4 else errL (rows.drop (k + 1)):=by
 rw [List.drop_eq_getElem_cons h];rfl
def idxL (p:BookRow→Bool) (rows:List BookRow):Int:=if rows.any p=true then (rows.findIdx p:Nat) else -1
def lessR (a b:BookRow):Bool:=Op.bytesLess (keyR a).toList (keyR b).toList
def okAt (seq:Int) (rows:List BookRow) (i:Nat):Bool :=
 match rows[i]? with
 | none=>true
 | some x=>decide (1≤x.P.Seq) && decide (x.P.Seq≤seq) && (match i with | 0=>true | j + 1=>match rows[j]? with | some y=>lessR y x | none=>true) && !(rows.take i).any (fun o=>o.P.Seq == x.P.Seq)
def ordL (seq:Int) (rows:List BookRow):Bool:=(List.range rows.length).all (okAt seq rows)
theorem okAt_0 {seq:Int} {rows:List BookRow} (h:0 < rows.length):okAt seq rows 0=(decide ((1:Int)≤rows[0].P.Seq) && decide (rows[0].P.Seq≤seq) && true && !(rows.take 0).any (fun o=>o.P.Seq == rows[0].P.Seq)):=by
 simp only [okAt,List.getElem?_eq_getElem h]
theorem okAt_s {seq:Int} {rows:List BookRow} (j:Nat) (h:j + 1 < rows.length):okAt seq rows (j + 1)=(decide (1≤rows[j + 1].P.Seq) && decide (rows[j + 1].P.Seq≤seq) && lessR rows[j] rows[j + 1] && !(rows.take (j + 1)).any (fun o=>o.P.Seq == rows[j + 1].P.Seq)):=by
 simp only [okAt,List.getElem?_eq_getElem h,List.getElem?_eq_getElem (show j < rows.length by omega)]
theorem ord_yes {seq:Int} {rows:List BookRow} (h:∀ i,i < rows.length→okAt seq rows i=true):ordL seq rows=true:=by
 unfold ordL
 rw [List.all_eq_true]
 exact fun i hi=>h i (List.mem_range.1 hi)
def fullL (rows:List BookRow):Bool:=rows.any fun r=>decide (3 < manyL rows r.User)
def emptyL (rows:List BookRow):Bool:=rows.any fun r=>(keyR r).toList == (⟨#[]⟩ : ByteArray).toList
def bookCheck (seq:Int) (rows:List BookRow):Int :=
 if 16 < rows.length then 5 else if seq < 0∨1099511627776 < seq then 8 else if emptyL rows=true then 11 else if errL rows≠0 then errL rows else if ordL seq rows=false then 10 else if fullL rows=true then 7 else 0
def smallB (rows:List BookRow):Prop:=∀ r ∈ rows,smallR r
def cmpR (r:BookRow) (k:ByteArray):Int:=Lib.compareBytes (keyR r).data.toList k.data.toList
structure StandsAt (rows:List BookRow) (k:ByteArray) (pos:Nat):Prop where
 le:pos≤rows.length
 lt:∀ i (h:i < rows.length),i < pos→cmpR rows[i] k < 0
 ge:∀ i (h:i < rows.length),pos≤i→0≤cmpR rows[i] k
def foundB (rows:List BookRow) (k:ByteArray) (pos:Nat):Bool:=match rows[pos]? with
 | some r=>cmpR r k == 0
 | none=>false
end Go.Proofs.YthnihifblmnkdaaGreat

namespace Go.Proofs.YthnihifblmnkdaaGreat
open Go.RowKit
def sortedR (rows:List BookRow):Prop:=∀ i j (hj:j < rows.length) (hi:i < j),cmpR rows[i] (keyR rows[j]) < 0
theorem sorted_next {rows:List BookRow} (h:∀ i (hj:i + 1 < rows.length),lessR rows[i] rows[i + 1]=true):sortedR rows:=by
 intro i j hj hi
 induction j with
 | zero=>omega
 | succ j ih =>
  have h1:=h j hj
  unfold lessR at h1
  rw [cmp_less,decide_eq_true_eq,ByteArray.toList_eq,ByteArray.toList_eq] at h1
  rcases Nat.lt_or_ge i j with h2 | h2
  ·exact cmp_trans (ih (by omega) h2) h1
  ·have:i=j:=by omega
   subst this;exact h1
theorem okAt_all {seq:Int} {rows:List BookRow} (h:ordL seq rows=true) (i:Nat) (hi:i < rows.length):okAt seq rows i=true:=by
 unfold ordL at h
 rw [List.all_eq_true] at h
 exact h i (List.mem_range.2 hi)
theorem ord_sorted {seq:Int} {rows:List BookRow} (h:ordL seq rows=true):sortedR rows:=by
 refine sorted_next fun i hj=>?_
 have:=okAt_all h (i + 1) hj
 rw [okAt_s i hj] at this
 simp only [Bool.and_eq_true] at this
 exact this.1.2
theorem check_ord {seq:Int} {rows:List BookRow} (h:bookCheck seq rows=0):ordL seq rows=true:=by
 unfold bookCheck at h
 by_cases h0:ordL seq rows=true
 ·exact h0
 ·exfalso
  have h1:ordL seq rows=false:=by simpa using h0
  repeat' split at h
  all_goals first | omega | contradiction
theorem check_len {seq:Int} {rows:List BookRow} (h:bookCheck seq rows=0):rows.length≤16:=by
 unfold bookCheck at h
 by_cases h0:16 < rows.length
 ·rw [if_pos h0] at h;omega
 ·omega
theorem check_seq {seq:Int} {rows:List BookRow} (h:bookCheck seq rows=0):0≤seq∧seq≤1099511627776:=by
 unfold bookCheck at h
 by_cases h0:seq < 0∨1099511627776 < seq
 ·rw [if_pos h0] at h;split at h <;> omega
 ·omega
def posL (rows:List BookRow) (k:ByteArray):Nat:=rows.findIdx fun r=>decide (0≤cmpR r k)
theorem stands {rows:List BookRow} (hs:sortedR rows) (k:ByteArray):StandsAt rows k (posL rows k):=by
 refine ⟨List.findIdx_le_length,fun i h hi=>?_,fun i h hi=>?_⟩
 ·have:=List.not_of_lt_findIdx hi
  simpa using this
 ·have hx:=List.findIdx_getElem (p:=fun r=>decide (0≤cmpR r k)) (xs:=rows) (w:=Nat.lt_of_le_of_lt hi h)
  rw [decide_eq_true_eq] at hx
  rcases Nat.lt_or_ge (posL rows k) i with h2 | h2
  ·have h3:=hs (posL rows k) i h h2
   have h4:=cmp_anti k.data.toList (keyR rows[posL rows k]).data.toList
   have hx' : 0≤Lib.compareBytes (keyR rows[posL rows k]).data.toList k.data.toList:=hx
   rcases Int.lt_or_le (Lib.compareBytes (keyR rows[i]).data.toList k.data.toList) 0 with h5 | h5
   ·have:=cmp_trans h3 h5;omega
   ·exact h5
  ·have e:i=posL rows k:=by unfold posL at *;omega
   subst e;exact hx
def setL (seq:Int) (rows:List BookRow) (u r:ByteArray) (sh prio:Int):Int × List BookRow × PresPres × Int :=
 let x:BookRow:=⟨u,r,⟨true,sh,prio,0⟩⟩
 let k:=keyR x
 if bookCheck seq rows≠0 then (seq,rows,⟨false,0,0,0⟩,bookCheck seq rows)
 else if (k.toList == (⟨#[]⟩ : ByteArray).toList)=true then (seq,rows,⟨false,0,0,0⟩,11)
 else if presCheckL x.P≠0 then (seq,rows,⟨false,0,0,0⟩,presCheckL x.P)
 else if foundB rows k (posL rows k)=false∧(16≤rows.length∨3≤manyL rows u) then (seq,rows,⟨false,0,0,0⟩,7)
 else if 1099511627776≤seq then (seq,rows,⟨false,0,0,0⟩,9)
 else (seq + 1,rows.take (posL rows k)++⟨u,r,⟨true,sh,prio,seq + 1⟩⟩ :: rows.drop (if foundB rows k (posL rows k)=true then posL rows k + 1 else posL rows k),⟨true,sh,prio,seq + 1⟩,0)
def offL (seq:Int) (rows:List BookRow) (u r:ByteArray):Int × List BookRow × PresPres × Int :=
 let k:=keyL u r
 if bookCheck seq rows≠0 then (seq,rows,⟨false,0,0,0⟩,bookCheck seq rows)
 else if foundB rows k (posL rows k)=false∨(k.toList == (⟨#[]⟩ : ByteArray).toList)=true then (seq,rows,⟨false,0,0,0⟩,6)
 else if 1099511627776≤seq then (seq,rows,⟨false,0,0,0⟩,9)
 else (seq + 1,rows.take (posL rows k)++rows.drop (posL rows k + 1),⟨false,0,0,seq + 1⟩,0)
def getL (seq:Int) (rows:List BookRow) (u r:ByteArray):PresPres × Bool :=
 let k:=keyL u r
 if (k.toList == (⟨#[]⟩ : ByteArray).toList)=true then (⟨false,0,0,0⟩,false)
 else if bookCheck seq rows≠0 then (⟨false,0,0,0⟩,false)
 else if foundB rows k (posL rows k)=false then (⟨false,0,0,0⟩,false)
 else ((rows.getD (posL rows k) default).P,true)
def rowAt (rows:List BookRow) (i:Nat):BookRow × Bool:=match rows[i]? with
 | some x=>(x,true)
 | none=>(⟨⟨#[]⟩,⟨#[]⟩,⟨false,0,0,0⟩⟩,false)
theorem rowAt_lt {rows:List BookRow} {i:Nat} (h:i < rows.length):rowAt rows i=(rows[i],true):=by unfold rowAt;rw [List.getElem?_eq_getElem h]
theorem rowAt_ge {rows:List BookRow} {i:Nat} (h:rows.length≤i):rowAt rows i=(⟨⟨#[]⟩,⟨#[]⟩,⟨false,0,0,0⟩⟩,false):=by unfold rowAt;rw [List.getElem?_eq_none h]
def nxtL (seq:Int) (rows:List BookRow) (k:ByteArray):BookRow × Bool :=
 if bookCheck seq rows≠0 then (⟨⟨#[]⟩,⟨#[]⟩,⟨false,0,0,0⟩⟩,false)
 else rowAt rows (if foundB rows k (posL rows k)=true then posL rows k + 1 else posL rows k)
theorem found_lt {rows:List BookRow} {k:ByteArray} {pos:Nat} (h:foundB rows k pos=true):pos < rows.length:=by
 unfold foundB at h
 rcases Nat.lt_or_ge pos rows.length with h2 | h2
 ·exact h2
 ·rw [List.getElem?_eq_none h2] at h;simp at h
end Go.Proofs.YthnihifblmnkdaaGreat

