/- A part of the proof: 10 texts joined. -/
import Derived.Test.YtdoakplhalonfaaGreatObA5
import Derived.Test.YtdoakplhalonfaaGreatObA7
import Derived.Test.YtdoakplhalonfaaGreatObA3
import Derived.KernelRfl
import Derived.Test.YtdoakplhalonfaaGreatObA1
import Derived.Test.YtdoakplhalonfaaGreatObA4
set_option linter.all false
namespace Go.Proofs.YtdoakplhalonfaaGreat
open Go.RowKit
def stzFits (x:StanzaStanza):Prop:=(0≤x.Kind∧x.Kind≤255)∧x.User.size≤100000∧x.Res.size≤100000∧x.Name.size≤100000
instance (x:StanzaStanza):Decidable (stzFits x):=inferInstanceAs (Decidable (_∧_))
end Go.Proofs.YtdoakplhalonfaaGreat

namespace Go.Proofs.YtdoakplhalonfaaGreat
open Go.RowKit
def p_slices_IndexFunc_mail_State_mail_Entry__l1 (a1:MailEntry→Option Bool) (z5:List MailEntry) (z6:Int):Nat→Int→Option (Int ⊕ Int)
 | 0,_=>none
 | n + 1,y7 =>
  bif (decide (y7 < z6)) then
   (at? z5 y7).bind fun x9 =>
   (a1 x9).bind fun v10 =>
   bif v10 then
    some (.inl y7)
   else
   p_slices_IndexFunc_mail_State_mail_Entry__l1 a1 z5 z6 n (w64 (y7 + (1:Int)))
  else
  some (.inr y7)
def p_slices_IndexFunc_mail_State_mail_Entry_ (a0:List MailEntry) (a1:MailEntry→Option Bool):Option (Int) :=
 (p_slices_IndexFunc_mail_State_mail_Entry__l1 a1 a0 (a0.length:Int) fuel (0:Int)).bind fun o12=>match o12 with
 | .inl q13 =>
  some q13
 | .inr q14 =>
  some (-1:Int)
end Go.Proofs.YtdoakplhalonfaaGreat

namespace Go.Proofs.YtdoakplhalonfaaGreat
open Go.RowKit
set_option maxRecDepth 100000
set_option maxHeartbeats 4000000
def gc115:BCode:=(.seq (R_ 0 [O_ 4 (.mv (i_ 0)) 0]) (.seq (.seq (R_ 0 [O_ 6 (.mv (t_ 0)) 0,O_ 7 (.lens (t_ 6)) 0,O_ 8 (.mv (i_ 0)) 0]) (.block 0 (.loop (.seq (R_ 0 [O_ 9 (.bin .lss (t_ 8) (t_ 7)) 0]) (.seq (.cond (t_ 9) .skip (.exit 0)) (.seq (.block 1 (.seq (R_ 0 [O_ 10 (.mv (t_ 8)) 0,O_ 5 (.mv (t_ 10)) 0]) (.seq (R_ 0 [O_ 11 (.mv (t_ 1)) 0,O_ 12 (.mv (t_ 0)) 0,O_ 13 (.mv (t_ 5)) 0,O_ 14 (.ixs 5 (t_ 12) (t_ 13)) 0,O_ 15 (.ld 5 true (t_ 14)) 0,O_ 16 (.cv (t_ 11) [(t_ 15)]) 0]) (.cond (t_ 16) (.seq (R_ 0 [O_ 17 (.mv (t_ 5)) 0,O_ 4 (.mv (t_ 17)) 0]) .ret) .skip)))) (R_ 0 [O_ 18 (.bin .add (t_ 8) (i_ 1)) 0,O_ 8 (.mv (t_ 18)) 0]))))))) (.seq (R_ 0 [O_ 4 (.mv (.const (.int .i64 (-1)))) 0]) .ret)))
theorem gc115_ok:compF Tryz.prog Tryz.f115=some (gc115.er,19,[.tmp 4]):=by unfold gc115;kernel_rfl
theorem p_slices_IndexFunc_mail_State_mail_Entry__v {u1:Bool} (a0:List MailEntry) (a1:MailEntry→Option Bool) {a1_g:Nat} {a1_k:List V} (a1_h:Clo1 Tryz.prog a1_g a1_k MailEntry.v V.b a1):CallsO Tryz.prog 115 [.sl (List.map MailEntry.v a0) u1,.clo (.func a1_g) a1_k] V.i (p_slices_IndexFunc_mail_State_mail_Entry_ a0 a1):=by
 refine callsO_comp mix Tryz.func115 gc115_ok fun r H=>?_
 rw [p_slices_IndexFunc_mail_State_mail_Entry_] at H
 conv=>whnf
 refine LenQ.M ?_;conv=>whnf
 obtain ⟨o2,HL3,HQ4⟩:=bind_c H
 refine loop_c [4,8] [5,9,10,11,12,13,14,15,16,17,18] [5,9,10,11,12,13,14,15,16,17,18] (fun n vals st=>(∃ y6,p_slices_IndexFunc_mail_State_mail_Entry__l1  a1 a0 (a0.length:Int) n y6=some o2∧vals=[.i (0:Int),.i y6]∧st=[])) fuel 0 [] (⟨_,HL3,rfl,rfl⟩) (Nat.zero_le _) rfl (by simp only [maskF,setF,List.set_cons_zero,List.set_cons_succ,V.ren.renL,V.ren,renL_id _ a1_h.own] <;> rfl) (by simp only [maskF,setF,List.set_cons_zero,List.set_cons_succ,V.idlt.belowL,V.idlt,fun n=>idltL_up (n:=n) _ a1_h.own] <;> rfl) rfl trivial ?_
 rintro (_ | n5) _ _ (⟨y6,H,rfl,rfl⟩)
 ·rw [p_slices_IndexFunc_mail_State_mail_Entry__l1] at H;cases H
 rw [p_slices_IndexFunc_mail_State_mail_Entry__l1] at H
 conv=>whnf
 refine tst_d H (fun b7 H=>?_) (fun b7 H=>?_)
 ·conv=>whnf
  obtain rfl:=Option.some.inj H
  have H:=HQ4
  try dsimp only at H
  exact fi_ H
 conv=>whnf
 refine ixs_c (f:=MailEntry.v) H (fun _=>rfl) (fun x8 H=>?_);conv=>whnf
 refine askC_c a1_h H (.cons (fzagg (.cons (.id rfl) (.cons (.id rfl) (.cons (.id rfl) (.cons (.id rfl) (.cons (.id rfl) (.nil)))))) rfl) (.nil)) (fun v9 H=>?_);conv=>whnf
 refine tst_c H (fun b10 H=>?_) (fun b10 H=>?_)
 ·conv=>whnf
  obtain rfl:=Option.some.inj H
  have H:=HQ4
  try dsimp only at H
  exact fi_ H
 conv=>whnf
 refine Ari.w ?_;conv=>whnf
 exact again_c [5,9,10,11,12,13,14,15,16,17,18] n5 0 [] (⟨_,H,rfl,rfl⟩) (Nat.lt_succ_self _) (Nat.zero_le _) rfl (by simp only [maskF,setF,List.set_cons_zero,List.set_cons_succ,V.ren.renL,V.ren,renL_id _ a1_h.own] <;> rfl) (by simp only [maskF,setF,List.set_cons_zero,List.set_cons_succ,V.idlt.belowL,V.idlt,fun n=>idltL_up (n:=n) _ a1_h.own] <;> rfl) rfl trivial
end Go.Proofs.YtdoakplhalonfaaGreat

namespace Go.Proofs.YtdoakplhalonfaaGreat
open Go.RowKit
theorem at_nat {α:Type} (l:List α) (k:Nat):at? l (k:Int)=l[k]?:=by
 unfold at?;rw [if_pos (Int.natCast_nonneg k)];rfl
theorem at_lt {α:Type} {l:List α} {k:Nat} (h:k < l.length):at? l (k:Int)=some l[k]:=by rw [at_nat,List.getElem?_eq_getElem h]
theorem w64_id {r:Int} (h:-9223372036854775808≤r∧r≤9223372036854775807):w64 r=r:=wrap_ok h
theorem w64_succ {k:Nat} (h:k≤1000000):w64 ((k:Int) + 1)=((k + 1:Nat):Int):=by rw [w64_id (by omega)];rfl
theorem lt_tt {a b:Nat} (h:a < b):decide ((a:Int) < (b:Int))=true:=by simpa using h
theorem lt_ff {a b:Nat} (h:b≤a):decide ((a:Int) < (b:Int))=false:=by simpa using h
theorem drop_at {α:Type} {l:List α} {k:Nat} (h:k < l.length):l.drop k=l[k] :: l.drop (k + 1):=List.drop_eq_getElem_cons h
theorem fuel_pos:(1000000:Nat) < fuel:=by decide
theorem cutTo {α:Type} {l:List α} {k:Nat} (h:k≤l.length):cut? l none (some (k:Int))=some (l.take k):=by
 unfold cut?
 simp only [Option.getD_none,Option.getD_some]
 rw [if_pos (by omega)]
 simp
theorem cutFrom {α:Type} {l:List α} {k:Nat} (h:k≤l.length):cut? l (some (k:Int)) none=some (l.drop k):=by
 unfold cut?
 simp only [Option.getD_none,Option.getD_some]
 rw [if_pos (by omega)]
 rw [List.take_of_length_le (by simp)];rfl
theorem u64_id {r:Int} (hr:0≤r∧r≤9223372036854775807):IntKind.u64.wrap r=r:=by
 simp only [IntKind.wrap,IntKind.signed,IntKind.bits]
 first | omega | (simp;omega)
theorem fdivN (m p:Nat):(m:Int).fdiv (2 ^ p)=((m / 2 ^ p:Nat):Int):=by
 rw [show ((2:Int) ^ p)=((2 ^ p:Nat):Int) by simp,Int.fdiv_eq_ediv_of_nonneg _ (Int.natCast_nonneg _)];rfl
theorem half_p {i j:Nat} (h:i + j≤100000):w64 (shrI .u64 (IntKind.wrap .u64 (w64 ((i:Int) + (j:Int)))) (1:Int))=(((i + j) / 2:Nat):Int):=by
 have e1:w64 ((i:Int) + (j:Int))=((i + j:Nat):Int):=by rw [w64_id (by omega)];omega
 have e2:IntKind.wrap .u64 ((i + j:Nat):Int)=((i + j:Nat):Int):=u64_id (by omega)
 have e:(min (1:Int).toNat IntKind.u64.bits)=1:=rfl
 have e3:shrI .u64 ((i + j:Nat):Int) 1=(((i + j) / 2:Nat):Int):=by
  unfold shrI
  rw [e,fdivN]
 rw [e1,e2,e3]
 exact w64_id (by omega)
theorem app_ok {α:Type} {a b:List α} (h:a.length + b.length≤1000000):app? a b=some (a++b):=if_pos h
theorem byte_at {s:ByteArray} {k:Nat} (h:k < s.size):byte? s (k:Int)=some (s[k].toNat:Int):=by
 unfold byte?
 rw [dif_pos ⟨Int.natCast_nonneg k,h⟩];rfl
theorem byte_ne (a b:UInt8):((a.toNat:Int) != (b.toNat:Int))=!(a == b):=by
 by_cases h:a=b
 ·subst h;simp
 ·have h1:(a == b)=false:=by simpa using h
  have h2:¬ ((a.toNat:Int)=(b.toNat:Int)):=fun e=>h (UInt8.toNat_inj.1 (Int.natCast_inj.1 e))
  rw [h1];simpa using h2
theorem tl_data (s:ByteArray):s.toList=s.data.toList:=by rw [ByteArray.toList_eq]
theorem eqT_refl (a:ByteArray):(a.toList == a.toList)=true:=by simp
theorem cmp_less:∀ (a b:List UInt8),Op.bytesLess a b=decide (Lib.compareBytes a b < 0)
 | [],[]=>by simp [Op.bytesLess,Lib.compareBytes]
 | [],_ :: _=>by simp [Op.bytesLess,Lib.compareBytes]
 | _ :: _,[]=>by simp [Op.bytesLess,Lib.compareBytes]
 | a :: xs,b :: ys=>by
  unfold Op.bytesLess Lib.compareBytes
  rw [cmp_less xs ys]
  by_cases h:a < b
  ·simp [h]
  ·by_cases h2:b < a
   ·have hne:a≠b:=fun e=>by subst e;exact UInt8.lt_irrefl _ h2
    simp [h,h2,hne]
   ·have e:a=b:=by
     apply UInt8.toNat_inj.1
     rw [UInt8.lt_iff_toNat_lt] at h h2;omega
    subst e;simp [h]
theorem cmp_refl:∀ a:List UInt8,Lib.compareBytes a a=0
 | []=>by simp [Lib.compareBytes]
 | a :: xs=>by unfold Lib.compareBytes;rw [if_neg (UInt8.lt_irrefl _),if_neg (UInt8.lt_irrefl _)];exact cmp_refl xs
theorem cmp_eq0:∀ {a b:List UInt8},Lib.compareBytes a b=0→a=b
 | [],[],_=>rfl
 | [],_ :: _,h=>by simp [Lib.compareBytes] at h
 | _ :: _,[],h=>by simp [Lib.compareBytes] at h
 | a :: xs,b :: ys,h=>by
  unfold Lib.compareBytes at h
  split at h
  ·omega
  ·split at h
   ·omega
   ·rename_i h1 h2
    have e:a=b:=by
     apply UInt8.toNat_inj.1
     rw [UInt8.lt_iff_toNat_lt] at h1 h2;omega
    rw [e,cmp_eq0 h]
theorem cmp_anti:∀ (a b:List UInt8),Lib.compareBytes b a=- Lib.compareBytes a b
 | [],[]=>by simp [Lib.compareBytes]
 | [],_ :: _=>by simp [Lib.compareBytes]
 | _ :: _,[]=>by simp [Lib.compareBytes]
 | a :: xs,b :: ys=>by
  unfold Lib.compareBytes
  rw [cmp_anti xs ys]
  by_cases h:a < b
  ·have h2:¬ b < a:=by rw [UInt8.lt_iff_toNat_lt] at h ⊢;omega
   simp [h,h2]
  ·by_cases h2:b < a
   ·simp [h,h2]
   ·simp [h,h2]
theorem cmp_trans:∀ {a b c:List UInt8},Lib.compareBytes a b < 0→Lib.compareBytes b c < 0→Lib.compareBytes a c < 0
 | [],[],_,h,_=>by simp [Lib.compareBytes] at h
 | _ :: _,[],_,h,_=>by simp [Lib.compareBytes] at h
 | _,_ :: _,[],_,h=>by simp [Lib.compareBytes] at h
 | [],_ :: _,_ :: _,_,_=>by simp [Lib.compareBytes]
 | a :: xs,b :: ys,c :: cs,h1,h2=>by
  unfold Lib.compareBytes at h1 h2 ⊢
  by_cases x:a < b
  ·by_cases y:b < c
   ·rw [if_pos (UInt8.lt_trans x y)];omega
   ·rw [if_neg y] at h2
    by_cases z:c < b
    ·rw [if_pos z] at h2;omega
    ·have e:b=c:=by
      apply UInt8.toNat_inj.1
      rw [UInt8.lt_iff_toNat_lt] at y z;omega
     subst e
     rw [if_pos x];omega
  ·rw [if_neg x] at h1
   by_cases x2:b < a
   ·rw [if_pos x2] at h1;omega
   ·rw [if_neg x2] at h1
    have e:a=b:=by
     apply UInt8.toNat_inj.1
     rw [UInt8.lt_iff_toNat_lt] at x x2;omega
    subst e
    by_cases y:a < c
    ·rw [if_pos y];omega
    ·rw [if_neg y] at h2 ⊢
     by_cases z:c < a
     ·rw [if_pos z] at h2;omega
     ·rw [if_neg z] at h2 ⊢
      exact cmp_trans h1 h2
end Go.Proofs.YtdoakplhalonfaaGreat

namespace Go.Proofs.YtdoakplhalonfaaGreat
open Go.RowKit
set_option maxRecDepth 100000
set_option maxHeartbeats 4000000
def dc83:BCode:=(.seq (R_ 0 [O_ 4 (.mv (.const (.slice none 0 0))) 0]) (.seq (R_ 0 [O_ 8 (.mv (t_ 0)) 0,O_ 9 (.mv (t_ 1)) 0,O_ 10 (.cl 115 [(t_ 8),(t_ 9)]) 0,O_ 5 (.mv (t_ 10)) 0]) (.seq (.seq (R_ 0 [O_ 11 (.mv (t_ 5)) 0,O_ 12 (.bin .eql (t_ 11) (.const (.int .i64 (-1)))) 0]) (.cond (t_ 12) (.seq (R_ 0 [O_ 13 (.mv (t_ 0)) 0,O_ 4 (.mv (t_ 13)) 0]) .ret) .skip)) (.seq (.seq (R_ 0 [O_ 14 (.mv (t_ 5)) 0,O_ 15 (.bin .add (t_ 14) (i_ 1)) 0,O_ 6 (.mv (t_ 15)) 0]) (.block 0 (.loop (.seq (.seq (R_ 0 [O_ 16 (.mv (t_ 6)) 0,O_ 17 (.mv (t_ 0)) 0,O_ 18 (.lens (t_ 17)) 0,O_ 19 (.bin .lss (t_ 16) (t_ 18)) 0]) (.cond (t_ 19) .skip (.exit 0))) (.seq (.block 1 (.seq (R_ 1 [O_ 22 (.mv (t_ 0)) 0,O_ 23 (.mv (t_ 6)) 0,O_ 24 (.ixs 5 (t_ 22) (t_ 23)) 0,O_ 25 (.ld 5 true (t_ 24)) 0,O_ 7 (.al (.agg [(.lit (.string ⟨#[]⟩)),(.lit (.bool false)),(.lit (.int .i64 0)),(.lit (.int .i64 0)),(.lit (.int .i64 0))])) 0,U_ (.st 5 (t_ 7) (t_ 25)) 1]) (.seq (R_ 0 [O_ 26 (.mv (t_ 1)) 0,O_ 27 (.ld 5 true (t_ 7)) 0,O_ 28 (.cv (t_ 26) [(t_ 27)]) 0,O_ 29 (.un .not (t_ 28)) 0]) (.cond (t_ 29) (.seq (R_ 0 [O_ 30 (.mv (t_ 0)) 0,O_ 31 (.mv (t_ 5)) 0,O_ 32 (.ld 5 true (t_ 7)) 0,O_ 33 (.ixs 5 (t_ 30) (t_ 31)) 0,U_ (.st 5 (t_ 33) (t_ 32)) 0]) (R_ 0 [O_ 34 (.mv (t_ 5)) 0,O_ 35 (.bin .add (t_ 34) (i_ 1)) 0,O_ 5 (.mv (t_ 35)) 0])) .skip)))) (R_ 0 [O_ 20 (.mv (t_ 6)) 0,O_ 21 (.bin .add (t_ 20) (i_ 1)) 0,O_ 6 (.mv (t_ 21)) 0])))))) (.seq (R_ 0 [O_ 36 (.mv (t_ 0)) 0,O_ 37 (.mv (t_ 5)) 0,O_ 38 (.sls 5 (t_ 36) (some (t_ 37)) none none) 0,U_ (.clr 5 (t_ 38)) 0]) (.seq (R_ 0 [O_ 39 (.mv (t_ 0)) 0,O_ 40 (.mv (t_ 5)) 0,O_ 41 (.sls 5 (t_ 39) none (some (t_ 40)) none) 0,O_ 4 (.mv (t_ 41)) 0]) .ret))))))
theorem dc83_ok:compF Tryz.prog Tryz.f83=some (dc83.er,42,[.tmp 4]):=by unfold dc83;kernel_rfl
theorem dfi83 (fn:MailEntry→Option Bool) (p:MailEntry→Bool) (rows:List MailEntry) (hn:rows.length≤1000000) (hf:∀ x ∈ rows,fn x=some (p x)):∀ (n k F:Nat),k + n=rows.length→n < F →
  p_slices_IndexFunc_mail_State_mail_Entry__l1 fn rows rows.length F k=some (if (rows.drop k).any p=true then .inl ((k + (rows.drop k).findIdx p:Nat):Int) else .inr (rows.length:Int))
 | 0,k,F + 1,hk,hF=>by
  have e:rows.drop k=[]:=List.drop_of_length_le (by omega)
  have:k=rows.length:=by omega
  rw [p_slices_IndexFunc_mail_State_mail_Entry__l1,lt_ff (by omega),e,this];rfl
 | n + 1,k,F + 1,hk,hF=>by
  have hlt:k < rows.length:=by omega
  rw [p_slices_IndexFunc_mail_State_mail_Entry__l1,lt_tt hlt,at_lt hlt,drop_at hlt]
  simp only [cond_true,Option.bind_some,hf _ (List.getElem_mem hlt)]
  cases hp:p rows[k] with
  | true=>rw [List.any_cons,hp,List.findIdx_cons,hp];rfl
  | false =>
   simp only [cond_false]
   rw [w64_succ (by omega),dfi83 fn p rows hn hf n (k + 1) F (by omega) (by omega)]
   simp only [List.any_cons,hp,Bool.false_or,List.findIdx_cons,cond_false]
   split
   ·congr 3;omega
   ·rfl
theorem dfx83 {fn:MailEntry→Option Bool} (p:MailEntry→Bool) {rows:List MailEntry} (hn:rows.length≤1000000) (hf:∀ x ∈ rows,fn x=some (p x)):p_slices_IndexFunc_mail_State_mail_Entry_ rows fn=some (if rows.any p=true then (rows.findIdx p:Int) else -1):=by
 unfold p_slices_IndexFunc_mail_State_mail_Entry_
 have:=dfi83 fn p rows hn hf rows.length 0 fuel (by omega) (by have:=fuel_pos;omega)
 rw [show ((0:Int))=((0:Nat):Int) from rfl,this,List.drop_zero]
 cases rows.any p <;> simp
theorem dfS83 (l:List MailEntry) {g:Nat} {caps:List V} {fn:MailEntry→Option Bool} (hc:Clo1 Tryz.prog g caps MailEntry.v V.b fn) (p:MailEntry→Bool) (hn:l.length≤1000000) (hf:∀ x ∈ l,fn x=some (p x)) :
  CallsS Tryz.prog 83 [.osl 0 0 l.length 5 false,.clo (.func g) caps] [.live (cellsM MailEntry.v l) 0] (.osl 0 0 (l.filter fun x=>!p x).length 5 false) [.live (cellsM MailEntry.v (l.filter fun x=>!p x)) 0]:=by
 refine callsR_c (n0:=1) mix Tryz.func83 dc83_ok rfl ?_
 conv=>whnf
 refine askT_c (X:=some) (r:=if l.any p=true then (l.findIdx p:Int) else -1) [0] (p_slices_IndexFunc_mail_State_mail_Entry__v l fn hc) (by rw [dfx83 p hn hf];rfl) (.cons (.c (fzown (f:=MailEntry.v) (l:=l) rfl rfl (fun _=>rfl) (fun _=>rfl))) (.cons (.c (.id (by exact hc.own))) .nil)) (fun _=>rfl) (fun x H=>?_)
 obtain rfl:=Option.some.inj H
 conv=>whnf
 by_cases hany:l.any p=true
 ·rw [if_pos hany]
  have hk0:l.findIdx p < l.length:=List.findIdx_lt_length_of_exists (by simpa using hany)
  refine Tst.isF (beq_eq_false_iff_ne.2 (by omega)) ?_;conv=>whnf
  refine Ari.w ?_;conv=>whnf
  have hw:IntKind.i64.wrap ((l.findIdx p:Int) + 1)=((l.findIdx p + 1:Nat):Int):=w64_succ (by omega)
  rw [hw]
  refine loop_c [5,6] [7,16,17,18,19,20,21,22,23,24,25,26,27,28,29,30,31,32,33,34,35] [7,16,17,18,19,20,21,22,23,24,25,26,27,28,29,30,31,32,33,34,35] (fun n vals st=>∃ (i j:Nat) (y:List MailEntry),vals=[.i i,.i j]∧st=[.live (cellsM MailEntry.v y) 0]∧y.length=l.length∧i < j∧j≤l.length∧y.drop j=l.drop j∧y.take i=(l.take j).filter (fun x=>!p x)∧i≤l.length∧n=l.length - j) (l.length - (l.findIdx p + 1)) 1 [] ⟨l.findIdx p,l.findIdx p + 1,l,rfl,rfl,rfl,by omega,by omega,rfl,df_start hk0,by omega,rfl⟩ (Nat.le_refl _) rfl
   (by simp only [maskF,setF,List.set_cons_zero,List.set_cons_succ,V.ren.renL,V.ren,renL_id _ hc.own] <;> rfl) (by simp only [maskF,setF,List.set_cons_zero,List.set_cons_succ,V.idlt.belowL,V.idlt,fun n=>idltL_up (n:=n) _ hc.own] <;> rfl) rfl (wkB_live0 rfl (cellsM_idlt (f:=MailEntry.v) (fun _=>rfl) _) rfl trivial) ?_
  rintro n _ _ ⟨i,j,y,rfl,rfl,hyl,hij,hjl,hyd,hyt,hil,rfl⟩
  conv=>whnf
  by_cases hj:j < l.length
  ·refine Tst.isT (lt_tt hj) ?_;conv=>whnf
   have hmem:l[j] ∈ l:=List.getElem_mem hj
   have hx:y[(j:Int).toNat]?=some l[j]:=by
    rw [Int.toNat_natCast]
    have h1:(y.drop j)[0]?=(l.drop j)[0]?:=by rw [hyd]
    rw [List.getElem?_drop,List.getElem?_drop,Nat.add_zero] at h1
    rw [h1,List.getElem?_eq_getElem hj]
   refine ⟨rfl,⟨Int.natCast_nonneg _,by rw [Int.toNat_natCast];exact hj,?_⟩⟩;conv=>whnf
   refine ldo_c (f:=MailEntry.v) (es:=5) hx (fun _=>rfl) 0 (by omega) (by decide) ?_;conv=>whnf
   refine lq_ ?_;conv=>whnf
   refine askC_c (X:=some) (r:=p l[j]) (a:=l[j]) hc (by rw [hf _ hmem];rfl) (fza_ids rfl) (fun v H=>?_)
   obtain rfl:=Option.some.inj H
   conv=>whnf
   have hw1:IntKind.i64.wrap ((j:Int) + 1)=((j + 1:Nat):Int):=w64_succ (by omega)
   have hw2:IntKind.i64.wrap ((i:Int) + 1)=((i + 1:Nat):Int):=w64_succ (by omega)
   cases hp:p l[j] with
   | false =>
    refine Tst.isT rfl ?_;conv=>whnf
    refine ⟨rfl,⟨Int.natCast_nonneg _,by rw [Int.toNat_natCast];omega,?_⟩⟩;conv=>whnf
    refine ⟨Nat.zero_le _,sto_c (f:=MailEntry.v) (l:=y) (n:=i) (es:=5) (x:=y[i]'(by omega)) (List.getElem?_eq_getElem (by omega)) (x':=l[j]) (fun _=>rfl) 0 (by rw [Int.toNat_natCast];omega) (Nat.le_of_ble_eq_true rfl) (by rfl) ?_⟩;conv=>whnf
    refine Ari.w ?_;conv=>whnf
    refine Ari.w ?_;conv=>whnf
    rw [hw1,hw2]
    have hd:=df_keep hyl hij hj hyd hyt hp
    exact again_c [7,16,17,18,19,20,21,22,23,24,25,26,27,28,29,30,31,32,33,34,35] (l.length - (j + 1)) 1 [] ⟨i + 1,j + 1,y.set i l[j],rfl,rfl,by rw [List.length_set];exact hyl,by omega,by omega,hd.1,hd.2,by omega,rfl⟩ (by omega) (Nat.le_refl _) rfl
     (by simp only [maskF,setF,List.set_cons_zero,List.set_cons_succ,V.ren.renL,V.ren,renL_id _ hc.own] <;> rfl) (by simp only [maskF,setF,List.set_cons_zero,List.set_cons_succ,V.idlt.belowL,V.idlt,fun n=>idltL_up (n:=n) _ hc.own] <;> rfl) rfl (wkB_live0 rfl (cellsM_idlt (f:=MailEntry.v) (fun _=>rfl) _) rfl trivial)
   | true =>
    refine Tst.isF rfl ?_;conv=>whnf
    refine Ari.w ?_;conv=>whnf
    rw [hw1]
    have hd:=df_skip hj hyd hyt hp
    exact again_c [7,16,17,18,19,20,21,22,23,24,25,26,27,28,29,30,31,32,33,34,35] (l.length - (j + 1)) 1 [] ⟨i,j + 1,y,rfl,rfl,hyl,by omega,by omega,hd.1,hd.2,hil,rfl⟩ (by omega) (Nat.le_refl _) rfl
     (by simp only [maskF,setF,List.set_cons_zero,List.set_cons_succ,V.ren.renL,V.ren,renL_id _ hc.own] <;> rfl) (by simp only [maskF,setF,List.set_cons_zero,List.set_cons_succ,V.idlt.belowL,V.idlt,fun n=>idltL_up (n:=n) _ hc.own] <;> rfl) rfl (wkB_live0 rfl (cellsM_idlt (f:=MailEntry.v) (fun _=>rfl) _) rfl trivial)
  ·refine Tst.isF (lt_ff (by omega)) ?_;conv=>whnf
   have hjl' : j=l.length:=by omega
   subst hjl'
   rw [List.take_length] at hyt
   have hfl:(l.filter fun x=>!p x).length=i:=by rw [← hyt,List.length_take];omega
   refine ⟨rfl,sloT_c i rfl (by omega) ?_⟩;conv=>whnf
   refine ⟨rfl,clr_c (cs':=cellsM MailEntry.v (l.filter fun x=>!p x)) (Nat.zero_le _) (by rw [cellsM_len (f:=MailEntry.v) (es:=5) (fun _=>rfl),hyl];exact (Nat.zero_add _).symm ▸ Nat.mul_le_mul_right _ (by omega)) (by omega) (by rw [Nat.zero_add,← hyt];exact (cellsM_take (f:=MailEntry.v) (es:=5) (fun _=>rfl) y i (by omega)).1.symm) ?_⟩;conv=>whnf
   refine ⟨rfl,sloP_c i rfl (by omega) ?_⟩;conv=>whnf
   rw [hfl]
   exact ⟨f_R0 (.inr rfl) (.cons (.tmp rfl) .nil) rfl rfl rfl rfl ⟨idltL_up _ (cellsM_idlt (f:=MailEntry.v) (fun _=>rfl) _),trivial⟩⟩
 ·rw [if_neg hany]
  refine Tst.isT rfl ?_;conv=>whnf
  have hfe:(l.filter fun x=>!p x)=l:=List.filter_eq_self.2 fun x hx=>by
   have:=fun h=>hany (List.any_eq_true.2 ⟨x,hx,h⟩)
   simpa using this
  rw [hfe]
  exact ⟨f_R0 (.inr rfl) (.cons (.tmp rfl) .nil) rfl rfl rfl rfl ⟨idltL_up _ (cellsM_idlt (f:=MailEntry.v) (fun _=>rfl) _),trivial⟩⟩
theorem delF83_v:DelFSaid Tryz.prog 83 MailEntry.v 5:=fun l _ _ _ hc p hn hf=>dfS83 l hc p hn hf
theorem delF83_n:DelFNil Tryz.prog 83 MailEntry.v:=fun {g} {caps} {fn} hc=>by
 refine callsO_comp mix Tryz.func83 dc83_ok (fun r H0=>?_)
 conv=>whnf
 refine askF_c (X:=some) (r:=(-1:Int)) (p_slices_IndexFunc_mail_State_mail_Entry__v [] fn hc) (by rfl) (.cons (.c .slw) (.cons (.c (.id (by exact hc.own))) .nil)) (fun x H=>?_)
 obtain rfl:=Option.some.inj H
 conv=>whnf
 refine Tst.isT rfl ?_;conv=>whnf
 exact fin0_c (enc:=fun _:Unit=>V.sl [] true) H0 (.inr rfl) (.cons (.tmp rfl) .nil) rfl rfl
end Go.Proofs.YtdoakplhalonfaaGreat

namespace Go.Proofs.YtdoakplhalonfaaGreat
open Go.RowKit
def tru? (m:Option Bool):Option Bool:=if m=some true then some true else none
theorem tru_of {m:Option Bool} {r:Bool} (h:tru? m=some r):r=true∧m=some true:=by
 unfold tru? at h
 split at h
 ·exact ⟨(Option.some.inj h).symm,‹_›⟩
 ·cases h
theorem tru_ok {m:Option Bool} (h:m=some true):tru? m=some true:=if_pos h
theorem tru_closed {P:Program} {k:FuncId} {vs:List V} {m:Option Bool} (h:CallsO P k vs V.b (tru? m)) (hm:m=some true):CallsO P k vs V.b m:=fun v hv=>by
 rw [hm] at hv
 cases hv
 exact h true (tru_ok hm)
theorem tstT_c {b:Bool} {A B:Prop} {X:Option Bool} (H:(bif b then X else some false)=some true) (h:b=true→X=some true→A):Tst b A B :=
 tst_c H h fun _ h=>by cases h
theorem tstF_c {b:Bool} {A B:Prop} {X:Option Bool} (H:(bif b then some false else X)=some true) (h:b=false→X=some true→B):Tst b A B :=
 tst_c H (fun _ h=>by cases h) h
structure GrowRoads (P:Program) (k:FuncId) (es:Nat) (E:TypeId):Prop where
 some_:∀ (b:Option Addr) (n:Nat) (w:World),0 < n→n≤1000000→Calls P k #[.slice b 0 0,.int .i64 n] w fun e w'=>∃ (ZS:Array Value) (c:Nat),e=.returned (.slice (some ⟨w.heap.size,0,none⟩) 0 c)∧w'=w.drew.alloc (.cells ZS E)∧c * es≤ZS.size
 zero_:∀ (b:Option Addr) (w:World),Calls P k #[.slice b 0 0,.int .i64 0] w fun e w'=>e=.returned (.slice b 0 0)∧w'=w
end Go.Proofs.YtdoakplhalonfaaGreat

namespace Go.Proofs.YtdoakplhalonfaaGreat
open Go.RowKit
theorem wcl_fz {st:List Slot} {sg:List Nat} {n:Nat} {l l' : List V} {rd:List Nat} (h:FzL st l l' rd):WCL st sg n l l':=by
 induction h with
 | nil=>exact .nil
 | cons h _ ih=>exact .cons (.fz h) ih
structure FzW (st:List Slot) (u v:V):Prop where
 out:∃ l l' rd,u=.agg l∧v=.agg l'∧FzL st l l' rd∧l'.all V.one=true
end Go.Proofs.YtdoakplhalonfaaGreat

namespace Go.Proofs.YtdoakplhalonfaaGreat
open Go.RowKit
def Slot.okN (n:Nat):Slot→Bool
 | .live cs _=>V.idlt.belowL n cs
 | _=>true
mutual
theorem idlt_mo {n m:Nat} (hm:n≤m):∀ v:V,v.idlt n=true→v.idlt m=true
 | .lit _,_=>rfl
 | .agg cs,h=>idltL_mo hm cs h
 | .tup cs,h=>idltL_mo hm cs h
 | .sl _ _,_=>rfl
 | .osl _ _ _ _ _,h=>by simp [V.idlt] at h ⊢;omega
 | .ptr _ _,h=>by simp [V.idlt] at h ⊢;omega
 | .eptr _,_=>rfl
 | .clo _ cs,h=>idltL_mo hm cs h
 | .any,_=>rfl
theorem idltL_mo {n m:Nat} (hm:n≤m):∀ l:List V,V.idlt.belowL n l=true→V.idlt.belowL m l=true
 | [],_=>rfl
 | v :: l,h=>by
  simp only [V.idlt.belowL,Bool.and_eq_true] at h ⊢
  exact ⟨idlt_mo hm v h.1,idltL_mo hm l h.2⟩
end
theorem okN_mo {n m:Nat} {s:Slot} (h:s.okN n=true) (hm:Nat.le n m):s.okN m=true:=by
 cases s with
 | live cs f=>exact idltL_mo hm cs h
 | fresh=>rfl
 | dead=>rfl
theorem okN_M {n k:Nat} {cs:List V} (h:V.idlt.belowL 0 cs=true):Slot.okN n (.live cs k)=true:=idltL_up _ h
def keptA (n:Nat):List Slot→List Slot→Prop
 | [],_=>True
 | s :: r,st=>(st[0]?=some s∧s.okN n=true)∧keptA n r st.tail
def keptK (n:Nat):List Slot→List Slot→Nat→Prop
 | [],_,_=>True
 | _ :: r,st,0=>keptA n r st.tail
 | s :: r,st,i + 1=>(st[0]?=some s∧s.okN n=true)∧keptK n r st.tail i
theorem keptA_ok {n:Nat}:∀ {r st:List Slot},keptA n r st→∀ (k:Nat) (s:Slot),r[k]?=some s→st[k]?=some s∧s.okN n=true
 | [],st,_,k,s,hk=>by simp at hk
 | x :: r,st,h,0,s,hk=>by
  simp only [List.getElem?_cons_zero,Option.some.injEq] at hk
  subst hk;exact h.1
 | x :: r,st,h,k + 1,s,hk=>by
  rw [List.getElem?_cons_succ] at hk
  obtain ⟨h1,h2⟩:=keptA_ok h.2 k s hk
  rw [List.getElem?_tail] at h1
  exact ⟨h1,h2⟩
theorem keptK_ok {n:Nat}:∀ {r st:List Slot} {i:Nat},keptK n r st i→∀ (k:Nat) (s:Slot),k≠i→r[k]?=some s→st[k]?=some s∧s.okN n=true
 | [],st,i,_,k,s,_,hk=>by simp at hk
 | x :: r,st,0,h,0,s,hn,hk=>absurd rfl hn
 | x :: r,st,0,h,k + 1,s,hn,hk=>by
  rw [List.getElem?_cons_succ] at hk
  obtain ⟨h1,h2⟩:=keptA_ok h k s hk
  rw [List.getElem?_tail] at h1
  exact ⟨h1,h2⟩
 | x :: r,st,i + 1,h,0,s,hn,hk=>by
  simp only [List.getElem?_cons_zero,Option.some.injEq] at hk
  subst hk;exact h.1
 | x :: r,st,i + 1,h,k + 1,s,hn,hk=>by
  rw [List.getElem?_cons_succ] at hk
  obtain ⟨h1,h2⟩:=keptK_ok h.2 k s (fun e=>hn (by rw [e])) hk
  rw [List.getElem?_tail] at h1
  exact ⟨h1,h2⟩
theorem finP_c {rs:List ARes} {fr:List V} {st st0:List Slot} {α:Type} {enc:α→V} {x y:α} {e:AExit} {T:α→List V} {i:Nat} (is:List Nat) (he:e=.normal∨e=.ret) (H:some x=some y) (hi:i < st0.length)
  (h:frzI is st fun st=>keptK st0.length st0 st i∧(∃ T0 rd,st[i]?=some (.live T0 0)∧FzL st T0 (T x) rd∧(T x).all V.one=true)∧resK fr st rs fun vs=>mkRK vs fun v=>v=enc x∧v.idlt 0=true):FinQ (FinR st0 rs (enc y) (st0.set i (.live (T y) 0))) e fr st:=by
 cases H
 obtain ⟨st1,hf,h1,⟨T0,rd,h2,h3,h4⟩,h⟩:=frzI_ok h
 obtain ⟨vs,h5,h6⟩:=resK_ok h
 rw [mkRK_eq] at h6
 obtain ⟨h6,h7⟩:=h6
 have one:∀ v ∈ T x,v.one=true:=by simpa using h4
 have get:∀ (k:Nat),(st0.set i (.live (T x) 0))[k]?=if i=k then some (.live (T x) 0) else st0[k]?:=fun k=>by
  rw [List.getElem?_set]
  by_cases e:i=k
  ·rw [if_pos e,if_pos hi,if_pos e]
  ·rw [if_neg e,if_neg e]
 refine ⟨he,[],st1,vs,hf,h5,.v (.c (.ren (by rw [← h6,ren_nil]) (by rw [← h6];exact idlt_up _ h7))),fun i _ _=>rfl,⟨List.length_set ..,fun k cs f hk=>?_,fun k hk=>?_,fun i j _ _ _ _ _ _ h=>h⟩⟩
 ·rw [get] at hk
  by_cases e:i=k
  ·rw [if_pos e] at hk
   simp only [Option.some.injEq,Slot.live.injEq] at hk
   obtain ⟨rfl,rfl⟩:=hk
   subst e
   exact ⟨T0,h2,wcl_fz h3,.inl one⟩
  ·rw [if_neg e] at hk
   obtain ⟨g1,g2⟩:=keptK_ok h1 k _ (fun q=>e q.symm) hk
   exact ⟨cs,g1,wcl_nil g2,.inr (renL_nil _).symm⟩
 ·rw [get] at hk
  by_cases e:i=k
  ·rw [if_pos e] at hk;cases hk
  ·rw [if_neg e] at hk
   exact (keptK_ok h1 k _ (fun q=>e q.symm) hk).1
theorem askP_c {β:Type} {r:β} {P:Program} {st st0:List Slot} {α:Type} {enc:α→V} {st' : α→List Slot} {m:Option α} {X:α→Option β} {f:Nat} {vs vs' : List V} {k:V→List Nat→List Nat→List Slot→Prop} (hc:∀ s,m=some s→CallsS P f vs' st0 (enc s) (st' s)) (H:m.bind X=some r) (hv:vs=vs') (hs:st=st0) (hl:∀ s,(st' s).length=st0.length)
  (h:∀ s,X s=some r→k (enc s) [] ((allEff (st' s)).map Prod.fst) (st' s)):Ask P f vs st k:=by
 subst hv hs
 obtain ⟨s,hs,H⟩:=bind_c H
 exact Ask_S (hc s hs) (hl s) (h s H)
end Go.Proofs.YtdoakplhalonfaaGreat

namespace Go.Proofs.YtdoakplhalonfaaGreat
open Go.RowKit
end Go.Proofs.YtdoakplhalonfaaGreat

namespace Go.Proofs.YtdoakplhalonfaaGreat
open Go.RowKit
def p_pres_Split (a0:ByteArray):Option (ByteArray × ByteArray × Int) :=
 (p_strings_Cut a0 (⟨#[32]⟩ : ByteArray)).bind fun v1 =>
 bif v1.2.2 then
  (p_addr_IsBare v1.1).bind fun v3 =>
  bif v3 then
   (p_addr_Resource v1.2.1).bind fun v5 =>
   bif (v5 != (0:Int)) then
    some ((⟨#[]⟩ : ByteArray),(⟨#[]⟩ : ByteArray),v5)
   else
   some (v1.1,v1.2.1,(0:Int))
  else
  some ((⟨#[]⟩ : ByteArray),(⟨#[]⟩ : ByteArray),(11:Int))
 else
 some ((⟨#[]⟩ : ByteArray),(⟨#[]⟩ : ByteArray),(4:Int))
def p_mail_key (a0:ByteArray):Option (Bool) :=
 (p_pres_Split a0).bind fun v1 =>
 some (v1.2.2 == (0:Int))
def p_mail_Off_l1 (z7:List MailEntry) (z8:Int):Nat→Int→Int→Option ((Int × Int))
 | 0,_,_=>none
 | n + 1,y6,y9 =>
  bif (decide (y9 < z8)) then
   (at? z7 y9).bind fun x11 =>
   bif x11.P.On then
    p_mail_Off_l1 z7 z8 n y6 (w64 (y9 + (1:Int)))
   else
   p_mail_Off_l1 z7 z8 n (w64 (y6 + (1:Int))) (w64 (y9 + (1:Int)))
  else
  some (y6,y9)
def p_mail_Off (a0:List MailEntry):Option (Int) :=
 (p_mail_Off_l1 a0 (a0.length:Int) fuel (0:Int) (0:Int)).bind fun q14 =>
 some q14.1
def p_mail_Find_l1 (z7:ByteArray) (z9:List MailEntry) (z10:Int):Nat→Int→Int→Option ((Int × Int))
 | 0,_,_=>none
 | n + 1,y8,y11 =>
  bif (decide (y11 < z10)) then
   (at? z9 y11).bind fun x13 =>
   bif (x13.Key.toList == z7.toList) then
    some (y11,y11)
   else
   p_mail_Find_l1 z7 z9 z10 n y8 (w64 (y11 + (1:Int)))
  else
  some (y8,y11)
def p_mail_Find (a0:List MailEntry) (a1:ByteArray):Option (Int) :=
 (p_mail_Find_l1 a1 a0 (a0.length:Int) fuel (-1:Int) (0:Int)).bind fun q16 =>
 some q16.1
def p_mail_State_ordered_l1 (z8:List MailEntry) (z9:Int) (z10:List MailEntry) (z11:Int):Nat→Int→Option (Bool ⊕ Int)
 | 0,_=>none
 | n + 1,y12 =>
  bif (decide (y12 < z11)) then
   (at? z10 y12).bind fun x14 =>
   bif (x14.P.On != (decide (z9≤y12))) then
    some (.inl false)
   else
   (p_mail_Find z8 x14.Key).bind fun v16 =>
   bif (v16 != y12) then
    some (.inl false)
   else
   p_mail_State_ordered_l1 z8 z9 z10 z11 n (w64 (y12 + (1:Int)))
  else
  some (.inr y12)
def p_mail_State_ordered (a0:List MailEntry):Option (Bool) :=
 (p_mail_Off a0).bind fun v1 =>
 (p_mail_State_ordered_l1 a0 v1 a0 (a0.length:Int) fuel (0:Int)).bind fun o18=>match o18 with
 | .inl q19 =>
  some q19
 | .inr q20 =>
  some true
def p_mail_Check_l1 (z8:List MailEntry) (z9:Int):Nat→Int→Option (Int ⊕ Int)
 | 0,_=>none
 | n + 1,y10 =>
  bif (decide (y10 < z9)) then
   (at? z8 y10).bind fun x12 =>
   (p_mail_key x12.Key).bind fun v13 =>
   bif v13 then
    p_mail_Check_l1 z8 z9 n (w64 (y10 + (1:Int)))
   else
   some (.inl (11:Int))
  else
  some (.inr y10)
def p_mail_Check_l2 (z24:List MailEntry) (z25:Int):Nat→Int→Option (Int ⊕ Int)
 | 0,_=>none
 | n + 1,y26 =>
  bif (decide (y26 < z25)) then
   (at? z24 y26).bind fun x28 =>
   (p_pres_Check x28.P).bind fun v29 =>
   bif (v29 != (0:Int)) then
    some (.inl v29)
   else
   p_mail_Check_l2 z24 z25 n (w64 (y26 + (1:Int)))
  else
  some (.inr y26)
def p_mail_Check (a0:List MailEntry):Option (Int) :=
 bif (decide ((16:Int) < (a0.length:Int))) then
  some (5:Int)
 else
 (p_mail_Check_l1 a0 (a0.length:Int) fuel (0:Int)).bind fun o15=>match o15 with
 | .inl q16 =>
  some q16
 | .inr q17 =>
  (p_mail_Check_l2 a0 (a0.length:Int) fuel (0:Int)).bind fun o31=>match o31 with
  | .inl q32 =>
   some q32
  | .inr q33 =>
   (p_mail_State_ordered a0).bind fun v34 =>
   bif v34 then
    some (0:Int)
   else
   some (10:Int)
def p_outq_in (a0:Int):Option (Bool) :=
 bif (decide ((0:Int)≤a0)) then
  some (decide (a0≤(1099511627776:Int)))
 else
 some false
def p_outq_Check (a0:Ref27State):Option (Int) :=
 (p_mail_Check a0.Mail).bind fun v1 =>
 bif (v1 != (0:Int)) then
  some v1
 else
 (p_snap_Check a0.Snap).bind fun v3 =>
 bif (v3 != (0:Int)) then
  some v3
 else
 (p_outq_in a0.Sent).bind fun v5 =>
 bif v5 then
  (p_outq_in a0.Lost).bind fun v7 =>
  bif v7 then
   some (0:Int)
  else
  some (8:Int)
 else
 some (8:Int)
def p_outq_counter_told (a0:OutqTeller):Option (OutqTeller) :=
 some (OutqTeller.mk (OutqCounter.mk (if (1099511627776:Int) < w64 (a0.counter.sent + (1:Int)) then (1099511627776:Int) else w64 (a0.counter.sent + (1:Int)))) a0.st a0.eyes a0.book)
def p_mail_Take (a0:List MailEntry):Option ((List MailEntry) × MailEntry × Bool) :=
 bif ((a0.length:Int) == (0:Int)) then
  some (a0,(MailEntry.mk (⟨#[]⟩ : ByteArray) (PresPres.mk false (0:Int) (0:Int) (0:Int))),false)
 else
 (p_mail_Check a0).bind fun v2 =>
 bif (v2 != (0:Int)) then
  some (a0,(MailEntry.mk (⟨#[]⟩ : ByteArray) (PresPres.mk false (0:Int) (0:Int) (0:Int))),false)
 else
 (cut? a0 (some (1:Int)) none).bind fun x4 =>
 (at? a0 (0:Int)).bind fun x5 =>
 some (x4,x5,true)
def p_outq_teller_next (a0:OutqTeller):Option (OutqTeller × StanzaStanza × Bool) :=
 bif a0.st.Snap.On then
  (p_snap_Next a0.st.Snap a0.eyes a0.book).bind fun v2 =>
  bif v2.2.2 then
   (p_outq_counter_told (OutqTeller.mk a0.counter (Ref27State.mk a0.st.Mail v2.1 a0.st.Sent a0.st.Lost) a0.eyes a0.book)).bind fun v4 =>
   some (v4,v2.2.1,v2.2.2)
  else
  some (a0,v2.2.1,v2.2.2)
 else
 (p_mail_Take a0.st.Mail).bind fun v5 =>
 bif v5.2.2 then
  (p_outq_counter_told (OutqTeller.mk a0.counter (Ref27State.mk v5.1 a0.st.Snap a0.st.Sent a0.st.Lost) a0.eyes a0.book)).bind fun v7 =>
  (p_pres_Split v5.2.1.Key).bind fun v8 =>
  (p_pres_Say v8.1 v8.2.1 v5.2.1.P).bind fun v9 =>
  some (v7,v9,true)
 else
 some (a0,(StanzaStanza.mk (0:Int) (⟨#[]⟩ : ByteArray) (⟨#[]⟩ : ByteArray) (⟨#[]⟩ : ByteArray) (0:Int) (0:Int) (0:Int) (0:Int)),false)
def p_outq_Flush_l1 (z8:Int):Nat→(List StanzaStanza)→OutqTeller→Option (((List StanzaStanza) × OutqTeller))
 | 0,_,_=>none
 | n + 1,y9,y10 =>
  bif (decide ((y9.length:Int) < (if (1000:Int) < z8 then (1000:Int) else z8))) then
   (p_outq_teller_next y10).bind fun v13 =>
   bif v13.2.2 then
    (app? y9 [v13.2.1]).bind fun l15 =>
    p_outq_Flush_l1 z8 n l15 v13.1
   else
   some (y9,v13.1)
  else
  some (y9,y10)
def p_outq_Flush (a0:Ref27State) (a1:SnapEyes) (a2:BookState) (a3:Int):Option (Ref27State × (List StanzaStanza)) :=
 (p_outq_Check a0).bind fun v1 =>
 bif (v1 != (0:Int)) then
  some (a0,[])
 else
 (p_outq_Flush_l1 a3 fuel [] (OutqTeller.mk (OutqCounter.mk a0.Sent) a0 a1 a2)).bind fun q17 =>
 some ((Ref27State.mk q17.2.st.Mail q17.2.st.Snap q17.2.counter.sent q17.2.st.Lost),q17.1)
def p_outq_Next (a0:Ref27State) (a1:SnapEyes) (a2:BookState):Option (Ref27State × StanzaStanza × Bool) :=
 (p_outq_Flush a0 a1 a2 (1:Int)).bind fun v1 =>
 bif ((v1.2.length:Int) == (0:Int)) then
  some (a0,(StanzaStanza.mk (0:Int) (⟨#[]⟩ : ByteArray) (⟨#[]⟩ : ByteArray) (⟨#[]⟩ : ByteArray) (0:Int) (0:Int) (0:Int) (0:Int)),false)
 else
 (at? v1.2 (0:Int)).bind fun x3 =>
 some (v1.1,x3,true)
def p_pres_Newer (a0:PresPres) (a1:PresPres):Option (Bool) :=
 some (decide (a1.Seq < a0.Seq))
def p_mail_Put (a0:List MailEntry) (a1:ByteArray) (a2:PresPres):Option ((List MailEntry) × Int) :=
 (clone? a0).bind fun l1 =>
 (p_mail_Check a0).bind fun v2 =>
 bif (v2 != (0:Int)) then
  some (l1,v2)
 else
 (p_mail_key a1).bind fun v4 =>
 bif v4 then
  (p_pres_Check a2).bind fun v6 =>
  bif (v6 != (0:Int)) then
   some (l1,v6)
  else
  (p_mail_Find a0 a1).bind fun v8 =>
  bif (v8 == (-1:Int)) then
   bif ((a0.length:Int) == (16:Int)) then
    some (l1,(7:Int))
   else
   bif a2.On then
    (insAt? l1 (l1.length:Int) (MailEntry.mk a1 a2)).bind fun v12 =>
    some (v12,(0:Int))
   else
   (p_mail_Off l1).bind fun v13 =>
   (insAt? l1 v13 (MailEntry.mk a1 a2)).bind fun v14 =>
   some (v14,(0:Int))
  else
  (at? a0 v8).bind fun x15 =>
  (p_pres_Newer a2 x15.P).bind fun v16 =>
  bif v16 then
   (at? a0 v8).bind fun x18 =>
   bif (a2.On == x18.P.On) then
    (at? l1 v8).bind fun x20 =>
    some ((List.set l1 (Int.toNat v8) (MailEntry.mk x20.Key a2)),(0:Int))
   else
   (del? l1 v8 (w64 (v8 + (1:Int)))).bind fun v22 =>
   bif a2.On then
    (insAt? v22 (v22.length:Int) (MailEntry.mk a1 a2)).bind fun v24 =>
    some (v24,(0:Int))
   else
   (p_mail_Off v22).bind fun v25 =>
   (insAt? v22 v25 (MailEntry.mk a1 a2)).bind fun v26 =>
   some (v26,(0:Int))
  else
  some (l1,(0:Int))
 else
 some (l1,(11:Int))
def p_outq_State_anew (a0:Ref27State):Option (Ref27State) :=
 (p_snap_Begin).bind fun v1 =>
 some (Ref27State.mk [] v1 a0.Sent a0.Lost)
def p_outq_Add (a0:Ref27State) (a1:ByteArray) (a2:PresPres):Option (Ref27State) :=
 (p_outq_Check a0).bind fun v1 =>
 bif (v1 != (0:Int)) then
  some a0
 else
 (p_snap_Covers a0.Snap a1).bind fun v3 =>
 bif v3 then
  some a0
 else
 (p_mail_Put a0.Mail a1 a2).bind fun v5 =>
 bif (v5.2 == (0:Int)) then
  some (Ref27State.mk v5.1 a0.Snap a0.Sent a0.Lost)
 else
 bif (v5.2 == (7:Int)) then
  (p_outq_State_anew a0).bind fun v8 =>
  some (Ref27State.mk v8.Mail v8.Snap v8.Sent (if (1099511627776:Int) < w64 (v8.Lost + (1:Int)) then (1099511627776:Int) else w64 (v8.Lost + (1:Int))))
 else
 some a0
def p_outq_Begin (a0:Ref27State):Option (Ref27State) :=
 (p_outq_Check a0).bind fun v1 =>
 bif (v1 != (0:Int)) then
  some a0
 else
 (p_outq_State_anew a0).bind fun v3 =>
 some v3
def p_mail_Entry_user (a0:MailEntry):Option (ByteArray) :=
 (p_pres_Split a0.Key).bind fun v1 =>
 some v1.1
def p_mail_Drop_1 (a0:MailEntry) (c0:ByteArray):Option (Bool) :=
 (p_mail_Entry_user a0).bind fun v1 =>
 some (v1.toList == c0.toList)
def p_mail_Drop (a0:List MailEntry) (a1:ByteArray):Option ((List MailEntry) × Int) :=
 (clone? a0).bind fun l1 =>
 (p_mail_Check a0).bind fun v2 =>
 bif (v2 != (0:Int)) then
  some (l1,(0:Int))
 else
 (delF? (fun x0=>p_mail_Drop_1 x0 a1) l1).bind fun v4 =>
 some (v4,w64 ((a0.length:Int) - (v4.length:Int)))
def p_outq_Forget (a0:Ref27State) (a1:ByteArray):Option (Ref27State) :=
 (p_outq_Check a0).bind fun v1 =>
 bif (v1 == (0:Int)) then
  (p_mail_Drop a0.Mail a1).bind fun v3 =>
  some (Ref27State.mk v3.1 a0.Snap a0.Sent a0.Lost)
 else
 some a0
def p_outq_Len (a0:Ref27State):Option (Int) :=
 bif a0.Snap.On then
  some (w64 ((a0.Mail.length:Int) + (1:Int)))
 else
 some (a0.Mail.length:Int)
def p_outq_Wants (a0:Ref27State):Option (Bool) :=
 (p_outq_Len a0).bind fun v1 =>
 some (decide ((0:Int) < v1))
def p_slices_Equal_mail_State_mail_Entry__l1 (z7:List MailEntry) (z8:List MailEntry) (z9:Int):Nat→Int→Option (Bool ⊕ Int)
 | 0,_=>none
 | n + 1,y10 =>
  bif (decide (y10 < z9)) then
   (at? z7 y10).bind fun x12 =>
   (at? z8 y10).bind fun x13 =>
   bif ((x12.Key.toList == x13.Key.toList) && ((x12.P.On == x13.P.On) && ((x12.P.Show == x13.P.Show) && ((x12.P.Prio == x13.P.Prio) && ((x12.P.Seq == x13.P.Seq) && true))))) then
    p_slices_Equal_mail_State_mail_Entry__l1 z7 z8 z9 n (w64 (y10 + (1:Int)))
   else
   some (.inl false)
  else
  some (.inr y10)
def p_slices_Equal_mail_State_mail_Entry_ (a0:List MailEntry) (a1:List MailEntry):Option (Bool) :=
 bif ((a0.length:Int) != (a1.length:Int)) then
  some false
 else
 (p_slices_Equal_mail_State_mail_Entry__l1 a0 a1 (a0.length:Int) fuel (0:Int)).bind fun o15=>match o15 with
 | .inl q16 =>
  some q16
 | .inr q17 =>
  some true
def p_mail_Same (a0:List MailEntry) (a1:List MailEntry):Option (Bool) :=
 (p_slices_Equal_mail_State_mail_Entry_ a0 a1).bind fun v1 =>
 some v1
def p_outq_Same (a0:Ref27State) (a1:Ref27State):Option (Bool) :=
 (p_mail_Same a0.Mail a1.Mail).bind fun v1 =>
 bif v1 then
  bif ((a0.Snap.On == a1.Snap.On) && ((a0.Snap.Begun == a1.Snap.Begun) && ((a0.Snap.After.toList == a1.Snap.After.toList) && ((a0.Snap.Told == a1.Snap.Told) && true)))) then
   bif (a0.Sent == a1.Sent) then
    some (a0.Lost == a1.Lost)
   else
   some false
  else
  some false
 else
 some false
end Go.Proofs.YtdoakplhalonfaaGreat

