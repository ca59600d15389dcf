/- ItemBack: for every input the call returns true, and its arguments read as they did. -/
import Derived.Test.YtpmoioopjbfhkaaXbA1
import Derived.Test.YtpmoioopjbfhkaaXaA11
import Derived.Test.YtpmoioopjbfhkaaXaA12
import Derived.KernelRfl
import Derived.Test.YtpmoioopjbfhkaaXaA14
import Derived.Test.YtpmoioopjbfhkaaXaA13
import Derived.Test.YtpmoioopjbfhkaaXaA10
import Derived.Test.YtpmoioopjbfhkaaRows
set_option linter.all false
/- stanza.Check in the abstract: Check. -/
namespace Go.Proofs.Ytpmoioopjbfhkaa
open Go.RowKit
theorem ite_P {P:List UInt8→Prop} {p:Prop} [Decidable p] {a b:List UInt8} (ha:P a) (hb:P b):P (if p then a else b):=by split <;> assumption
theorem hasN_first (k:Nat):(hasN k).any (· == 117)=((hasN k).headD 0 == 117):=by
 unfold hasN
 repeat' (refine ite_P (P:=fun l=>l.any (· == 117)=(l.headD 0 == 117)) ?_ ?_)
 all_goals rfl
attribute [local irreducible] CallsS CallsV Callable
set_option maxHeartbeats 1000000 in
theorem stzCheck_v (s:StzD) (hu:s.user.size≤100000) (hr:s.res.size≤100000) (hn:s.name.size≤100000):CallsV Try.prog 27 [stzV s] (.i (checkS s)):=by
 refine callsV_comp mix Try.func27 ac27_ok ?_
 unfold ac27
 simp only [List.length_cons,List.length_nil,List.replicate_succ,List.replicate_zero,List.cons_append,List.nil_append,Nat.reduceAdd,Nat.reduceSub]
 have hc:=has_v s.kind
 have hl:=hasN_len s.kind.toNat
 have hb0:=ba_list (hasN s.kind.toNat)
 have hz:=ba_size (hasN s.kind.toNat)
 have hL:hasC s.kind 117=((hasN s.kind.toNat).headD 0 == 117):=hasN_first _
 generalize hasN s.kind.toNat=L at *
 generalize ba L=u at *
 obtain ⟨b1,hb1⟩ : ∃ b,(!(u.toList == (⟨#[]⟩ : ByteArray).toList))=b:=⟨_,rfl⟩
 have hpos:b1=true→0 < u.size:=by
  intro h;subst hb1;rw [hz];cases L with
  | nil =>
   have e:u.toList=(⟨#[]⟩ : ByteArray).toList:=by
    have:u=⟨#[]⟩:=by
     rcases u with ⟨⟨l⟩⟩
     simp at hb0;simp [hb0]
    rw [this]
   rw [e] at h;simp at h
  | cons=>simp
 have hk1:b1=false→hasC s.kind 117=false:=by
  intro h;subst hb1;rw [hL]
  have e:u.toList=(⟨#[]⟩ : ByteArray).toList:=by simpa using h
  cases L with
  | nil=>rfl
  | cons c L =>
   have:u.data.toList=[]:=by
    have e2:u.toList=[]:=by rw [e];simp
    rw [(Go.toList_nil_iff_emptyBytes u).1 e2];rfl
   rw [hb0] at this;cases this
 have hk2:∀ h:b1=true,hasC s.kind 117=(((u[0]'(hpos h)).toNat:Int) == 117):=by
  intro h
  rw [hL]
  have h0:=hpos h
  cases L with
  | nil=>rw [hz] at h0;exact absurd h0 (by simp)
  | cons c L =>
   have:u[0]=c:=by
    have e:u[0]=u.data.toList[0]'(by rw [hb0];simp):=rfl
    rw [e];simp [hb0]
   rw [this]
   show (c == 117)=_
   rw [Bool.eq_iff_iff];simp only [beq_iff_eq,← UInt8.toNat_inj]
   have:UInt8.toNat 117=117:=rfl
   omega
 repeat' (first | (first | refine w_blk ?_ | refine w_seq ?_ | refine w_reg (by (try simp only [List.length_cons,List.length_nil,Nat.reduceAdd]);rfl) (by (try simp only [List.replicate_succ,List.replicate_zero,List.cons_append,List.nil_append,List.append_nil]);rfl) (fun K' hK'=>?_) | refine w_condT rfl ?_ | refine w_condF rfl ?_ | (refine w_cond2 rfl (fun hb=>?_) (fun hb=>?_) <;> simp only [putF,List.set_cons_zero,List.set_cons_succ,evO,List.getD_cons_zero,List.getD_cons_succ,V.ofValue,ofC,V.cells,partV,List.drop_zero,List.drop_succ_cons,List.take_succ_cons,List.take_zero,Nat.reduceAdd,Nat.reduceMul,Nat.zero_add,Nat.add_zero,if_true,if_false,Bool.false_eq_true,List.nil_append,List.cons_append,List.append_nil,List.map_cons,List.map_nil,stzV,List.set,byteV,Nat.mul_one,hb1]) | refine w_ret ?_ | refine w_skip ?_ | refine w_exit ?_ | refine q_seqN ?_ | refine q_seqR ?_ | refine q_seqE ?_ | refine q_blkN ?_ | refine q_blkR ?_ | refine q_blkH ?_ | refine q_blkE rfl ?_ | refine q_loopR ?_ | refine q_loopE ?_ | (refine x_end ?_;refine hK' _ _ _ ?_;clear hK' K';first | refine q_regT ?_ | refine q_regD rfl ?_)) | ((first | refine x_mv rfl ?_ | refine x_off rfl ?_ | refine x_ldP rfl rfl rfl (Nat.le_of_ble_eq_true rfl) ?_ | refine x_faP rfl rfl ?_ | refine x_ldE rfl rfl (Nat.le_of_ble_eq_true rfl) ?_ | refine x_faE rfl rfl (Nat.le_of_ble_eq_true rfl) ?_ | refine x_add rfl rfl rfl (by omega) ?_ | refine x_sub rfl rfl rfl (by omega) ?_ | refine x_cat rfl rfl rfl (by omega) ?_ | refine x_binI rfl rfl rfl rfl ?_ | refine x_binS rfl rfl rfl rfl ?_ | refine x_pick rfl rfl ?_ | refine x_un rfl rfl rfl ?_ | refine x_bx rfl rfl rfl ?_ | refine x_al rfl rfl rfl ?_ | refine x_st rfl rfl rfl rfl rfl (Nat.le_of_ble_eq_true rfl) (Nat.le_of_ble_eq_true rfl) ?_ | refine x_eqa rfl rfl rfl rfl rfl rfl ?_ | refine x_bd rfl rfl ?_ | refine x_ex rfl rfl rfl ?_ | refine x_fd rfl rfl (Nat.le_of_ble_eq_true rfl) ?_ | refine x_lenM rfl rfl ?_ | refine x_lenS rfl rfl ?_ | refine x_lent rfl rfl ?_ | refine x_lenO rfl rfl ?_ | refine x_binb rfl rfl rfl ?_ | refine x_cvs rfl rfl ?_ | refine x_cvi0 rfl rfl (by omega) ?_ | refine x_bs rfl rfl rfl rfl ?_ | refine x_mf rfl ?_ | refine x_s2b rfl rfl ?_ | refine x_eqpP rfl rfl rfl ?_ | refine x_eqpN rfl rfl rfl ?_ | refine x_ncP rfl rfl ?_ | refine x_ncE rfl rfl ?_ | refine x_ncC rfl rfl ?_);simp only [putF,List.set_cons_zero,List.set_cons_succ,evO,List.getD_cons_zero,List.getD_cons_succ,V.ofValue,ofC,V.cells,partV,List.drop_zero,List.drop_succ_cons,List.take_succ_cons,List.take_zero,Nat.reduceAdd,Nat.reduceMul,Nat.zero_add,Nat.add_zero,if_true,if_false,Bool.false_eq_true,List.nil_append,List.cons_append,List.append_nil,List.map_cons,List.map_nil,stzV,List.set,byteV,Nat.mul_one,hb1]) | (refine x_cl0 rfl (hc) rfl rfl ?_;simp only [putF,List.set_cons_zero,List.set_cons_succ,evO,List.getD_cons_zero,List.getD_cons_succ,V.ofValue,ofC,V.cells,partV,List.drop_zero,List.drop_succ_cons,List.take_succ_cons,List.take_zero,Nat.reduceAdd,Nat.reduceMul,Nat.zero_add,Nat.add_zero,if_true,if_false,Bool.false_eq_true,List.nil_append,List.cons_append,List.append_nil,List.map_cons,List.map_nil,stzV,List.set,byteV,Nat.mul_one,hb1]) | (refine x_cl0 rfl (known_v s.kind) rfl rfl ?_;simp only [putF,List.set_cons_zero,List.set_cons_succ,evO,List.getD_cons_zero,List.getD_cons_succ,V.ofValue,ofC,V.cells,partV,List.drop_zero,List.drop_succ_cons,List.take_succ_cons,List.take_zero,Nat.reduceAdd,Nat.reduceMul,Nat.zero_add,Nat.add_zero,if_true,if_false,Bool.false_eq_true,List.nil_append,List.cons_append,List.append_nil,List.map_cons,List.map_nil,stzV,List.set,byteV,Nat.mul_one,hb1]) | (refine x_cl0 rfl (bare_v s) rfl rfl ?_;simp only [putF,List.set_cons_zero,List.set_cons_succ,evO,List.getD_cons_zero,List.getD_cons_succ,V.ofValue,ofC,V.cells,partV,List.drop_zero,List.drop_succ_cons,List.take_succ_cons,List.take_zero,Nat.reduceAdd,Nat.reduceMul,Nat.zero_add,Nat.add_zero,if_true,if_false,Bool.false_eq_true,List.nil_append,List.cons_append,List.append_nil,List.map_cons,List.map_nil,stzV,List.set,byteV,Nat.mul_one,hb1]) | (refine x_cl0 rfl (stzIn_v _ _ _) rfl rfl ?_;simp only [putF,List.set_cons_zero,List.set_cons_succ,evO,List.getD_cons_zero,List.getD_cons_succ,V.ofValue,ofC,V.cells,partV,List.drop_zero,List.drop_succ_cons,List.take_succ_cons,List.take_zero,Nat.reduceAdd,Nat.reduceMul,Nat.zero_add,Nat.add_zero,if_true,if_false,Bool.false_eq_true,List.nil_append,List.cons_append,List.append_nil,List.map_cons,List.map_nil,stzV,List.set,byteV,Nat.mul_one,hb1]) | (refine x_cl0 rfl (plain_v _ (by assumption)) rfl rfl ?_;simp only [putF,List.set_cons_zero,List.set_cons_succ,evO,List.getD_cons_zero,List.getD_cons_succ,V.ofValue,ofC,V.cells,partV,List.drop_zero,List.drop_succ_cons,List.take_succ_cons,List.take_zero,Nat.reduceAdd,Nat.reduceMul,Nat.zero_add,Nat.add_zero,if_true,if_false,Bool.false_eq_true,List.nil_append,List.cons_append,List.append_nil,List.map_cons,List.map_nil,stzV,List.set,byteV,Nat.mul_one,hb1]) | (refine x_cl0 rfl (isBare_v _ (by assumption)) rfl rfl ?_;simp only [putF,List.set_cons_zero,List.set_cons_succ,evO,List.getD_cons_zero,List.getD_cons_succ,V.ofValue,ofC,V.cells,partV,List.drop_zero,List.drop_succ_cons,List.take_succ_cons,List.take_zero,Nat.reduceAdd,Nat.reduceMul,Nat.zero_add,Nat.add_zero,if_true,if_false,Bool.false_eq_true,List.nil_append,List.cons_append,List.append_nil,List.map_cons,List.map_nil,stzV,List.set,byteV,Nat.mul_one,hb1]) | (refine x_cl0 rfl (res_v _ (by assumption)) rfl rfl ?_;simp only [putF,List.set_cons_zero,List.set_cons_succ,evO,List.getD_cons_zero,List.getD_cons_succ,V.ofValue,ofC,V.cells,partV,List.drop_zero,List.drop_succ_cons,List.take_succ_cons,List.take_zero,Nat.reduceAdd,Nat.reduceMul,Nat.zero_add,Nat.add_zero,if_true,if_false,Bool.false_eq_true,List.nil_append,List.cons_append,List.append_nil,List.map_cons,List.map_nil,stzV,List.set,byteV,Nat.mul_one,hb1]) | (refine x_ixt rfl rfl rfl (n:=0) rfl (hpos hb) ?_;simp only [putF,List.set_cons_zero,List.set_cons_succ,evO,List.getD_cons_zero,List.getD_cons_succ,V.ofValue,ofC,V.cells,partV,List.drop_zero,List.drop_succ_cons,List.take_succ_cons,List.take_zero,Nat.reduceAdd,Nat.reduceMul,Nat.zero_add,Nat.add_zero,if_true,if_false,Bool.false_eq_true,List.nil_append,List.cons_append,List.append_nil,List.map_cons,List.map_nil,stzV,List.set,byteV,Nat.mul_one,hb1]) | (refine x_case rfl (fun hb=>?_) (fun hb=>?_) <;> simp only [putF,List.set_cons_zero,List.set_cons_succ,evO,List.getD_cons_zero,List.getD_cons_succ,V.ofValue,ofC,V.cells,partV,List.drop_zero,List.drop_succ_cons,List.take_succ_cons,List.take_zero,Nat.reduceAdd,Nat.reduceMul,Nat.zero_add,Nat.add_zero,if_true,if_false,Bool.false_eq_true,List.nil_append,List.cons_append,List.append_nil,List.map_cons,List.map_nil,stzV,List.set,byteV,Nat.mul_one,hb1]))
 all_goals refine f_lit (by simp) rfl ?_
 all_goals
  clear hc hb0 hz hu hr hn hl
  unfold checkS rangeL
  first
  | (have h2:=(hk2 (by assumption)).trans (by first | assumption | exact eq_false_of_ne_true ‹_›);clear hk1 hk2 hL hb1;simp_all;done)
  | (have h2:=(hk2 (by assumption)).trans (by assumption);clear hk1 hk2 hL hb1;simp_all;omega)
  | (have h2:=hk1 (by assumption);clear hk1 hk2 hL hb1;simp_all;done)
  | (have h2:=hk1 (by assumption);clear hk1 hk2 hL hb1;simp_all;omega)
  | (clear hL hk1 hk2;generalize hasC s.kind 117=h1 at *;simp_all;done)
  | (clear hL hk1 hk2;generalize hasC s.kind 117=h1 at *;simp_all;omega)
  | (have h2:=hk1 (by assumption);clear hk1 hk2 hL hb1;simp_all;trace_state)
  | (have h2:=(hk2 (by assumption)).trans (by assumption);clear hk1 hk2 hL hb1;simp_all;trace_state)
end Go.Proofs.Ytpmoioopjbfhkaa

/- Contracts of stanzas, as plain functions. -/
namespace Go.Proofs.Ytpmoioopjbfhkaa
open Go.RowKit
def stzOf (x:StanzaStanza):StzD:={ kind:=UInt8.ofNat x.Kind.toNat,user:=x.User,res:=x.Res,name:=x.Name,show_:=x.Show,prio:=x.Prio,code:=x.Code,n:=x.N }
def stzFits (x:StanzaStanza):Prop:=(0≤x.Kind∧x.Kind≤255)∧x.User.size≤100000∧x.Res.size≤100000∧x.Name.size≤100000
instance (x:StanzaStanza):Decidable (stzFits x):=inferInstanceAs (Decidable (_∧_))
theorem u8_of {k:Int} (h:0≤k∧k≤255):((UInt8.ofNat k.toNat).toNat:Int)=k:=by
 simp only [UInt8.toNat_ofNat'];omega
theorem stz_V {x:StanzaStanza} (h:stzFits x):x.v=stzV (stzOf x):=by
 unfold StanzaStanza.v stzV stzOf
 simp only [V.u8,V.y8,u8_of h.1]
def p_stanza_Check (x:StanzaStanza):Option Int:=if stzFits x then some (checkS (stzOf x)) else none
theorem p_stanza_Check_v (x:StanzaStanza):CallsO Try.prog 27 [x.v] V.i (p_stanza_Check x):=callsO_if fun h=>by
 rw [stz_V h];exact stzCheck_v (stzOf x) h.2.1 h.2.2.1 h.2.2.2
end Go.Proofs.Ytpmoioopjbfhkaa

/- Plain functions (written by a program of mine). -/
namespace Go.Proofs.Ytpmoioopjbfhkaa
open Go.RowKit
def p_law20_ItemBack (a0:ItemItem) (a1:ByteArray):Option (Bool) :=
 (p_ref20_Light a0).bind fun v1 =>
 bif v1 then
  bif (decide ((150:Int) < (a1.size:Int))) then
   (p_law20_awake).bind fun v4 =>
   some v4
  else
  (p_item_Put a0).bind fun v5 =>
  (p_item_Get v5.1).bind fun v6 =>
  (p_item_Get a1).bind fun v7 =>
  (p_item_Put v7.1).bind fun v8 =>
  (p_item_Check a0).bind fun v9 =>
  (p_item_Push a0).bind fun v10 =>
  bif ((v5.2 == (0:Int)) == (v9 == (0:Int))) then
   bif (v9 == (0:Int)) then
    bif (v6.2 == (0:Int)) then
     bif ((v6.1.Contact.toList == a0.Contact.toList) && ((v6.1.Name.toList == a0.Name.toList) && ((v6.1.Sub == a0.Sub) && ((v6.1.Ver == a0.Ver) && ((v6.1.Own == a0.Own) && true))))) then
      bif (decide ((v5.1.size:Int)≤(66:Int))) then
       bif (v7.2 != (0:Int)) then
        (p_stanza_Check v10).bind fun v17 =>
        bif (v17 == (0:Int)) then
         (p_item_Listed a0).bind fun v19 =>
         bif ((v10.Kind == (38:Int)) == v19) then
          (p_item_Idle a0).bind fun v21 =>
          bif v21 then
           (p_item_Listed a0).bind fun v23 =>
           bif v23 then
            some false
           else
           (p_law20_awake).bind fun v25 =>
           some v25
          else
          bif false then
           some false
          else
          (p_law20_awake).bind fun v27 =>
          some v27
         else
         some false
        else
        some false
       else
       bif (v8.2 == (0:Int)) then
        bif (v8.1.toList == a1.toList) then
         (p_stanza_Check v10).bind fun v30 =>
         bif (v30 == (0:Int)) then
          (p_item_Listed a0).bind fun v32 =>
          bif ((v10.Kind == (38:Int)) == v32) then
           (p_item_Idle a0).bind fun v34 =>
           bif v34 then
            (p_item_Listed a0).bind fun v36 =>
            bif v36 then
             some false
            else
            (p_law20_awake).bind fun v38 =>
            some v38
           else
           bif false then
            some false
           else
           (p_law20_awake).bind fun v40 =>
           some v40
          else
          some false
         else
         some false
        else
        some false
       else
       some false
      else
      some false
     else
     some false
    else
    some false
   else
   bif (v7.2 != (0:Int)) then
    bif ((v10.Kind == (0:Int)) && ((v10.User.toList == (⟨#[]⟩ : ByteArray).toList) && ((v10.Res.toList == (⟨#[]⟩ : ByteArray).toList) && ((v10.Name.toList == (⟨#[]⟩ : ByteArray).toList) && ((v10.Show == (0:Int)) && ((v10.Prio == (0:Int)) && ((v10.Code == (0:Int)) && ((v10.N == (0:Int)) && true)))))))) then
     (p_item_Idle a0).bind fun v43 =>
     bif v43 then
      (p_item_Listed a0).bind fun v45 =>
      bif v45 then
       some false
      else
      (p_law20_awake).bind fun v47 =>
      some v47
     else
     bif false then
      some false
     else
     (p_law20_awake).bind fun v49 =>
     some v49
    else
    some false
   else
   bif (v8.2 == (0:Int)) then
    bif (v8.1.toList == a1.toList) then
     bif ((v10.Kind == (0:Int)) && ((v10.User.toList == (⟨#[]⟩ : ByteArray).toList) && ((v10.Res.toList == (⟨#[]⟩ : ByteArray).toList) && ((v10.Name.toList == (⟨#[]⟩ : ByteArray).toList) && ((v10.Show == (0:Int)) && ((v10.Prio == (0:Int)) && ((v10.Code == (0:Int)) && ((v10.N == (0:Int)) && true)))))))) then
      (p_item_Idle a0).bind fun v53 =>
      bif v53 then
       (p_item_Listed a0).bind fun v55 =>
       bif v55 then
        some false
       else
       (p_law20_awake).bind fun v57 =>
       some v57
      else
      bif false then
       some false
      else
      (p_law20_awake).bind fun v59 =>
      some v59
     else
     some false
    else
    some false
   else
   some false
  else
  some false
 else
 (p_law20_awake).bind fun v60 =>
 some v60
end Go.Proofs.Ytpmoioopjbfhkaa

/- ItemBack in plain words. -/
namespace Go.Proofs.Ytpmoioopjbfhkaa
open Go.RowKit
theorem text_go {S:ByteArray} {a:Nat} {m:Int} {u:UInt8} {t:List UInt8} (hn:S.data.toList.length≤1000) (h:S.data.toList.drop a=u :: t) (hm:(u.toNat:Int)≤m) (hl:u.toNat≤t.length) :
  ∃ x:ByteArray,p_octet_Text (rdA S a) m=some (rdA S (a + 1 + u.toNat),x)∧x.data.toList=t.take u.toNat∧S.data.toList.drop (a + 1 + u.toNat)=t.drop u.toNat:=by
 have hlen:=congrArg List.length h
 rw [List.length_drop,List.length_cons] at hlen
 have hlt:a < S.data.toList.length:=by omega
 rw [drop_at hlt] at h
 obtain ⟨h1,h2⟩:=List.cons.inj h
 obtain ⟨x,g1,g2⟩:=text_yes (S:=S) (a:=a) (n:=u.toNat) (m:=m) hn hlt (by rw [h1]) hm (by omega)
 exact ⟨x,g1,by rw [g2,h2],by rw [← h2,List.drop_drop]⟩
theorem num_go {S:ByteArray} {a w:Nat} {p t:List UInt8} (hw:w=1∨w=6) (hn:S.data.toList.length≤1000) (h:S.data.toList.drop a=p++t) (hp:p.length=w) :
  p_octet_Num (rdA S a) (w:Int)=some (rdA S (a + w),((fold8 0 p:Nat):Int))∧S.data.toList.drop (a + w)=t:=by
 have hlen:=congrArg List.length h
 rw [List.length_drop,List.length_append] at hlen
 have hal:a + w≤S.data.toList.length:=by omega
 have:=num_yes (S:=S) (a:=a) hw hn hal
 rw [h,List.take_left' hp] at this
 exact ⟨this,by rw [← List.drop_drop,h,List.drop_left' hp]⟩
theorem u8_nat (b:UInt8):UInt8.ofNat b.toNat=b:=by simp
theorem map_bytesI (s:ByteArray):(bytesI s).map (fun b=>UInt8.ofNat b.toNat)=s.data.toList:=by
 unfold bytesI
 rw [List.map_map]
 conv=>rhs;rw [← List.map_id s.data.toList]
 exact List.map_congr_left fun b _=>by simp
theorem tx_list (l:List Int):(tx l).data.toList=l.map (fun b=>UInt8.ofNat b.toNat):=by simp [tx]
theorem bytesI_size (s:ByteArray):s.data.toList.length=s.size:=by simp
def six (n:Nat):List UInt8:=(layI n).map (fun b=>UInt8.ofNat b.toNat)
theorem fold_six {n:Nat} (h:n≤1099511627776):fold8 0 (six n)=n:=by
 simp only [six,layI,List.map_cons,List.map_nil,Int.toNat_natCast,fold8,List.foldl_cons,List.foldl_nil,UInt8.toNat_ofNat']
 omega
theorem six_fold {E:List UInt8} (h:E.length=6):six (fold8 0 E)=E:=by
 match E,h with
 | [a,b,c,d,e,f],_ =>
  have ha:=a.toNat_lt;have hb:=b.toNat_lt;have hc:=c.toNat_lt;have hd:=d.toNat_lt;have he:=e.toNat_lt;have hf:=f.toNat_lt
  simp only [fold8,List.foldl_cons,List.foldl_nil,six,layI,List.map_cons,List.map_nil,Int.toNat_natCast]
  have q0:(((((0 * 256 + a.toNat) * 256 + b.toNat) * 256 + c.toNat) * 256 + d.toNat) * 256 + e.toNat) * 256 + f.toNat=a.toNat * 1099511627776 + b.toNat * 4294967296 + c.toNat * 16777216 + d.toNat * 65536 + e.toNat * 256 + f.toNat:=by omega
  rw [q0]
  have p1:(a.toNat * 1099511627776 + b.toNat * 4294967296 + c.toNat * 16777216 + d.toNat * 65536 + e.toNat * 256 + f.toNat) / 2 ^ 40 % 256=a.toNat:=by omega
  have p2:(a.toNat * 1099511627776 + b.toNat * 4294967296 + c.toNat * 16777216 + d.toNat * 65536 + e.toNat * 256 + f.toNat) / 2 ^ 32 % 256=b.toNat:=by omega
  have p3:(a.toNat * 1099511627776 + b.toNat * 4294967296 + c.toNat * 16777216 + d.toNat * 65536 + e.toNat * 256 + f.toNat) / 2 ^ 24 % 256=c.toNat:=by omega
  have p4:(a.toNat * 1099511627776 + b.toNat * 4294967296 + c.toNat * 16777216 + d.toNat * 65536 + e.toNat * 256 + f.toNat) / 2 ^ 16 % 256=d.toNat:=by omega
  have p5:(a.toNat * 1099511627776 + b.toNat * 4294967296 + c.toNat * 16777216 + d.toNat * 65536 + e.toNat * 256 + f.toNat) / 2 ^ 8 % 256=e.toNat:=by omega
  have p6:(a.toNat * 1099511627776 + b.toNat * 4294967296 + c.toNat * 16777216 + d.toNat * 65536 + e.toNat * 256 + f.toNat) % 256=f.toNat:=by omega
  rw [p1,p2,p3,p4,p5,p6]
  simp only [u8_nat]
theorem six_len (n:Nat):(six n).length=6:=rfl
def kindB (x:ItemItem):Nat:=(bif x.Own then x.Sub + 16 else x.Sub).toNat
theorem bytI_list {x:ItemItem} (hc:x.Contact.size≤33) (hn:x.Name.size≤24):(tx (bytI x)).data.toList=UInt8.ofNat x.Contact.size :: (x.Contact.data.toList++UInt8.ofNat x.Name.size :: (x.Name.data.toList++UInt8.ofNat (kindB x) :: six x.Ver.toNat)):=by
 have e1:sayX x.Contact 33=sayI x.Contact:=by unfold sayX;rw [show decide ((33:Int) < (x.Contact.size:Int))=false by simp;omega];rfl
 have e2:sayX x.Name 24=sayI x.Name:=by unfold sayX;rw [show decide ((24:Int) < (x.Name.size:Int))=false by simp;omega];rfl
 rw [tx_list]
 unfold bytI
 rw [e1,e2]
 unfold sayI
 simp only [List.map_append,List.map_cons,map_bytesI,List.map_nil,Int.toNat_natCast]
 show _=_
 simp [six,kindB]
theorem bits32 {n:Nat} (h:n≤31):andNotI .i64 (n:Int) (16:Int)=((n % 16:Nat):Int)∧(andI .i64 (n:Int) (16:Int) != 0)=decide (16≤n):=by
 have key:((List.range 32).all fun n:Nat=>(andNotI .i64 (n:Int) (16:Int) == ((n % 16:Nat):Int)) && ((andI .i64 (n:Int) (16:Int) != 0) == decide (16≤n)))=true:=by kernel_rfl
 have:=List.all_eq_true.1 key n (List.mem_range.2 (by omega))
 simpa using this
theorem get_ok {x:ItemItem} (f:FineI x):p_item_Get (tx (bytI x))=some (x,0):=by
 have hc:x.Contact.size≤33:=by have:=isBare_len f.bare;rw [bytesI_size] at this;exact this
 have hn:=f.name
 have hs:=subC_in f.sub
 have hv:=f.ver
 have hL:=bytI_list hc hn
 have hkb:kindB x≤31:=by unfold kindB;cases x.Own <;> simp only [cond_true,cond_false] <;> omega
 have hlen:(tx (bytI x)).data.toList.length=1 + x.Contact.size + 1 + x.Name.size + 1 + 6:=by
  rw [hL];simp [six_len];omega
 have u1:(UInt8.ofNat x.Contact.size).toNat=x.Contact.size:=by simp;omega
 have u2:(UInt8.ofNat x.Name.size).toNat=x.Name.size:=by simp;omega
 have u3:(UInt8.ofNat (kindB x)).toNat=kindB x:=by simp;omega
 obtain ⟨x1,a1,b1,c1⟩:=text_go (S:=tx (bytI x)) (a:=0) (m:=33) (by omega) (by rw [List.drop_zero];exact hL) (by rw [u1];omega) (by rw [u1];simp)
 rw [u1] at a1 b1 c1
 rw [List.take_left' (bytesI_size _)] at b1
 rw [List.drop_left' (bytesI_size _)] at c1
 obtain ⟨x2,a2,b2,c2⟩:=text_go (m:=24) (by omega) c1 (by rw [u2];omega) (by rw [u2];simp)
 rw [u2] at a2 b2 c2
 rw [List.take_left' (bytesI_size _)] at b2
 rw [List.drop_left' (bytesI_size _)] at c2
 obtain ⟨a3,c3⟩:=num_go (w:=1) (p:=[UInt8.ofNat (kindB x)]) (t:=six x.Ver.toNat) (.inl rfl) (by omega) c2 rfl
 obtain ⟨a4,c4⟩:=num_go (S:=tx (bytI x)) (a:=0 + 1 + x.Contact.size + 1 + x.Name.size + 1) (w:=6) (p:=six x.Ver.toNat) (t:=[]) (.inr rfl) (by omega) (by rw [List.append_nil];exact c3) (six_len _)
 rw [fold1,u3] at a3
 rw [fold_six (by omega)] at a4
 have e1:x1=x.Contact:=ba_eq b1
 have e2:x2=x.Name:=ba_eq b2
 have hd:=done_yes (S:=tx (bytI x)) (by omega)
 rw [hlen,show 1 + x.Contact.size + 1 + x.Name.size + 1 + 6=0 + 1 + x.Contact.size + 1 + x.Name.size + 1 + 6 by omega] at hd
 have a1' : p_octet_Text ⟨tx (bytI x),0,0⟩ 33=_:=a1
 have a3' : p_octet_Num (rdA (tx (bytI x)) (0 + 1 + x.Contact.size + 1 + x.Name.size)) 1=_:=a3
 have a4' : p_octet_Num (rdA (tx (bytI x)) (0 + 1 + x.Contact.size + 1 + x.Name.size + 1)) 6=_:=a4
 unfold p_item_Get p_octet_Open
 simp only [Option.bind_some,a1',a2,a3',a4',hd]
 obtain ⟨k1,k2⟩:=bits32 hkb
 have hx:(⟨x1,x2,andNotI .i64 ((kindB x:Nat):Int) (16:Int),((x.Ver.toNat:Nat):Int),(andI .i64 ((kindB x:Nat):Int) (16:Int) != 0)⟩ : ItemItem)=x:=by
  rw [k1,k2,e1,e2]
  have g1:((kindB x % 16:Nat):Int)=x.Sub:=by
   unfold kindB
   cases x.Own <;> simp only [cond_true,cond_false] <;> omega
  have g2:decide (16≤kindB x)=x.Own:=by
   unfold kindB
   cases x.Own <;> simp only [cond_true,cond_false] <;> simp <;> omega
  have g3:((x.Ver.toNat:Nat):Int)=x.Ver:=by omega
  rw [g1,g2,g3]
 rw [show ((0:Int) != 0)=false from rfl,cond_false,show decide ((31:Int) < ((kindB x:Nat):Int))=false by simp;omega,cond_false,hx,check_p (by omega) (by omega),fine_to f]
 rfl
theorem bad_tail {r:OctetRead} (hn:r.S.data.toList.length≤1000) (h:r.Bad≠0):∃ r3 r4 e,p_octet_Num r 1=some (r3,0)∧p_octet_Num r3 6=some (r4,0)∧p_octet_Done r4=some e∧e≠0:=by
 obtain ⟨r3,a3,b3,c3⟩:=num_no (w:=1) (.inl rfl) hn (fun ⟨a,ha,_⟩=>bad_on h a ha)
 obtain ⟨r4,a4,b4,c4⟩:=num_no (w:=6) (.inr rfl) (by rw [c3];exact hn) (fun ⟨a,ha,_⟩=>bad_on b3 a ha)
 obtain ⟨e,a5,b5⟩:=done_no (bad_on b4 _)
 exact ⟨r3,r4,e,a3,a4,a5,b5⟩
theorem get_tot {b:ByteArray} (hb:b.size≤150):∃ (y:ItemItem) (e:Int),p_item_Get b=some (y,e)∧y.Contact.size≤1000∧y.Name.size≤1000∧(e=0→FineI y∧tx (bytI y)=b):=by
 have hn:b.data.toList.length≤1000:=by rw [bytesI_size];omega
 have zero:∀ e:Int,e≠0→∃ (y:ItemItem) (e' : Int),some ((⟨⟨#[]⟩,⟨#[]⟩,0,0,false⟩ : ItemItem),e)=some (y,e')∧y.Contact.size≤1000∧y.Name.size≤1000∧(e'=0→FineI y∧tx (bytI y)=b):=fun e he=>⟨_,e,rfl,by decide,by decide,fun h=>absurd h he⟩
 unfold p_item_Get p_octet_Open
 simp only [Option.bind_some]
 by_cases k1:∃ (a:Nat) (ha:a < b.data.toList.length),(⟨b,0,0⟩ : OctetRead)=rdA b a∧(((b.data.toList[a]).toNat:Int)≤33)∧a + 1 + (b.data.toList[a]).toNat≤b.data.toList.length
 case neg =>
  obtain ⟨r1,x1,a1,b1,c1⟩:=text_no (r:=⟨b,0,0⟩) (m:=33) hn k1
  obtain ⟨r2,x2,a2,b2,c2⟩:=text_no (r:=r1) (m:=24) (by rw [c1];exact hn) (fun ⟨a,_,ha,_⟩=>bad_on b1 a ha)
  obtain ⟨r3,r4,e,a3,a4,a5,he⟩:=bad_tail (r:=r2) (by rw [c2,c1];exact hn) b2
  simp only [a1,a2,a3,a4,a5,Option.bind_some]
  rw [show (e != 0)=true by simpa using he]
  exact zero e he
 obtain ⟨a,ha,hr,hm,hl⟩:=k1
 have ha0:a=0:=by have:=congrArg OctetRead.At hr;simp [rdA] at this;omega
 subst ha0
 obtain ⟨n1,hn1⟩ : ∃ n,(b.data.toList[0]).toNat=n:=⟨_,rfl⟩
 rw [hn1] at hm hl
 obtain ⟨x1,a1,b1⟩:=text_yes (S:=b) (a:=0) (m:=33) hn ha hn1 hm hl
 have a1' : p_octet_Text ⟨b,0,0⟩ 33=_:=a1
 by_cases k2:∃ (a:Nat) (ha:a < b.data.toList.length),rdA b (0 + 1 + n1)=rdA b a∧(((b.data.toList[a]).toNat:Int)≤24)∧a + 1 + (b.data.toList[a]).toNat≤b.data.toList.length
 case neg =>
  obtain ⟨r2,x2,a2,b2,c2⟩:=text_no (r:=rdA b (0 + 1 + n1)) (m:=24) hn k2
  obtain ⟨r3,r4,e,a3,a4,a5,he⟩:=bad_tail (r:=r2) (by rw [c2];exact hn) b2
  simp only [a1',a2,a3,a4,a5,Option.bind_some]
  rw [show (e != 0)=true by simpa using he]
  exact zero e he
 obtain ⟨a',ha',hr',hm',hl'⟩:=k2
 have ha1:a'=0 + 1 + n1:=by have:=congrArg OctetRead.At hr';simp [rdA] at this;omega
 subst ha1
 obtain ⟨n2,hn2⟩ : ∃ n,(b.data.toList[0 + 1 + n1]).toNat=n:=⟨_,rfl⟩
 rw [hn2] at hm' hl'
 obtain ⟨x2,a2,b2⟩:=text_yes (S:=b) (a:=0 + 1 + n1) (m:=24) hn ha' hn2 hm' hl'
 have sx1:x1.size≤33:=by have:=congrArg List.length b1;rw [bytesI_size,List.length_take] at this;omega
 have sx2:x2.size≤24:=by have:=congrArg List.length b2;rw [bytesI_size,List.length_take] at this;omega
 have sx1' : x1.size=n1:=by have:=congrArg List.length b1;rw [bytesI_size,List.length_take,List.length_drop] at this;omega
 have sx2' : x2.size=n2:=by have:=congrArg List.length b2;rw [bytesI_size,List.length_take,List.length_drop] at this;omega
 by_cases k3:0 + 1 + n1 + 1 + n2 + 1≤b.data.toList.length
 case neg =>
  obtain ⟨r3,a3,b3,c3⟩:=num_no (r:=rdA b (0 + 1 + n1 + 1 + n2)) (w:=1) (.inl rfl) hn (fun ⟨a,ha,g⟩=>by have:=congrArg OctetRead.At ha;simp [rdA] at this;exact k3 (by show 0 + 1 + n1 + 1 + n2 + 1≤b.data.toList.length;have g' : a + 1≤b.data.toList.length:=g;omega))
  obtain ⟨r4,a4,b4,c4⟩:=num_no (r:=r3) (w:=6) (.inr rfl) (by rw [c3];exact hn) (fun ⟨a,ha,_⟩=>bad_on b3 a ha)
  obtain ⟨e,a5,he⟩:=done_no (bad_on b4 _)
  have a3' : p_octet_Num (rdA b (0 + 1 + n1 + 1 + n2)) 1=_:=a3
  have a4' : p_octet_Num r3 6=_:=a4
  simp only [a1',a2,a3',a4',a5,Option.bind_some]
  rw [show (e != 0)=true by simpa using he]
  exact zero e he
 have h3:0 + 1 + n1 + 1 + n2 < b.data.toList.length:=by omega
 have a3:=num_yes (S:=b) (a:=0 + 1 + n1 + 1 + n2) (w:=1) (.inl rfl) hn k3
 rw [take1 h3,fold1] at a3
 obtain ⟨n3,hn3⟩ : ∃ n,(b.data.toList[0 + 1 + n1 + 1 + n2]).toNat=n:=⟨_,rfl⟩
 rw [hn3] at a3
 have a3' : p_octet_Num (rdA b (0 + 1 + n1 + 1 + n2)) 1=_:=a3
 by_cases k4:0 + 1 + n1 + 1 + n2 + 1 + 6≤b.data.toList.length
 case neg =>
  obtain ⟨r4,a4,b4,c4⟩:=num_no (r:=rdA b (0 + 1 + n1 + 1 + n2 + 1)) (w:=6) (.inr rfl) hn (fun ⟨a,ha,g⟩=>by have:=congrArg OctetRead.At ha;simp [rdA] at this;exact k4 (by have g' : a + 6≤b.data.toList.length:=g;omega))
  obtain ⟨e,a5,he⟩:=done_no (bad_on b4 _)
  have a4' : p_octet_Num (rdA b (0 + 1 + n1 + 1 + n2 + 1)) 6=_:=a4
  simp only [a1',a2,a3',a4',a5,Option.bind_some]
  rw [show (e != 0)=true by simpa using he]
  exact zero e he
 have a4:=num_yes (S:=b) (a:=0 + 1 + n1 + 1 + n2 + 1) (w:=6) (.inr rfl) hn k4
 obtain ⟨E,hE⟩ : ∃ E,E=(b.data.toList.drop (0 + 1 + n1 + 1 + n2 + 1)).take 6:=⟨_,rfl⟩
 have hEl:E.length=6:=by rw [hE,List.length_take,List.length_drop];omega
 rw [← hE] at a4
 have a4' : p_octet_Num (rdA b (0 + 1 + n1 + 1 + n2 + 1)) 6=_:=a4
 by_cases k5:0 + 1 + n1 + 1 + n2 + 1 + 6=b.data.toList.length
 case neg =>
  obtain ⟨e,a5,he⟩:=done_no (r:=rdA b (0 + 1 + n1 + 1 + n2 + 1 + 6)) (fun g=>by have:=congrArg OctetRead.At g;simp [rdA] at this;exact k5 (by rw [bytesI_size];omega))
  simp only [a1',a2,a3',a4',a5,Option.bind_some]
  rw [show (e != 0)=true by simpa using he]
  exact zero e he
 have a5:p_octet_Done (rdA b (0 + 1 + n1 + 1 + n2 + 1 + 6))=some 0:=by rw [k5];exact done_yes hn
 simp only [a1',a2,a3',a4',a5,Option.bind_some]
 rw [show ((0:Int) != 0)=false from rfl,cond_false]
 by_cases k6:31 < n3
 ·rw [show decide ((31:Int) < (n3:Int))=true by simp;omega]
  exact zero 4 (by decide)
 obtain ⟨q1,q2⟩:=bits32 (show n3≤31 by omega)
 rw [show decide ((31:Int) < (n3:Int))=false by simp;omega,cond_false,q1,q2,check_p (by show x1.size≤100000;omega) (by show x2.size≤100000;omega),Option.bind_some]
 by_cases k7:chkI ⟨x1,x2,((n3 % 16:Nat):Int),((fold8 0 E:Nat):Int),decide (16≤n3)⟩=0
 case neg =>
  rw [show (chkI ⟨x1,x2,((n3 % 16:Nat):Int),((fold8 0 E:Nat):Int),decide (16≤n3)⟩ != 0)=true by simpa using k7]
  exact zero _ k7
 rw [k7,show ((0:Int) != 0)=false from rfl]
 refine ⟨_,0,rfl,by show x1.size≤1000;omega,by show x2.size≤1000;omega,fun _=>⟨fine_of k7,ba_eq ?_⟩⟩
 have hlist:=bytI_list (x:=⟨x1,x2,((n3 % 16:Nat):Int),((fold8 0 E:Nat):Int),decide (16≤n3)⟩) sx1 sx2
 rw [hlist]
 show UInt8.ofNat x1.size :: (x1.data.toList++UInt8.ofNat x2.size :: (x2.data.toList++UInt8.ofNat (kindB ⟨x1,x2,((n3 % 16:Nat):Int),((fold8 0 E:Nat):Int),decide (16≤n3)⟩) :: six (((fold8 0 E:Nat):Int)).toNat))=b.data.toList
 have hkb:kindB ⟨x1,x2,((n3 % 16:Nat):Int),((fold8 0 E:Nat):Int),decide (16≤n3)⟩=n3:=by
  unfold kindB
  by_cases g:16≤n3
  ·show (bif decide (16≤n3) then (((n3 % 16:Nat):Int) + 16) else ((n3 % 16:Nat):Int)).toNat=n3
   rw [show decide (16≤n3)=true by simpa using g,cond_true];omega
  ·show (bif decide (16≤n3) then (((n3 % 16:Nat):Int) + 16) else ((n3 % 16:Nat):Int)).toNat=n3
   rw [show decide (16≤n3)=false by simpa using g,cond_false];omega
 rw [hkb,Int.toNat_natCast,six_fold hEl,sx1',sx2',← hn1,← hn2,← hn3,u8_nat,u8_nat,u8_nat,b1,b2,hE]
 have t0:b.data.toList=b.data.toList[0] :: b.data.toList.drop 1:=by have:=drop_at ha;rwa [List.drop_zero] at this
 have t1:b.data.toList.drop (0 + 1)=(b.data.toList.drop (0 + 1)).take n1++b.data.toList.drop (0 + 1 + n1):=by
  have:=List.take_append_drop n1 (b.data.toList.drop (0 + 1))
  rw [List.drop_drop] at this
  exact this.symm
 have t2:=drop_at ha'
 have t3:b.data.toList.drop (0 + 1 + n1 + 1)=(b.data.toList.drop (0 + 1 + n1 + 1)).take n2++b.data.toList.drop (0 + 1 + n1 + 1 + n2):=by
  have:=List.take_append_drop n2 (b.data.toList.drop (0 + 1 + n1 + 1))
  rw [List.drop_drop] at this
  exact this.symm
 have t4:=drop_at h3
 have t5:(b.data.toList.drop (0 + 1 + n1 + 1 + n2 + 1)).take 6=b.data.toList.drop (0 + 1 + n1 + 1 + n2 + 1):=List.take_of_length_le (by rw [List.length_drop];omega)
 rw [t5,← t4,← t3,← t2,← t1]
 exact t0.symm
theorem push_stz {x:ItemItem} (f:FineI x):p_stanza_Check (pushI x)=some 0:=by
 have hc:x.Contact.size≤33:=by have:=isBare_len f.bare;rw [bytesI_size] at this;exact this
 have hn:=f.name
 have hs:=subC_in f.sub
 have hv:=f.ver
 have h0:¬ chkI x≠0:=fun g=>g (fine_to f)
 have ht:0≤Int.tmod x.Sub 8∧Int.tmod x.Sub 8≤7:=by
  rcases sub16 hs with g | g | g | g | g | g | g | g | g | g | g | g | g | g | g | g <;> rw [g] <;> decide
 have pe:plainL ([]:List UInt8)=true:=by kernel_rfl
 have re:resL ([]:List UInt8)=0:=by kernel_rfl
 unfold pushI
 rw [if_neg h0]
 cases hl:listedI x with
 | true =>
  have hf:stzFits ⟨38,x.Contact,⟨#[]⟩,x.Name,Int.tmod x.Sub 8,0,0,x.Ver⟩:=⟨by show (0:Int)≤38∧(38:Int)≤255;decide,by show x.Contact.size≤100000;omega,by show (⟨#[]⟩ : ByteArray).size≤100000;decide,by show x.Name.size≤100000;omega⟩
  rw [cond_true]
  unfold p_stanza_Check
  rw [if_pos hf]
  have e:checkS (stzOf ⟨38,x.Contact,⟨#[]⟩,x.Name,Int.tmod x.Sub 8,0,0,x.Ver⟩)=0:=by
   unfold checkS
   have c1:knownN (stzOf ⟨38,x.Contact,⟨#[]⟩,x.Name,Int.tmod x.Sub 8,0,0,x.Ver⟩).kind.toNat=true:=by kernel_rfl
   have c2:extraL (stzOf ⟨38,x.Contact,⟨#[]⟩,x.Name,Int.tmod x.Sub 8,0,0,x.Ver⟩)=false:=by
    unfold extraL
    have d1:hasC (stzOf ⟨38,x.Contact,⟨#[]⟩,x.Name,Int.tmod x.Sub 8,0,0,x.Ver⟩).kind 117=true:=by kernel_rfl
    have d2:hasC (stzOf ⟨38,x.Contact,⟨#[]⟩,x.Name,Int.tmod x.Sub 8,0,0,x.Ver⟩).kind 109=true:=by kernel_rfl
    have d3:hasC (stzOf ⟨38,x.Contact,⟨#[]⟩,x.Name,Int.tmod x.Sub 8,0,0,x.Ver⟩).kind 115=true:=by kernel_rfl
    have d4:hasC (stzOf ⟨38,x.Contact,⟨#[]⟩,x.Name,Int.tmod x.Sub 8,0,0,x.Ver⟩).kind 110=true:=by kernel_rfl
    have d5:(stzOf ⟨38,x.Contact,⟨#[]⟩,x.Name,Int.tmod x.Sub 8,0,0,x.Ver⟩).res.toList.isEmpty=true:=by kernel_rfl
    rw [d1,d2,d3,d4,d5]
    simp [stzOf]
   have c3:rangeL (stzOf ⟨38,x.Contact,⟨#[]⟩,x.Name,Int.tmod x.Sub 8,0,0,x.Ver⟩)=true:=by
    unfold rangeL
    show ((decide (0≤Int.tmod x.Sub 8) && decide (Int.tmod x.Sub 8≤63)) && (decide ((-128:Int)≤0) && decide ((0:Int)≤127)) && (decide ((0:Int)≤0) && decide ((0:Int)≤255)) && (decide (0≤x.Ver) && decide (x.Ver≤281474976710655)))=true
    rw [decide_eq_true ht.1,decide_eq_true (show Int.tmod x.Sub 8≤63 by omega),decide_eq_true hv.1,decide_eq_true (show x.Ver≤281474976710655 by omega)];rfl
   have c4:¬ 24 < (stzOf ⟨38,x.Contact,⟨#[]⟩,x.Name,Int.tmod x.Sub 8,0,0,x.Ver⟩).name.size:=by show ¬ 24 < x.Name.size;omega
   have c5:plainL (stzOf ⟨38,x.Contact,⟨#[]⟩,x.Name,Int.tmod x.Sub 8,0,0,x.Ver⟩).name.data.toList=true:=f.plain
   have c6:isBareL (stzOf ⟨38,x.Contact,⟨#[]⟩,x.Name,Int.tmod x.Sub 8,0,0,x.Ver⟩).user.data.toList=true:=f.bare
   rw [c1,c2,c3,c5,c6,if_neg (by simp),if_neg (by simp),if_neg (by simp),if_neg c4,if_neg (by simp),if_neg (by simp)]
   exact re
  rw [e]
 | false =>
  have hf:stzFits ⟨39,x.Contact,⟨#[]⟩,⟨#[]⟩,0,0,0,x.Ver⟩:=⟨by show (0:Int)≤39∧(39:Int)≤255;decide,by show x.Contact.size≤100000;omega,by show (⟨#[]⟩ : ByteArray).size≤100000;decide,by show (⟨#[]⟩ : ByteArray).size≤100000;decide⟩
  rw [cond_false]
  unfold p_stanza_Check
  rw [if_pos hf]
  have e:checkS (stzOf ⟨39,x.Contact,⟨#[]⟩,⟨#[]⟩,0,0,0,x.Ver⟩)=0:=by
   unfold checkS
   have c1:knownN (stzOf ⟨39,x.Contact,⟨#[]⟩,⟨#[]⟩,0,0,0,x.Ver⟩).kind.toNat=true:=by kernel_rfl
   have c2:extraL (stzOf ⟨39,x.Contact,⟨#[]⟩,⟨#[]⟩,0,0,0,x.Ver⟩)=false:=by
    unfold extraL
    have d1:hasC (stzOf ⟨39,x.Contact,⟨#[]⟩,⟨#[]⟩,0,0,0,x.Ver⟩).kind 117=true:=by kernel_rfl
    have d4:hasC (stzOf ⟨39,x.Contact,⟨#[]⟩,⟨#[]⟩,0,0,0,x.Ver⟩).kind 110=true:=by kernel_rfl
    have d5:(stzOf ⟨39,x.Contact,⟨#[]⟩,⟨#[]⟩,0,0,0,x.Ver⟩).res.toList.isEmpty=true:=by kernel_rfl
    have d6:(stzOf ⟨39,x.Contact,⟨#[]⟩,⟨#[]⟩,0,0,0,x.Ver⟩).name.toList.isEmpty=true:=by kernel_rfl
    rw [d1,d4,d5,d6]
    simp [stzOf]
   have c3:rangeL (stzOf ⟨39,x.Contact,⟨#[]⟩,⟨#[]⟩,0,0,0,x.Ver⟩)=true:=by
    unfold rangeL
    show ((decide ((0:Int)≤0) && decide ((0:Int)≤63)) && (decide ((-128:Int)≤0) && decide ((0:Int)≤127)) && (decide ((0:Int)≤0) && decide ((0:Int)≤255)) && (decide (0≤x.Ver) && decide (x.Ver≤281474976710655)))=true
    rw [decide_eq_true hv.1,decide_eq_true (show x.Ver≤281474976710655 by omega)];rfl
   have c4:¬ 24 < (stzOf ⟨39,x.Contact,⟨#[]⟩,⟨#[]⟩,0,0,0,x.Ver⟩).name.size:=by show ¬ 24 < (⟨#[]⟩ : ByteArray).size;decide
   have c5:plainL (stzOf ⟨39,x.Contact,⟨#[]⟩,⟨#[]⟩,0,0,0,x.Ver⟩).name.data.toList=true:=pe
   have c6:isBareL (stzOf ⟨39,x.Contact,⟨#[]⟩,⟨#[]⟩,0,0,0,x.Ver⟩).user.data.toList=true:=f.bare
   rw [c1,c2,c3,c5,c6,if_neg (by simp),if_neg (by simp),if_neg (by simp),if_neg c4,if_neg (by simp),if_neg (by simp)]
   exact re
  rw [e]
theorem idle_listed (x:ItemItem) (h:idleI x=true):listedI x=false:=by
 unfold idleI at h
 unfold listedI
 simp only [Bool.and_eq_true,beq_iff_eq,Bool.not_eq_true'] at h
 rw [h.1,h.2]
 have:hasB 0 7=false:=by kernel_rfl
 rw [this];rfl
theorem itemBack_pure (x:ItemItem) (b:ByteArray):p_law20_ItemBack x b=some true:=by
 unfold p_law20_ItemBack
 rw [light_p]
 simp only [Option.bind_some]
 cases h1:(decide (x.Contact.size≤100) && decide (x.Name.size≤100)) with
 | false=>rw [cond_false,p_law20_awake_true];rfl
 | true =>
  simp only [Bool.and_eq_true,decide_eq_true_eq] at h1
  rw [cond_true]
  by_cases hb:(150:Int) < (b.size:Int)
  ·rw [show decide ((150:Int) < (b.size:Int))=true by simpa using hb,cond_true,p_law20_awake_true];rfl
  rw [show decide ((150:Int) < (b.size:Int))=false by simpa using hb,cond_false]
  obtain ⟨y,e,g1,g2,g3,g4⟩:=get_tot (b:=b) (by omega)
  have hp:=put_p (x:=x) (by omega) (by omega)
  have hpy:=put_p (x:=y) (by omega) (by omega)
  have hchk:=check_p (x:=x) (by omega) (by omega)
  have hpush:=push_p (x:=x) (by omega) (by omega)
  rw [hp,g1,hchk,hpush,listed_p,idle_p,p_law20_awake_true]
  simp only [Option.bind_some]
  rw [hpy]
  simp only [Option.bind_some]
  have last:(bif idleI x then bif listedI x then some false else some true else bif false then some false else some true)=some true:=by
   cases hi:idleI x with
   | true=>rw [idle_listed x hi];rfl
   | false=>rfl
  have last2:(bif idleI x then bif listedI x then some false else some true else some true)=some true:=last
  by_cases hk:chkI x=0
  ·have f:=fine_of hk
   have hc:x.Contact.size≤33:=by have:=isBare_len f.bare;rw [bytesI_size] at this;exact this
   have hname:=f.name
   have hsz:((tx (bytI x)).size:Int)≤66:=by
    have:=congrArg List.length (bytI_list hc hname)
    rw [bytesI_size] at this
    rw [this];simp [six_len];omega
   have hkind:((pushI x).Kind == 38)=listedI x:=by
    unfold pushI
    rw [if_neg (by simpa using hk)]
    cases listedI x <;> rfl
   have hput:putI x=(tx (bytI x),0):=if_pos hk
   rw [hput,hk]
   simp only [get_ok f,Option.bind_some,beq_self_eq_true,cond_true,eqT_refl,Bool.and_self,Bool.and_true,push_stz f,hkind]
   rw [show decide (((tx (bytI x)).size:Int)≤66)=true by simpa using hsz,cond_true,last]
   by_cases he:e=0
   ·obtain ⟨fy,hy⟩:=g4 he
    have hpy2:putI y=(b,0):=by unfold putI;rw [if_pos (fine_to fy),hy]
    rw [he,hpy2]
    simp only [bne_self_eq_false,cond_false,beq_self_eq_true,cond_true,eqT_refl]
   ·rw [show (e != 0)=true by simpa using he,cond_true]
  ·obtain ⟨y2,e2,k1,k2,k3,k4⟩:=get_tot (b:=(⟨#[]⟩ : ByteArray)) (by decide)
   have hput:putI x=(⟨#[]⟩,chkI x):=if_neg hk
   have hpu:pushI x=⟨0,⟨#[]⟩,⟨#[]⟩,⟨#[]⟩,0,0,0,0⟩:=if_pos hk
   rw [hput,hpu,show (chkI x == 0)=false by simpa using hk]
   simp only [k1,Option.bind_some,beq_self_eq_true,cond_true,cond_false,eqT_refl,Bool.and_self,Bool.and_true]
   rw [last2]
   by_cases he:e=0
   ·obtain ⟨fy,hy⟩:=g4 he
    have hpy2:putI y=(b,0):=by unfold putI;rw [if_pos (fine_to fy),hy]
    rw [he,hpy2]
    simp only [bne_self_eq_false,cond_false,beq_self_eq_true,cond_true,eqT_refl]
   ·rw [show (e != 0)=true by simpa using he,cond_true]
end Go.Proofs.Ytpmoioopjbfhkaa

/- That the program's functions yield what the plain ones tell (written by a program of mine). -/
namespace Go.Proofs.Ytpmoioopjbfhkaa
open Go.RowKit
set_option maxRecDepth 1000000
set_option maxHeartbeats 4000000
def gc5:BCode:=(.seq (.reg 1 [⟨(some 2),.bx (.tmp 0),none,0⟩,⟨(some 4),.mv (.const (.bool false)),none,1⟩] none 0 []) (.seq (.seq (.reg 0 [⟨(some 16),.ld 5 true (.tmp 2),none,0⟩,⟨(some 17),.cl 8 [(.tmp 16)],none,0⟩,⟨(some 18),.un .not (.tmp 17),none,0⟩,⟨(some 19),.mv (.tmp 18),none,0⟩,⟨(some 20),.mv (.tmp 1),(some (19,false)),0⟩,⟨(some 21),.lent (.tmp 20),(some (19,false)),0⟩,⟨(some 22),.bin .gtr (.tmp 21) (.const (.int .i64 150)),(some (19,false)),0⟩,⟨(some 23),.pick (.tmp 19) (.const (.bool true)) (.tmp 22),none,0⟩] none 0 []) (.cond (.tmp 23) (.seq (.reg 0 [⟨(some 24),.cl 7 [],none,0⟩,⟨(some 4),.mv (.tmp 24),none,0⟩] none 0 []) .ret) .skip)) (.seq (.reg 1 [⟨(some 25),.ld 5 true (.tmp 2),none,0⟩,⟨(some 5),.al (.agg [(.lit (.string ⟨#[]⟩)),(.lit (.string ⟨#[]⟩)),(.lit (.int .i64 0)),(.lit (.int .i64 0)),(.lit (.bool false))]),none,0⟩,⟨none,.st 5 (.tmp 5) (.tmp 25),none,1⟩] none 0 []) (.seq (.reg 0 [⟨(some 27),.ld 5 true (.tmp 5),none,0⟩,⟨(some 28),.cl 23 [(.tmp 27)],none,0⟩,⟨(some 26),.mv (.tmp 28),none,0⟩,⟨(some 29),.ex (.tmp 26) 0,none,0⟩,⟨(some 30),.ex (.tmp 26) 1,none,0⟩,⟨(some 6),.mv (.tmp 29),none,0⟩,⟨(some 7),.mv (.tmp 30),none,0⟩] none 0 []) (.seq (.reg 1 [⟨(some 32),.mv (.tmp 6),none,0⟩,⟨(some 33),.cl 24 [(.tmp 32)],none,0⟩,⟨(some 31),.mv (.tmp 33),none,0⟩,⟨(some 34),.ex (.tmp 31) 0,none,0⟩,⟨(some 35),.ex (.tmp 31) 1,none,0⟩,⟨(some 8),.al (.agg [(.lit (.string ⟨#[]⟩)),(.lit (.string ⟨#[]⟩)),(.lit (.int .i64 0)),(.lit (.int .i64 0)),(.lit (.bool false))]),none,0⟩,⟨none,.st 5 (.tmp 8) (.tmp 34),none,1⟩,⟨(some 9),.mv (.tmp 35),none,1⟩] none 0 []) (.seq (.reg 1 [⟨(some 37),.mv (.tmp 1),none,0⟩,⟨(some 38),.cl 24 [(.tmp 37)],none,0⟩,⟨(some 36),.mv (.tmp 38),none,0⟩,⟨(some 39),.ex (.tmp 36) 0,none,0⟩,⟨(some 40),.ex (.tmp 36) 1,none,0⟩,⟨(some 10),.al (.agg [(.lit (.string ⟨#[]⟩)),(.lit (.string ⟨#[]⟩)),(.lit (.int .i64 0)),(.lit (.int .i64 0)),(.lit (.bool false))]),none,0⟩,⟨none,.st 5 (.tmp 10) (.tmp 39),none,1⟩,⟨(some 11),.mv (.tmp 40),none,1⟩] none 0 []) (.seq (.reg 0 [⟨(some 42),.ld 5 true (.tmp 10),none,0⟩,⟨(some 43),.cl 23 [(.tmp 42)],none,0⟩,⟨(some 41),.mv (.tmp 43),none,0⟩,⟨(some 44),.ex (.tmp 41) 0,none,0⟩,⟨(some 45),.ex (.tmp 41) 1,none,0⟩,⟨(some 12),.mv (.tmp 44),none,0⟩,⟨(some 13),.mv (.tmp 45),none,0⟩] none 0 []) (.seq (.reg 0 [⟨(some 46),.ld 5 true (.tmp 5),none,0⟩,⟨(some 47),.cl 25 [(.tmp 46)],none,0⟩,⟨(some 48),.bin .eql (.tmp 47) (.const (.int .i64 0)),none,0⟩,⟨(some 14),.mv (.tmp 48),none,0⟩] none 0 []) (.seq (.reg 1 [⟨(some 49),.ld 5 true (.tmp 5),none,0⟩,⟨(some 50),.cl 26 [(.tmp 49)],none,0⟩,⟨(some 15),.al (.agg [(.lit (.int .u8 0)),(.lit (.string ⟨#[]⟩)),(.lit (.string ⟨#[]⟩)),(.lit (.string ⟨#[]⟩)),(.lit (.int .i64 0)),(.lit (.int .i64 0)),(.lit (.int .i64 0)),(.lit (.int .i64 0))]),none,0⟩,⟨none,.st 8 (.tmp 15) (.tmp 50),none,1⟩] none 0 []) (.seq (.reg 0 [⟨(some 51),.mv (.tmp 7),none,0⟩,⟨(some 52),.bin .eql (.tmp 51) (.const (.int .i64 0)),none,0⟩,⟨(some 53),.mv (.tmp 14),none,0⟩,⟨(some 54),.binb false (.tmp 52) (.tmp 53),none,0⟩,⟨(some 55),.mv (.tmp 54),none,0⟩,⟨(some 56),.mv (.tmp 14),(some (55,true)),0⟩,⟨(some 57),.un .not (.tmp 56),(some (55,true)),0⟩,⟨(some 58),.mv (.tmp 57),(some (55,true)),0⟩,⟨(some 59),.mv (.tmp 9),(some (58,false)),0⟩,⟨(some 60),.bin .eql (.tmp 59) (.const (.int .i64 0)),(some (58,false)),0⟩,⟨(some 61),.mv (.tmp 60),(some (58,false)),0⟩,⟨(some 62),.ld 5 true (.tmp 8),(some (61,true)),0⟩,⟨(some 63),.ld 5 true (.tmp 5),(some (61,true)),0⟩,⟨(some 64),.eqa false [2,2,1,1,0] (.tmp 62) (.tmp 63),(some (61,true)),0⟩,⟨(some 65),.pick (.tmp 61) (.tmp 64) (.const (.bool false)),(some (58,false)),0⟩,⟨(some 66),.mv (.tmp 65),(some (58,false)),0⟩,⟨(some 67),.mv (.tmp 6),(some (66,true)),0⟩,⟨(some 68),.lent (.tmp 67),(some (66,true)),0⟩,⟨(some 69),.bin .leq (.tmp 68) (.const (.int .i64 66)),(some (66,true)),0⟩,⟨(some 70),.pick (.tmp 66) (.tmp 69) (.const (.bool false)),(some (58,false)),0⟩,⟨(some 71),.pick (.tmp 58) (.const (.bool true)) (.tmp 70),(some (55,true)),0⟩,⟨(some 72),.pick (.tmp 55) (.tmp 71) (.const (.bool false)),none,0⟩,⟨(some 73),.mv (.tmp 72),none,0⟩,⟨(some 74),.mv (.tmp 11),(some (73,true)),0⟩,⟨(some 75),.bin .neq (.tmp 74) (.const (.int .i64 0)),(some (73,true)),0⟩,⟨(some 76),.mv (.tmp 75),(some (73,true)),0⟩,⟨(some 77),.mv (.tmp 13),(some (76,false)),0⟩,⟨(some 78),.bin .eql (.tmp 77) (.const (.int .i64 0)),(some (76,false)),0⟩,⟨(some 79),.mv (.tmp 78),(some (76,false)),0⟩,⟨(some 80),.mv (.tmp 12),(some (79,true)),0⟩,⟨(some 81),.mv (.tmp 1),(some (79,true)),0⟩,⟨(some 82),.bin .eql (.tmp 80) (.tmp 81),(some (79,true)),0⟩,⟨(some 83),.pick (.tmp 79) (.tmp 82) (.const (.bool false)),(some (76,false)),0⟩,⟨(some 84),.pick (.tmp 76) (.const (.bool true)) (.tmp 83),(some (73,true)),0⟩,⟨(some 85),.pick (.tmp 73) (.tmp 84) (.const (.bool false)),none,0⟩,⟨(some 86),.mv (.tmp 85),none,0⟩,⟨(some 87),.mv (.tmp 14),(some (86,true)),0⟩,⟨(some 88),.un .not (.tmp 87),(some (86,true)),0⟩,⟨(some 89),.mv (.tmp 88),(some (86,true)),0⟩,⟨(some 90),.ld 8 true (.tmp 15),(some (89,false)),0⟩,⟨(some 91),.cl 27 [(.tmp 90)],(some (89,false)),0⟩,⟨(some 92),.bin .eql (.tmp 91) (.const (.int .i64 0)),(some (89,false)),0⟩,⟨(some 93),.mv (.tmp 92),(some (89,false)),0⟩,⟨(some 94),.fa 0 (.tmp 15),(some (93,true)),0⟩,⟨(some 95),.ld 1 false (.tmp 94),(some (93,true)),0⟩,⟨(some 96),.bin .eql (.tmp 95) (.const (.int .u8 38)),(some (93,true)),0⟩,⟨(some 97),.ld 5 true (.tmp 5),(some (93,true)),0⟩,⟨(some 98),.cl 28 [(.tmp 97)],(some (93,true)),0⟩,⟨(some 99),.binb false (.tmp 96) (.tmp 98),(some (93,true)),0⟩,⟨(some 100),.pick (.tmp 93) (.tmp 99) (.const (.bool false)),(some (89,false)),0⟩,⟨(some 101),.pick (.tmp 89) (.const (.bool true)) (.tmp 100),(some (86,true)),0⟩,⟨(some 102),.pick (.tmp 86) (.tmp 101) (.const (.bool false)),none,0⟩,⟨(some 103),.mv (.tmp 102),none,0⟩,⟨(some 104),.mv (.tmp 14),(some (103,true)),0⟩,⟨(some 105),.mv (.tmp 104),(some (103,true)),0⟩,⟨(some 106),.ld 8 true (.tmp 15),(some (105,false)),0⟩,⟨(some 107),.bd [(.lit (.int .u8 0)),(.lit (.string ⟨#[]⟩)),(.lit (.string ⟨#[]⟩)),(.lit (.string ⟨#[]⟩)),(.lit (.int .i64 0)),(.lit (.int .i64 0)),(.lit (.int .i64 0)),(.lit (.int .i64 0))] [],(some (105,false)),0⟩,⟨(some 108),.eqa false [1,2,2,2,1,1,1,1] (.tmp 106) (.tmp 107),(some (105,false)),0⟩,⟨(some 109),.pick (.tmp 105) (.const (.bool true)) (.tmp 108),(some (103,true)),0⟩,⟨(some 110),.pick (.tmp 103) (.tmp 109) (.const (.bool false)),none,0⟩,⟨(some 111),.mv (.tmp 110),none,0⟩,⟨(some 112),.ld 5 true (.tmp 5),(some (111,true)),0⟩,⟨(some 113),.cl 29 [(.tmp 112)],(some (111,true)),0⟩,⟨(some 114),.mv (.tmp 113),(some (111,true)),0⟩,⟨(some 115),.ld 5 true (.tmp 5),(some (114,true)),0⟩,⟨(some 116),.cl 28 [(.tmp 115)],(some (114,true)),0⟩,⟨(some 117),.pick (.tmp 114) (.tmp 116) (.const (.bool false)),(some (111,true)),0⟩,⟨(some 118),.un .not (.tmp 117),(some (111,true)),0⟩,⟨(some 119),.pick (.tmp 111) (.tmp 118) (.const (.bool false)),none,0⟩,⟨(some 120),.mv (.tmp 119),none,0⟩,⟨(some 121),.cl 7 [],(some (120,true)),0⟩,⟨(some 122),.pick (.tmp 120) (.tmp 121) (.const (.bool false)),none,0⟩,⟨(some 4),.mv (.tmp 122),none,0⟩] (some [[],[0],[],[2,0,1],[1,0,2,3],[3,2,0,1,4],[4,1,0,2,3,5],[5,3,2,0,1,4,6],[6,4,1,0,2,3,5,7],[7,5,3,2,0,1,4,6,8],[8,6,4,1,0,2,3,5,7,9],[9,7,5,3,2,0,1,4,6,8,10],[9,7,5,3,2,0,1,4,6,8,10],[12,10,8,6,4,1,0,2,3,5,7,9,11],[11,12,13,9,7,5,3,2,0,1,4,6,8,10],[10,8,6,4,1,0,2,3,5,7,9,13,12,11,14],[14,11,12,13,9,7,5,3,2,0,1,4,6,8,10,15],[15,10,8,6,4,1,0,2,3,5,7,9,13,12,11,14,16],[16,14,11,12,13,9,7,5,3,2,0,1,4,6,8,10,15,17],[17,16,18,14,11,12,13,9,7,5,3,2,0,1,4,6,8,10,15],[15,10,8,9,13,12,11,14,18,16,17,19,6,4,1,0,2,3,5,7],[7,5,6,19,17,16,18,14,11,12,13,9,8,10,15,20,3,2,0,1,4],[4,1,0,2,3,20,15,10,8,9,13,12,11,14,18,16,17,19,6,5,7,21],[21,7,5,6,19,17,16,18,14,11,12,13,9,8,10,15,20,3,2,0,1,4,22],[22,4,1,0,2,3,20,15,10,8,9,13,12,11,14,18,16,17,19,6,5,7,21,23],[23,21,7,5,6,19,17,16,18,14,11,12,13,9,8,10,15,20,3,2,0,1,4,22,24],[24,22,4,1,0,2,3,20,15,10,8,9,13,12,11,14,18,16,17,19,6,5,7,21,23,25],[25,23,21,7,5,6,19,17,16,18,14,11,12,13,9,8,10,15,20,3,2,0,1,4,22,24,26],[26,24,22,4,1,0,2,3,20,15,10,8,9,13,12,11,14,18,16,17,19,6,5,7,21,23,25,27],[27,25,23,21,7,5,6,19,17,16,18,14,11,12,13,9,8,10,15,20,3,2,0,1,4,22,24,26,28],[27,25,23,21,7,5,6,19,17,16,18,14,11,12,13,9,8,10,15,20,3,2,0,1,4,22,24,26,28],[30,28,26,24,22,4,1,0,2,3,20,15,10,8,9,13,12,11,14,18,16,17,19,6,5,7,21,23,25,27,29],[29,30,31,27,25,23,21,7,5,6,19,17,16,18,14,11,12,13,9,8,10,15,20,3,2,0,1,4,22,24,26,28],[28,26,27,31,30,29,32,24,22,4,1,0,2,3,20,15,10,8,9,13,12,11,14,18,16,17,19,6,5,7,21,23,25],[25,23,24,32,29,30,31,27,26,28,33,21,7,5,6,19,17,16,18,14,11,12,13,9,8,10,15,20,3,2,0,1,4,22],[22,4,1,0,2,3,20,15,10,8,9,13,12,11,14,18,16,17,19,6,5,7,21,33,28,26,27,31,30,29,32,24,23,25,34],[34,25,23,24,32,29,30,31,27,26,28,33,21,7,5,6,19,17,16,18,14,11,12,13,9,8,10,15,20,3,2,0,1,4,22,35],[35,22,4,1,0,2,3,20,15,10,8,9,13,12,11,14,18,16,17,19,6,5,7,21,33,28,26,27,31,30,29,32,24,23,25,34,36],[36,34,25,23,24,32,29,30,31,27,26,28,33,21,7,5,6,19,17,16,18,14,11,12,13,9,8,10,15,20,3,2,0,1,4,22,35,37],[37,35,22,4,1,0,2,3,20,15,10,8,9,13,12,11,14,18,16,17,19,6,5,7,21,33,28,26,27,31,30,29,32,24,23,25,34,36,38],[38,36,34,25,23,24,32,29,30,31,27,26,28,33,21,7,5,6,19,17,16,18,14,11,12,13,9,8,10,15,20,3,2,0,1,4,22,35,37,39],[39,37,35,22,4,1,0,2,3,20,15,10,8,9,13,12,11,14,18,16,17,19,6,5,7,21,33,28,26,27,31,30,29,32,24,23,25,34,36,38,40],[40,38,36,34,25,23,24,32,29,30,31,27,26,28,33,21,7,5,6,19,17,16,18,14,11,12,13,9,8,10,15,20,3,2,0,1,4,22,35,37,39,41],[41,39,37,35,22,4,1,0,2,3,20,15,10,8,9,13,12,11,14,18,16,17,19,6,5,7,21,33,28,26,27,31,30,29,32,24,23,25,34,36,38,40,42],[42,40,38,36,34,25,23,24,32,29,30,31,27,26,28,33,21,7,5,6,19,17,16,18,14,11,12,13,9,8,10,15,20,3,2,0,1,4,22,35,37,39,41,43],[43,41,39,37,35,22,4,1,0,2,3,20,15,10,8,9,13,12,11,14,18,16,17,19,6,5,7,21,33,28,26,27,31,30,29,32,24,23,25,34,36,38,40,42,44],[41,39,37,35,22,4,1,0,2,3,20,15,10,8,9,13,12,11,14,18,16,17,19,6,5,7,21,33,28,26,27,31,30,29,32,24,23,25,34,36,38,40,42],[42,40,38,36,34,25,23,24,32,29,30,31,27,26,28,33,21,7,5,6,19,17,16,18,14,11,12,13,9,8,10,15,20,3,2,0,1,4,22,35,37,39,41,46],[46,47,44,42,40,38,36,34,25,23,24,32,29,30,31,27,26,28,33,21,7,5,6,19,17,16,18,14,11,12,13,9,8,10,15,20,3,2,0,1,4,22,35,37,39,41,43,45],[45,43,44,47,46,48,41,39,37,35,22,4,1,0,2,3,20,15,10,8,9,13,12,11,14,18,16,17,19,6,5,7,21,33,28,26,27,31,30,29,32,24,23,25,34,36,38,40,42],[42,40,39,41,48,46,47,44,43,45,49,37,35,22,4,1,0,2,3,20,15,10,8,9,13,12,11,14,18,16,17,19,6,5,7,21,33,28,26,27,31,30,29,32,24,23,25,34,36,38],[38,36,37,49,45,43,44,47,46,48,41,39,40,42,50,34,25,23,24,32,29,30,31,27,26,28,33,21,7,5,6,19,17,16,18,14,11,12,13,9,8,10,15,20,3,2,0,1,4,22,35],[35,22,4,1,0,2,3,20,15,10,8,9,13,12,11,14,18,16,17,19,6,5,7,21,33,28,26,27,31,30,29,32,24,23,25,34,50,42,40,39,41,48,46,47,44,43,45,49,37,36,38,51],[51,38,36,37,49,45,43,44,47,46,48,41,39,40,42,50,34,25,23,24,32,29,30,31,27,26,28,33,21,7,5,6,19,17,16,18,14,11,12,13,9,8,10,15,20,3,2,0,1,4,22,35,52],[52,35,22,4,1,0,2,3,20,15,10,8,9,13,12,11,14,18,16,17,19,6,5,7,21,33,28,26,27,31,30,29,32,24,23,25,34,50,42,40,39,41,48,46,47,44,43,45,49,37,36,38,51,53],[53,51,38,36,37,49,45,43,44,47,46,48,41,39,40,42,50,34,25,23,24,32,29,30,31,27,26,28,33,21,7,5,6,19,17,16,18,14,11,12,13,9,8,10,15,20,3,2,0,1,4,22,35,52,54],[53,51,38,36,37,49,45,43,44,47,46,48,41,39,40,42,50,34,25,23,24,32,29,30,31,27,26,28,33,21,7,5,6,19,17,16,18,14,11,12,13,9,8,10,15,20,3,2,0,1,4,22,35,52,54],[56,54,52,35,22,4,1,0,2,3,20,15,10,8,9,13,12,11,14,18,16,17,19,6,5,7,21,33,28,26,27,31,30,29,32,24,23,25,34,50,42,40,39,41,48,46,47,44,43,45,49,37,36,38,51,53,55],[55,56,57,53,51,38,36,37,49,45,43,44,47,46,48,41,39,40,42,50,34,25,23,24,32,29,30,31,27,26,28,33,21,7,5,6,19,17,16,18,14,11,12,13,9,8,10,15,20,3,2,0,1,4,22,35,52,54],[54,53,57,56,55,58,51,38,36,37,49,45,43,44,47,46,48,41,39,40,42,50,34,25,23,24,32,29,30,31,27,26,28,33,21,7,5,6,19,17,16,18,14,11,12,13,9,8,10,15,20,3,2,0,1,4,22,35,52],[52,35,22,4,1,0,2,3,20,15,10,8,9,13,12,11,14,18,16,17,19,6,5,7,21,33,28,26,27,31,30,29,32,24,23,25,34,50,42,40,39,41,48,46,47,44,43,45,49,37,36,38,51,58,55,56,57,53,54,59],[59,54,53,57,56,55,58,51,38,36,37,49,45,43,44,47,46,48,41,39,40,42,50,34,25,23,24,32,29,30,31,27,26,28,33,21,7,5,6,19,17,16,18,14,11,12,13,9,8,10,15,20,3,2,0,1,4,22,35,52,60],[60,52,35,22,4,1,0,2,3,20,15,10,8,9,13,12,11,14,18,16,17,19,6,5,7,21,33,28,26,27,31,30,29,32,24,23,25,34,50,42,40,39,41,48,46,47,44,43,45,49,37,36,38,51,58,55,56,57,53,54,59,61],[61,59,54,53,57,56,55,58,51,38,36,37,49,45,43,44,47,46,48,41,39,40,42,50,34,25,23,24,32,29,30,31,27,26,28,33,21,7,5,6,19,17,16,18,14,11,12,13,9,8,10,15,20,3,2,0,1,4,22,35,52,60,62],[62,60,52,35,22,4,1,0,2,3,20,15,10,8,9,13,12,11,14,18,16,17,19,6,5,7,21,33,28,26,27,31,30,29,32,24,23,25,34,50,42,40,39,41,48,46,47,44,43,45,49,37,36,38,51,58,55,56,57,53,54,59,61,63],[63,61,59,54,53,57,56,55,58,51,38,36,37,49,45,43,44,47,46,48,41,39,40,42,50,34,25,23,24,32,29,30,31,27,26,28,33,21,7,5,6,19,17,16,18,14,11,12,13,9,8,10,15,20,3,2,0,1,4,22,35,52,60,62,64],[64,65,62,60,52,35,22,4,1,0,2,3,20,15,10,8,9,13,12,11,14,18,16,17,19,6,5,7,21,33,28,26,27,31,30,29,32,24,23,25,34,50,42,40,39,41,48,46,47,44,43,45,49,37,36,38,51,58,55,56,57,53,54,59,61,63],[63,61,59,54,53,57,56,55,58,51,38,36,37,49,45,43,44,47,46,48,41,39,40,42,50,34,25,23,24,32,29,30,31,27,26,28,33,21,7,5,6,19,17,16,18,14,11,12,13,9,8,10,15,20,3,2,0,1,4,22,35,52,60,62,65,64,66],[66,64,65,62,61,63,67,59,54,53,57,56,55,58,51,38,36,37,49,45,43,44,47,46,48,41,39,40,42,50,34,25,23,24,32,29,30,31,27,26,28,33,21,7,5,6,19,17,16,18,14,11,12,13,9,8,10,15,20,3,2,0,1,4,22,35,52,60],[60,52,35,22,4,1,0,2,3,20,15,10,8,9,13,12,11,14,18,16,17,19,6,5,7,21,33,28,26,27,31,30,29,32,24,23,25,34,50,42,40,39,41,48,46,47,44,43,45,49,37,36,38,51,58,55,56,57,53,54,59,67,63,61,62,65,64,66,68],[68,66,64,65,62,61,63,67,59,54,53,57,56,55,58,51,38,36,37,49,45,43,44,47,46,48,41,39,40,42,50,34,25,23,24,32,29,30,31,27,26,28,33,21,7,5,6,19,17,16,18,14,11,12,13,9,8,10,15,20,3,2,0,1,4,22,35,52,60,69],[70,68,66,64,65,62,61,63,67,59,54,53,57,56,55,58,51,38,36,37,49,45,43,44,47,46,48,41,39,40,42,50,34,25,23,24,32,29,30,31,27,26,28,33,21,7,5,6,19,17,16,18,14,11,12,13,9,8,10,15,20,3,2,0,1,4,22,35,52,60,69],[69,60,52,35,22,4,1,0,2,3,20,15,10,8,9,13,12,11,14,18,16,17,19,6,5,7,21,33,28,26,27,31,30,29,32,24,23,25,34,50,42,40,39,41,48,46,47,44,43,45,49,37,36,38,51,58,55,56,57,53,54,59,67,63,61,62,65,64,66,68,70,71]]) 0 []) .ret))))))))))
theorem gc5_ok:compF Try.prog Try.f5=some (gc5.er,123,[.tmp 4]):=by unfold gc5;kernel_rfl
theorem p_law20_ItemBack_v (a0:ItemItem) (a1:ByteArray):CallsO Try.prog 5 [.agg [.s a0.Contact,.s a0.Name,.i a0.Sub,.i a0.Ver,.b a0.Own],.s a1] V.b (tru? (p_law20_ItemBack a0 a1)):=by
 refine callsO_comp mix Try.func5 gc5_ok fun r H=>?_
 have H1:=tru_of H
 clear H
 obtain ⟨rfl,H⟩:=H1
 rw [p_law20_ItemBack] at H
 conv=>whnf
 refine ask_c (p_ref20_Light_v _) H rfl rfl (fun v1 H=>?_);conv=>whnf
 refine Tst.not ?_
 refine tst_d H (fun b2 H=>?_) (fun b2 H=>?_)
 ·conv=>whnf
  iterate 4 (refine Tst.T ?_;conv=>whnf)
  refine ask_c (p_law20_awake_v) H rfl rfl (fun v60 H=>?_);conv=>whnf
  exact fb_ H
 conv=>whnf
 iterate 3 (refine Tst.F ?_;conv=>whnf)
 refine tst_c H (fun b3 H=>?_) (fun b3 H=>?_)
 ·conv=>whnf
  refine ask_c (p_law20_awake_v) H rfl rfl (fun v4 H=>?_);conv=>whnf
  exact fb_ H
 conv=>whnf
 refine ⟨Nat.le_of_ble_eq_true rfl,?_⟩;conv=>whnf
 refine ask_c (p_item_Put_v _) H rfl rfl (fun v5 H=>?_);conv=>whnf
 refine ask_c (p_item_Get_v _) H rfl rfl (fun v6 H=>?_);conv=>whnf
 refine ⟨Nat.le_of_ble_eq_true rfl,?_⟩;conv=>whnf
 refine ask_c (p_item_Get_v _) H rfl rfl (fun v7 H=>?_);conv=>whnf
 refine ⟨Nat.le_of_ble_eq_true rfl,?_⟩;conv=>whnf
 refine ask_c (p_item_Put_v _) H rfl rfl (fun v8 H=>?_);conv=>whnf
 refine ask_c (p_item_Check_v _) H rfl rfl (fun v9 H=>?_);conv=>whnf
 refine ask_c (p_item_Push_v _) H rfl rfl (fun v10 H=>?_);conv=>whnf
 refine ⟨Nat.le_of_ble_eq_true rfl,?_⟩;conv=>whnf
 refine tstT_c H (fun b11 H=>?_);conv=>whnf
 iterate 2 (refine Tst.T ?_;conv=>whnf)
 refine Tst.not ?_
 refine tst_d H (fun b12 H=>?_) (fun b12 H=>?_)
 ·conv=>whnf
  iterate 11 (refine Tst.T ?_;conv=>whnf)
  refine tst_c H (fun b41 H=>?_) (fun b41 H=>?_)
  ·conv=>whnf
   iterate 9 (refine Tst.T ?_;conv=>whnf)
   refine Tst.not ?_
   refine Tst.isF b12 ?_;conv=>whnf
   iterate 9 (refine Tst.T ?_;conv=>whnf)
   refine Tst.isF b12 ?_;conv=>whnf
   iterate 2 (refine Tst.F ?_;conv=>whnf)
   refine Tst.T ?_;conv=>whnf
   refine Tst.F ?_;conv=>whnf
   refine Tst.T ?_;conv=>whnf
   refine tstT_c H (fun b42 H=>?_);conv=>whnf
   refine Tst.T ?_;conv=>whnf
   refine ask_c (p_item_Idle_v _) H rfl rfl (fun v43 H=>?_);conv=>whnf
   refine Tst.T ?_;conv=>whnf
   refine tst_d H (fun b44 H=>?_) (fun b44 H=>?_)
   ·conv=>whnf
    refine Tst.F ?_;conv=>whnf
    refine Tst.T ?_;conv=>whnf
    refine Tst.F ?_;conv=>whnf
    iterate 2 (refine Tst.T ?_;conv=>whnf)
    refine Tst.not ?_
    refine tstF_c H (fun b48 H=>?_);conv=>whnf
    refine ask_c (p_law20_awake_v) H rfl rfl (fun v49 H=>?_);conv=>whnf
    refine Tst.T ?_;conv=>whnf
    refine FootQ.mk ⟨rfl,?_⟩;conv=>whnf
    exact fb_ H
   conv=>whnf
   refine Tst.T ?_;conv=>whnf
   refine ask_c (p_item_Listed_v _) H rfl rfl (fun v45 H=>?_);conv=>whnf
   iterate 4 (refine Tst.T ?_;conv=>whnf)
   refine Tst.not ?_
   refine tstF_c H (fun b46 H=>?_);conv=>whnf
   refine ask_c (p_law20_awake_v) H rfl rfl (fun v47 H=>?_);conv=>whnf
   refine Tst.T ?_;conv=>whnf
   refine FootQ.mk ⟨rfl,?_⟩;conv=>whnf
   exact fb_ H
  conv=>whnf
  iterate 2 (refine Tst.F ?_;conv=>whnf)
  refine tstT_c H (fun b50 H=>?_);conv=>whnf
  iterate 2 (refine Tst.T ?_;conv=>whnf)
  refine Tst.F ?_;conv=>whnf
  iterate 2 (refine Tst.T ?_;conv=>whnf)
  refine Tst.F ?_;conv=>whnf
  refine Tst.T ?_;conv=>whnf
  refine tstT_c H (fun b51 H=>?_);conv=>whnf
  iterate 2 (refine Tst.T ?_;conv=>whnf)
  refine Tst.not ?_
  refine Tst.isF b12 ?_;conv=>whnf
  iterate 9 (refine Tst.T ?_;conv=>whnf)
  refine Tst.isF b12 ?_;conv=>whnf
  iterate 2 (refine Tst.F ?_;conv=>whnf)
  refine Tst.T ?_;conv=>whnf
  refine Tst.F ?_;conv=>whnf
  refine Tst.T ?_;conv=>whnf
  refine tstT_c H (fun b52 H=>?_);conv=>whnf
  refine Tst.T ?_;conv=>whnf
  refine ask_c (p_item_Idle_v _) H rfl rfl (fun v53 H=>?_);conv=>whnf
  refine Tst.T ?_;conv=>whnf
  refine tst_d H (fun b54 H=>?_) (fun b54 H=>?_)
  ·conv=>whnf
   refine Tst.F ?_;conv=>whnf
   refine Tst.T ?_;conv=>whnf
   refine Tst.F ?_;conv=>whnf
   iterate 2 (refine Tst.T ?_;conv=>whnf)
   refine Tst.not ?_
   refine tstF_c H (fun b58 H=>?_);conv=>whnf
   refine ask_c (p_law20_awake_v) H rfl rfl (fun v59 H=>?_);conv=>whnf
   refine Tst.T ?_;conv=>whnf
   refine FootQ.mk ⟨rfl,?_⟩;conv=>whnf
   exact fb_ H
  conv=>whnf
  refine Tst.T ?_;conv=>whnf
  refine ask_c (p_item_Listed_v _) H rfl rfl (fun v55 H=>?_);conv=>whnf
  iterate 4 (refine Tst.T ?_;conv=>whnf)
  refine Tst.not ?_
  refine tstF_c H (fun b56 H=>?_);conv=>whnf
  refine ask_c (p_law20_awake_v) H rfl rfl (fun v57 H=>?_);conv=>whnf
  refine Tst.T ?_;conv=>whnf
  refine FootQ.mk ⟨rfl,?_⟩;conv=>whnf
  exact fb_ H
 conv=>whnf
 iterate 2 (refine Tst.F ?_;conv=>whnf)
 refine tstT_c H (fun b13 H=>?_);conv=>whnf
 iterate 2 (refine Tst.T ?_;conv=>whnf)
 refine Tst.F ?_;conv=>whnf
 refine Tst.T ?_;conv=>whnf
 refine Tst.F ?_;conv=>whnf
 refine tstT_c H (fun b14 H=>?_);conv=>whnf
 iterate 2 (refine Tst.T ?_;conv=>whnf)
 refine Tst.F ?_;conv=>whnf
 iterate 2 (refine Tst.T ?_;conv=>whnf)
 refine Tst.F ?_;conv=>whnf
 refine Tst.T ?_;conv=>whnf
 refine tstT_c H (fun b15 H=>?_);conv=>whnf
 iterate 2 (refine Tst.T ?_;conv=>whnf)
 refine tst_c H (fun b16 H=>?_) (fun b16 H=>?_)
 ·conv=>whnf
  iterate 9 (refine Tst.T ?_;conv=>whnf)
  refine Tst.not ?_
  refine Tst.isT b12 ?_;conv=>whnf
  refine Tst.F ?_;conv=>whnf
  refine ask_c (p_stanza_Check_v _) H rfl rfl (fun v17 H=>?_);conv=>whnf
  iterate 2 (refine Tst.F ?_;conv=>whnf)
  refine tstT_c H (fun b18 H=>?_);conv=>whnf
  iterate 4 (refine Tst.T ?_;conv=>whnf)
  refine ask_c (p_item_Listed_v _) H rfl rfl (fun v19 H=>?_);conv=>whnf
  refine Tst.T ?_;conv=>whnf
  refine Tst.F ?_;conv=>whnf
  iterate 2 (refine Tst.T ?_;conv=>whnf)
  refine Tst.F ?_;conv=>whnf
  refine Tst.T ?_;conv=>whnf
  refine tstT_c H (fun b20 H=>?_);conv=>whnf
  refine Tst.T ?_;conv=>whnf
  refine Tst.isT b12 ?_;conv=>whnf
  iterate 7 (refine Tst.T ?_;conv=>whnf)
  refine ask_c (p_item_Idle_v _) H rfl rfl (fun v21 H=>?_);conv=>whnf
  refine Tst.T ?_;conv=>whnf
  refine tst_d H (fun b22 H=>?_) (fun b22 H=>?_)
  ·conv=>whnf
   refine Tst.F ?_;conv=>whnf
   refine Tst.T ?_;conv=>whnf
   refine Tst.F ?_;conv=>whnf
   iterate 2 (refine Tst.T ?_;conv=>whnf)
   refine Tst.not ?_
   refine tstF_c H (fun b26 H=>?_);conv=>whnf
   refine ask_c (p_law20_awake_v) H rfl rfl (fun v27 H=>?_);conv=>whnf
   refine Tst.T ?_;conv=>whnf
   refine FootQ.mk ⟨rfl,?_⟩;conv=>whnf
   exact fb_ H
  conv=>whnf
  refine Tst.T ?_;conv=>whnf
  refine ask_c (p_item_Listed_v _) H rfl rfl (fun v23 H=>?_);conv=>whnf
  iterate 4 (refine Tst.T ?_;conv=>whnf)
  refine Tst.not ?_
  refine tstF_c H (fun b24 H=>?_);conv=>whnf
  refine ask_c (p_law20_awake_v) H rfl rfl (fun v25 H=>?_);conv=>whnf
  refine Tst.T ?_;conv=>whnf
  refine FootQ.mk ⟨rfl,?_⟩;conv=>whnf
  exact fb_ H
 conv=>whnf
 iterate 2 (refine Tst.F ?_;conv=>whnf)
 refine tstT_c H (fun b28 H=>?_);conv=>whnf
 iterate 2 (refine Tst.T ?_;conv=>whnf)
 refine Tst.F ?_;conv=>whnf
 iterate 2 (refine Tst.T ?_;conv=>whnf)
 refine Tst.F ?_;conv=>whnf
 refine Tst.T ?_;conv=>whnf
 refine tstT_c H (fun b29 H=>?_);conv=>whnf
 iterate 2 (refine Tst.T ?_;conv=>whnf)
 refine Tst.not ?_
 refine Tst.isT b12 ?_;conv=>whnf
 refine Tst.F ?_;conv=>whnf
 refine ask_c (p_stanza_Check_v _) H rfl rfl (fun v30 H=>?_);conv=>whnf
 iterate 2 (refine Tst.F ?_;conv=>whnf)
 refine tstT_c H (fun b31 H=>?_);conv=>whnf
 iterate 4 (refine Tst.T ?_;conv=>whnf)
 refine ask_c (p_item_Listed_v _) H rfl rfl (fun v32 H=>?_);conv=>whnf
 refine Tst.T ?_;conv=>whnf
 refine Tst.F ?_;conv=>whnf
 iterate 2 (refine Tst.T ?_;conv=>whnf)
 refine Tst.F ?_;conv=>whnf
 refine Tst.T ?_;conv=>whnf
 refine tstT_c H (fun b33 H=>?_);conv=>whnf
 refine Tst.T ?_;conv=>whnf
 refine Tst.isT b12 ?_;conv=>whnf
 iterate 7 (refine Tst.T ?_;conv=>whnf)
 refine ask_c (p_item_Idle_v _) H rfl rfl (fun v34 H=>?_);conv=>whnf
 refine Tst.T ?_;conv=>whnf
 refine tst_d H (fun b35 H=>?_) (fun b35 H=>?_)
 ·conv=>whnf
  refine Tst.F ?_;conv=>whnf
  refine Tst.T ?_;conv=>whnf
  refine Tst.F ?_;conv=>whnf
  iterate 2 (refine Tst.T ?_;conv=>whnf)
  refine Tst.not ?_
  refine tstF_c H (fun b39 H=>?_);conv=>whnf
  refine ask_c (p_law20_awake_v) H rfl rfl (fun v40 H=>?_);conv=>whnf
  refine Tst.T ?_;conv=>whnf
  refine FootQ.mk ⟨rfl,?_⟩;conv=>whnf
  exact fb_ H
 conv=>whnf
 refine Tst.T ?_;conv=>whnf
 refine ask_c (p_item_Listed_v _) H rfl rfl (fun v36 H=>?_);conv=>whnf
 iterate 4 (refine Tst.T ?_;conv=>whnf)
 refine Tst.not ?_
 refine tstF_c H (fun b37 H=>?_);conv=>whnf
 refine ask_c (p_law20_awake_v) H rfl rfl (fun v38 H=>?_);conv=>whnf
 refine Tst.T ?_;conv=>whnf
 refine FootQ.mk ⟨rfl,?_⟩;conv=>whnf
 exact fb_ H
end Go.Proofs.Ytpmoioopjbfhkaa

/- Closed facts of the statement ItemBack. -/
namespace Go.Proofs.Ytpmoioopjbfhkaa
open Go.ChangeShapes Go.WideShapes Go.ChangeAt Go.RowKit Go.Joins Go.Deep
theorem itemBack_named:Try.pinned.checked.prog.funcNamed Rows.itemBackRow.func=some 5:=by kernel_rfl
theorem itemBack_closed:joinedFacts Try.pinned.checked.prog 5 Try.f5 Rows.itemBackSpec Rows.itemBackRow=true:=by kernel_rfl
end Go.Proofs.Ytpmoioopjbfhkaa

/- ItemBack: for every input the call returns true, and its arguments read as they did. -/
namespace Go.Proofs.Ytpmoioopjbfhkaa
open Go.ChangeShapes Go.WideShapes Go.ChangeAt Go.RowKit Go.Joins Go.Deep
set_option maxRecDepth 100000 in
theorem itemBack_lifted (os:Os) (started:os.Started) (H:Type) (enc:TypeId × Value→H) :
  ReturnsInHanded {} Try.checked os 5 .any (Rows.itemBackSpec.pre6 enc Try.prog Try.f5 Rows.itemBackRow.domain false) (Rows.itemBackSpec.post enc Try.prog Try.f5 false true false false):=by
 refine returnsInHanded_of_change_shaped (C:=Try.checked) own0 started (by kernel_rfl) Try.func5
  (ChangeSpec.witness6 (enc:=enc) (C:=Try.checked) false ⟨#[],#[.agg #[.string ⟨#[]⟩,.string ⟨#[]⟩,.int .i64 0,.int .i64 0,.bool false],.string ⟨#[]⟩],[]⟩ 8 (by kernel_rfl) (by kernel_rfl) (by kernel_rfl) (by kernel_rfl)) ?_
 intro W base args ds gs before hval0 hW hcnd _ hsh _
 have hval:∀ (j:Nat) t v,Try.f5.params[j]?=some t→args[j]?=some v→Value.okWide Try.prog W .any base t v:=hval0
 have hW':=hW
 obtain ⟨p,q,hA0,hV,rfl,hfz,hnd⟩:=hW
 have hA:DataW.TrodAll enc Try.prog W 0 (fun _=>true) true Try.f5.params.toList args.toList ds p:=hA0
 rw [Try.params5] at hA hval
 have hA2:=hA
 obtain ⟨v0,v1,d0,d1,p0,p1,rfl,rfl,hp,h0,h1⟩:=trodAll_two hA
 obtain ⟨rfl,rfl⟩:=trodVars_none hV
 obtain ⟨fu0,hf0⟩:=h0
 obtain ⟨cs0,rfl,_⟩:=okWide_struct Try.underlying26 (hval 0 _ v0 rfl rfl)
 obtain ⟨a0,w0,r0⟩:=rd_T26 hf0
 have hx0:Rep (MW W) noBk (.agg cs0) (.agg [.s a0.Contact,.s a0.Name,.i a0.Sub,.i a0.Ver,.b a0.Own]):=rep_aggL r0 (by intro u hu;simp only [List.mem_cons,List.not_mem_nil,or_false] at hu;rcases hu with rfl | rfl | rfl | rfl | rfl <;> rfl)
 obtain ⟨fu1,hf1⟩:=h1
 obtain ⟨q1,rfl⟩:=okWide_string Try.underlying9 (hval 1 _ v1 rfl rfl)
 obtain ⟨a1,r1⟩:=rd_string Try.underlying9 hf1
 have hx1:Rep (MW W) noBk _ _:=r1.2 0 (by simp [Value.cells]) (by simp)
 refine (rep_one (callsO_true (p_law20_ItemBack_v a0 a1) (tru_ok (itemBack_pure a0 a1))) (maxLen_cell W hsh) (repAr2 hx0 hx1)).mono ?_
 rintro e W' ⟨rfl,bel⟩
 refine ⟨_,rfl,_,_,_,[],p,[],hW',?_,?_,?_,?_,?_⟩
 ·exact trodAll_mk1 (shut_bool Try.underlying4 true)
 ·exact trodAll_below laid0 bel (by
   intro t ht
   simp at ht
   rcases ht with rfl | rfl <;> exact ⟨by kernel_rfl,of_decide_eq_true (by kernel_rfl)⟩) hA2
 ·rfl
 ·exact bel.frame _
 ·exact fun h=>by cases h
theorem itemBack_holds:Rows.ItemBackSaid :=
 OpenClaim.holds_of_wide 5 Try.f5 rfl rfl rfl rfl rfl rfl rfl ⟨rfl,rfl,rfl,rfl,rfl⟩ rfl rfl rfl rfl rfl itemBack_named Try.func5 itemBack_closed
  (of_decide_eq_true (by kernel_rfl)) (by unfold Func.isWrapper;first | (rw [if_pos (by decide +kernel)];kernel_rfl) | (rw [if_neg (by decide +kernel)];exact ⟨rfl,rfl⟩))
  (fun os started H enc _=>itemBack_lifted os started H enc)
#print axioms itemBack_holds
end Go.Proofs.Ytpmoioopjbfhkaa

