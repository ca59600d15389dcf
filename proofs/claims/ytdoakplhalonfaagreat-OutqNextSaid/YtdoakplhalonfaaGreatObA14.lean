/- A part of the proof: 3 texts joined. -/
import Derived.Test.YtdoakplhalonfaaGreatObA8
import Derived.Test.YtdoakplhalonfaaGreatObA6
import Derived.Test.YtdoakplhalonfaaGreatObA7
import Derived.Test.YtdoakplhalonfaaGreatObA13
import Derived.Test.YtdoakplhalonfaaGreatObA12
import Derived.Test.YtdoakplhalonfaaGreatObA1
import Derived.KernelRfl
import Derived.Test.YtdoakplhalonfaaGreatObA9
set_option linter.all false
namespace Go.Proofs.YtdoakplhalonfaaGreat
open Go.RowKit
set_option maxRecDepth 100000
set_option maxHeartbeats 4000000
def gc45:BCode:=(.seq (R_ 1 [O_ 5 (.bx (t_ 2)) 0,O_ 6 (.mv (.const (.slice none 0 0))) 1,O_ 7 (.mv (i_ 0)) 1]) (.seq (.reg 0 [O_ 13 (.mv (t_ 0)) 0,O_ 14 (.cl 70 [(t_ 13)]) 0,O_ 8 (.mv (t_ 14)) 0] none 1 []) (.seq (.seq (R_ 0 [O_ 15 (.mv (t_ 0)) 0,O_ 16 (.cl 51 [(t_ 15)]) 0,O_ 9 (.mv (t_ 16)) 0]) (.seq (R_ 0 [O_ 17 (.mv (t_ 9)) 0,O_ 18 (.bin .neq (t_ 17) (i_ 0)) 0]) (.cond (t_ 18) (.seq (R_ 0 [O_ 19 (.mv (t_ 8)) 0,O_ 20 (.mv (t_ 9)) 0,O_ 6 (.mv (t_ 19)) 0,O_ 7 (.mv (t_ 20)) 0]) .ret) .skip))) (.seq (.seq (R_ 0 [O_ 21 (.mv (t_ 1)) 0,O_ 22 (.cl 71 [(t_ 21)]) 0,O_ 23 (.un .not (t_ 22)) 0]) (.cond (t_ 23) (.seq (R_ 0 [O_ 24 (.mv (t_ 8)) 0,O_ 6 (.mv (t_ 24)) 0,O_ 7 (.mv (i_ 11)) 0]) .ret) .skip)) (.seq (.seq (R_ 0 [O_ 25 (.ld 4 true (t_ 5)) 0,O_ 26 (.cl 65 [(t_ 25)]) 0,O_ 10 (.mv (t_ 26)) 0]) (.seq (R_ 0 [O_ 27 (.mv (t_ 10)) 0,O_ 28 (.bin .neq (t_ 27) (i_ 0)) 0]) (.cond (t_ 28) (.seq (R_ 0 [O_ 29 (.mv (t_ 8)) 0,O_ 30 (.mv (t_ 10)) 0,O_ 6 (.mv (t_ 29)) 0,O_ 7 (.mv (t_ 30)) 0]) .ret) .skip))) (.seq (R_ 0 [O_ 31 (.mv (t_ 0)) 0,O_ 32 (.mv (t_ 1)) 0,O_ 33 (.cl 72 [(t_ 31),(t_ 32)]) 0,O_ 11 (.mv (t_ 33)) 0]) (.seq (.block 0 (.seq (R_ 0 [O_ 40 (.mv (t_ 11)) 0,O_ 41 (.bin .eql (t_ 40) (.const (.int .i64 (-1)))) 0,O_ 39 (.mv (t_ 41)) 0]) (.cond (t_ 39) (.seq (R_ 0 [O_ 42 (.mv (t_ 0)) 0,O_ 43 (.lens (t_ 42)) 0,O_ 44 (.bin .eql (t_ 43) (i_ 16)) 0]) (.cond (t_ 44) (.seq (R_ 0 [O_ 45 (.mv (t_ 8)) 0,O_ 6 (.mv (t_ 45)) 0,O_ 7 (.mv (i_ 7)) 0]) .ret) .skip)) (.seq (.reg 0 [O_ 47 (.ld 4 true (t_ 5)) 0,O_ 48 (.mv (t_ 0)) 0,O_ 49 (.mv (t_ 11)) 0,O_ 50 (.ixs 5 (t_ 48) (t_ 49)) 0,O_ 51 (.fa 1 (t_ 50)) 0,O_ 52 (.ld 4 true (t_ 51)) 0,O_ 53 (.cl 73 [(t_ 47),(t_ 52)]) 0,O_ 54 (.un .not (t_ 53)) 0,O_ 46 (.mv (t_ 54)) 0] (some [[],[],[],[2,1],[1,2,3],[3,2,1,4],[4,1,2,3,5,0],[0,5,3,2,1,4,6],[6,4,1,2,3,5,0,7]]) 0 []) (.cond (t_ 46) (.seq (R_ 0 [O_ 55 (.mv (t_ 8)) 0,O_ 6 (.mv (t_ 55)) 0,O_ 7 (.mv (i_ 0)) 0]) .ret) (.seq (.reg 0 [O_ 57 (.fa 0 (t_ 5)) 0,O_ 58 (.ld 1 false (t_ 57)) 0,O_ 59 (.mv (t_ 0)) 0,O_ 60 (.mv (t_ 11)) 0,O_ 61 (.ixs 5 (t_ 59) (t_ 60)) 0,O_ 62 (.fa 1 (t_ 61)) 0,O_ 63 (.fa 0 (t_ 62)) 0,O_ 64 (.ld 1 false (t_ 63)) 0,O_ 65 (.binb false (t_ 58) (t_ 64)) 0,O_ 56 (.mv (t_ 65)) 0] (some [[],[0],[],[],[3,2],[2,3,4],[4,3,2,5],[5,2,3,4,6],[6,4,3,2,5,7,0,1],[1,0,7,5,2,3,4,6,8]]) 0 []) (.cond (t_ 56) (.seq (R_ 0 [O_ 66 (.mv (t_ 8)) 0,O_ 67 (.mv (t_ 11)) 0,O_ 68 (.ld 4 true (t_ 5)) 0,O_ 69 (.ixs 5 (t_ 66) (t_ 67)) 0,O_ 70 (.fa 1 (t_ 69)) 0,U_ (.st 4 (t_ 70) (t_ 68)) 0]) (.seq (R_ 0 [O_ 71 (.mv (t_ 8)) 0,O_ 6 (.mv (t_ 71)) 0,O_ 7 (.mv (i_ 0)) 0]) .ret)) (R_ 0 [O_ 34 (.mv (t_ 8)) 0,O_ 35 (.mv (t_ 11)) 0,O_ 36 (.mv (t_ 11)) 0,O_ 37 (.bin .add (t_ 36) (i_ 1)) 0,O_ 38 (.cl 74 [(t_ 34),(t_ 35),(t_ 37)]) 0,O_ 8 (.mv (t_ 38)) 0])))))))) (.seq (R_ 0 [O_ 72 (.mv (t_ 8)) 0,O_ 73 (.lens (t_ 72)) 0,O_ 12 (.mv (t_ 73)) 0]) (.seq (.seq (R_ 0 [O_ 74 (.fa 0 (t_ 5)) 0,O_ 75 (.ld 1 false (t_ 74)) 0,O_ 76 (.un .not (t_ 75)) 0]) (.cond (t_ 76) (R_ 0 [O_ 77 (.mv (t_ 8)) 0,O_ 78 (.cl 75 [(t_ 77)]) 0,O_ 12 (.mv (t_ 78)) 0]) .skip)) (.seq (R_ 1 [O_ 79 (.mv (t_ 8)) 0,O_ 80 (.mv (t_ 12)) 0,O_ 81 (.mv (t_ 1)) 0,O_ 82 (.ld 4 true (t_ 5)) 0,O_ 83 (.bd [(.lit (.string ⟨#[]⟩)),(.lit (.bool false)),(.lit (.int .i64 0)),(.lit (.int .i64 0)),(.lit (.int .i64 0))] [(0,1,(t_ 81)),(1,4,(t_ 82))]) 0,O_ 84 (.bs 5 1 [(.lit (.string ⟨#[]⟩)),(.lit (.bool false)),(.lit (.int .i64 0)),(.lit (.int .i64 0)),(.lit (.int .i64 0))] [(0,(t_ 83))]) 0,O_ 85 (.cl 76 [(t_ 79),(t_ 80),(t_ 84)]) 1,O_ 6 (.mv (t_ 85)) 1,O_ 7 (.mv (i_ 0)) 1]) .ret))))))))))
theorem gc45_ok:compF Tryz.prog Tryz.f45=some (gc45.er,86,[.tmp 6,.tmp 7]):=by unfold gc45;kernel_rfl
theorem p_mail_Put_v {u1:Bool} (a0:List MailEntry) (a1:ByteArray) (a2:PresPres):CallsO Tryz.prog 45 [.sl (List.map MailEntry.v a0) u1,.s a1,.agg [.b a2.On,.i a2.Show,.i a2.Prio,.i a2.Seq]] (fun r:(List MailEntry) × Int=>.tup [(fun l:List MailEntry=>V.sl (l.map MailEntry.v) false) r.1,V.i r.2]) (p_mail_Put a0 a1 a2):=by
 refine callsO_comp mix Tryz.func45 gc45_ok fun r H=>?_
 rw [p_mail_Put] at H
 conv=>whnf
 refine clone_c (f:=MailEntry.v) (id:=1) cloR70_v H (fun _=>rfl) (fun _=>rfl) rfl (fun H=>?_) (fun l1 H=>?_)
 ·conv=>whnf
  refine ask_c (p_mail_Check_v _) H rfl rfl (fun v27 H=>?_);conv=>whnf
  refine tst_c H (fun b28 H=>?_) (fun b28 H=>?_)
  ·conv=>whnf
   refine finR_c (enc:=(fun r:(List MailEntry) × Int=>.tup [(fun l:List MailEntry=>V.sl (l.map MailEntry.v) false) r.1,V.i r.2])) H ?_;conv=>whnf
   exact ⟨_,.tup (.cons (.c (.slw)) (.cons (.c (.id rfl)) (.nil)))⟩
  conv=>whnf
  refine ask_c (p_mail_key_v _) H rfl rfl (fun v29 H=>?_);conv=>whnf
  refine Tst.not ?_
  refine tst_d H (fun b30 H=>?_) (fun b30 H=>?_)
  ·conv=>whnf
   refine finR_c (enc:=(fun r:(List MailEntry) × Int=>.tup [(fun l:List MailEntry=>V.sl (l.map MailEntry.v) false) r.1,V.i r.2])) H ?_;conv=>whnf
   exact ⟨_,.tup (.cons (.c (.slw)) (.cons (.c (.id rfl)) (.nil)))⟩
  conv=>whnf
  refine ask_c (p_pres_Check_v _) H rfl rfl (fun v31 H=>?_);conv=>whnf
  refine tst_c H (fun b32 H=>?_) (fun b32 H=>?_)
  ·conv=>whnf
   refine finR_c (enc:=(fun r:(List MailEntry) × Int=>.tup [(fun l:List MailEntry=>V.sl (l.map MailEntry.v) false) r.1,V.i r.2])) H ?_;conv=>whnf
   exact ⟨_,.tup (.cons (.c (.slw)) (.cons (.c (.id rfl)) (.nil)))⟩
  conv=>whnf
  refine ask_c (p_mail_Find_v _ _) H rfl rfl (fun v33 H=>?_);conv=>whnf
  refine tst_d H (fun b34 H=>?_) (fun b34 H=>?_)
  ·conv=>whnf
   refine ixs_c (f:=MailEntry.v) H (fun _=>rfl) (fun x40 H=>?_);conv=>whnf
   refine lq_ ?_;conv=>whnf
   refine ask_c (p_pres_Newer_v _ _) H rfl rfl (fun v41 H=>?_);conv=>whnf
   refine FootQ.mk ⟨rfl,?_⟩;conv=>whnf
   refine Tst.not ?_
   refine tst_d H (fun b42 H=>?_) (fun b42 H=>?_)
   ·conv=>whnf
    refine finR_c (enc:=(fun r:(List MailEntry) × Int=>.tup [(fun l:List MailEntry=>V.sl (l.map MailEntry.v) false) r.1,V.i r.2])) H ?_;conv=>whnf
    exact ⟨_,.tup (.cons (.c (.slw)) (.cons (.c (.id rfl)) (.nil)))⟩
   conv=>whnf
   refine ixs_c (f:=MailEntry.v) H (fun _=>rfl) (fun x43 H=>?_);conv=>whnf
   refine lq_ ?_;conv=>whnf
   refine lq_ ?_;conv=>whnf
   refine FootQ.mk ⟨rfl,?_⟩;conv=>whnf
   refine tst_c H (fun b44 H=>?_) (fun b44 H=>?_)
   ·conv=>whnf
    exact nil_at H
   conv=>whnf
   refine Ari.w ?_;conv=>whnf
   exact delN_c H
  conv=>whnf
  refine LenQ.M ?_;conv=>whnf
  refine tst_c H (fun b35 H=>?_) (fun b35 H=>?_)
  ·conv=>whnf
   refine finR_c (enc:=(fun r:(List MailEntry) × Int=>.tup [(fun l:List MailEntry=>V.sl (l.map MailEntry.v) false) r.1,V.i r.2])) H ?_;conv=>whnf
   exact ⟨_,.tup (.cons (.c (.slw)) (.cons (.c (.id rfl)) (.nil)))⟩
  conv=>whnf
  refine LenQ.ok ?_;conv=>whnf
  refine Tst.not ?_
  refine tst_c H (fun b36 H=>?_) (fun b36 H=>?_)
  ·conv=>whnf
   refine askF_c (insN_v (f:=MailEntry.v) insR76_v (by decide) (fun _=>rfl) (fun _=>rfl) (fun _=>rfl) _ _ _) H (.cons (.c (.id rfl)) (.cons (.c (.id rfl)) (.cons (.c (fzown (f:=MailEntry.v) (l:=[(MailEntry.mk a1 a2)]) rfl rfl (fun _=>rfl) (fun _=>rfl))) .nil))) (fun v37 H=>?_);conv=>whnf
   exact fin0_c (enc:=(fun r:(List MailEntry) × Int=>.tup [(fun l:List MailEntry=>V.sl (l.map MailEntry.v) false) r.1,V.i r.2])) H (.inr rfl) (.cons (.tmp rfl) (.cons (.tmp rfl) (.nil))) rfl rfl
  conv=>whnf
  refine ask_c (p_mail_Off_v _) H rfl rfl (fun v38 H=>?_);conv=>whnf
  refine askF_c (insN_v (f:=MailEntry.v) insR76_v (by decide) (fun _=>rfl) (fun _=>rfl) (fun _=>rfl) _ _ _) H (.cons (.c (.id rfl)) (.cons (.c (.id rfl)) (.cons (.c (fzown (f:=MailEntry.v) (l:=[(MailEntry.mk a1 a2)]) rfl rfl (fun _=>rfl) (fun _=>rfl))) .nil))) (fun v39 H=>?_);conv=>whnf
  exact fin0_c (enc:=(fun r:(List MailEntry) × Int=>.tup [(fun l:List MailEntry=>V.sl (l.map MailEntry.v) false) r.1,V.i r.2])) H (.inr rfl) (.cons (.tmp rfl) (.cons (.tmp rfl) (.nil))) rfl rfl
 conv=>whnf
 refine ask_c (p_mail_Check_v _) H rfl rfl (fun v2 H=>?_);conv=>whnf
 refine tst_c H (fun b3 H=>?_) (fun b3 H=>?_)
 ·conv=>whnf
  refine finRz_c (enc:=(fun r:(List MailEntry) × Int=>.tup [(fun l:List MailEntry=>V.sl (l.map MailEntry.v) false) r.1,V.i r.2])) [1] H ?_;conv=>whnf
  refine ⟨Nat.zero_le _,?_⟩;conv=>whnf
  exact ⟨_,.tup (.cons (.c (fzown (f:=MailEntry.v) (l:=l1) rfl rfl (fun _=>rfl) (fun _=>rfl))) (.cons (.c (.id rfl)) (.nil)))⟩
 conv=>whnf
 refine ask_c (p_mail_key_v _) H rfl rfl (fun v4 H=>?_);conv=>whnf
 refine Tst.not ?_
 refine tst_d H (fun b5 H=>?_) (fun b5 H=>?_)
 ·conv=>whnf
  refine finRz_c (enc:=(fun r:(List MailEntry) × Int=>.tup [(fun l:List MailEntry=>V.sl (l.map MailEntry.v) false) r.1,V.i r.2])) [1] H ?_;conv=>whnf
  refine ⟨Nat.zero_le _,?_⟩;conv=>whnf
  exact ⟨_,.tup (.cons (.c (fzown (f:=MailEntry.v) (l:=l1) rfl rfl (fun _=>rfl) (fun _=>rfl))) (.cons (.c (.id rfl)) (.nil)))⟩
 conv=>whnf
 refine ask_c (p_pres_Check_v _) H rfl rfl (fun v6 H=>?_);conv=>whnf
 refine tst_c H (fun b7 H=>?_) (fun b7 H=>?_)
 ·conv=>whnf
  refine finRz_c (enc:=(fun r:(List MailEntry) × Int=>.tup [(fun l:List MailEntry=>V.sl (l.map MailEntry.v) false) r.1,V.i r.2])) [1] H ?_;conv=>whnf
  refine ⟨Nat.zero_le _,?_⟩;conv=>whnf
  exact ⟨_,.tup (.cons (.c (fzown (f:=MailEntry.v) (l:=l1) rfl rfl (fun _=>rfl) (fun _=>rfl))) (.cons (.c (.id rfl)) (.nil)))⟩
 conv=>whnf
 refine ask_c (p_mail_Find_v _ _) H rfl rfl (fun v8 H=>?_);conv=>whnf
 refine tst_c H (fun b9 H=>?_) (fun b9 H=>?_)
 ·conv=>whnf
  refine LenQ.M ?_;conv=>whnf
  refine tst_c H (fun b10 H=>?_) (fun b10 H=>?_)
  ·conv=>whnf
   refine finRz_c (enc:=(fun r:(List MailEntry) × Int=>.tup [(fun l:List MailEntry=>V.sl (l.map MailEntry.v) false) r.1,V.i r.2])) [1] H ?_;conv=>whnf
   refine ⟨Nat.zero_le _,?_⟩;conv=>whnf
   exact ⟨_,.tup (.cons (.c (fzown (f:=MailEntry.v) (l:=l1) rfl rfl (fun _=>rfl) (fun _=>rfl))) (.cons (.c (.id rfl)) (.nil)))⟩
  conv=>whnf
  refine Tst.not ?_
  refine tst_c H (fun b11 H=>?_) (fun b11 H=>?_)
  ·conv=>whnf
   refine insO_c (f:=MailEntry.v) insR76_v H (by decide) (fun _=>rfl) (fun _=>rfl) (fun _=>rfl) rfl rfl rfl (fun v12 H=>?_);conv=>whnf
   exact fin0_c (enc:=(fun r:(List MailEntry) × Int=>.tup [(fun l:List MailEntry=>V.sl (l.map MailEntry.v) false) r.1,V.i r.2])) H (.inr rfl) (.cons (.tmp rfl) (.cons (.tmp rfl) (.nil))) rfl rfl
  conv=>whnf
  refine askT_c [1] (p_mail_Off_v _) H (.cons (.c (fzown (f:=MailEntry.v) (l:=l1) rfl rfl (fun _=>rfl) (fun _=>rfl))) (.nil)) (fun _=>rfl) (fun v13 H=>?_);conv=>whnf
  refine insO_c (f:=MailEntry.v) insR76_v H (by decide) (fun _=>rfl) (fun _=>rfl) (fun _=>rfl) rfl rfl rfl (fun v14 H=>?_);conv=>whnf
  exact fin0_c (enc:=(fun r:(List MailEntry) × Int=>.tup [(fun l:List MailEntry=>V.sl (l.map MailEntry.v) false) r.1,V.i r.2])) H (.inr rfl) (.cons (.tmp rfl) (.cons (.tmp rfl) (.nil))) rfl rfl
 conv=>whnf
 refine ixs_c (f:=MailEntry.v) H (fun _=>rfl) (fun x15 H=>?_);conv=>whnf
 refine lq_ ?_;conv=>whnf
 refine ask_c (p_pres_Newer_v _ _) H rfl rfl (fun v16 H=>?_);conv=>whnf
 refine FootQ.mk ⟨rfl,?_⟩;conv=>whnf
 refine Tst.not ?_
 refine tst_d H (fun b17 H=>?_) (fun b17 H=>?_)
 ·conv=>whnf
  refine finRz_c (enc:=(fun r:(List MailEntry) × Int=>.tup [(fun l:List MailEntry=>V.sl (l.map MailEntry.v) false) r.1,V.i r.2])) [1] H ?_;conv=>whnf
  refine ⟨Nat.zero_le _,?_⟩;conv=>whnf
  exact ⟨_,.tup (.cons (.c (fzown (f:=MailEntry.v) (l:=l1) rfl rfl (fun _=>rfl) (fun _=>rfl))) (.cons (.c (.id rfl)) (.nil)))⟩
 conv=>whnf
 refine ixs_c (f:=MailEntry.v) H (fun _=>rfl) (fun x18 H=>?_);conv=>whnf
 refine lq_ ?_;conv=>whnf
 refine lq_ ?_;conv=>whnf
 refine FootQ.mk ⟨rfl,?_⟩;conv=>whnf
 refine tst_c H (fun b19 H=>?_) (fun b19 H=>?_)
 ·conv=>whnf
  refine ⟨rfl,ixo_c H (fun x20 h21 H=>?_)⟩;conv=>whnf
  refine ⟨Nat.zero_le _,sto_c (f:=MailEntry.v) (es:=5) h21 (x':=(MailEntry.mk x20.Key a2)) (fun _=>rfl) 1 (by omega) (Nat.le_of_ble_eq_true rfl) (by rfl) ?_⟩;conv=>whnf
  refine finRz_c (enc:=(fun r:(List MailEntry) × Int=>.tup [(fun l:List MailEntry=>V.sl (l.map MailEntry.v) false) r.1,V.i r.2])) [1] H ?_;conv=>whnf
  refine ⟨Nat.zero_le _,?_⟩;conv=>whnf
  exact ⟨_,.tup (.cons (.c (fzc_made (f:=MailEntry.v) (l:=(List.set l1 (Int.toNat v8) (MailEntry.mk x20.Key a2))) rfl rfl rfl (by simp) (fun _=>rfl) (fun _=>rfl))) (.cons (.c (.id rfl)) (.nil)))⟩
 conv=>whnf
 refine Ari.w ?_;conv=>whnf
 refine delO_c (f:=MailEntry.v) delR74_v H (fun _=>rfl) (fun _=>rfl) rfl rfl (fun v22 H=>?_);conv=>whnf
 refine Tst.not ?_
 refine tst_c H (fun b23 H=>?_) (fun b23 H=>?_)
 ·conv=>whnf
  refine insO_c (f:=MailEntry.v) insR76_v H (by decide) (fun _=>rfl) (fun _=>rfl) (fun _=>rfl) rfl rfl rfl (fun v24 H=>?_);conv=>whnf
  exact fin0_c (enc:=(fun r:(List MailEntry) × Int=>.tup [(fun l:List MailEntry=>V.sl (l.map MailEntry.v) false) r.1,V.i r.2])) H (.inr rfl) (.cons (.tmp rfl) (.cons (.tmp rfl) (.nil))) rfl rfl
 conv=>whnf
 refine askT_c [1] (p_mail_Off_v _) H (.cons (.c (fzown (f:=MailEntry.v) (l:=v22) rfl rfl (fun _=>rfl) (fun _=>rfl))) (.nil)) (fun _=>rfl) (fun v25 H=>?_);conv=>whnf
 refine insO_c (f:=MailEntry.v) insR76_v H (by decide) (fun _=>rfl) (fun _=>rfl) (fun _=>rfl) rfl rfl rfl (fun v26 H=>?_);conv=>whnf
 exact fin0_c (enc:=(fun r:(List MailEntry) × Int=>.tup [(fun l:List MailEntry=>V.sl (l.map MailEntry.v) false) r.1,V.i r.2])) H (.inr rfl) (.cons (.tmp rfl) (.cons (.tmp rfl) (.nil))) rfl rfl
def gc46:BCode:=(.seq (R_ 2 [O_ 1 (.bx (t_ 0)) 0,O_ 2 (.al (.agg [(.sl [] true),(.lit (.bool false)),(.lit (.bool false)),(.lit (.string ⟨#[]⟩)),(.lit (.int .i64 0)),(.lit (.int .i64 0)),(.lit (.int .i64 0))])) 1]) (.seq (.reg 0 [O_ 3 (.cl 77 []) 0,O_ 4 (.fa 5 (t_ 1)) 0,O_ 5 (.ld 1 false (t_ 4)) 0,O_ 6 (.fa 6 (t_ 1)) 0,O_ 7 (.ld 1 false (t_ 6)) 0,O_ 8 (.bd [(.sl [] true),(.lit (.bool false)),(.lit (.bool false)),(.lit (.string ⟨#[]⟩)),(.lit (.int .i64 0)),(.lit (.int .i64 0)),(.lit (.int .i64 0))] [(1,4,(t_ 3)),(5,1,(t_ 5)),(6,1,(t_ 7))]) 0,U_ (.st 7 (t_ 2) (t_ 8)) 0] (some [[],[],[1],[],[3],[3,4,1,2,0],[0,2,1,4,3,5]]) 0 []) .ret))
theorem gc46_ok:compF Tryz.prog Tryz.f46=some (gc46.er,9,[.cell 2 7 true]):=by unfold gc46;kernel_rfl
theorem p_outq_State_anew_v {u1:Bool} (a0:Ref27State):CallsO Tryz.prog 46 [.agg [.sl (List.map MailEntry.v a0.Mail) u1,.b a0.Snap.On,.b a0.Snap.Begun,.s a0.Snap.After,.i a0.Snap.Told,.i a0.Sent,.i a0.Lost]] Ref27State.v (p_outq_State_anew a0):=by
 refine callsO_comp mix Tryz.func46 gc46_ok fun r H=>?_
 rw [p_outq_State_anew] at H
 conv=>whnf
 refine ask_c (p_snap_Begin_v) H rfl rfl (fun v1 H=>?_);conv=>whnf
 refine lq_ ?_;conv=>whnf
 refine FootQ.mk ⟨rfl,?_⟩;conv=>whnf
 refine finR_c (enc:=Ref27State.v) H ?_;conv=>whnf
 exact ⟨_,.v (fzagg (.cons (.slw) (.cons (.id rfl) (.cons (.id rfl) (.cons (.id rfl) (.cons (.id rfl) (.cons (.id rfl) (.cons (.id rfl) (.nil)))))))) rfl)⟩
def gc12:BCode:=(.seq (R_ 3 [O_ 3 (.bx (t_ 0)) 0,O_ 5 (.bx (t_ 2)) 1,O_ 6 (.al (.agg [(.sl [] true),(.lit (.bool false)),(.lit (.bool false)),(.lit (.string ⟨#[]⟩)),(.lit (.int .i64 0)),(.lit (.int .i64 0)),(.lit (.int .i64 0))])) 2]) (.seq (.seq (R_ 0 [O_ 9 (.ld 7 true (t_ 3)) 0,O_ 10 (.cl 18 [(t_ 9)]) 0,O_ 11 (.bin .neq (t_ 10) (i_ 0)) 0,O_ 12 (.mv (t_ 11)) 0,⟨(some 13),.fa 1 (t_ 3),(some (12,false)),0⟩,⟨(some 14),.ld 4 true (t_ 13),(some (12,false)),0⟩,⟨(some 15),.mv (t_ 1),(some (12,false)),0⟩,⟨(some 16),.cl 44 [(t_ 14),(t_ 15)],(some (12,false)),0⟩,O_ 17 (.pick (t_ 12) (b_ true) (t_ 16)) 0]) (.cond (t_ 17) (.seq (R_ 0 [O_ 18 (.ld 7 true (t_ 3)) 0,U_ (.st 7 (t_ 6) (t_ 18)) 0]) .ret) .skip)) (.seq (R_ 0 [O_ 20 (.fa 0 (t_ 3)) 0,O_ 21 (.ld 1 false (t_ 20)) 0,O_ 22 (.mv (t_ 1)) 0,O_ 23 (.ld 4 true (t_ 5)) 0,O_ 24 (.cl 45 [(t_ 21),(t_ 22),(t_ 23)]) 0,O_ 19 (.mv (t_ 24)) 0,O_ 25 (.ex (t_ 19) 0) 0,O_ 26 (.ex (t_ 19) 1) 0,O_ 7 (.mv (t_ 25)) 0,O_ 8 (.mv (t_ 26)) 0]) (.seq (.seq (R_ 0 [O_ 27 (.mv (t_ 8)) 0]) (.block 0 (.seq (R_ 0 [O_ 29 (.bin .eql (t_ 27) (i_ 0)) 0,O_ 28 (.mv (t_ 29)) 0]) (.cond (t_ 28) (R_ 0 [O_ 30 (.mv (t_ 7)) 0,O_ 31 (.fa 0 (t_ 3)) 0,U_ (.st 1 (t_ 31) (t_ 30)) 0]) (.seq (R_ 0 [O_ 33 (.bin .eql (t_ 27) (i_ 7)) 0,O_ 32 (.mv (t_ 33)) 0]) (.cond (t_ 32) (.seq (R_ 0 [O_ 34 (.ld 7 true (t_ 3)) 0,O_ 35 (.cl 46 [(t_ 34)]) 0,U_ (.st 7 (t_ 3) (t_ 35)) 0]) (R_ 0 [O_ 36 (.fa 6 (t_ 3)) 0,O_ 37 (.ld 1 false (t_ 36)) 0,O_ 38 (.bin .add (t_ 37) (i_ 1)) 0,O_ 39 (.mn false (t_ 38) (i_ 1099511627776)) 0,O_ 40 (.fa 6 (t_ 3)) 0,U_ (.st 1 (t_ 40) (t_ 39)) 0])) .skip)))))) (.seq (R_ 0 [O_ 41 (.ld 7 true (t_ 3)) 0,U_ (.st 7 (t_ 6) (t_ 41)) 0]) .ret)))))
theorem gc12_ok:compF Tryz.prog Tryz.f12=some (gc12.er,42,[.cell 6 7 true]):=by unfold gc12;kernel_rfl
theorem p_outq_Add_v {u1:Bool} (a0:Ref27State) (a1:ByteArray) (a2:PresPres):CallsO Tryz.prog 12 [.agg [.sl (List.map MailEntry.v a0.Mail) u1,.b a0.Snap.On,.b a0.Snap.Begun,.s a0.Snap.After,.i a0.Snap.Told,.i a0.Sent,.i a0.Lost],.s a1,.agg [.b a2.On,.i a2.Show,.i a2.Prio,.i a2.Seq]] Ref27State.v (p_outq_Add a0 a1 a2):=by
 refine callsO_comp mix Tryz.func12 gc12_ok fun r H=>?_
 rw [p_outq_Add] at H
 conv=>whnf
 refine ask_c (p_outq_Check_v _) H rfl rfl (fun v1 H=>?_);conv=>whnf
 refine tst_c H (fun b2 H=>?_) (fun b2 H=>?_)
 ·conv=>whnf
  iterate 5 (refine Tst.T ?_;conv=>whnf)
  refine lq_ ?_;conv=>whnf
  refine finR_c (enc:=Ref27State.v) H ?_;conv=>whnf
  exact ⟨_,.v (fzagg (.cons (.slw) (.cons (.id rfl) (.cons (.id rfl) (.cons (.id rfl) (.cons (.id rfl) (.cons (.id rfl) (.cons (.id rfl) (.nil)))))))) rfl)⟩
 conv=>whnf
 iterate 3 (refine Tst.F ?_;conv=>whnf)
 refine ask_c (p_snap_Covers_v _ _) H rfl rfl (fun v3 H=>?_);conv=>whnf
 refine Tst.F ?_;conv=>whnf
 refine tst_c H (fun b4 H=>?_) (fun b4 H=>?_)
 ·conv=>whnf
  refine lq_ ?_;conv=>whnf
  refine finR_c (enc:=Ref27State.v) H ?_;conv=>whnf
  exact ⟨_,.v (fzagg (.cons (.slw) (.cons (.id rfl) (.cons (.id rfl) (.cons (.id rfl) (.cons (.id rfl) (.cons (.id rfl) (.cons (.id rfl) (.nil)))))))) rfl)⟩
 conv=>whnf
 refine ask_c (p_mail_Put_v _ _ _) H rfl rfl (fun v5 H=>?_);conv=>whnf
 refine tst_c H (fun b6 H=>?_) (fun b6 H=>?_)
 ·conv=>whnf
  refine lq_ ?_;conv=>whnf
  refine lq_ ?_;conv=>whnf
  exact fin0_c (enc:=Ref27State.v) H (.inr rfl) (.cons (.cell rfl rfl (Nat.le_of_ble_eq_true rfl)) (.nil)) rfl rfl
 conv=>whnf
 refine tst_d H (fun b7 H=>?_) (fun b7 H=>?_)
 ·conv=>whnf
  refine lq_ ?_;conv=>whnf
  refine finR_c (enc:=Ref27State.v) H ?_;conv=>whnf
  exact ⟨_,.v (fzagg (.cons (.slw) (.cons (.id rfl) (.cons (.id rfl) (.cons (.id rfl) (.cons (.id rfl) (.cons (.id rfl) (.cons (.id rfl) (.nil)))))))) rfl)⟩
 conv=>whnf
 refine ask_c (p_outq_State_anew_v _) H rfl rfl (fun v8 H=>?_);conv=>whnf
 refine lq_ ?_;conv=>whnf
 refine Ari.w ?_;conv=>whnf
 refine lq_ ?_;conv=>whnf
 refine lq_ ?_;conv=>whnf
 exact fin0_c (enc:=Ref27State.v) H (.inr rfl) (.cons (.cell rfl rfl (Nat.le_of_ble_eq_true rfl)) (.nil)) rfl rfl
def gc14:BCode:=(.seq (R_ 2 [O_ 1 (.bx (t_ 0)) 0,O_ 2 (.al (.agg [(.sl [] true),(.lit (.bool false)),(.lit (.bool false)),(.lit (.string ⟨#[]⟩)),(.lit (.int .i64 0)),(.lit (.int .i64 0)),(.lit (.int .i64 0))])) 1]) (.seq (.seq (R_ 0 [O_ 3 (.ld 7 true (t_ 1)) 0,O_ 4 (.cl 18 [(t_ 3)]) 0,O_ 5 (.bin .neq (t_ 4) (i_ 0)) 0]) (.cond (t_ 5) (.seq (R_ 0 [O_ 6 (.ld 7 true (t_ 1)) 0,U_ (.st 7 (t_ 2) (t_ 6)) 0]) .ret) .skip)) (.seq (R_ 0 [O_ 7 (.ld 7 true (t_ 1)) 0,O_ 8 (.cl 46 [(t_ 7)]) 0,U_ (.st 7 (t_ 2) (t_ 8)) 0]) .ret)))
theorem gc14_ok:compF Tryz.prog Tryz.f14=some (gc14.er,9,[.cell 2 7 true]):=by unfold gc14;kernel_rfl
theorem p_outq_Begin_v {u1:Bool} (a0:Ref27State):CallsO Tryz.prog 14 [.agg [.sl (List.map MailEntry.v a0.Mail) u1,.b a0.Snap.On,.b a0.Snap.Begun,.s a0.Snap.After,.i a0.Snap.Told,.i a0.Sent,.i a0.Lost]] Ref27State.v (p_outq_Begin a0):=by
 refine callsO_comp mix Tryz.func14 gc14_ok fun r H=>?_
 rw [p_outq_Begin] at H
 conv=>whnf
 refine ask_c (p_outq_Check_v _) H rfl rfl (fun v1 H=>?_);conv=>whnf
 refine tst_d H (fun b2 H=>?_) (fun b2 H=>?_)
 ·conv=>whnf
  refine ask_c (p_outq_State_anew_v _) H rfl rfl (fun v3 H=>?_);conv=>whnf
  refine lq_ ?_;conv=>whnf
  exact fin0_c (enc:=Ref27State.v) H (.inr rfl) (.cons (.cell rfl rfl (Nat.le_of_ble_eq_true rfl)) (.nil)) rfl rfl
 conv=>whnf
 refine lq_ ?_;conv=>whnf
 refine finR_c (enc:=Ref27State.v) H ?_;conv=>whnf
 exact ⟨_,.v (fzagg (.cons (.slw) (.cons (.id rfl) (.cons (.id rfl) (.cons (.id rfl) (.cons (.id rfl) (.cons (.id rfl) (.cons (.id rfl) (.nil)))))))) rfl)⟩
def gc85:BCode:=(.seq (R_ 1 [O_ 1 (.bx (t_ 0)) 0,O_ 2 (.mv (.const (.string ⟨#[]⟩))) 1]) (.seq (R_ 0 [O_ 7 (.fa 0 (t_ 1)) 0,O_ 8 (.ld 1 false (t_ 7)) 0,O_ 9 (.cl 97 [(t_ 8)]) 0,O_ 6 (.mv (t_ 9)) 0,O_ 10 (.ex (t_ 6) 0) 0,O_ 11 (.ex (t_ 6) 1) 0,O_ 12 (.ex (t_ 6) 2) 0,O_ 3 (.mv (t_ 10)) 0,O_ 4 (.mv (t_ 11)) 0,O_ 5 (.mv (t_ 12)) 0]) (.seq (R_ 0 [O_ 13 (.mv (t_ 3)) 0,O_ 2 (.mv (t_ 13)) 0]) .ret)))
theorem gc85_ok:compF Tryz.prog Tryz.f85=some (gc85.er,14,[.tmp 2]):=by unfold gc85;kernel_rfl
theorem p_mail_Entry_user_v (a0:MailEntry):CallsO Tryz.prog 85 [.agg [.s a0.Key,.b a0.P.On,.i a0.P.Show,.i a0.P.Prio,.i a0.P.Seq]] V.s (p_mail_Entry_user a0):=by
 refine callsO_comp mix Tryz.func85 gc85_ok fun r H=>?_
 rw [p_mail_Entry_user] at H
 conv=>whnf
 refine ask_c (p_pres_Split_v _) H rfl rfl (fun v1 H=>?_);conv=>whnf
 exact fin0_c (enc:=V.s) H (.inr rfl) (.cons (.tmp rfl) (.nil)) rfl rfl
def gc84:BCode:=(.seq (R_ 1 [O_ 2 (.bx (t_ 0)) 0,O_ 3 (.mv (b_ false)) 1]) (.seq (.reg 0 [O_ 4 (.ld 5 true (t_ 2)) 0,O_ 5 (.cl 85 [(t_ 4)]) 0,O_ 6 (.ld 1 false (t_ 1)) 0,O_ 7 (.bin .eql (t_ 5) (t_ 6)) 0,O_ 3 (.mv (t_ 7)) 0] (some [[],[0],[],[2,0,1],[1,0,2,3]]) 0 []) .ret))
theorem gc84_ok:compF Tryz.prog Tryz.f84=some (gc84.er,8,[.tmp 3]):=by unfold gc84;kernel_rfl
theorem p_mail_Drop_1_v (a0:MailEntry) (c0:ByteArray):CallsO Tryz.prog 84 [.agg [.s a0.Key,.b a0.P.On,.i a0.P.Show,.i a0.P.Prio,.i a0.P.Seq],.eptr [.s c0]] V.b (p_mail_Drop_1 a0 c0):=by
 refine callsO_comp mix Tryz.func84 gc84_ok fun r H=>?_
 rw [p_mail_Drop_1] at H
 conv=>whnf
 refine ask_c (p_mail_Entry_user_v _) H rfl rfl (fun v1 H=>?_);conv=>whnf
 refine FootQ.mk ⟨rfl,?_⟩;conv=>whnf
 exact fb_ H
end Go.Proofs.YtdoakplhalonfaaGreat

namespace Go.Proofs.YtdoakplhalonfaaGreat
open Go.RowKit
set_option maxRecDepth 100000
set_option maxHeartbeats 4000000
def gc49:BCode:=(.seq (R_ 1 [O_ 3 (.bx (t_ 1)) 0,O_ 4 (.mv (.const (.slice none 0 0))) 1,O_ 5 (.mv (i_ 0)) 1]) (.seq (.reg 0 [O_ 7 (.mv (t_ 0)) 0,O_ 8 (.cl 70 [(t_ 7)]) 0,O_ 6 (.mv (t_ 8)) 0] none 1 []) (.seq (.seq (R_ 0 [O_ 9 (.mv (t_ 0)) 0,O_ 10 (.cl 51 [(t_ 9)]) 0,O_ 11 (.bin .neq (t_ 10) (i_ 0)) 0]) (.cond (t_ 11) (.seq (R_ 0 [O_ 12 (.mv (t_ 6)) 0,O_ 4 (.mv (t_ 12)) 0,O_ 5 (.mv (i_ 0)) 0]) .ret) .skip)) (.seq (.reg 0 [O_ 13 (.mv (t_ 6)) 0,O_ 14 (.mf (.func 84) [(t_ 3)]) 0,O_ 15 (.cl 83 [(t_ 13),(t_ 14)]) 0,O_ 6 (.mv (t_ 15)) 0] none 0 [3]) (.seq (R_ 0 [O_ 16 (.mv (t_ 6)) 0,O_ 17 (.mv (t_ 0)) 0,O_ 18 (.lens (t_ 17)) 0,O_ 19 (.mv (t_ 6)) 0,O_ 20 (.lens (t_ 19)) 0,O_ 21 (.bin .sub (t_ 18) (t_ 20)) 0,O_ 4 (.mv (t_ 16)) 0,O_ 5 (.mv (t_ 21)) 0]) .ret)))))
theorem gc49_ok:compF Tryz.prog Tryz.f49=some (gc49.er,22,[.tmp 4,.tmp 5]):=by unfold gc49;kernel_rfl
theorem p_mail_Drop_v {u1:Bool} (a0:List MailEntry) (a1:ByteArray):CallsO Tryz.prog 49 [.sl (List.map MailEntry.v a0) u1,.s a1] (fun r:(List MailEntry) × Int=>.tup [(fun l:List MailEntry=>V.sl (l.map MailEntry.v) false) r.1,V.i r.2]) (p_mail_Drop a0 a1):=by
 refine callsO_comp mix Tryz.func49 gc49_ok fun r H=>?_
 rw [p_mail_Drop] at H
 conv=>whnf
 refine clone_c (f:=MailEntry.v) (id:=1) cloR70_v H (fun _=>rfl) (fun _=>rfl) rfl (fun H=>?_) (fun l1 H=>?_)
 ·conv=>whnf
  refine ask_c (p_mail_Check_v _) H rfl rfl (fun v5 H=>?_);conv=>whnf
  refine tst_c H (fun b6 H=>?_) (fun b6 H=>?_)
  ·conv=>whnf
   refine finR_c (enc:=(fun r:(List MailEntry) × Int=>.tup [(fun l:List MailEntry=>V.sl (l.map MailEntry.v) false) r.1,V.i r.2])) H ?_;conv=>whnf
   exact ⟨_,.tup (.cons (.c (.slw)) (.cons (.c (.id rfl)) (.nil)))⟩
  conv=>whnf
  refine ⟨Nat.zero_le _,?_⟩;conv=>whnf
  refine dfN_c (f:=MailEntry.v) delF83_n H (⟨⟨_,Tryz.func84,by kernel_rfl,by kernel_rfl⟩,rfl,fun x0=>p_mail_Drop_1_v _ _⟩) (.clo (.cons (.ptr rfl (Nat.le_of_ble_eq_true rfl) (.cons (.id rfl) (.nil))) (.nil))) (fun H=>?_);conv=>whnf
  refine LenQ.M ?_;conv=>whnf
  refine LenQ.ok ?_;conv=>whnf
  refine Ari.w ?_;conv=>whnf
  refine finR_c (enc:=(fun r:(List MailEntry) × Int=>.tup [(fun l:List MailEntry=>V.sl (l.map MailEntry.v) false) r.1,V.i r.2])) H ?_;conv=>whnf
  exact ⟨_,.tup (.cons (.c (.slw)) (.cons (.c (.id rfl)) (.nil)))⟩
 conv=>whnf
 refine ask_c (p_mail_Check_v _) H rfl rfl (fun v2 H=>?_);conv=>whnf
 refine tst_c H (fun b3 H=>?_) (fun b3 H=>?_)
 ·conv=>whnf
  refine finRz_c (enc:=(fun r:(List MailEntry) × Int=>.tup [(fun l:List MailEntry=>V.sl (l.map MailEntry.v) false) r.1,V.i r.2])) [1] H ?_;conv=>whnf
  refine ⟨Nat.zero_le _,?_⟩;conv=>whnf
  exact ⟨_,.tup (.cons (.c (fzown (f:=MailEntry.v) (l:=l1) rfl rfl (fun _=>rfl) (fun _=>rfl))) (.cons (.c (.id rfl)) (.nil)))⟩
 conv=>whnf
 refine ⟨Nat.zero_le _,?_⟩;conv=>whnf
 refine dfO_c (f:=MailEntry.v) delF83_v H (⟨⟨_,Tryz.func84,by kernel_rfl,by kernel_rfl⟩,rfl,fun x0=>p_mail_Drop_1_v _ _⟩) (.clo (.cons (.ptr rfl (Nat.le_of_ble_eq_true rfl) (.cons (.id rfl) (.nil))) (.nil))) (fun _=>rfl) (fun _=>rfl) rfl rfl (fun v4 H=>?_);conv=>whnf
 refine LenQ.M ?_;conv=>whnf
 refine Ari.w ?_;conv=>whnf
 refine finRz_c (enc:=(fun r:(List MailEntry) × Int=>.tup [(fun l:List MailEntry=>V.sl (l.map MailEntry.v) false) r.1,V.i r.2])) [1] H ?_;conv=>whnf
 refine ⟨Nat.zero_le _,?_⟩;conv=>whnf
 exact ⟨_,.tup (.cons (.c (fzown (f:=MailEntry.v) (l:=v4) rfl rfl (fun _=>rfl) (fun _=>rfl))) (.cons (.c (.id rfl)) (.nil)))⟩
def gc16:BCode:=(.seq (R_ 2 [O_ 2 (.bx (t_ 0)) 0,O_ 4 (.al (.agg [(.sl [] true),(.lit (.bool false)),(.lit (.bool false)),(.lit (.string ⟨#[]⟩)),(.lit (.int .i64 0)),(.lit (.int .i64 0)),(.lit (.int .i64 0))])) 1]) (.seq (.seq (R_ 0 [O_ 5 (.ld 7 true (t_ 2)) 0,O_ 6 (.cl 18 [(t_ 5)]) 0,O_ 7 (.bin .eql (t_ 6) (i_ 0)) 0]) (.cond (t_ 7) (R_ 0 [O_ 9 (.fa 0 (t_ 2)) 0,O_ 10 (.ld 1 false (t_ 9)) 0,O_ 11 (.mv (t_ 1)) 0,O_ 12 (.cl 49 [(t_ 10),(t_ 11)]) 0,O_ 8 (.mv (t_ 12)) 0,O_ 13 (.ex (t_ 8) 0) 0,O_ 14 (.ex (t_ 8) 1) 0,O_ 15 (.fa 0 (t_ 2)) 0,U_ (.st 1 (t_ 15) (t_ 13)) 0]) .skip)) (.seq (R_ 0 [O_ 16 (.ld 7 true (t_ 2)) 0,U_ (.st 7 (t_ 4) (t_ 16)) 0]) .ret)))
theorem gc16_ok:compF Tryz.prog Tryz.f16=some (gc16.er,17,[.cell 4 7 true]):=by unfold gc16;kernel_rfl
theorem p_outq_Forget_v {u1:Bool} (a0:Ref27State) (a1:ByteArray):CallsO Tryz.prog 16 [.agg [.sl (List.map MailEntry.v a0.Mail) u1,.b a0.Snap.On,.b a0.Snap.Begun,.s a0.Snap.After,.i a0.Snap.Told,.i a0.Sent,.i a0.Lost],.s a1] Ref27State.v (p_outq_Forget a0 a1):=by
 refine callsO_comp mix Tryz.func16 gc16_ok fun r H=>?_
 rw [p_outq_Forget] at H
 conv=>whnf
 refine ask_c (p_outq_Check_v _) H rfl rfl (fun v1 H=>?_);conv=>whnf
 refine tst_d H (fun b2 H=>?_) (fun b2 H=>?_)
 ·conv=>whnf
  refine lq_ ?_;conv=>whnf
  refine finR_c (enc:=Ref27State.v) H ?_;conv=>whnf
  exact ⟨_,.v (fzagg (.cons (.slw) (.cons (.id rfl) (.cons (.id rfl) (.cons (.id rfl) (.cons (.id rfl) (.cons (.id rfl) (.cons (.id rfl) (.nil)))))))) rfl)⟩
 conv=>whnf
 refine ask_c (p_mail_Drop_v _ _) H rfl rfl (fun v3 H=>?_);conv=>whnf
 refine lq_ ?_;conv=>whnf
 refine lq_ ?_;conv=>whnf
 exact fin0_c (enc:=Ref27State.v) H (.inr rfl) (.cons (.cell rfl rfl (Nat.le_of_ble_eq_true rfl)) (.nil)) rfl rfl
def gc22:BCode:=(.seq (R_ 1 [O_ 1 (.bx (t_ 0)) 0,O_ 2 (.mv (i_ 0)) 1]) (.seq (R_ 0 [O_ 4 (.fa 0 (t_ 1)) 0,O_ 5 (.ld 1 false (t_ 4)) 0,O_ 6 (.lens (t_ 5)) 0,O_ 3 (.mv (t_ 6)) 0]) (.seq (.seq (R_ 0 [O_ 7 (.fa 1 (t_ 1)) 0,O_ 8 (.fa 0 (t_ 7)) 0,O_ 9 (.ld 1 false (t_ 8)) 0]) (.cond (t_ 9) (R_ 0 [O_ 10 (.mv (t_ 3)) 0,O_ 11 (.bin .add (t_ 10) (i_ 1)) 0,O_ 3 (.mv (t_ 11)) 0]) .skip)) (.seq (R_ 0 [O_ 12 (.mv (t_ 3)) 0,O_ 2 (.mv (t_ 12)) 0]) .ret))))
theorem gc22_ok:compF Tryz.prog Tryz.f22=some (gc22.er,13,[.tmp 2]):=by unfold gc22;kernel_rfl
theorem p_outq_Len_v {u1:Bool} (a0:Ref27State):CallsO Tryz.prog 22 [.agg [.sl (List.map MailEntry.v a0.Mail) u1,.b a0.Snap.On,.b a0.Snap.Begun,.s a0.Snap.After,.i a0.Snap.Told,.i a0.Sent,.i a0.Lost]] V.i (p_outq_Len a0):=by
 refine callsO_comp mix Tryz.func22 gc22_ok fun r H=>?_
 rw [p_outq_Len] at H
 conv=>whnf
 refine LenQ.M ?_;conv=>whnf
 refine tst_d H (fun b1 H=>?_) (fun b1 H=>?_)
 ·conv=>whnf
  exact fi_ H
 conv=>whnf
 refine Ari.w ?_;conv=>whnf
 exact fi_ H
def gc20:BCode:=(.seq (R_ 1 [O_ 1 (.bx (t_ 0)) 0,O_ 2 (.mv (b_ false)) 1]) (.seq (R_ 0 [O_ 3 (.ld 7 true (t_ 1)) 0,O_ 4 (.cl 22 [(t_ 3)]) 0,O_ 5 (.bin .gtr (t_ 4) (i_ 0)) 0,O_ 2 (.mv (t_ 5)) 0]) .ret))
theorem gc20_ok:compF Tryz.prog Tryz.f20=some (gc20.er,6,[.tmp 2]):=by unfold gc20;kernel_rfl
theorem p_outq_Wants_v {u1:Bool} (a0:Ref27State):CallsO Tryz.prog 20 [.agg [.sl (List.map MailEntry.v a0.Mail) u1,.b a0.Snap.On,.b a0.Snap.Begun,.s a0.Snap.After,.i a0.Snap.Told,.i a0.Sent,.i a0.Lost]] V.b (p_outq_Wants a0):=by
 refine callsO_comp mix Tryz.func20 gc20_ok fun r H=>?_
 rw [p_outq_Wants] at H
 conv=>whnf
 refine ask_c (p_outq_Len_v _) H rfl rfl (fun v1 H=>?_);conv=>whnf
 exact fb_ H
def gc99:BCode:=(.seq (R_ 0 [O_ 4 (.mv (b_ false)) 0]) (.seq (.seq (R_ 0 [O_ 6 (.mv (t_ 0)) 0,O_ 7 (.lens (t_ 6)) 0,O_ 8 (.mv (t_ 1)) 0,O_ 9 (.lens (t_ 8)) 0,O_ 10 (.bin .neq (t_ 7) (t_ 9)) 0]) (.cond (t_ 10) (.seq (R_ 0 [O_ 4 (.mv (b_ false)) 0]) .ret) .skip)) (.seq (.seq (R_ 0 [O_ 11 (.mv (t_ 0)) 0,O_ 12 (.lens (t_ 11)) 0,O_ 13 (.mv (i_ 0)) 0]) (.block 0 (.loop (.seq (R_ 0 [O_ 14 (.bin .lss (t_ 13) (t_ 12)) 0]) (.seq (.cond (t_ 14) .skip (.exit 0)) (.seq (.block 1 (.seq (R_ 0 [O_ 15 (.mv (t_ 13)) 0,O_ 5 (.mv (t_ 15)) 0]) (.seq (.reg 0 [O_ 16 (.mv (t_ 0)) 0,O_ 17 (.mv (t_ 5)) 0,O_ 18 (.ixs 5 (t_ 16) (t_ 17)) 0,O_ 19 (.ld 5 true (t_ 18)) 0,O_ 20 (.mv (t_ 1)) 0,O_ 21 (.mv (t_ 5)) 0,O_ 22 (.ixs 5 (t_ 20) (t_ 21)) 0,O_ 23 (.ld 5 true (t_ 22)) 0,O_ 24 (.eqa true [2,0,1,1,1] (t_ 19) (t_ 23)) 0] (some [[],[],[1,0],[0,1,2],[],[],[5,4],[4,5,6],[6,5,4,7,2,1,0,3]]) 0 []) (.cond (t_ 24) (.seq (R_ 0 [O_ 4 (.mv (b_ false)) 0]) .ret) .skip)))) (R_ 0 [O_ 25 (.bin .add (t_ 13) (i_ 1)) 0,O_ 13 (.mv (t_ 25)) 0]))))))) (.seq (R_ 0 [O_ 4 (.mv (b_ true)) 0]) .ret))))
theorem gc99_ok:compF Tryz.prog Tryz.f99=some (gc99.er,26,[.tmp 4]):=by unfold gc99;kernel_rfl
theorem p_slices_Equal_mail_State_mail_Entry__v {u1 u2:Bool} (a0:List MailEntry) (a1:List MailEntry):CallsO Tryz.prog 99 [.sl (List.map MailEntry.v a0) u1,.sl (List.map MailEntry.v a1) u2] V.b (p_slices_Equal_mail_State_mail_Entry_ a0 a1):=by
 refine callsO_comp mix Tryz.func99 gc99_ok fun r H=>?_
 rw [p_slices_Equal_mail_State_mail_Entry_] at H
 conv=>whnf
 iterate 2 (refine LenQ.M ?_;conv=>whnf)
 refine tst_c H (fun b1 H=>?_) (fun b1 H=>?_)
 ·conv=>whnf
  exact fb_ H
 conv=>whnf
 refine LenQ.M ?_;conv=>whnf
 obtain ⟨o3,HL4,HQ5⟩:=bind_c H
 refine loop_c [4,13] [5,14,15,16,17,18,19,20,21,22,23,24,25] [5,14,15,16,17,18,19,20,21,22,23,24,25] (fun n vals st=>(∃ y7,p_slices_Equal_mail_State_mail_Entry__l1  a0 a1 (a0.length:Int) n y7=some o3∧vals=[.b false,.i y7]∧st=[])) fuel 0 [] (⟨_,HL4,rfl,rfl⟩) (Nat.zero_le _) rfl (by kernel_rfl) (by kernel_rfl) rfl trivial ?_
 rintro (_ | n6) _ _ (⟨y7,H,rfl,rfl⟩)
 ·rw [p_slices_Equal_mail_State_mail_Entry__l1] at H;cases H
 rw [p_slices_Equal_mail_State_mail_Entry__l1] at H
 conv=>whnf
 refine tst_d H (fun b8 H=>?_) (fun b8 H=>?_)
 ·conv=>whnf
  obtain rfl:=Option.some.inj H
  have H:=HQ5
  try dsimp only at H
  exact fb_ H
 conv=>whnf
 refine ixs_c (f:=MailEntry.v) H (fun _=>rfl) (fun x9 H=>?_);conv=>whnf
 refine ixs_c (f:=MailEntry.v) H (fun _=>rfl) (fun x10 H=>?_);conv=>whnf
 refine FootQ.mk ⟨rfl,?_⟩;conv=>whnf
 refine Tst.not ?_
 refine tst_d H (fun b11 H=>?_) (fun b11 H=>?_)
 ·conv=>whnf
  obtain rfl:=Option.some.inj H
  have H:=HQ5
  try dsimp only at H
  exact fb_ H
 conv=>whnf
 refine Ari.w ?_;conv=>whnf
 exact again_c [5,14,15,16,17,18,19,20,21,22,23,24,25] n6 0 [] (⟨_,H,rfl,rfl⟩) (Nat.lt_succ_self _) (Nat.zero_le _) rfl (by kernel_rfl) (by kernel_rfl) rfl trivial
def gc61:BCode:=(.seq (R_ 0 [O_ 4 (.mv (b_ false)) 0]) (.seq (R_ 0 [O_ 5 (.mv (t_ 0)) 0,O_ 6 (.mv (t_ 1)) 0,O_ 7 (.cl 99 [(t_ 5),(t_ 6)]) 0,O_ 4 (.mv (t_ 7)) 0]) .ret))
theorem gc61_ok:compF Tryz.prog Tryz.f61=some (gc61.er,8,[.tmp 4]):=by unfold gc61;kernel_rfl
theorem p_mail_Same_v {u1 u2:Bool} (a0:List MailEntry) (a1:List MailEntry):CallsO Tryz.prog 61 [.sl (List.map MailEntry.v a0) u1,.sl (List.map MailEntry.v a1) u2] V.b (p_mail_Same a0 a1):=by
 refine callsO_comp mix Tryz.func61 gc61_ok fun r H=>?_
 rw [p_mail_Same] at H
 conv=>whnf
 refine ask_c (p_slices_Equal_mail_State_mail_Entry__v _ _) H rfl rfl (fun v1 H=>?_);conv=>whnf
 exact fb_ H
def gc33:BCode:=(.seq (R_ 2 [O_ 2 (.bx (t_ 0)) 0,O_ 3 (.bx (t_ 1)) 1,O_ 4 (.mv (b_ false)) 2]) (.seq (R_ 0 [O_ 5 (.fa 0 (t_ 2)) 0,O_ 6 (.ld 1 false (t_ 5)) 0,O_ 7 (.fa 0 (t_ 3)) 0,O_ 8 (.ld 1 false (t_ 7)) 0,O_ 9 (.cl 61 [(t_ 6),(t_ 8)]) 0,O_ 10 (.mv (t_ 9)) 0,⟨(some 11),.fa 1 (t_ 2),(some (10,true)),0⟩,⟨(some 12),.ld 4 true (t_ 11),(some (10,true)),0⟩,⟨(some 13),.fa 1 (t_ 3),(some (10,true)),0⟩,⟨(some 14),.ld 4 true (t_ 13),(some (10,true)),0⟩,⟨(some 15),.eqa false [0,0,2,1] (t_ 12) (t_ 14),(some (10,true)),0⟩,O_ 16 (.pick (t_ 10) (t_ 15) (b_ false)) 0,O_ 17 (.mv (t_ 16)) 0,⟨(some 18),.fa 5 (t_ 2),(some (17,true)),0⟩,⟨(some 19),.ld 1 false (t_ 18),(some (17,true)),0⟩,⟨(some 20),.fa 5 (t_ 3),(some (17,true)),0⟩,⟨(some 21),.ld 1 false (t_ 20),(some (17,true)),0⟩,⟨(some 22),.bin .eql (t_ 19) (t_ 21),(some (17,true)),0⟩,O_ 23 (.pick (t_ 17) (t_ 22) (b_ false)) 0,O_ 24 (.mv (t_ 23)) 0,⟨(some 25),.fa 6 (t_ 2),(some (24,true)),0⟩,⟨(some 26),.ld 1 false (t_ 25),(some (24,true)),0⟩,⟨(some 27),.fa 6 (t_ 3),(some (24,true)),0⟩,⟨(some 28),.ld 1 false (t_ 27),(some (24,true)),0⟩,⟨(some 29),.bin .eql (t_ 26) (t_ 28),(some (24,true)),0⟩,O_ 30 (.pick (t_ 24) (t_ 29) (b_ false)) 0,O_ 4 (.mv (t_ 30)) 0]) .ret))
theorem gc33_ok:compF Tryz.prog Tryz.f33=some (gc33.er,31,[.tmp 4]):=by unfold gc33;kernel_rfl
theorem p_outq_Same_v {u1 u2:Bool} (a0:Ref27State) (a1:Ref27State):CallsO Tryz.prog 33 [.agg [.sl (List.map MailEntry.v a0.Mail) u1,.b a0.Snap.On,.b a0.Snap.Begun,.s a0.Snap.After,.i a0.Snap.Told,.i a0.Sent,.i a0.Lost],.agg [.sl (List.map MailEntry.v a1.Mail) u2,.b a1.Snap.On,.b a1.Snap.Begun,.s a1.Snap.After,.i a1.Snap.Told,.i a1.Sent,.i a1.Lost]] V.b (p_outq_Same a0 a1):=by
 refine callsO_comp mix Tryz.func33 gc33_ok fun r H=>?_
 rw [p_outq_Same] at H
 conv=>whnf
 refine ask_c (p_mail_Same_v _ _) H rfl rfl (fun v1 H=>?_);conv=>whnf
 refine tst_d H (fun b2 H=>?_) (fun b2 H=>?_)
 ·conv=>whnf
  iterate 17 (refine Tst.F ?_;conv=>whnf)
  exact fb_ H
 conv=>whnf
 iterate 5 (refine Tst.T ?_;conv=>whnf)
 refine tst_d H (fun b3 H=>?_) (fun b3 H=>?_)
 ·conv=>whnf
  iterate 11 (refine Tst.F ?_;conv=>whnf)
  exact fb_ H
 conv=>whnf
 iterate 5 (refine Tst.T ?_;conv=>whnf)
 refine tst_c H (fun b4 H=>?_) (fun b4 H=>?_)
 ·conv=>whnf
  iterate 5 (refine Tst.T ?_;conv=>whnf)
  exact fb_ H
 conv=>whnf
 iterate 5 (refine Tst.F ?_;conv=>whnf)
 exact fb_ H
end Go.Proofs.YtdoakplhalonfaaGreat

namespace Go.Proofs.YtdoakplhalonfaaGreat
open Go.RowKit
set_option maxRecDepth 1000000
set_option maxHeartbeats 4000000
def gc7:BCode:=(.seq (R_ 0 [O_ 4 (.mv (b_ false)) 0]) (.seq (.seq (R_ 0 [O_ 6 (.mv (t_ 0)) 0,O_ 7 (.lens (t_ 6)) 0,O_ 8 (.mv (t_ 1)) 0,O_ 9 (.bin .gtr (t_ 7) (t_ 8)) 0]) (.cond (t_ 9) (.seq (R_ 0 [O_ 4 (.mv (b_ false)) 0]) .ret) .skip)) (.seq (.seq (R_ 0 [O_ 5 (.mv (i_ 0)) 0]) (.block 0 (.loop (.seq (.seq (R_ 0 [O_ 10 (.mv (t_ 5)) 0,O_ 11 (.mv (t_ 0)) 0,O_ 12 (.lens (t_ 11)) 0,O_ 13 (.bin .lss (t_ 10) (t_ 12)) 0]) (.cond (t_ 13) .skip (.exit 0))) (.seq (.block 1 (.seq (R_ 0 [O_ 16 (.mv (t_ 0)) 0,O_ 17 (.mv (t_ 5)) 0,O_ 18 (.ixs 5 (t_ 16) (t_ 17)) 0,O_ 19 (.fa 0 (t_ 18)) 0,O_ 20 (.ld 1 false (t_ 19)) 0,O_ 21 (.lent (t_ 20)) 0,O_ 22 (.bin .gtr (t_ 21) (i_ 100)) 0]) (.cond (t_ 22) (.seq (R_ 0 [O_ 4 (.mv (b_ false)) 0]) .ret) .skip))) (R_ 0 [O_ 14 (.mv (t_ 5)) 0,O_ 15 (.bin .add (t_ 14) (i_ 1)) 0,O_ 5 (.mv (t_ 15)) 0])))))) (.seq (R_ 0 [O_ 4 (.mv (b_ true)) 0]) .ret))))
theorem gc7_ok:compF Tryz.prog Tryz.f7=some (gc7.er,23,[.tmp 4]):=by unfold gc7;kernel_rfl
theorem p_ref25_Light_v {u1:Bool} (a0:List MailEntry) (a1:Int):CallsO Tryz.prog 7 [.sl (List.map MailEntry.v a0) u1,.i a1] V.b (p_ref25_Light a0 a1):=by
 refine callsO_comp mix Tryz.func7 gc7_ok fun r H=>?_
 rw [p_ref25_Light] at H
 conv=>whnf
 refine LenQ.M ?_;conv=>whnf
 refine tst_c H (fun b1 H=>?_) (fun b1 H=>?_)
 ·conv=>whnf
  exact fb_ H
 conv=>whnf
 obtain ⟨o3,HL4,HQ5⟩:=bind_c H
 refine loop_c [4,5] [10,11,12,13,14,15,16,17,18,19,20,21,22] [10,11,12,13,14,15,16,17,18,19,20,21,22] (fun n vals st=>(∃ y7,p_ref25_Light_l1  a0 n y7=some o3∧vals=[.b false,.i y7]∧st=[])) fuel 0 [] (⟨_,HL4,rfl,rfl⟩) (Nat.zero_le _) rfl (by kernel_rfl) (by kernel_rfl) rfl trivial ?_
 rintro (_ | n6) _ _ (⟨y7,H,rfl,rfl⟩)
 ·rw [p_ref25_Light_l1] at H;cases H
 rw [p_ref25_Light_l1] at H
 conv=>whnf
 refine LenQ.M ?_;conv=>whnf
 refine tst_d H (fun b8 H=>?_) (fun b8 H=>?_)
 ·conv=>whnf
  obtain rfl:=Option.some.inj H
  have H:=HQ5
  try dsimp only at H
  exact fb_ H
 conv=>whnf
 refine ixs_c (f:=MailEntry.v) H (fun _=>rfl) (fun x9 H=>?_);conv=>whnf
 refine lq_ ?_;conv=>whnf
 refine tst_c H (fun b10 H=>?_) (fun b10 H=>?_)
 ·conv=>whnf
  obtain rfl:=Option.some.inj H
  have H:=HQ5
  try dsimp only at H
  exact fb_ H
 conv=>whnf
 refine Ari.w ?_;conv=>whnf
 exact again_c [10,11,12,13,14,15,16,17,18,19,20,21,22] n6 0 [] (⟨_,H,rfl,rfl⟩) (Nat.lt_succ_self _) (Nat.zero_le _) rfl (by kernel_rfl) (by kernel_rfl) rfl trivial
def gc8:BCode:=(.seq (R_ 0 [O_ 0 (.mv (b_ false)) 0]) (.seq (R_ 2 [O_ 14 (.bd [(.lit (.int .i64 0)),(.sl [] true)] []) 0,O_ 15 (.cl 36 [(t_ 14),(.const (.string ⟨#[97,64,120]⟩)),(.const (.string ⟨#[]⟩)),(i_ 1),(i_ 0)]) 0,O_ 13 (.mv (t_ 15)) 0,O_ 16 (.ex (t_ 13) 0) 0,O_ 17 (.ex (t_ 13) 1) 0,O_ 18 (.ex (t_ 13) 2) 0,O_ 1 (.al (.agg [(.lit (.int .i64 0)),(.sl [] true)])) 0,O_ 2 (.al (.agg [(.lit (.bool false)),(.lit (.int .i64 0)),(.lit (.int .i64 0)),(.lit (.int .i64 0))])) 1,U_ (.st 2 (t_ 1) (t_ 16)) 2,U_ (.st 4 (t_ 2) (t_ 17)) 2,O_ 3 (.mv (t_ 18)) 2]) (.seq (R_ 2 [O_ 19 (.bs 1 1 [(.lit (.string ⟨#[]⟩))] [(0,(.const (.string ⟨#[97,64,120]⟩)))]) 0,O_ 20 (.bd [(.sl [] true),(.sl [] true)] [(0,1,(t_ 19))]) 1,O_ 4 (.al (.agg [(.sl [] true),(.sl [] true)])) 1,U_ (.st 2 (t_ 4) (t_ 20)) 2]) (.seq (R_ 1 [O_ 21 (.bd [(.sl [] true),(.lit (.bool false)),(.lit (.bool false)),(.lit (.string ⟨#[]⟩)),(.lit (.int .i64 0)),(.lit (.int .i64 0)),(.lit (.int .i64 0))] []) 0,O_ 22 (.cl 14 [(t_ 21)]) 0,O_ 5 (.al (.agg [(.sl [] true),(.lit (.bool false)),(.lit (.bool false)),(.lit (.string ⟨#[]⟩)),(.lit (.int .i64 0)),(.lit (.int .i64 0)),(.lit (.int .i64 0))])) 0,U_ (.st 7 (t_ 5) (t_ 22)) 1]) (.seq (R_ 0 [O_ 23 (.ld 7 true (t_ 5)) 0,O_ 24 (.bd [(.lit (.bool false)),(.lit (.int .i64 0)),(.lit (.int .i64 0)),(.lit (.int .i64 0))] [(0,1,(b_ true)),(3,1,(i_ 9))]) 0,O_ 25 (.cl 12 [(t_ 23),(.const (.string ⟨#[97,64,120,32]⟩)),(t_ 24)]) 0,U_ (.st 7 (t_ 5) (t_ 25)) 0]) (.seq (R_ 1 [O_ 27 (.ld 7 true (t_ 5)) 0,O_ 28 (.ld 2 true (t_ 4)) 0,O_ 29 (.ld 2 true (t_ 1)) 0,O_ 30 (.cl 29 [(t_ 27),(t_ 28),(t_ 29),(i_ 9)]) 0,O_ 26 (.mv (t_ 30)) 0,O_ 31 (.ex (t_ 26) 0) 0,O_ 32 (.ex (t_ 26) 1) 0,O_ 6 (.al (.agg [(.sl [] true),(.lit (.bool false)),(.lit (.bool false)),(.lit (.string ⟨#[]⟩)),(.lit (.int .i64 0)),(.lit (.int .i64 0)),(.lit (.int .i64 0))])) 0,U_ (.st 7 (t_ 6) (t_ 31)) 1,O_ 7 (.mv (t_ 32)) 1]) (.seq (R_ 1 [O_ 33 (.ld 7 true (t_ 6)) 0,O_ 34 (.bd [(.lit (.bool false)),(.lit (.int .i64 0)),(.lit (.int .i64 0)),(.lit (.int .i64 0))] [(3,1,(i_ 4))]) 0,O_ 35 (.cl 12 [(t_ 33),(.const (.string ⟨#[98,64,120,32]⟩)),(t_ 34)]) 0,O_ 8 (.al (.agg [(.sl [] true),(.lit (.bool false)),(.lit (.bool false)),(.lit (.string ⟨#[]⟩)),(.lit (.int .i64 0)),(.lit (.int .i64 0)),(.lit (.int .i64 0))])) 0,U_ (.st 7 (t_ 8) (t_ 35)) 1]) (.seq (R_ 2 [O_ 37 (.ld 7 true (t_ 8)) 0,O_ 38 (.ld 2 true (t_ 4)) 0,O_ 39 (.ld 2 true (t_ 1)) 0,O_ 40 (.cl 27 [(t_ 37),(t_ 38),(t_ 39)]) 0,O_ 36 (.mv (t_ 40)) 0,O_ 41 (.ex (t_ 36) 0) 0,O_ 42 (.ex (t_ 36) 1) 0,O_ 43 (.ex (t_ 36) 2) 0,O_ 9 (.al (.agg [(.sl [] true),(.lit (.bool false)),(.lit (.bool false)),(.lit (.string ⟨#[]⟩)),(.lit (.int .i64 0)),(.lit (.int .i64 0)),(.lit (.int .i64 0))])) 0,O_ 10 (.al (.agg [(.lit (.int .u8 0)),(.lit (.string ⟨#[]⟩)),(.lit (.string ⟨#[]⟩)),(.lit (.string ⟨#[]⟩)),(.lit (.int .i64 0)),(.lit (.int .i64 0)),(.lit (.int .i64 0)),(.lit (.int .i64 0))])) 1,U_ (.st 7 (t_ 9) (t_ 41)) 2,U_ (.st 8 (t_ 10) (t_ 42)) 2,O_ 11 (.mv (t_ 43)) 2]) (.seq (R_ 1 [O_ 44 (.ld 7 true (t_ 8)) 0,O_ 45 (.cl 16 [(t_ 44),(.const (.string ⟨#[98,64,120]⟩))]) 0,O_ 12 (.al (.agg [(.sl [] true),(.lit (.bool false)),(.lit (.bool false)),(.lit (.string ⟨#[]⟩)),(.lit (.int .i64 0)),(.lit (.int .i64 0)),(.lit (.int .i64 0))])) 0,U_ (.st 7 (t_ 12) (t_ 45)) 1]) (.seq (R_ 0 [O_ 46 (.ld 7 true (t_ 5)) 0,O_ 47 (.cl 20 [(t_ 46)]) 0,O_ 48 (.mv (t_ 47)) 0,⟨(some 49),.ld 7 true (t_ 5),(some (48,true)),0⟩,⟨(some 50),.cl 22 [(t_ 49)],(some (48,true)),0⟩,⟨(some 51),.bin .eql (t_ 50) (i_ 1),(some (48,true)),0⟩,O_ 52 (.pick (t_ 48) (t_ 51) (b_ false)) 0,O_ 53 (.mv (t_ 52)) 0,⟨(some 54),.mv (t_ 7),(some (53,true)),0⟩,⟨(some 55),.lens (t_ 54),(some (53,true)),0⟩,⟨(some 56),.bin .eql (t_ 55) (i_ 3),(some (53,true)),0⟩,O_ 57 (.pick (t_ 53) (t_ 56) (b_ false)) 0,O_ 58 (.mv (t_ 57)) 0,⟨(some 59),.mv (t_ 7),(some (58,true)),0⟩,⟨(some 60),.ixs 8 (t_ 59) (i_ 0),(some (58,true)),0⟩,⟨(some 61),.fa 0 (t_ 60),(some (58,true)),0⟩,⟨(some 62),.ld 1 false (t_ 61),(some (58,true)),0⟩,⟨(some 63),.bin .eql (t_ 62) (.const (.int .u8 36)),(some (58,true)),0⟩,O_ 64 (.pick (t_ 58) (t_ 63) (b_ false)) 0,O_ 65 (.mv (t_ 64)) 0,⟨(some 66),.mv (t_ 7),(some (65,true)),0⟩,⟨(some 67),.ixs 8 (t_ 66) (i_ 1),(some (65,true)),0⟩,⟨(some 68),.fa 1 (t_ 67),(some (65,true)),0⟩,⟨(some 69),.ld 1 false (t_ 68),(some (65,true)),0⟩,⟨(some 70),.bin .eql (t_ 69) (.const (.string ⟨#[97,64,120]⟩)),(some (65,true)),0⟩,O_ 71 (.pick (t_ 65) (t_ 70) (b_ false)) 0,O_ 72 (.mv (t_ 71)) 0,⟨(some 73),.mv (t_ 7),(some (72,true)),0⟩,⟨(some 74),.ixs 8 (t_ 73) (i_ 2),(some (72,true)),0⟩,⟨(some 75),.fa 0 (t_ 74),(some (72,true)),0⟩,⟨(some 76),.ld 1 false (t_ 75),(some (72,true)),0⟩,⟨(some 77),.bin .eql (t_ 76) (.const (.int .u8 37)),(some (72,true)),0⟩,O_ 78 (.pick (t_ 72) (t_ 77) (b_ false)) 0,O_ 79 (.mv (t_ 78)) 0,⟨(some 80),.fa 5 (t_ 6),(some (79,true)),0⟩,⟨(some 81),.ld 1 false (t_ 80),(some (79,true)),0⟩,⟨(some 82),.bin .eql (t_ 81) (i_ 3),(some (79,true)),0⟩,O_ 83 (.pick (t_ 79) (t_ 82) (b_ false)) 0,O_ 84 (.mv (t_ 83)) 0,⟨(some 85),.ld 7 true (t_ 6),(some (84,true)),0⟩,⟨(some 86),.cl 20 [(t_ 85)],(some (84,true)),0⟩,⟨(some 87),.un .not (t_ 86),(some (84,true)),0⟩,O_ 88 (.pick (t_ 84) (t_ 87) (b_ false)) 0,O_ 89 (.mv (t_ 88)) 0,⟨(some 90),.ld 8 true (t_ 10),(some (89,true)),0⟩,⟨(some 91),.bd [(.lit (.int .u8 0)),(.lit (.string ⟨#[]⟩)),(.lit (.string ⟨#[]⟩)),(.lit (.string ⟨#[]⟩)),(.lit (.int .i64 0)),(.lit (.int .i64 0)),(.lit (.int .i64 0)),(.lit (.int .i64 0))] [(0,1,(.const (.int .u8 35))),(1,1,(.const (.string ⟨#[98,64,120]⟩))),(7,1,(i_ 4))],(some (89,true)),0⟩,⟨(some 92),.eqa false [1,2,2,2,1,1,1,1] (t_ 90) (t_ 91),(some (89,true)),0⟩,O_ 93 (.pick (t_ 89) (t_ 92) (b_ false)) 0,O_ 94 (.mv (t_ 93)) 0,⟨(some 95),.mv (t_ 11),(some (94,true)),0⟩,O_ 96 (.pick (t_ 94) (t_ 95) (b_ false)) 0,O_ 97 (.mv (t_ 96)) 0,⟨(some 98),.fa 5 (t_ 9),(some (97,true)),0⟩,⟨(some 99),.ld 1 false (t_ 98),(some (97,true)),0⟩,⟨(some 100),.bin .eql (t_ 99) (i_ 4),(some (97,true)),0⟩,O_ 101 (.pick (t_ 97) (t_ 100) (b_ false)) 0,O_ 102 (.mv (t_ 101)) 0,⟨(some 103),.ld 7 true (t_ 12),(some (102,true)),0⟩,⟨(some 104),.ld 7 true (t_ 6),(some (102,true)),0⟩,⟨(some 105),.cl 33 [(t_ 103),(t_ 104)],(some (102,true)),0⟩,O_ 106 (.pick (t_ 102) (t_ 105) (b_ false)) 0,O_ 107 (.mv (t_ 106)) 0,⟨(some 108),.ld 7 true (t_ 8),(some (107,true)),0⟩,⟨(some 109),.ld 7 true (t_ 6),(some (107,true)),0⟩,⟨(some 110),.cl 33 [(t_ 108),(t_ 109)],(some (107,true)),0⟩,⟨(some 111),.un .not (t_ 110),(some (107,true)),0⟩,O_ 112 (.pick (t_ 107) (t_ 111) (b_ false)) 0,O_ 113 (.mv (t_ 112)) 0,⟨(some 114),.ld 7 true (t_ 9),(some (113,true)),0⟩,⟨(some 115),.cl 18 [(t_ 114)],(some (113,true)),0⟩,⟨(some 116),.bin .eql (t_ 115) (i_ 0),(some (113,true)),0⟩,O_ 117 (.pick (t_ 113) (t_ 116) (b_ false)) 0,O_ 118 (.mv (t_ 117)) 0,⟨(some 119),.bd [(.sl [] true),(.lit (.bool false)),(.lit (.bool false)),(.lit (.string ⟨#[]⟩)),(.lit (.int .i64 0)),(.lit (.int .i64 0)),(.lit (.int .i64 0))] [(5,1,(.const (.int .i64 (-1))))],(some (118,true)),0⟩,⟨(some 120),.cl 18 [(t_ 119)],(some (118,true)),0⟩,⟨(some 121),.bin .eql (t_ 120) (i_ 8),(some (118,true)),0⟩,O_ 122 (.pick (t_ 118) (t_ 121) (b_ false)) 0,O_ 123 (.mv (t_ 122)) 0,O_ 124 (.pick (t_ 123) (b_ true) (b_ false)) 0,O_ 0 (.mv (t_ 124)) 0]) .ret))))))))))
theorem gc8_ok:compF Tryz.prog Tryz.f8=some (gc8.er,125,[.tmp 0]):=by unfold gc8;kernel_rfl
theorem p_law27_awake_t:CallsO Tryz.prog 8 [] V.b (tru? (p_law27_awake)):=by
 refine callsO_comp mix Tryz.func8 gc8_ok fun r H=>?_
 have H1:=tru_of H
 clear H
 obtain ⟨rfl,H⟩:=H1
 rw [p_law27_awake] at H
 conv=>whnf
 refine ask_c (p_book_Set_v _ _ _ _ _) H rfl rfl (fun v1 H=>?_);conv=>whnf
 refine lq_ ?_;conv=>whnf
 refine lq_ ?_;conv=>whnf
 refine lq_ ?_;conv=>whnf
 refine ask_c (p_outq_Begin_v _) H rfl rfl (fun v2 H=>?_);conv=>whnf
 refine lq_ ?_;conv=>whnf
 refine ask_c (p_outq_Add_v _ _ _) H rfl rfl (fun v3 H=>?_);conv=>whnf
 refine lq_ ?_;conv=>whnf
 refine askF_c (p_outq_Flush_v _ _ _ _) H (.cons (fzagg (.cons (.id rfl) (.cons (.id rfl) (.cons (.id rfl) (.cons (.id rfl) (.cons (.id rfl) (.cons (.id rfl) (.cons (.id rfl) (.nil)))))))) rfl) (.cons (fzagg (.cons (fzown (f:=V.s) (l:=[(⟨#[97,64,120]⟩ : ByteArray)]) rfl rfl (fun _=>rfl) (fun _=>rfl)) (.cons (.slw) (.nil))) rfl) (.cons (fzagg (.cons (.id rfl) (.cons (.id rfl) (.nil))) rfl) (.cons (.c (.id rfl)) (.nil))))) (fun v4 H=>?_);conv=>whnf
 refine lq_ ?_;conv=>whnf
 refine ask_c (p_outq_Add_v _ _ _) H rfl rfl (fun v5 H=>?_);conv=>whnf
 refine lq_ ?_;conv=>whnf
 refine askF_c (p_outq_Next_v _ _ _) H (.cons (fzagg (.cons (.id rfl) (.cons (.id rfl) (.cons (.id rfl) (.cons (.id rfl) (.cons (.id rfl) (.cons (.id rfl) (.cons (.id rfl) (.nil)))))))) rfl) (.cons (fzagg (.cons (fzown (f:=V.s) (l:=[(⟨#[97,64,120]⟩ : ByteArray)]) rfl rfl (fun _=>rfl) (fun _=>rfl)) (.cons (.slw) (.nil))) rfl) (.cons (fzagg (.cons (.id rfl) (.cons (.id rfl) (.nil))) rfl) (.nil)))) (fun v6 H=>?_);conv=>whnf
 refine lq_ ?_;conv=>whnf
 refine lq_ ?_;conv=>whnf
 refine ask_c (p_outq_Forget_v _ _) H rfl rfl (fun v7 H=>?_);conv=>whnf
 refine lq_ ?_;conv=>whnf
 refine ask_c (p_outq_Wants_v _) H rfl rfl (fun v8 H=>?_);conv=>whnf
 refine tstT_c H (fun b9 H=>?_);conv=>whnf
 refine Tst.T ?_;conv=>whnf
 refine ask_c (p_outq_Len_v _) H rfl rfl (fun v10 H=>?_);conv=>whnf
 iterate 2 (refine Tst.T ?_;conv=>whnf)
 refine tstT_c H (fun b11 H=>?_);conv=>whnf
 refine Tst.T ?_;conv=>whnf
 refine LenQ.M ?_;conv=>whnf
 iterate 2 (refine Tst.T ?_;conv=>whnf)
 refine tstT_c H (fun b12 H=>?_);conv=>whnf
 refine Tst.T ?_;conv=>whnf
 refine ixs_c (f:=StanzaStanza.v) H (fun _=>rfl) (fun x13 H=>?_);conv=>whnf
 refine Tst.T ?_;conv=>whnf
 refine lq_ ?_;conv=>whnf
 iterate 3 (refine Tst.T ?_;conv=>whnf)
 refine tstT_c H (fun b14 H=>?_);conv=>whnf
 refine Tst.T ?_;conv=>whnf
 refine ixs_c (f:=StanzaStanza.v) H (fun _=>rfl) (fun x15 H=>?_);conv=>whnf
 refine Tst.T ?_;conv=>whnf
 refine lq_ ?_;conv=>whnf
 iterate 3 (refine Tst.T ?_;conv=>whnf)
 refine tstT_c H (fun b16 H=>?_);conv=>whnf
 refine Tst.T ?_;conv=>whnf
 refine ixs_c (f:=StanzaStanza.v) H (fun _=>rfl) (fun x17 H=>?_);conv=>whnf
 refine Tst.T ?_;conv=>whnf
 refine lq_ ?_;conv=>whnf
 iterate 3 (refine Tst.T ?_;conv=>whnf)
 refine tstT_c H (fun b18 H=>?_);conv=>whnf
 iterate 3 (refine Tst.T ?_;conv=>whnf)
 refine tstT_c H (fun b19 H=>?_);conv=>whnf
 refine Tst.T ?_;conv=>whnf
 refine ask_c (p_outq_Wants_v _) H rfl rfl (fun v20 H=>?_);conv=>whnf
 iterate 2 (refine Tst.T ?_;conv=>whnf)
 refine Tst.not ?_
 refine tstF_c H (fun b21 H=>?_);conv=>whnf
 iterate 3 (refine Tst.T ?_;conv=>whnf)
 refine tstT_c H (fun b22 H=>?_);conv=>whnf
 refine Tst.T ?_;conv=>whnf
 refine tstT_c H (fun b23 H=>?_);conv=>whnf
 iterate 3 (refine Tst.T ?_;conv=>whnf)
 refine tstT_c H (fun b24 H=>?_);conv=>whnf
 iterate 2 (refine Tst.T ?_;conv=>whnf)
 refine ask_c (p_outq_Same_v _ _) H rfl rfl (fun v25 H=>?_);conv=>whnf
 refine Tst.T ?_;conv=>whnf
 refine tstT_c H (fun b26 H=>?_);conv=>whnf
 iterate 2 (refine Tst.T ?_;conv=>whnf)
 refine ask_c (p_outq_Same_v _ _) H rfl rfl (fun v27 H=>?_);conv=>whnf
 iterate 2 (refine Tst.T ?_;conv=>whnf)
 refine Tst.not ?_
 refine tstF_c H (fun b28 H=>?_);conv=>whnf
 refine Tst.T ?_;conv=>whnf
 refine ask_c (p_outq_Check_v _) H rfl rfl (fun v29 H=>?_);conv=>whnf
 iterate 2 (refine Tst.T ?_;conv=>whnf)
 refine tstT_c H (fun b30 H=>?_);conv=>whnf
 refine Tst.T ?_;conv=>whnf
 refine ask_c (p_outq_Check_v _) H rfl rfl (fun v31 H=>?_);conv=>whnf
 iterate 2 (refine Tst.T ?_;conv=>whnf)
 refine tstT_c H (fun b32 H=>?_);conv=>whnf
 exact fb_ H
theorem p_law27_awake_true:p_law27_awake=some true:=by kernel_rfl
theorem p_law27_awake_v:CallsO Tryz.prog 8 [] V.b p_law27_awake:=tru_closed p_law27_awake_t p_law27_awake_true
def gc24:BCode:=(.seq (R_ 1 [O_ 1 (.bx (t_ 0)) 0,O_ 2 (.mv (b_ false)) 1]) (.seq (.seq (R_ 0 [O_ 5 (.fa 0 (t_ 1)) 0,O_ 6 (.ld 1 false (t_ 5)) 0,O_ 7 (.lens (t_ 6)) 0,O_ 8 (.bin .gtr (t_ 7) (i_ 20)) 0,O_ 9 (.mv (t_ 8)) 0,⟨(some 10),.fa 1 (t_ 1),(some (9,false)),0⟩,⟨(some 11),.ld 1 false (t_ 10),(some (9,false)),0⟩,⟨(some 12),.lens (t_ 11),(some (9,false)),0⟩,⟨(some 13),.bin .gtr (t_ 12) (i_ 20),(some (9,false)),0⟩,O_ 14 (.pick (t_ 9) (b_ true) (t_ 13)) 0]) (.cond (t_ 14) (.seq (R_ 0 [O_ 2 (.mv (b_ false)) 0]) .ret) .skip)) (.seq (.seq (R_ 0 [O_ 3 (.mv (i_ 0)) 0]) (.block 0 (.loop (.seq (.seq (R_ 0 [O_ 15 (.mv (t_ 3)) 0,O_ 16 (.fa 0 (t_ 1)) 0,O_ 17 (.ld 1 false (t_ 16)) 0,O_ 18 (.lens (t_ 17)) 0,O_ 19 (.bin .lss (t_ 15) (t_ 18)) 0]) (.cond (t_ 19) .skip (.exit 0))) (.seq (.block 1 (.seq (R_ 0 [O_ 22 (.fa 0 (t_ 1)) 0,O_ 23 (.ld 1 false (t_ 22)) 0,O_ 24 (.mv (t_ 3)) 0,O_ 25 (.ixs 1 (t_ 23) (t_ 24)) 0,O_ 26 (.ld 1 false (t_ 25)) 0,O_ 27 (.lent (t_ 26)) 0,O_ 28 (.bin .gtr (t_ 27) (i_ 100)) 0]) (.cond (t_ 28) (.seq (R_ 0 [O_ 2 (.mv (b_ false)) 0]) .ret) .skip))) (R_ 0 [O_ 20 (.mv (t_ 3)) 0,O_ 21 (.bin .add (t_ 20) (i_ 1)) 0,O_ 3 (.mv (t_ 21)) 0])))))) (.seq (.seq (R_ 0 [O_ 4 (.mv (i_ 0)) 0]) (.block 2 (.loop (.seq (.seq (R_ 0 [O_ 29 (.mv (t_ 4)) 0,O_ 30 (.fa 1 (t_ 1)) 0,O_ 31 (.ld 1 false (t_ 30)) 0,O_ 32 (.lens (t_ 31)) 0,O_ 33 (.bin .lss (t_ 29) (t_ 32)) 0]) (.cond (t_ 33) .skip (.exit 2))) (.seq (.block 3 (.seq (R_ 0 [O_ 36 (.fa 1 (t_ 1)) 0,O_ 37 (.ld 1 false (t_ 36)) 0,O_ 38 (.mv (t_ 4)) 0,O_ 39 (.ixs 1 (t_ 37) (t_ 38)) 0,O_ 40 (.ld 1 false (t_ 39)) 0,O_ 41 (.lent (t_ 40)) 0,O_ 42 (.bin .gtr (t_ 41) (i_ 100)) 0]) (.cond (t_ 42) (.seq (R_ 0 [O_ 2 (.mv (b_ false)) 0]) .ret) .skip))) (R_ 0 [O_ 34 (.mv (t_ 4)) 0,O_ 35 (.bin .add (t_ 34) (i_ 1)) 0,O_ 4 (.mv (t_ 35)) 0])))))) (.seq (R_ 0 [O_ 2 (.mv (b_ true)) 0]) .ret)))))
theorem gc24_ok:compF Tryz.prog Tryz.f24=some (gc24.er,43,[.tmp 2]):=by unfold gc24;kernel_rfl
theorem p_ref26_Light_v {u1 u2:Bool} (a0:SnapEyes):CallsO Tryz.prog 24 [.agg [.sl (List.map V.s a0.Users) u1,.sl (List.map V.s a0.Keys) u2]] V.b (p_ref26_Light a0):=by
 refine callsO_comp mix Tryz.func24 gc24_ok fun r H=>?_
 rw [p_ref26_Light] at H
 conv=>whnf
 refine LenQ.M ?_;conv=>whnf
 refine tst_c H (fun b1 H=>?_) (fun b1 H=>?_)
 ·conv=>whnf
  iterate 5 (refine Tst.T ?_;conv=>whnf)
  exact fb_ H
 conv=>whnf
 iterate 2 (refine Tst.F ?_;conv=>whnf)
 refine LenQ.M ?_;conv=>whnf
 iterate 2 (refine Tst.F ?_;conv=>whnf)
 refine tst_c H (fun b2 H=>?_) (fun b2 H=>?_)
 ·conv=>whnf
  exact fb_ H
 conv=>whnf
 obtain ⟨o4,HL5,HQ6⟩:=bind_c H
 refine loop_c [2,3] [15,16,17,18,19,20,21,22,23,24,25,26,27,28,5,10] [15,16,17,18,19,20,21,22,23,24,25,26,27,28,5,10] (fun n vals st=>(∃ y8,p_ref26_Light_l1  a0 n y8=some o4∧vals=[.b false,.i y8]∧st=[.live [.sl (List.map V.s a0.Users) u1,.sl (List.map V.s a0.Keys) u2] 0])) fuel 1 [] (⟨_,HL5,rfl,rfl⟩) (Nat.zero_le _) rfl (by kernel_rfl) (by kernel_rfl) rfl ⟨⟨rfl,rfl,rfl⟩,trivial⟩ ?_
 rintro (_ | n7) _ _ (⟨y8,H,rfl,rfl⟩)
 ·rw [p_ref26_Light_l1] at H;cases H
 rw [p_ref26_Light_l1] at H
 conv=>whnf
 refine LenQ.M ?_;conv=>whnf
 refine tst_c H (fun b9 H=>?_) (fun b9 H=>?_)
 ·conv=>whnf
  refine ixs_c (f:=V.s) H (fun _=>rfl) (fun x10 H=>?_);conv=>whnf
  refine tst_c H (fun b11 H=>?_) (fun b11 H=>?_)
  ·conv=>whnf
   obtain rfl:=Option.some.inj H
   have H:=HQ6
   try dsimp only at H
   exact fb_ H
  conv=>whnf
  refine Ari.w ?_;conv=>whnf
  exact again_c [15,16,17,18,19,20,21,22,23,24,25,26,27,28,5,10] n7 1 [] (⟨_,H,rfl,rfl⟩) (Nat.lt_succ_self _) (Nat.zero_le _) rfl (by kernel_rfl) (by kernel_rfl) rfl ⟨⟨rfl,rfl,rfl⟩,trivial⟩
 conv=>whnf
 obtain rfl:=Option.some.inj H
 have H:=HQ6
 try dsimp only at H
 obtain ⟨o13,HL14,HQ15⟩:=bind_c H
 refine loop_c [2,4] [29,30,31,32,33,34,35,36,37,38,39,40,41,42,16] [29,30,31,32,33,34,35,36,37,38,39,40,41,42,16] (fun n vals st=>(∃ y17,p_ref26_Light_l2  a0 n y17=some o13∧vals=[.b false,.i y17]∧st=[.live [.sl (List.map V.s a0.Users) u1,.sl (List.map V.s a0.Keys) u2] 0])) fuel 1 [] (⟨_,HL14,rfl,rfl⟩) (Nat.zero_le _) rfl (by kernel_rfl) (by kernel_rfl) rfl ⟨⟨rfl,rfl,rfl⟩,trivial⟩ ?_
 rintro (_ | n16) _ _ (⟨y17,H,rfl,rfl⟩)
 ·rw [p_ref26_Light_l2] at H;cases H
 rw [p_ref26_Light_l2] at H
 conv=>whnf
 refine LenQ.M ?_;conv=>whnf
 refine tst_d H (fun b18 H=>?_) (fun b18 H=>?_)
 ·conv=>whnf
  obtain rfl:=Option.some.inj H
  have H:=HQ15
  try dsimp only at H
  exact fb_ H
 conv=>whnf
 refine ixs_c (f:=V.s) H (fun _=>rfl) (fun x19 H=>?_);conv=>whnf
 refine tst_c H (fun b20 H=>?_) (fun b20 H=>?_)
 ·conv=>whnf
  obtain rfl:=Option.some.inj H
  have H:=HQ15
  try dsimp only at H
  exact fb_ H
 conv=>whnf
 refine Ari.w ?_;conv=>whnf
 exact again_c [29,30,31,32,33,34,35,36,37,38,39,40,41,42,16] n16 1 [] (⟨_,H,rfl,rfl⟩) (Nat.lt_succ_self _) (Nat.zero_le _) rfl (by kernel_rfl) (by kernel_rfl) rfl ⟨⟨rfl,rfl,rfl⟩,trivial⟩
def gc25:BCode:=(.seq (R_ 1 [O_ 1 (.bx (t_ 0)) 0,O_ 2 (.mv (b_ false)) 1]) (.seq (.seq (R_ 0 [O_ 4 (.fa 1 (t_ 1)) 0,O_ 5 (.ld 1 false (t_ 4)) 0,O_ 6 (.lens (t_ 5)) 0,O_ 7 (.bin .gtr (t_ 6) (i_ 20)) 0]) (.cond (t_ 7) (.seq (R_ 0 [O_ 2 (.mv (b_ false)) 0]) .ret) .skip)) (.seq (.seq (R_ 0 [O_ 3 (.mv (i_ 0)) 0]) (.block 0 (.loop (.seq (.seq (R_ 0 [O_ 8 (.mv (t_ 3)) 0,O_ 9 (.fa 1 (t_ 1)) 0,O_ 10 (.ld 1 false (t_ 9)) 0,O_ 11 (.lens (t_ 10)) 0,O_ 12 (.bin .lss (t_ 8) (t_ 11)) 0]) (.cond (t_ 12) .skip (.exit 0))) (.seq (.block 1 (.seq (R_ 0 [O_ 15 (.fa 1 (t_ 1)) 0,O_ 16 (.ld 1 false (t_ 15)) 0,O_ 17 (.mv (t_ 3)) 0,O_ 18 (.ixs 6 (t_ 16) (t_ 17)) 0,O_ 19 (.fa 0 (t_ 18)) 0,O_ 20 (.ld 1 false (t_ 19)) 0,O_ 21 (.lent (t_ 20)) 0,O_ 22 (.bin .gtr (t_ 21) (i_ 100)) 0,O_ 23 (.mv (t_ 22)) 0,⟨(some 24),.fa 1 (t_ 1),(some (23,false)),0⟩,⟨(some 25),.ld 1 false (t_ 24),(some (23,false)),0⟩,⟨(some 26),.mv (t_ 3),(some (23,false)),0⟩,⟨(some 27),.ixs 6 (t_ 25) (t_ 26),(some (23,false)),0⟩,⟨(some 28),.fa 1 (t_ 27),(some (23,false)),0⟩,⟨(some 29),.ld 1 false (t_ 28),(some (23,false)),0⟩,⟨(some 30),.lent (t_ 29),(some (23,false)),0⟩,⟨(some 31),.bin .gtr (t_ 30) (i_ 100),(some (23,false)),0⟩,O_ 32 (.pick (t_ 23) (b_ true) (t_ 31)) 0]) (.cond (t_ 32) (.seq (R_ 0 [O_ 2 (.mv (b_ false)) 0]) .ret) .skip))) (R_ 0 [O_ 13 (.mv (t_ 3)) 0,O_ 14 (.bin .add (t_ 13) (i_ 1)) 0,O_ 3 (.mv (t_ 14)) 0])))))) (.seq (R_ 0 [O_ 2 (.mv (b_ true)) 0]) .ret))))
theorem gc25_ok:compF Tryz.prog Tryz.f25=some (gc25.er,33,[.tmp 2]):=by unfold gc25;kernel_rfl
theorem p_ref24_Light_v {u1:Bool} (a0:BookState):CallsO Tryz.prog 25 [.agg [.i a0.Seq,.sl (List.map BookRow.v a0.Rows) u1]] V.b (p_ref24_Light a0):=by
 refine callsO_comp mix Tryz.func25 gc25_ok fun r H=>?_
 rw [p_ref24_Light] at H
 conv=>whnf
 refine LenQ.M ?_;conv=>whnf
 refine tst_c H (fun b1 H=>?_) (fun b1 H=>?_)
 ·conv=>whnf
  exact fb_ H
 conv=>whnf
 obtain ⟨o3,HL4,HQ5⟩:=bind_c H
 refine loop_c [2,3] [8,9,10,11,12,13,14,15,16,17,18,19,20,21,22,23,24,25,26,27,28,29,30,31,32,4] [8,9,10,11,12,13,14,15,16,17,18,19,20,21,22,23,24,25,26,27,28,29,30,31,32,4] (fun n vals st=>(∃ y7,p_ref24_Light_l1  a0 n y7=some o3∧vals=[.b false,.i y7]∧st=[.live [.i a0.Seq,.sl (List.map BookRow.v a0.Rows) u1] 0])) fuel 1 [] (⟨_,HL4,rfl,rfl⟩) (Nat.zero_le _) rfl (by kernel_rfl) (by kernel_rfl) rfl ⟨⟨rfl,rfl,rfl⟩,trivial⟩ ?_
 rintro (_ | n6) _ _ (⟨y7,H,rfl,rfl⟩)
 ·rw [p_ref24_Light_l1] at H;cases H
 rw [p_ref24_Light_l1] at H
 conv=>whnf
 refine LenQ.M ?_;conv=>whnf
 refine tst_d H (fun b8 H=>?_) (fun b8 H=>?_)
 ·conv=>whnf
  obtain rfl:=Option.some.inj H
  have H:=HQ5
  try dsimp only at H
  exact fb_ H
 conv=>whnf
 refine ixs_c (f:=BookRow.v) H (fun _=>rfl) (fun x9 H=>?_);conv=>whnf
 refine lq_ ?_;conv=>whnf
 refine tst_c H (fun b10 H=>?_) (fun b10 H=>?_)
 ·conv=>whnf
  iterate 9 (refine Tst.T ?_;conv=>whnf)
  obtain rfl:=Option.some.inj H
  have H:=HQ5
  try dsimp only at H
  exact fb_ H
 conv=>whnf
 iterate 3 (refine Tst.F ?_;conv=>whnf)
 refine ixs_c (f:=BookRow.v) H (fun _=>rfl) (fun x11 H=>?_);conv=>whnf
 refine Tst.F ?_;conv=>whnf
 refine lq_ ?_;conv=>whnf
 iterate 4 (refine Tst.F ?_;conv=>whnf)
 refine tst_c H (fun b12 H=>?_) (fun b12 H=>?_)
 ·conv=>whnf
  obtain rfl:=Option.some.inj H
  have H:=HQ5
  try dsimp only at H
  exact fb_ H
 conv=>whnf
 refine Ari.w ?_;conv=>whnf
 exact again_c [8,9,10,11,12,13,14,15,16,17,18,19,20,21,22,23,24,25,26,27,28,29,30,31,32,4] n6 1 [] (⟨_,H,rfl,rfl⟩) (Nat.lt_succ_self _) (Nat.zero_le _) rfl (by kernel_rfl) (by kernel_rfl) rfl ⟨⟨rfl,rfl,rfl⟩,trivial⟩
end Go.Proofs.YtdoakplhalonfaaGreat

