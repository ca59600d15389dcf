/- A part of the proof: 4 texts joined. -/
import Derived.Test.YthlhbgedidipkaaGreatVbA15
import Derived.Test.YthlhbgedidipkaaGreatVbA13
import Derived.Test.YthlhbgedidipkaaGreatVbA12
import Derived.KernelRfl
import Derived.Test.YthlhbgedidipkaaGreatVbA17
import Derived.Test.YthlhbgedidipkaaGreatVbA16
import Derived.Lib.SliceRun
import Derived.Test.YthlhbgedidipkaaGreatVbA14
set_option linter.all false
/- That the program's functions yield what the plain ones tell (written by a program of mine). -/
namespace Go.Proofs.YthlhbgedidipkaaGreat
open Go.RowKit
def gc135 : BCode := (.seq (.reg 1 [⟨(some 1),.bx (.tmp 0),none,0⟩,⟨(some 2),.mv (.const (.string ⟨#[]⟩)),none,1⟩] none 0 []) (.seq (.reg 0 [⟨(some 3),.fa 0 (.tmp 1),none,0⟩,⟨(some 4),.ld 1 false (.tmp 3),none,0⟩,⟨(some 2),.mv (.tmp 4),none,0⟩] none 0 []) .ret))
theorem gc135_ok : compF Tryz.prog Tryz.f135 = some (gc135.er,5,[.tmp 2]) := by unfold gc135;kernel_rfl
set_option maxRecDepth 100000 in
set_option maxHeartbeats 4000000 in
theorem p_view_Row_key_v (a0 : MailEntry) : CallsO Tryz.prog 135 [.agg [.s a0.Key,.b a0.P.On,.i a0.P.Show,.i a0.P.Prio,.i a0.P.Seq]] V.s (p_view_Row_key a0) := by
 refine callsO_comp mix Tryz.func135 gc135_ok fun r H=>?_
 rw [p_view_Row_key] at H
 conv=>whnf
 exact fin0_c (enc := V.s) H (.inr rfl) (.cons (.tmp rfl) (.nil)) rfl rfl
def gc134 : BCode := (.seq (.reg 0 [⟨(some 4),.mv (.const (.bool false)),none,0⟩] none 0 []) (.seq (.seq (.reg 0 [⟨(some 5),.mv (.const (.int .i64 1)),none,0⟩] none 0 []) (.block 0 (.loop (.seq (.seq (.reg 0 [⟨(some 6),.mv (.tmp 5),none,0⟩,⟨(some 7),.mv (.tmp 0),none,0⟩,⟨(some 8),.lens (.tmp 7),none,0⟩,⟨(some 9),.bin .lss (.tmp 6) (.tmp 8),none,0⟩] none 0 []) (.cond (.tmp 9) .skip (.exit 0))) (.seq (.block 1 (.seq (.reg 0 [⟨(some 12),.mv (.tmp 1),none,0⟩,⟨(some 13),.mv (.tmp 0),none,0⟩,⟨(some 14),.mv (.tmp 5),none,0⟩,⟨(some 15),.bin .sub (.tmp 14) (.const (.int .i64 1)),none,0⟩,⟨(some 16),.ixs 5 (.tmp 13) (.tmp 15),none,0⟩,⟨(some 17),.ld 5 true (.tmp 16),none,0⟩,⟨(some 18),.cv (.tmp 12) [(.tmp 17)],none,0⟩,⟨(some 19),.mv (.tmp 1),none,0⟩,⟨(some 20),.mv (.tmp 0),none,0⟩,⟨(some 21),.mv (.tmp 5),none,0⟩,⟨(some 22),.ixs 5 (.tmp 20) (.tmp 21),none,0⟩,⟨(some 23),.ld 5 true (.tmp 22),none,0⟩,⟨(some 24),.cv (.tmp 19) [(.tmp 23)],none,0⟩,⟨(some 25),.bin .geq (.tmp 18) (.tmp 24),none,0⟩] (some [[],[],[],[2],[2,3,1],[1,3,2,4],[4,2,3,1,5,0],[],[],[],[9,8],[8,9,10],[0,5,1,3,2,4,6,10,9,8,11,7],[7,11,8,9,10,12,0,5,1,3,2,4,6]]) 0 []) (.cond (.tmp 25) (.seq (.reg 0 [⟨(some 4),.mv (.const (.bool false)),none,0⟩] none 0 []) .ret) .skip))) (.reg 0 [⟨(some 10),.mv (.tmp 5),none,0⟩,⟨(some 11),.bin .add (.tmp 10) (.const (.int .i64 1)),none,0⟩,⟨(some 5),.mv (.tmp 11),none,0⟩] none 0 [])))))) (.seq (.reg 0 [⟨(some 4),.mv (.const (.bool true)),none,0⟩] none 0 []) .ret)))
theorem gc134_ok : compF Tryz.prog Tryz.f134 = some (gc134.er,26,[.tmp 4]) := by unfold gc134;kernel_rfl
set_option maxRecDepth 100000 in
set_option maxHeartbeats 4000000 in
theorem p_view_rise_view_Row__v {u1 : Bool} (a0 : List MailEntry) (a1 : MailEntry → Option ByteArray) {a1_g : Nat} {a1_k : List V} (a1_h : Clo1 Tryz.prog a1_g a1_k MailEntry.v V.s a1) : CallsO Tryz.prog 134 [.sl (List.map MailEntry.v a0) u1,.clo (.func a1_g) a1_k] V.b (p_view_rise_view_Row_ a0 a1) := by
 refine callsO_comp mix Tryz.func134 gc134_ok fun r H=>?_
 rw [p_view_rise_view_Row_] at H
 conv=>whnf
 obtain ⟨o2,HL3,HQ4⟩ := bind_c H
 refine loop_c [4,5] [6,7,8,9,10,11,12,13,14,15,16,17,18,19,20,21,22,23,24,25] [6,7,8,9,10,11,12,13,14,15,16,17,18,19,20,21,22,23,24,25] (fun n vals st=>(∃ y6,p_view_rise_view_Row__l1  a1 a0 n y6 = some o2 ∧ vals = [.b false,.i y6] ∧ st = [])) fuel 0 [] (⟨_,HL3,rfl,rfl⟩) (Nat.zero_le _) rfl (by simp only [maskF,setF,List.set_cons_zero,List.set_cons_succ,V.ren.renL,V.ren,renL_id _ a1_h.own] <;> rfl) (by simp only [maskF,setF,List.set_cons_zero,List.set_cons_succ,V.idlt.belowL,V.idlt,fun n=>idltL_up (n := n) _ a1_h.own] <;> rfl) rfl trivial ?_
 rintro (_ | n5) _ _ (⟨y6,H,rfl,rfl⟩)
 ·rw [p_view_rise_view_Row__l1] at H;cases H
 rw [p_view_rise_view_Row__l1] at H
 conv=>whnf
 refine LenQ.M ?_;conv=>whnf
 refine tst_d H (fun b7 H=>?_) (fun b7 H=>?_)
 ·conv=>whnf
  obtain rfl := Option.some.inj H
  have H := HQ4
  try dsimp only at H
  exact fin0_c (enc := V.b) H (.inr rfl) (.cons (.tmp rfl) (.nil)) rfl rfl
 conv=>whnf
 refine Ari.w ?_;conv=>whnf
 refine ixs_c (f := MailEntry.v) H (fun _=>rfl) (fun x8 H=>?_);conv=>whnf
 refine askC_c a1_h H (.cons (fzagg (.cons (.id rfl) (.cons (.id rfl) (.cons (.id rfl) (.cons (.id rfl) (.cons (.id rfl) (.nil)))))) rfl) (.nil)) (fun v9 H=>?_);conv=>whnf
 refine ixs_c (f := MailEntry.v) H (fun _=>rfl) (fun x10 H=>?_);conv=>whnf
 refine askC_c a1_h H (.cons (fzagg (.cons (.id rfl) (.cons (.id rfl) (.cons (.id rfl) (.cons (.id rfl) (.cons (.id rfl) (.nil)))))) rfl) (.nil)) (fun v11 H=>?_);conv=>whnf
 refine FootQ.mk ⟨rfl,?_⟩;conv=>whnf
 refine Tst.not ?_
 refine tst_d H (fun b12 H=>?_) (fun b12 H=>?_)
 ·conv=>whnf
  obtain rfl := Option.some.inj H
  have H := HQ4
  try dsimp only at H
  exact fin0_c (enc := V.b) H (.inr rfl) (.cons (.tmp rfl) (.nil)) rfl rfl
 conv=>whnf
 refine Ari.w ?_;conv=>whnf
 exact again_c [6,7,8,9,10,11,12,13,14,15,16,17,18,19,20,21,22,23,24,25] n5 0 [] (⟨_,H,rfl,rfl⟩) (Nat.lt_succ_self _) (Nat.zero_le _) rfl (by simp only [maskF,setF,List.set_cons_zero,List.set_cons_succ,V.ren.renL,V.ren,renL_id _ a1_h.own] <;> rfl) (by simp only [maskF,setF,List.set_cons_zero,List.set_cons_succ,V.idlt.belowL,V.idlt,fun n=>idltL_up (n := n) _ a1_h.own] <;> rfl) rfl trivial
def gc137 : BCode := (.seq (.reg 0 [⟨(some 2),.mv (.const (.string ⟨#[]⟩)),none,0⟩] none 0 []) (.seq (.reg 0 [⟨(some 3),.mv (.tmp 0),none,0⟩,⟨(some 2),.mv (.tmp 3),none,0⟩] none 0 []) .ret))
theorem gc137_ok : compF Tryz.prog Tryz.f137 = some (gc137.er,4,[.tmp 2]) := by unfold gc137;kernel_rfl
set_option maxRecDepth 100000 in
set_option maxHeartbeats 4000000 in
theorem p_view_itself_v (a0 : ByteArray) : CallsO Tryz.prog 137 [.s a0] V.s (p_view_itself a0) := by
 refine callsO_comp mix Tryz.func137 gc137_ok fun r H=>?_
 rw [p_view_itself] at H
 conv=>whnf
 exact fin0_c (enc := V.s) H (.inr rfl) (.cons (.tmp rfl) (.nil)) rfl rfl
def gc136 : BCode := (.seq (.reg 0 [⟨(some 4),.mv (.const (.bool false)),none,0⟩] none 0 []) (.seq (.seq (.reg 0 [⟨(some 5),.mv (.const (.int .i64 1)),none,0⟩] none 0 []) (.block 0 (.loop (.seq (.seq (.reg 0 [⟨(some 6),.mv (.tmp 5),none,0⟩,⟨(some 7),.mv (.tmp 0),none,0⟩,⟨(some 8),.lens (.tmp 7),none,0⟩,⟨(some 9),.bin .lss (.tmp 6) (.tmp 8),none,0⟩] none 0 []) (.cond (.tmp 9) .skip (.exit 0))) (.seq (.block 1 (.seq (.reg 0 [⟨(some 12),.mv (.tmp 1),none,0⟩,⟨(some 13),.mv (.tmp 0),none,0⟩,⟨(some 14),.mv (.tmp 5),none,0⟩,⟨(some 15),.bin .sub (.tmp 14) (.const (.int .i64 1)),none,0⟩,⟨(some 16),.ixs 1 (.tmp 13) (.tmp 15),none,0⟩,⟨(some 17),.ld 1 false (.tmp 16),none,0⟩,⟨(some 18),.cv (.tmp 12) [(.tmp 17)],none,0⟩,⟨(some 19),.mv (.tmp 1),none,0⟩,⟨(some 20),.mv (.tmp 0),none,0⟩,⟨(some 21),.mv (.tmp 5),none,0⟩,⟨(some 22),.ixs 1 (.tmp 20) (.tmp 21),none,0⟩,⟨(some 23),.ld 1 false (.tmp 22),none,0⟩,⟨(some 24),.cv (.tmp 19) [(.tmp 23)],none,0⟩,⟨(some 25),.bin .geq (.tmp 18) (.tmp 24),none,0⟩] (some [[],[],[],[2],[2,3,1],[1,3,2,4],[4,2,3,1,5,0],[],[],[],[9,8],[8,9,10],[0,5,1,3,2,4,6,10,9,8,11,7],[7,11,8,9,10,12,0,5,1,3,2,4,6]]) 0 []) (.cond (.tmp 25) (.seq (.reg 0 [⟨(some 4),.mv (.const (.bool false)),none,0⟩] none 0 []) .ret) .skip))) (.reg 0 [⟨(some 10),.mv (.tmp 5),none,0⟩,⟨(some 11),.bin .add (.tmp 10) (.const (.int .i64 1)),none,0⟩,⟨(some 5),.mv (.tmp 11),none,0⟩] none 0 [])))))) (.seq (.reg 0 [⟨(some 4),.mv (.const (.bool true)),none,0⟩] none 0 []) .ret)))
theorem gc136_ok : compF Tryz.prog Tryz.f136 = some (gc136.er,26,[.tmp 4]) := by unfold gc136;kernel_rfl
set_option maxRecDepth 100000 in
set_option maxHeartbeats 4000000 in
theorem p_view_rise_string__v {u1 : Bool} (a0 : List ByteArray) (a1 : ByteArray → Option ByteArray) {a1_g : Nat} {a1_k : List V} (a1_h : Clo1 Tryz.prog a1_g a1_k V.s V.s a1) : CallsO Tryz.prog 136 [.sl (List.map V.s a0) u1,.clo (.func a1_g) a1_k] V.b (p_view_rise_string_ a0 a1) := by
 refine callsO_comp mix Tryz.func136 gc136_ok fun r H=>?_
 rw [p_view_rise_string_] at H
 conv=>whnf
 obtain ⟨o2,HL3,HQ4⟩ := bind_c H
 refine loop_c [4,5] [6,7,8,9,10,11,12,13,14,15,16,17,18,19,20,21,22,23,24,25] [6,7,8,9,10,11,12,13,14,15,16,17,18,19,20,21,22,23,24,25] (fun n vals st=>(∃ y6,p_view_rise_string__l1  a1 a0 n y6 = some o2 ∧ vals = [.b false,.i y6] ∧ st = [])) fuel 0 [] (⟨_,HL3,rfl,rfl⟩) (Nat.zero_le _) rfl (by simp only [maskF,setF,List.set_cons_zero,List.set_cons_succ,V.ren.renL,V.ren,renL_id _ a1_h.own] <;> rfl) (by simp only [maskF,setF,List.set_cons_zero,List.set_cons_succ,V.idlt.belowL,V.idlt,fun n=>idltL_up (n := n) _ a1_h.own] <;> rfl) rfl trivial ?_
 rintro (_ | n5) _ _ (⟨y6,H,rfl,rfl⟩)
 ·rw [p_view_rise_string__l1] at H;cases H
 rw [p_view_rise_string__l1] at H
 conv=>whnf
 refine LenQ.M ?_;conv=>whnf
 refine tst_d H (fun b7 H=>?_) (fun b7 H=>?_)
 ·conv=>whnf
  obtain rfl := Option.some.inj H
  have H := HQ4
  try dsimp only at H
  exact fin0_c (enc := V.b) H (.inr rfl) (.cons (.tmp rfl) (.nil)) rfl rfl
 conv=>whnf
 refine Ari.w ?_;conv=>whnf
 refine ixs_c (f := V.s) H (fun _=>rfl) (fun x8 H=>?_);conv=>whnf
 refine askC_c a1_h H (.cons (.c (.id rfl)) (.nil)) (fun v9 H=>?_);conv=>whnf
 refine ixs_c (f := V.s) H (fun _=>rfl) (fun x10 H=>?_);conv=>whnf
 refine askC_c a1_h H (.cons (.c (.id rfl)) (.nil)) (fun v11 H=>?_);conv=>whnf
 refine FootQ.mk ⟨rfl,?_⟩;conv=>whnf
 refine Tst.not ?_
 refine tst_d H (fun b12 H=>?_) (fun b12 H=>?_)
 ·conv=>whnf
  obtain rfl := Option.some.inj H
  have H := HQ4
  try dsimp only at H
  exact fin0_c (enc := V.b) H (.inr rfl) (.cons (.tmp rfl) (.nil)) rfl rfl
 conv=>whnf
 refine Ari.w ?_;conv=>whnf
 exact again_c [6,7,8,9,10,11,12,13,14,15,16,17,18,19,20,21,22,23,24,25] n5 0 [] (⟨_,H,rfl,rfl⟩) (Nat.lt_succ_self _) (Nat.zero_le _) rfl (by simp only [maskF,setF,List.set_cons_zero,List.set_cons_succ,V.ren.renL,V.ren,renL_id _ a1_h.own] <;> rfl) (by simp only [maskF,setF,List.set_cons_zero,List.set_cons_succ,V.idlt.belowL,V.idlt,fun n=>idltL_up (n := n) _ a1_h.own] <;> rfl) rfl trivial
def gc132 : BCode := (.seq (.reg 1 [⟨(some 1),.bx (.tmp 0),none,0⟩,⟨(some 2),.mv (.const (.string ⟨#[]⟩)),none,1⟩] none 0 []) (.seq (.reg 0 [⟨(some 3),.fa 0 (.tmp 1),none,0⟩,⟨(some 4),.ld 1 false (.tmp 3),none,0⟩,⟨(some 2),.mv (.tmp 4),none,0⟩] none 0 []) .ret))
theorem gc132_ok : compF Tryz.prog Tryz.f132 = some (gc132.er,5,[.tmp 2]) := by unfold gc132;kernel_rfl
set_option maxRecDepth 100000 in
set_option maxHeartbeats 4000000 in
theorem p_view_Contact_user_v (a0 : Ref35Contact) : CallsO Tryz.prog 132 [.agg [.s a0.User,.s a0.Name,.i a0.Show,.i a0.Ver]] V.s (p_view_Contact_user a0) := by
 refine callsO_comp mix Tryz.func132 gc132_ok fun r H=>?_
 rw [p_view_Contact_user] at H
 conv=>whnf
 exact fin0_c (enc := V.s) H (.inr rfl) (.cons (.tmp rfl) (.nil)) rfl rfl
def gc138 : BCode := (.seq (.reg 0 [⟨(some 4),.mv (.const (.bool false)),none,0⟩] none 0 []) (.seq (.seq (.reg 0 [⟨(some 5),.mv (.const (.int .i64 1)),none,0⟩] none 0 []) (.block 0 (.loop (.seq (.seq (.reg 0 [⟨(some 6),.mv (.tmp 5),none,0⟩,⟨(some 7),.mv (.tmp 0),none,0⟩,⟨(some 8),.lens (.tmp 7),none,0⟩,⟨(some 9),.bin .lss (.tmp 6) (.tmp 8),none,0⟩] none 0 []) (.cond (.tmp 9) .skip (.exit 0))) (.seq (.block 1 (.seq (.reg 0 [⟨(some 12),.mv (.tmp 1),none,0⟩,⟨(some 13),.mv (.tmp 0),none,0⟩,⟨(some 14),.mv (.tmp 5),none,0⟩,⟨(some 15),.bin .sub (.tmp 14) (.const (.int .i64 1)),none,0⟩,⟨(some 16),.ixs 4 (.tmp 13) (.tmp 15),none,0⟩,⟨(some 17),.ld 4 true (.tmp 16),none,0⟩,⟨(some 18),.cv (.tmp 12) [(.tmp 17)],none,0⟩,⟨(some 19),.mv (.tmp 1),none,0⟩,⟨(some 20),.mv (.tmp 0),none,0⟩,⟨(some 21),.mv (.tmp 5),none,0⟩,⟨(some 22),.ixs 4 (.tmp 20) (.tmp 21),none,0⟩,⟨(some 23),.ld 4 true (.tmp 22),none,0⟩,⟨(some 24),.cv (.tmp 19) [(.tmp 23)],none,0⟩,⟨(some 25),.bin .geq (.tmp 18) (.tmp 24),none,0⟩] (some [[],[],[],[2],[2,3,1],[1,3,2,4],[4,2,3,1,5,0],[],[],[],[9,8],[8,9,10],[0,5,1,3,2,4,6,10,9,8,11,7],[7,11,8,9,10,12,0,5,1,3,2,4,6]]) 0 []) (.cond (.tmp 25) (.seq (.reg 0 [⟨(some 4),.mv (.const (.bool false)),none,0⟩] none 0 []) .ret) .skip))) (.reg 0 [⟨(some 10),.mv (.tmp 5),none,0⟩,⟨(some 11),.bin .add (.tmp 10) (.const (.int .i64 1)),none,0⟩,⟨(some 5),.mv (.tmp 11),none,0⟩] none 0 [])))))) (.seq (.reg 0 [⟨(some 4),.mv (.const (.bool true)),none,0⟩] none 0 []) .ret)))
theorem gc138_ok : compF Tryz.prog Tryz.f138 = some (gc138.er,26,[.tmp 4]) := by unfold gc138;kernel_rfl
set_option maxRecDepth 100000 in
set_option maxHeartbeats 4000000 in
theorem p_view_rise_view_Contact__v {u1 : Bool} (a0 : List Ref35Contact) (a1 : Ref35Contact → Option ByteArray) {a1_g : Nat} {a1_k : List V} (a1_h : Clo1 Tryz.prog a1_g a1_k Ref35Contact.v V.s a1) : CallsO Tryz.prog 138 [.sl (List.map Ref35Contact.v a0) u1,.clo (.func a1_g) a1_k] V.b (p_view_rise_view_Contact_ a0 a1) := by
 refine callsO_comp mix Tryz.func138 gc138_ok fun r H=>?_
 rw [p_view_rise_view_Contact_] at H
 conv=>whnf
 obtain ⟨o2,HL3,HQ4⟩ := bind_c H
 refine loop_c [4,5] [6,7,8,9,10,11,12,13,14,15,16,17,18,19,20,21,22,23,24,25] [6,7,8,9,10,11,12,13,14,15,16,17,18,19,20,21,22,23,24,25] (fun n vals st=>(∃ y6,p_view_rise_view_Contact__l1  a1 a0 n y6 = some o2 ∧ vals = [.b false,.i y6] ∧ st = [])) fuel 0 [] (⟨_,HL3,rfl,rfl⟩) (Nat.zero_le _) rfl (by simp only [maskF,setF,List.set_cons_zero,List.set_cons_succ,V.ren.renL,V.ren,renL_id _ a1_h.own] <;> rfl) (by simp only [maskF,setF,List.set_cons_zero,List.set_cons_succ,V.idlt.belowL,V.idlt,fun n=>idltL_up (n := n) _ a1_h.own] <;> rfl) rfl trivial ?_
 rintro (_ | n5) _ _ (⟨y6,H,rfl,rfl⟩)
 ·rw [p_view_rise_view_Contact__l1] at H;cases H
 rw [p_view_rise_view_Contact__l1] at H
 conv=>whnf
 refine LenQ.M ?_;conv=>whnf
 refine tst_d H (fun b7 H=>?_) (fun b7 H=>?_)
 ·conv=>whnf
  obtain rfl := Option.some.inj H
  have H := HQ4
  try dsimp only at H
  exact fin0_c (enc := V.b) H (.inr rfl) (.cons (.tmp rfl) (.nil)) rfl rfl
 conv=>whnf
 refine Ari.w ?_;conv=>whnf
 refine ixs_c (f := Ref35Contact.v) H (fun _=>rfl) (fun x8 H=>?_);conv=>whnf
 refine askC_c a1_h H (.cons (fzagg (.cons (.id rfl) (.cons (.id rfl) (.cons (.id rfl) (.cons (.id rfl) (.nil))))) rfl) (.nil)) (fun v9 H=>?_);conv=>whnf
 refine ixs_c (f := Ref35Contact.v) H (fun _=>rfl) (fun x10 H=>?_);conv=>whnf
 refine askC_c a1_h H (.cons (fzagg (.cons (.id rfl) (.cons (.id rfl) (.cons (.id rfl) (.cons (.id rfl) (.nil))))) rfl) (.nil)) (fun v11 H=>?_);conv=>whnf
 refine FootQ.mk ⟨rfl,?_⟩;conv=>whnf
 refine Tst.not ?_
 refine tst_d H (fun b12 H=>?_) (fun b12 H=>?_)
 ·conv=>whnf
  obtain rfl := Option.some.inj H
  have H := HQ4
  try dsimp only at H
  exact fin0_c (enc := V.b) H (.inr rfl) (.cons (.tmp rfl) (.nil)) rfl rfl
 conv=>whnf
 refine Ari.w ?_;conv=>whnf
 exact again_c [6,7,8,9,10,11,12,13,14,15,16,17,18,19,20,21,22,23,24,25] n5 0 [] (⟨_,H,rfl,rfl⟩) (Nat.lt_succ_self _) (Nat.zero_le _) rfl (by simp only [maskF,setF,List.set_cons_zero,List.set_cons_succ,V.ren.renL,V.ren,renL_id _ a1_h.own] <;> rfl) (by simp only [maskF,setF,List.set_cons_zero,List.set_cons_succ,V.idlt.belowL,V.idlt,fun n=>idltL_up (n := n) _ a1_h.own] <;> rfl) rfl trivial
def gc74 : BCode := (.seq (.reg 1 [⟨(some 1),.bx (.tmp 0),none,0⟩,⟨(some 2),.mv (.const (.int .i64 0)),none,1⟩] none 0 []) (.seq (.seq (.reg 0 [⟨(some 7),.fa 0 (.tmp 1),none,0⟩,⟨(some 8),.ld 1 false (.tmp 7),none,0⟩,⟨(some 9),.lens (.tmp 8),none,0⟩,⟨(some 10),.fa 1 (.tmp 1),none,0⟩,⟨(some 11),.ld 1 false (.tmp 10),none,0⟩,⟨(some 12),.lens (.tmp 11),none,0⟩,⟨(some 13),.fa 3 (.tmp 1),none,0⟩,⟨(some 14),.ld 1 false (.tmp 13),none,0⟩,⟨(some 15),.lens (.tmp 14),none,0⟩,⟨(some 16),.fa 4 (.tmp 1),none,0⟩,⟨(some 17),.ld 1 false (.tmp 16),none,0⟩,⟨(some 18),.lens (.tmp 17),none,0⟩,⟨(some 19),.bd [(.lit (.int .i64 0)),(.lit (.int .i64 0)),(.lit (.int .i64 0)),(.lit (.int .i64 0))] [(0,1,(.tmp 9)),(1,1,(.tmp 12)),(2,1,(.tmp 15)),(3,1,(.tmp 18))],none,0⟩,⟨(some 20),.mv (.const (.int .i64 0)),none,0⟩] none 0 []) (.block 0 (.loop (.seq (.reg 0 [⟨(some 21),.bin .lss (.tmp 20) (.const (.int .i64 4)),none,0⟩] none 0 []) (.seq (.cond (.tmp 21) .skip (.exit 0)) (.seq (.block 1 (.seq (.reg 0 [⟨(some 22),.ixg 4 1 false (.tmp 19) (.tmp 20),none,0⟩,⟨(some 4),.mv (.tmp 22),none,0⟩] none 0 []) (.seq (.reg 0 [⟨(some 23),.mv (.tmp 4),none,0⟩,⟨(some 24),.bin .gtr (.tmp 23) (.const (.int .i64 64)),none,0⟩] none 0 []) (.cond (.tmp 24) (.seq (.reg 0 [⟨(some 2),.mv (.const (.int .i64 5)),none,0⟩] none 0 []) .ret) .skip)))) (.reg 0 [⟨(some 25),.bin .add (.tmp 20) (.const (.int .i64 1)),none,0⟩,⟨(some 20),.mv (.tmp 25),none,0⟩] none 0 []))))))) (.seq (.seq (.reg 0 [⟨(some 26),.fa 0 (.tmp 1),none,0⟩,⟨(some 27),.ld 1 false (.tmp 26),none,0⟩,⟨(some 28),.cl 134 [(.tmp 27),(.func 135)],none,0⟩,⟨(some 29),.fa 1 (.tmp 1),none,0⟩,⟨(some 30),.ld 1 false (.tmp 29),none,0⟩,⟨(some 31),.cl 134 [(.tmp 30),(.func 135)],none,0⟩,⟨(some 32),.fa 3 (.tmp 1),none,0⟩,⟨(some 33),.ld 1 false (.tmp 32),none,0⟩,⟨(some 34),.cl 136 [(.tmp 33),(.func 137)],none,0⟩,⟨(some 35),.fa 4 (.tmp 1),none,0⟩,⟨(some 36),.ld 1 false (.tmp 35),none,0⟩,⟨(some 37),.cl 138 [(.tmp 36),(.func 132)],none,0⟩,⟨(some 38),.bd [(.lit (.bool false)),(.lit (.bool false)),(.lit (.bool false)),(.lit (.bool false))] [(0,1,(.tmp 28)),(1,1,(.tmp 31)),(2,1,(.tmp 34)),(3,1,(.tmp 37))],none,0⟩,⟨(some 39),.mv (.const (.int .i64 0)),none,0⟩] (some [[],[0],[0,1],[],[3],[1,0,2,3,4],[],[6],[4,3,2,0,1,5,6,7],[],[9],[7,6,5,1,0,2,3,4,8,9,10],[10,9,11,7,6,8,4,3,5,1,0,2],[]]) 0 []) (.block 2 (.loop (.seq (.reg 0 [⟨(some 40),.bin .lss (.tmp 39) (.const (.int .i64 4)),none,0⟩] none 0 []) (.seq (.cond (.tmp 40) .skip (.exit 2)) (.seq (.block 3 (.seq (.reg 0 [⟨(some 41),.ixg 4 1 false (.tmp 38) (.tmp 39),none,0⟩,⟨(some 6),.mv (.tmp 41),none,0⟩] none 0 []) (.seq (.reg 0 [⟨(some 42),.mv (.tmp 6),none,0⟩,⟨(some 43),.un .not (.tmp 42),none,0⟩] none 0 []) (.cond (.tmp 43) (.seq (.reg 0 [⟨(some 2),.mv (.const (.int .i64 10)),none,0⟩] none 0 []) .ret) .skip)))) (.reg 0 [⟨(some 44),.bin .add (.tmp 39) (.const (.int .i64 1)),none,0⟩,⟨(some 39),.mv (.tmp 44),none,0⟩] none 0 []))))))) (.seq (.seq (.reg 0 [⟨(some 45),.fa 3 (.tmp 1),none,0⟩,⟨(some 46),.ld 1 false (.tmp 45),none,0⟩,⟨(some 47),.lens (.tmp 46),none,0⟩,⟨(some 48),.bin .gtr (.tmp 47) (.const (.int .i64 0)),none,0⟩,⟨(some 49),.mv (.tmp 48),none,0⟩,⟨(some 50),.fa 2 (.tmp 1),(some (49,true)),0⟩,⟨(some 51),.ld 1 false (.tmp 50),(some (49,true)),0⟩,⟨(some 52),.un .not (.tmp 51),(some (49,true)),0⟩,⟨(some 53),.pick (.tmp 49) (.tmp 52) (.const (.bool false)),none,0⟩,⟨(some 54),.mv (.tmp 53),none,0⟩,⟨(some 55),.fa 5 (.tmp 1),(some (54,false)),0⟩,⟨(some 56),.ld 1 false (.tmp 55),(some (54,false)),0⟩,⟨(some 57),.bin .lss (.tmp 56) (.const (.int .i64 0)),(some (54,false)),0⟩,⟨(some 58),.pick (.tmp 54) (.const (.bool true)) (.tmp 57),none,0⟩,⟨(some 59),.mv (.tmp 58),none,0⟩,⟨(some 60),.fa 5 (.tmp 1),(some (59,false)),0⟩,⟨(some 61),.ld 1 false (.tmp 60),(some (59,false)),0⟩,⟨(some 62),.bin .gtr (.tmp 61) (.const (.int .i64 1099511627776)),(some (59,false)),0⟩,⟨(some 63),.pick (.tmp 59) (.const (.bool true)) (.tmp 62),none,0⟩,⟨(some 64),.mv (.tmp 63),none,0⟩,⟨(some 65),.fa 6 (.tmp 1),(some (64,false)),0⟩,⟨(some 66),.ld 1 false (.tmp 65),(some (64,false)),0⟩,⟨(some 67),.bin .lss (.tmp 66) (.const (.int .i64 0)),(some (64,false)),0⟩,⟨(some 68),.pick (.tmp 64) (.const (.bool true)) (.tmp 67),none,0⟩,⟨(some 69),.mv (.tmp 68),none,0⟩,⟨(some 70),.fa 6 (.tmp 1),(some (69,false)),0⟩,⟨(some 71),.ld 1 false (.tmp 70),(some (69,false)),0⟩,⟨(some 72),.bin .gtr (.tmp 71) (.const (.int .i64 1099511627776)),(some (69,false)),0⟩,⟨(some 73),.pick (.tmp 69) (.const (.bool true)) (.tmp 72),none,0⟩] none 0 []) (.cond (.tmp 73) (.seq (.reg 0 [⟨(some 2),.mv (.const (.int .i64 9)),none,0⟩] none 0 []) .ret) .skip)) (.seq (.reg 0 [⟨(some 2),.mv (.const (.int .i64 0)),none,0⟩] none 0 []) .ret)))))
theorem gc74_ok : compF Tryz.prog Tryz.f74 = some (gc74.er,74,[.tmp 2]) := by unfold gc74;kernel_rfl
set_option maxRecDepth 100000 in
set_option maxHeartbeats 4000000 in
theorem p_view_Check_v {u1 u2 u3 u4 : Bool} (a0 : Ref35State) : CallsO Tryz.prog 74 [.agg [.sl (List.map MailEntry.v a0.Rows) u1,.sl (List.map MailEntry.v a0.Last) u2,.b a0.Anew,.sl (List.map V.s a0.Seen) u3,.sl (List.map Ref35Contact.v a0.List) u4,.i a0.Odd,.i a0.Told]] V.i (p_view_Check a0) := by
 refine callsO_comp mix Tryz.func74 gc74_ok fun r H=>?_
 rw [p_view_Check] at H
 conv=>whnf
 iterate 4 (refine LenQ.M ?_;conv=>whnf)
 obtain ⟨o2,HL3,HQ4⟩ := bind_c H
 refine loop_c [2,20] [4,21,22,23,24,25,7,10,13,16] [4,21,22,23,24,25,7,10,13,16] (fun n vals st=>(∃ y6,p_view_Check_l1  (Ar4_Int.mk (a0.Rows.length : Int) (a0.Last.length : Int) (a0.Seen.length : Int) (a0.List.length : Int)) n y6 = some o2 ∧ vals = [.i (0 : Int),.i y6] ∧ st = [.live [.sl (List.map MailEntry.v a0.Rows) u1,.sl (List.map MailEntry.v a0.Last) u2,.b a0.Anew,.sl (List.map V.s a0.Seen) u3,.sl (List.map Ref35Contact.v a0.List) u4,.i a0.Odd,.i a0.Told] 0])) fuel 1 [] (⟨_,HL3,rfl,rfl⟩) (Nat.zero_le _) rfl (by kernel_rfl) (by kernel_rfl) rfl ⟨⟨rfl,rfl,rfl⟩,trivial⟩ ?_
 rintro (_ | n5) _ _ (⟨y6,H,rfl,rfl⟩)
 ·rw [p_view_Check_l1] at H;cases H
 rw [p_view_Check_l1] at H
 conv=>whnf
 refine tst_c H (fun b7 H=>?_) (fun b7 H=>?_)
 ·conv=>whnf
  refine ixg_c (f := V.i) (T := [(a0.Rows.length : Int),(a0.Last.length : Int),(a0.Seen.length : Int),(a0.List.length : Int)]) H rfl rfl (fun x8 H=>?_);conv=>whnf
  refine tst_c H (fun b9 H=>?_) (fun b9 H=>?_)
  ·conv=>whnf
   obtain rfl := Option.some.inj H
   have H := HQ4
   try dsimp only at H
   exact fin0_c (enc := V.i) H (.inr rfl) (.cons (.tmp rfl) (.nil)) rfl rfl
  conv=>whnf
  refine Ari.w ?_;conv=>whnf
  exact again_c [4,21,22,23,24,25,7,10,13,16] n5 1 [] (⟨_,H,rfl,rfl⟩) (Nat.lt_succ_self _) (Nat.zero_le _) rfl (by kernel_rfl) (by kernel_rfl) rfl ⟨⟨rfl,rfl,rfl⟩,trivial⟩
 conv=>whnf
 obtain rfl := Option.some.inj H
 have H := HQ4
 try dsimp only at H
 refine askF_c (p_view_rise_view_Row__v _ _ ⟨⟨_,Tryz.func135,by kernel_rfl,by kernel_rfl⟩,rfl,fun x0=>p_view_Row_key_v _⟩) H (.cons (.c (.slw)) (.cons (.c (.clo (.nil))) (.nil))) (fun v10 H=>?_);conv=>whnf
 refine askF_c (p_view_rise_view_Row__v _ _ ⟨⟨_,Tryz.func135,by kernel_rfl,by kernel_rfl⟩,rfl,fun x0=>p_view_Row_key_v _⟩) H (.cons (.c (.slw)) (.cons (.c (.clo (.nil))) (.nil))) (fun v11 H=>?_);conv=>whnf
 refine askF_c (p_view_rise_string__v _ _ ⟨⟨_,Tryz.func137,by kernel_rfl,by kernel_rfl⟩,rfl,fun x0=>p_view_itself_v _⟩) H (.cons (.c (.slw)) (.cons (.c (.clo (.nil))) (.nil))) (fun v12 H=>?_);conv=>whnf
 refine askF_c (p_view_rise_view_Contact__v _ _ ⟨⟨_,Tryz.func132,by kernel_rfl,by kernel_rfl⟩,rfl,fun x0=>p_view_Contact_user_v _⟩) H (.cons (.c (.slw)) (.cons (.c (.clo (.nil))) (.nil))) (fun v13 H=>?_);conv=>whnf
 refine FootQ.mk ⟨rfl,?_⟩;conv=>whnf
 obtain ⟨o15,HL16,HQ17⟩ := bind_c H
 refine loop_c [2,39] [6,40,41,42,43,44,26,29,32,35] [6,40,41,42,43,44,26,29,32,35] (fun n vals st=>(∃ y19,p_view_Check_l2  (Ar4_Bool.mk v10 v11 v12 v13) n y19 = some o15 ∧ vals = [.i (0 : Int),.i y19] ∧ st = [.live [.sl (List.map MailEntry.v a0.Rows) u1,.sl (List.map MailEntry.v a0.Last) u2,.b a0.Anew,.sl (List.map V.s a0.Seen) u3,.sl (List.map Ref35Contact.v a0.List) u4,.i a0.Odd,.i a0.Told] 0])) fuel 1 [] (⟨_,HL16,rfl,rfl⟩) (Nat.zero_le _) rfl (by kernel_rfl) (by kernel_rfl) rfl ⟨⟨rfl,rfl,rfl⟩,trivial⟩ ?_
 rintro (_ | n18) _ _ (⟨y19,H,rfl,rfl⟩)
 ·rw [p_view_Check_l2] at H;cases H
 rw [p_view_Check_l2] at H
 conv=>whnf
 refine tst_c H (fun b20 H=>?_) (fun b20 H=>?_)
 ·conv=>whnf
  refine ixg_c (f := V.b) (T := [v10,v11,v12,v13]) H rfl rfl (fun x21 H=>?_);conv=>whnf
  refine Tst.not ?_
  refine tst_d H (fun b22 H=>?_) (fun b22 H=>?_)
  ·conv=>whnf
   obtain rfl := Option.some.inj H
   have H := HQ17
   try dsimp only at H
   exact fin0_c (enc := V.i) H (.inr rfl) (.cons (.tmp rfl) (.nil)) rfl rfl
  conv=>whnf
  refine Ari.w ?_;conv=>whnf
  exact again_c [6,40,41,42,43,44,26,29,32,35] n18 1 [] (⟨_,H,rfl,rfl⟩) (Nat.lt_succ_self _) (Nat.zero_le _) rfl (by kernel_rfl) (by kernel_rfl) rfl ⟨⟨rfl,rfl,rfl⟩,trivial⟩
 conv=>whnf
 obtain rfl := Option.some.inj H
 have H := HQ17
 try dsimp only at H
 refine LenQ.M ?_;conv=>whnf
 refine tst_d H (fun b23 H=>?_) (fun b23 H=>?_)
 ·conv=>whnf
  iterate 7 (refine Tst.F ?_;conv=>whnf)
  refine tst_c H (fun b29 H=>?_) (fun b29 H=>?_)
  ·conv=>whnf
   iterate 12 (refine Tst.T ?_;conv=>whnf)
   exact fin0_c (enc := V.i) H (.inr rfl) (.cons (.tmp rfl) (.nil)) rfl rfl
  conv=>whnf
  iterate 3 (refine Tst.F ?_;conv=>whnf)
  refine tst_c H (fun b30 H=>?_) (fun b30 H=>?_)
  ·conv=>whnf
   iterate 8 (refine Tst.T ?_;conv=>whnf)
   exact fin0_c (enc := V.i) H (.inr rfl) (.cons (.tmp rfl) (.nil)) rfl rfl
  conv=>whnf
  iterate 3 (refine Tst.F ?_;conv=>whnf)
  refine tst_c H (fun b31 H=>?_) (fun b31 H=>?_)
  ·conv=>whnf
   iterate 4 (refine Tst.T ?_;conv=>whnf)
   exact fin0_c (enc := V.i) H (.inr rfl) (.cons (.tmp rfl) (.nil)) rfl rfl
  conv=>whnf
  iterate 3 (refine Tst.F ?_;conv=>whnf)
  refine tst_c H (fun b32 H=>?_) (fun b32 H=>?_)
  ·conv=>whnf
   exact fin0_c (enc := V.i) H (.inr rfl) (.cons (.tmp rfl) (.nil)) rfl rfl
  conv=>whnf
  exact fin0_c (enc := V.i) H (.inr rfl) (.cons (.tmp rfl) (.nil)) rfl rfl
 conv=>whnf
 iterate 3 (refine Tst.T ?_;conv=>whnf)
 refine Tst.not ?_
 refine tst_d H (fun b24 H=>?_) (fun b24 H=>?_)
 ·conv=>whnf
  iterate 16 (refine Tst.T ?_;conv=>whnf)
  exact fin0_c (enc := V.i) H (.inr rfl) (.cons (.tmp rfl) (.nil)) rfl rfl
 conv=>whnf
 iterate 3 (refine Tst.F ?_;conv=>whnf)
 refine tst_c H (fun b25 H=>?_) (fun b25 H=>?_)
 ·conv=>whnf
  iterate 12 (refine Tst.T ?_;conv=>whnf)
  exact fin0_c (enc := V.i) H (.inr rfl) (.cons (.tmp rfl) (.nil)) rfl rfl
 conv=>whnf
 iterate 3 (refine Tst.F ?_;conv=>whnf)
 refine tst_c H (fun b26 H=>?_) (fun b26 H=>?_)
 ·conv=>whnf
  iterate 8 (refine Tst.T ?_;conv=>whnf)
  exact fin0_c (enc := V.i) H (.inr rfl) (.cons (.tmp rfl) (.nil)) rfl rfl
 conv=>whnf
 iterate 3 (refine Tst.F ?_;conv=>whnf)
 refine tst_c H (fun b27 H=>?_) (fun b27 H=>?_)
 ·conv=>whnf
  iterate 4 (refine Tst.T ?_;conv=>whnf)
  exact fin0_c (enc := V.i) H (.inr rfl) (.cons (.tmp rfl) (.nil)) rfl rfl
 conv=>whnf
 iterate 3 (refine Tst.F ?_;conv=>whnf)
 refine tst_c H (fun b28 H=>?_) (fun b28 H=>?_)
 ·conv=>whnf
  exact fin0_c (enc := V.i) H (.inr rfl) (.cons (.tmp rfl) (.nil)) rfl rfl
 conv=>whnf
 exact fin0_c (enc := V.i) H (.inr rfl) (.cons (.tmp rfl) (.nil)) rfl rfl
def gc254 : BCode := (.seq (.reg 0 [⟨(some 5),.mv (.const (.int .i64 0)),none,0⟩] none 0 []) (.seq (.reg 0 [⟨(some 6),.ld 1 false (.tmp 2),none,0⟩,⟨(some 7),.mv (.tmp 0),none,0⟩,⟨(some 8),.cv (.tmp 6) [(.tmp 7)],none,0⟩,⟨(some 9),.mv (.tmp 1),none,0⟩,⟨(some 10),.cl 183 [(.tmp 8),(.tmp 9)],none,0⟩,⟨(some 5),.mv (.tmp 10),none,0⟩] none 0 []) .ret))
theorem gc254_ok : compF Tryz.prog Tryz.f254 = some (gc254.er,11,[.tmp 5]) := by unfold gc254;kernel_rfl
set_option maxRecDepth 100000 in
set_option maxHeartbeats 4000000 in
theorem p_view_find_string__1_v (a0 : ByteArray) (a1 : ByteArray) (c0 : ByteArray → Option ByteArray) {c0_g : Nat} {c0_k : List V} (c0_h : Clo1 Tryz.prog c0_g c0_k V.s V.s c0) : CallsO Tryz.prog 254 [.s a0,.s a1,.eptr [.clo (.func c0_g) c0_k]] V.i (p_view_find_string__1 a0 a1 c0) := by
 refine callsO_comp mix Tryz.func254 gc254_ok fun r H=>?_
 rw [p_view_find_string__1] at H
 conv=>whnf
 refine askC_c c0_h H (.cons (.c (.id rfl)) (.nil)) (fun v1 H=>?_);conv=>whnf
 refine ask_c (p_strings_Compare_v _ _) H rfl rfl (fun v2 H=>?_);conv=>whnf
 exact fin0_c (enc := V.i) H (.inr rfl) (.cons (.tmp rfl) (.nil)) rfl rfl
end Go.Proofs.YthlhbgedidipkaaGreat

/- slices.DeleteFunc at function 202. -/
namespace Go.Proofs.YthlhbgedidipkaaGreat
open Go.RowKit
def dc202 : BCode := (.seq (.reg 0 [⟨(some 4), .mv (.const (.slice none 0 0)), none, 0⟩] none 0 []) (.seq (.reg 0 [⟨(some 8), .mv (.tmp 0), none, 0⟩, ⟨(some 9), .mv (.tmp 1), none, 0⟩, ⟨(some 10), .cl 191 [(.tmp 8), (.tmp 9)], none, 0⟩, ⟨(some 5), .mv (.tmp 10), none, 0⟩] none 0 []) (.seq (.seq (.reg 0 [⟨(some 11), .mv (.tmp 5), none, 0⟩, ⟨(some 12), .bin .eql (.tmp 11) (.const (.int .i64 (-1))), none, 0⟩] none 0 []) (.cond (.tmp 12) (.seq (.reg 0 [⟨(some 13), .mv (.tmp 0), none, 0⟩, ⟨(some 4), .mv (.tmp 13), none, 0⟩] none 0 []) .ret) .skip)) (.seq (.seq (.reg 0 [⟨(some 14), .mv (.tmp 5), none, 0⟩, ⟨(some 15), .bin .add (.tmp 14) (.const (.int .i64 1)), none, 0⟩, ⟨(some 6), .mv (.tmp 15), none, 0⟩] none 0 []) (.block 0 (.loop (.seq (.seq (.reg 0 [⟨(some 16), .mv (.tmp 6), none, 0⟩, ⟨(some 17), .mv (.tmp 0), none, 0⟩, ⟨(some 18), .lens (.tmp 17), none, 0⟩, ⟨(some 19), .bin .lss (.tmp 16) (.tmp 18), none, 0⟩] none 0 []) (.cond (.tmp 19) .skip (.exit 0))) (.seq (.block 1 (.seq (.reg 1 [⟨(some 22), .mv (.tmp 0), none, 0⟩, ⟨(some 23), .mv (.tmp 6), none, 0⟩, ⟨(some 24), .ixs 5 (.tmp 22) (.tmp 23), none, 0⟩, ⟨(some 25), .ld 5 true (.tmp 24), none, 0⟩, ⟨(some 7), .al (.agg [(.lit (.string ⟨#[]⟩)), (.lit (.bool false)), (.lit (.int .i64 0)), (.lit (.int .i64 0)), (.lit (.int .i64 0))]), none, 0⟩, ⟨none, .st 5 (.tmp 7) (.tmp 25), none, 1⟩] none 0 []) (.seq (.reg 0 [⟨(some 26), .mv (.tmp 1), none, 0⟩, ⟨(some 27), .ld 5 true (.tmp 7), none, 0⟩, ⟨(some 28), .cv (.tmp 26) [(.tmp 27)], none, 0⟩, ⟨(some 29), .un .not (.tmp 28), none, 0⟩] none 0 []) (.cond (.tmp 29) (.seq (.reg 0 [⟨(some 30), .mv (.tmp 0), none, 0⟩, ⟨(some 31), .mv (.tmp 5), none, 0⟩, ⟨(some 32), .ld 5 true (.tmp 7), none, 0⟩, ⟨(some 33), .ixs 5 (.tmp 30) (.tmp 31), none, 0⟩, ⟨none, .st 5 (.tmp 33) (.tmp 32), none, 0⟩] none 0 []) (.reg 0 [⟨(some 34), .mv (.tmp 5), none, 0⟩, ⟨(some 35), .bin .add (.tmp 34) (.const (.int .i64 1)), none, 0⟩, ⟨(some 5), .mv (.tmp 35), none, 0⟩] none 0 [])) .skip)))) (.reg 0 [⟨(some 20), .mv (.tmp 6), none, 0⟩, ⟨(some 21), .bin .add (.tmp 20) (.const (.int .i64 1)), none, 0⟩, ⟨(some 6), .mv (.tmp 21), none, 0⟩] none 0 [])))))) (.seq (.reg 0 [⟨(some 36), .mv (.tmp 0), none, 0⟩, ⟨(some 37), .mv (.tmp 5), none, 0⟩, ⟨(some 38), .sls 5 (.tmp 36) (some (.tmp 37)) none none, none, 0⟩, ⟨none, .clr 5 (.tmp 38), none, 0⟩] none 0 []) (.seq (.reg 0 [⟨(some 39), .mv (.tmp 0), none, 0⟩, ⟨(some 40), .mv (.tmp 5), none, 0⟩, ⟨(some 41), .sls 5 (.tmp 39) none (some (.tmp 40)) none, none, 0⟩, ⟨(some 4), .mv (.tmp 41), none, 0⟩] none 0 []) .ret))))))
theorem dc202_ok : compF Tryz.prog Tryz.f202 = some (dc202.er, 42, [.tmp 4]) := by unfold dc202; kernel_rfl
theorem dfi202 (fn : MailEntry → Option Bool) (p : MailEntry → Bool) (rows : List MailEntry) (hn : rows.length ≤ 1000000) (hf : ∀ x ∈ rows, fn x = some (p x)) : ∀ (n k F : Nat), k + n = rows.length → n < F →
    p_slices_IndexFunc_view_Row_l1 fn rows rows.length F k = some (if (rows.drop k).any p = true then .inl ((k + (rows.drop k).findIdx p : Nat) : Int) else .inr (rows.length : Int))
  | 0, k, F + 1, hk, hF => by
    have e : rows.drop k = [] := List.drop_of_length_le (by omega)
    have : k = rows.length := by omega
    rw [p_slices_IndexFunc_view_Row_l1, lt_ff (by omega), e, this]; rfl
  | n + 1, k, F + 1, hk, hF => by
    have hlt : k < rows.length := by omega
    rw [p_slices_IndexFunc_view_Row_l1, lt_tt hlt, at_lt hlt, drop_at hlt]
    simp only [cond_true, Option.bind_some, hf _ (List.getElem_mem hlt)]
    cases hp : p rows[k] with
    | true => rw [List.any_cons, hp, List.findIdx_cons, hp]; rfl
    | false =>
      simp only [cond_false]
      rw [w64_succ (by omega), dfi202 fn p rows hn hf n (k + 1) F (by omega) (by omega)]
      simp only [List.any_cons, hp, Bool.false_or, List.findIdx_cons, cond_false]
      split
      · congr 3; omega
      · rfl
theorem dfx202 {fn : MailEntry → Option Bool} (p : MailEntry → Bool) {rows : List MailEntry} (hn : rows.length ≤ 1000000) (hf : ∀ x ∈ rows, fn x = some (p x)) : p_slices_IndexFunc_view_Row rows fn = some (if rows.any p = true then (rows.findIdx p : Int) else -1) := by
  unfold p_slices_IndexFunc_view_Row
  have := dfi202 fn p rows hn hf rows.length 0 fuel (by omega) (by have := fuel_pos; omega)
  rw [show ((0 : Int)) = ((0 : Nat) : Int) from rfl, this, List.drop_zero]
  cases rows.any p <;> simp
set_option maxRecDepth 100000 in
set_option maxHeartbeats 4000000 in
theorem dfS202 (l : List MailEntry) {g : Nat} {caps : List V} {fn : MailEntry → Option Bool} (hc : Clo1 Tryz.prog g caps MailEntry.v V.b fn) (p : MailEntry → Bool) (hn : l.length ≤ 1000000) (hf : ∀ x ∈ l, fn x = some (p x)) :
    CallsS Tryz.prog 202 [.osl 0 0 l.length 5 false, .clo (.func g) caps] [.live (cellsM MailEntry.v l) 0] (.osl 0 0 (l.filter fun x => !p x).length 5 false) [.live (cellsM MailEntry.v (l.filter fun x => !p x)) 0] := by
  refine callsR_c (n0 := 1) mix Tryz.func202 dc202_ok rfl ?_
  conv => whnf
  refine askT_c (X := some) (r := if l.any p = true then (l.findIdx p : Int) else -1) [0] (p_slices_IndexFunc_view_Row_v l fn hc) (by rw [dfx202 p hn hf]; rfl) (.cons (.c (fzown (f := MailEntry.v) (l := l) rfl rfl (fun _ => rfl) (fun _ => rfl))) (.cons (.c (.id (by exact hc.own))) .nil)) (fun _ => rfl) (fun x H => ?_)
  obtain rfl := Option.some.inj H
  conv => whnf
  by_cases hany : l.any p = true
  · rw [if_pos hany]
    have hk0 : l.findIdx p < l.length := List.findIdx_lt_length_of_exists (by simpa using hany)
    refine Tst.isF (beq_eq_false_iff_ne.2 (by omega)) ?_; conv => whnf
    refine Ari.w ?_; conv => whnf
    have hw : IntKind.i64.wrap ((l.findIdx p : Int) + 1) = ((l.findIdx p + 1 : Nat) : Int) := w64_succ (by omega)
    rw [hw]
    refine loop_c [5, 6] [7, 16, 17, 18, 19, 20, 21, 22, 23, 24, 25, 26, 27, 28, 29, 30, 31, 32, 33, 34, 35] [7, 16, 17, 18, 19, 20, 21, 22, 23, 24, 25, 26, 27, 28, 29, 30, 31, 32, 33, 34, 35] (fun n vals st => ∃ (i j : Nat) (y : List MailEntry), vals = [.i i, .i j] ∧ st = [.live (cellsM MailEntry.v y) 0] ∧ y.length = l.length ∧ i < j ∧ j ≤ l.length ∧ y.drop j = l.drop j ∧ y.take i = (l.take j).filter (fun x => !p x) ∧ i ≤ l.length ∧ n = l.length - j) (l.length - (l.findIdx p + 1)) 1 [] ⟨l.findIdx p, l.findIdx p + 1, l, rfl, rfl, rfl, by omega, by omega, rfl, df_start hk0, by omega, rfl⟩ (Nat.le_refl _) rfl
      (by simp only [maskF, setF, List.set_cons_zero, List.set_cons_succ, V.ren.renL, V.ren, renL_id _ hc.own] <;> rfl) (by simp only [maskF, setF, List.set_cons_zero, List.set_cons_succ, V.idlt.belowL, V.idlt, fun n => idltL_up (n := n) _ hc.own] <;> rfl) rfl (wkB_live0 rfl (cellsM_idlt (f := MailEntry.v) (fun _ => rfl) _) rfl trivial) ?_
    rintro n _ _ ⟨i, j, y, rfl, rfl, hyl, hij, hjl, hyd, hyt, hil, rfl⟩
    conv => whnf
    by_cases hj : j < l.length
    · refine Tst.isT (lt_tt hj) ?_; conv => whnf
      have hmem : l[j] ∈ l := List.getElem_mem hj
      have hx : y[(j : Int).toNat]? = some l[j] := by
        rw [Int.toNat_natCast]
        have h1 : (y.drop j)[0]? = (l.drop j)[0]? := by rw [hyd]
        rw [List.getElem?_drop, List.getElem?_drop, Nat.add_zero] at h1
        rw [h1, List.getElem?_eq_getElem hj]
      refine ⟨rfl, ⟨Int.natCast_nonneg _, by rw [Int.toNat_natCast]; exact hj, ?_⟩⟩; conv => whnf
      refine ldo_c (f := MailEntry.v) (es := 5) hx (fun _ => rfl) 0 (by omega) (by decide) ?_; conv => whnf
      refine ⟨Nat.le_of_ble_eq_true rfl, ?_⟩; conv => whnf
      refine askC_c (X := some) (r := p l[j]) (a := l[j]) hc (by rw [hf _ hmem]; rfl) (fza_ids rfl) (fun v H => ?_)
      obtain rfl := Option.some.inj H
      conv => whnf
      have hw1 : IntKind.i64.wrap ((j : Int) + 1) = ((j + 1 : Nat) : Int) := w64_succ (by omega)
      have hw2 : IntKind.i64.wrap ((i : Int) + 1) = ((i + 1 : Nat) : Int) := w64_succ (by omega)
      cases hp : p l[j] with
      | false =>
        refine Tst.isT rfl ?_; conv => whnf
        refine ⟨rfl, ⟨Int.natCast_nonneg _, by rw [Int.toNat_natCast]; omega, ?_⟩⟩; conv => whnf
        refine ⟨Nat.zero_le _, sto_c (f := MailEntry.v) (l := y) (n := i) (es := 5) (x := y[i]'(by omega)) (List.getElem?_eq_getElem (by omega)) (x' := l[j]) (fun _ => rfl) 0 (by rw [Int.toNat_natCast]; omega) (Nat.le_of_ble_eq_true rfl) (by rfl) ?_⟩; conv => whnf
        refine Ari.w ?_; conv => whnf
        refine Ari.w ?_; conv => whnf
        rw [hw1, hw2]
        have hd := df_keep hyl hij hj hyd hyt hp
        exact again_c [7, 16, 17, 18, 19, 20, 21, 22, 23, 24, 25, 26, 27, 28, 29, 30, 31, 32, 33, 34, 35] (l.length - (j + 1)) 1 [] ⟨i + 1, j + 1, y.set i l[j], rfl, rfl, by rw [List.length_set]; exact hyl, by omega, by omega, hd.1, hd.2, by omega, rfl⟩ (by omega) (Nat.le_refl _) rfl
          (by simp only [maskF, setF, List.set_cons_zero, List.set_cons_succ, V.ren.renL, V.ren, renL_id _ hc.own] <;> rfl) (by simp only [maskF, setF, List.set_cons_zero, List.set_cons_succ, V.idlt.belowL, V.idlt, fun n => idltL_up (n := n) _ hc.own] <;> rfl) rfl (wkB_live0 rfl (cellsM_idlt (f := MailEntry.v) (fun _ => rfl) _) rfl trivial)
      | true =>
        refine Tst.isF rfl ?_; conv => whnf
        refine Ari.w ?_; conv => whnf
        rw [hw1]
        have hd := df_skip hj hyd hyt hp
        exact again_c [7, 16, 17, 18, 19, 20, 21, 22, 23, 24, 25, 26, 27, 28, 29, 30, 31, 32, 33, 34, 35] (l.length - (j + 1)) 1 [] ⟨i, j + 1, y, rfl, rfl, hyl, by omega, by omega, hd.1, hd.2, hil, rfl⟩ (by omega) (Nat.le_refl _) rfl
          (by simp only [maskF, setF, List.set_cons_zero, List.set_cons_succ, V.ren.renL, V.ren, renL_id _ hc.own] <;> rfl) (by simp only [maskF, setF, List.set_cons_zero, List.set_cons_succ, V.idlt.belowL, V.idlt, fun n => idltL_up (n := n) _ hc.own] <;> rfl) rfl (wkB_live0 rfl (cellsM_idlt (f := MailEntry.v) (fun _ => rfl) _) rfl trivial)
    · refine Tst.isF (lt_ff (by omega)) ?_; conv => whnf
      have hjl' : j = l.length := by omega
      subst hjl'
      rw [List.take_length] at hyt
      have hfl : (l.filter fun x => !p x).length = i := by rw [← hyt, List.length_take]; omega
      refine ⟨rfl, sloT_c i rfl (by omega) ?_⟩; conv => whnf
      refine ⟨rfl, clr_c (cs' := cellsM MailEntry.v (l.filter fun x => !p x)) (Nat.zero_le _) (by rw [cellsM_len (f := MailEntry.v) (es := 5) (fun _ => rfl), hyl]; exact (Nat.zero_add _).symm ▸ Nat.mul_le_mul_right _ (by omega)) (by omega) (by rw [Nat.zero_add, ← hyt]; exact (cellsM_take (f := MailEntry.v) (es := 5) (fun _ => rfl) y i (by omega)).1.symm) ?_⟩; conv => whnf
      refine ⟨rfl, sloP_c i rfl (by omega) ?_⟩; conv => whnf
      rw [hfl]
      exact ⟨f_R0 (.inr rfl) (.cons (.tmp rfl) .nil) rfl rfl rfl rfl ⟨idltL_up _ (cellsM_idlt (f := MailEntry.v) (fun _ => rfl) _), trivial⟩⟩
  · rw [if_neg hany]
    refine Tst.isT rfl ?_; conv => whnf
    have hfe : (l.filter fun x => !p x) = l := List.filter_eq_self.2 fun x hx => by
      have := fun h => hany (List.any_eq_true.2 ⟨x, hx, h⟩)
      simpa using this
    rw [hfe]
    exact ⟨f_R0 (.inr rfl) (.cons (.tmp rfl) .nil) rfl rfl rfl rfl ⟨idltL_up _ (cellsM_idlt (f := MailEntry.v) (fun _ => rfl) _), trivial⟩⟩
theorem delF202_v : DelFSaid Tryz.prog 202 MailEntry.v 5 := fun l _ _ _ hc p hn hf => dfS202 l hc p hn hf
theorem delF202_n : DelFNil Tryz.prog 202 MailEntry.v := fun {g} {caps} {fn} hc => by
  refine callsO_comp mix Tryz.func202 dc202_ok (fun r H0 => ?_)
  conv => whnf
  refine askF_c (X := some) (r := (-1 : Int)) (p_slices_IndexFunc_view_Row_v [] fn hc) (by rfl) (.cons (.c .slw) (.cons (.c (.id (by exact hc.own))) .nil)) (fun x H => ?_)
  obtain rfl := Option.some.inj H
  conv => whnf
  refine Tst.isT rfl ?_; conv => whnf
  exact fin0_c (enc := fun _ : Unit => V.sl [] true) H0 (.inr rfl) (.cons (.tmp rfl) .nil) rfl rfl
end Go.Proofs.YthlhbgedidipkaaGreat

/- slices.Clone at function 203. -/
namespace Go.Proofs.YthlhbgedidipkaaGreat
open Go.RowKit Go.Lib
set_option maxHeartbeats 4000000 in
set_option maxRecDepth 100000 in
theorem cloS203 (A : Addr) (n c : Nat) (cs : List Value) (w : World) (hn : 0 < n) (hbig : n ≤ 1000000) (hcl : cs.length = n * 5) (hcs : ∀ j v, cs[j]? = some v → w.cell? (A.add j) = some v) (h1 : ∀ v ∈ cs, v.oneCell' = true) :
    Calls Tryz.prog 203 #[.slice (some A) n c] w fun e w' => ∃ ZS : Array Value, e = .returned (.slice (some ⟨w.heap.size + 1, 0, none⟩) n (grownCap (w.alloc (.cells #[] 218)) n 0 218)) ∧ w' = (w.alloc (.cells #[] 218)).drew.alloc (.cells (cs.toArray ++ ZS) 218) ∧ grownCap (w.alloc (.cells #[] 218)) n 0 218 * 5 ≤ (cs.toArray ++ ZS).size := by
  have tS : Tryz.prog.underlying 121 = some (.slice 218) := by kernel_rfl
  have uS := run_underlying tS
  have qS : ∀ (w : World) (a : Option Addr) (n c n' c' : Nat), (binOp .eql 121 (.slice a n c) (.slice none n' c')).run Tryz.prog w = .ok (.bool a.isNone) w := fun w a n c n' c' => Lib.run_eql_slice_nil w _ _ a n c n' c' tS
  have mixed : Tryz.prog.follows .mixedOrders = true := mix
  obtain ⟨i0, z, hi0, hzs, hz0, hzc, hzb⟩ := infB_ok (P := Tryz.prog) (e := 218) (es := 5) (by kernel_rfl)
  have hsrc : Src Tryz.prog i0.size 121 (.slice (some A) n c) n cs (w.alloc (.cells #[] 218)) := by
    rw [hzs]
    exact Src.ofSlice _ tS A n c cs (by omega) (fun j u hj => Lib.cell?_alloc_some _ (hcs j u hj)) h1
  have hold : (Builtin.firstCells i0.size 0 (.slice (some ⟨w.heap.size, 0, none⟩) 0 0)).run Tryz.prog (w.alloc (.cells #[] 218)).drew = .ok ([] : List Value).toArray (w.alloc (.cells #[] 218)).drew := by
    rw [hzs]
    exact run_firstCells_some _ 5 0 ⟨w.heap.size, 0, none⟩ 0 0 [] (by simp) (fun j v hj => by simp at hj)
  have hrun : ∀ ty, (Builtin.append_ #[121, 121] ty #[.slice (some ⟨w.heap.size, 0, none⟩) 0 0, .slice (some A) n c]).run Tryz.prog (w.alloc (.cells #[] 218)) = _ := fun ty =>
    run_append_grow_src (w.alloc (.cells #[] 218)) 121 121 ty 218 i0 z tS hi0 hz0 (some ⟨w.heap.size, 0, none⟩) 0 0 [] hold _ n cs hsrc (by omega) (by omega) (growslice_fits (by omega) (grown_bound (by omega) hzb))
  simp only [Nat.zero_add, List.nil_append, World.size_alloc] at hrun
  have hge := grownCap_ge (w.alloc (.cells #[] 218)) n 0 218
  have hsz : grownCap (w.alloc (.cells #[] 218)) n 0 218 * 5 ≤ (cs.toArray ++ Builtin.zeroCells z.cells (grownCap (w.alloc (.cells #[] 218)) n 0 218 - n)).size := by
    simp only [Array.size_append, size_zeroCells, hzc, List.size_toArray, hcl]
    omega
  obtain ⟨ZS, hrun, hsz⟩ : ∃ ZS : Array Value, (∀ ty, (Builtin.append_ #[121, 121] ty #[.slice (some ⟨w.heap.size, 0, none⟩) 0 0, .slice (some A) n c]).run Tryz.prog (w.alloc (.cells #[] 218)) = .ok (.slice (some ⟨w.heap.size + 1, 0, none⟩) n (grownCap (w.alloc (.cells #[] 218)) n 0 218)) ((w.alloc (.cells #[] 218)).drew.alloc (.cells (cs.toArray ++ ZS) 218))) ∧ grownCap (w.alloc (.cells #[] 218)) n 0 218 * 5 ≤ (cs.toArray ++ ZS).size := ⟨_, hrun, hsz⟩
  have main : Calls Tryz.prog 203 #[.slice (some A) n c] w fun e w' => e = .returned (.slice (some ⟨w.heap.size + 1, 0, none⟩) n (grownCap (w.alloc (.cells #[] 218)) n 0 218)) ∧ w' = (w.alloc (.cells #[] 218)).drew.alloc (.cells (cs.toArray ++ ZS) 218) := by
    clear hsz hold hsrc hz0 hcs
    go_enter Tryz.func203, Tryz.ntmps203
    go_wp2_with (at_builtin; refine Lib.wpList_append_run _ rfl _ _ _ _ rfl _ _ rfl rfl _ _ (hrun _) ?_)
    go_ret
    exact ⟨rfl, rfl⟩
  refine main.mono ?_
  rintro e w' ⟨rfl, rfl⟩
  exact ⟨ZS, rfl, rfl, hsz⟩
set_option maxHeartbeats 4000000 in
set_option maxRecDepth 100000 in
theorem cloZ203 (A : Addr) (c : Nat) (w : World) : Calls Tryz.prog 203 #[.slice (some A) 0 c] w fun e w' => e = .returned (.slice (some ⟨w.heap.size, 0, none⟩) 0 0) ∧ ∃ q, w' = (w.alloc (.cells #[] 218)).drewN q := by
  have tS : Tryz.prog.underlying 121 = some (.slice 218) := by kernel_rfl
  have uS := run_underlying tS
  have qS : ∀ (w : World) (a : Option Addr) (n c n' c' : Nat), (binOp .eql 121 (.slice a n c) (.slice none n' c')).run Tryz.prog w = .ok (.bool a.isNone) w := fun w a n c n' c' => Lib.run_eql_slice_nil w _ _ a n c n' c' tS
  have mixed : Tryz.prog.follows .mixedOrders = true := mix
  obtain ⟨i0, z, hi0, hzs, hz0, hzc, hzb⟩ := infB_ok (P := Tryz.prog) (e := 218) (es := 5) (by kernel_rfl)
  have hsz : (Tryz.prog.info? 218).map (·.size) = some 5 := by rw [hi0]; simp [hzs]
  have hrun : ∀ ty, (Builtin.append_ #[121, 121] ty #[.slice (some ⟨w.heap.size, 0, none⟩) 0 0, .slice (some A) 0 c]).run Tryz.prog (w.alloc (.cells #[] 218)) = .ok (.slice (some ⟨w.heap.size, 0, none⟩) 0 0) (w.alloc (.cells #[] 218)) := fun ty => by
    have hl : ∀ (x : Addr) (W : World), (loadCells x 0).run Tryz.prog W = .ok #[] W := fun x W => by simpa using run_loadCells_list (P := Tryz.prog) W x [] (by simp)
    simp [Builtin.append_, uS, Builtin.lenOf, Builtin.firstCells, sizeOf, typeInfo, hi0, hl, storeCells]
  have main : Calls Tryz.prog 203 #[.slice (some A) 0 c] w fun e w' => e = .returned (.slice (some ⟨w.heap.size, 0, none⟩) 0 0) ∧ w' = w.alloc (.cells #[] 218) := by
    go_enter Tryz.func203, Tryz.ntmps203
    go_wp2_with (at_builtin; refine Lib.wpList_append_run _ rfl _ _ _ _ rfl _ _ rfl rfl _ _ (hrun _) ?_)
    go_ret
    exact ⟨rfl, rfl⟩
  refine main.mono ?_
  rintro e w' ⟨rfl, rfl⟩
  exact ⟨rfl, 0, rfl⟩
set_option maxHeartbeats 4000000 in
set_option maxRecDepth 100000 in
theorem cloN203 (n c : Nat) (w : World) : Calls Tryz.prog 203 #[.slice none n c] w fun e w' => e = .returned (.slice none 0 0) ∧ w' = w := by
  have tS : Tryz.prog.underlying 121 = some (.slice 218) := by kernel_rfl
  have uS := run_underlying tS
  have qS : ∀ (w : World) (a : Option Addr) (n c n' c' : Nat), (binOp .eql 121 (.slice a n c) (.slice none n' c')).run Tryz.prog w = .ok (.bool a.isNone) w := fun w a n c n' c' => Lib.run_eql_slice_nil w _ _ a n c n' c' tS
  have mixed : Tryz.prog.follows .mixedOrders = true := mix
  go_enter Tryz.func203, Tryz.ntmps203
  go_wp2
  go_ret
  exact ⟨rfl, rfl⟩
theorem cloR203_v : CloRoads Tryz.prog 203 5 218 := ⟨cloS203, cloZ203, cloN203⟩
end Go.Proofs.YthlhbgedidipkaaGreat

/- That the program's functions yield what the plain ones tell (written by a program of mine). -/
namespace Go.Proofs.YthlhbgedidipkaaGreat
open Go.RowKit
def gc253 : BCode := (.seq (.reg 0 [⟨(some 6),.mv (.const (.int .i64 0)),none,0⟩,⟨(some 7),.mv (.const (.bool false)),none,0⟩] none 0 []) (.seq (.reg 0 [⟨(some 12),.mv (.tmp 0),none,0⟩,⟨(some 13),.lens (.tmp 12),none,0⟩,⟨(some 8),.mv (.tmp 13),none,0⟩] none 0 []) (.seq (.reg 0 [⟨(some 14),.mv (.tmp 8),none,0⟩,⟨(some 9),.mv (.const (.int .i64 0)),none,0⟩,⟨(some 10),.mv (.tmp 14),none,0⟩] none 0 []) (.seq (.block 0 (.loop (.seq (.seq (.reg 0 [⟨(some 15),.mv (.tmp 9),none,0⟩,⟨(some 16),.mv (.tmp 10),none,0⟩,⟨(some 17),.bin .lss (.tmp 15) (.tmp 16),none,0⟩] none 0 []) (.cond (.tmp 17) .skip (.exit 0))) (.block 1 (.seq (.reg 0 [⟨(some 18),.mv (.tmp 9),none,0⟩,⟨(some 19),.mv (.tmp 10),none,0⟩,⟨(some 20),.bin .add (.tmp 18) (.tmp 19),none,0⟩,⟨(some 21),.cvi .u64 (.tmp 20),none,0⟩,⟨(some 22),.bin .shr (.tmp 21) (.const (.int .u64 1)),none,0⟩,⟨(some 23),.cvi .i64 (.tmp 22),none,0⟩,⟨(some 11),.mv (.tmp 23),none,0⟩] none 0 []) (.seq (.reg 0 [⟨(some 24),.mv (.tmp 2),none,0⟩,⟨(some 25),.mv (.tmp 0),none,0⟩,⟨(some 26),.mv (.tmp 11),none,0⟩,⟨(some 27),.ixs 1 (.tmp 25) (.tmp 26),none,0⟩,⟨(some 28),.ld 1 false (.tmp 27),none,0⟩,⟨(some 29),.mv (.tmp 1),none,0⟩,⟨(some 30),.cv (.tmp 24) [(.tmp 28),(.tmp 29)],none,0⟩,⟨(some 31),.bin .lss (.tmp 30) (.const (.int .i64 0)),none,0⟩] none 0 []) (.cond (.tmp 31) (.reg 0 [⟨(some 32),.mv (.tmp 11),none,0⟩,⟨(some 33),.bin .add (.tmp 32) (.const (.int .i64 1)),none,0⟩,⟨(some 9),.mv (.tmp 33),none,0⟩] none 0 []) (.reg 0 [⟨(some 34),.mv (.tmp 11),none,0⟩,⟨(some 10),.mv (.tmp 34),none,0⟩] none 0 [])))))))) (.seq (.reg 0 [⟨(some 35),.mv (.tmp 9),none,0⟩,⟨(some 36),.mv (.tmp 9),none,0⟩,⟨(some 37),.mv (.tmp 8),none,0⟩,⟨(some 38),.bin .lss (.tmp 36) (.tmp 37),none,0⟩,⟨(some 39),.mv (.tmp 38),none,0⟩,⟨(some 40),.mv (.tmp 2),(some (39,true)),0⟩,⟨(some 41),.mv (.tmp 0),(some (39,true)),0⟩,⟨(some 42),.mv (.tmp 9),(some (39,true)),0⟩,⟨(some 43),.ixs 1 (.tmp 41) (.tmp 42),(some (39,true)),0⟩,⟨(some 44),.ld 1 false (.tmp 43),(some (39,true)),0⟩,⟨(some 45),.mv (.tmp 1),(some (39,true)),0⟩,⟨(some 46),.cv (.tmp 40) [(.tmp 44),(.tmp 45)],(some (39,true)),0⟩,⟨(some 47),.bin .eql (.tmp 46) (.const (.int .i64 0)),(some (39,true)),0⟩,⟨(some 48),.pick (.tmp 39) (.tmp 47) (.const (.bool false)),none,0⟩,⟨(some 6),.mv (.tmp 35),none,0⟩,⟨(some 7),.mv (.tmp 48),none,0⟩] none 0 []) .ret)))))
theorem gc253_ok : compF Tryz.prog Tryz.f253 = some (gc253.er,49,[.tmp 6,.tmp 7]) := by unfold gc253;kernel_rfl
set_option maxRecDepth 100000 in
set_option maxHeartbeats 4000000 in
theorem p_slices_BinarySearchFunc_string_v {u1 : Bool} (a0 : List ByteArray) (a1 : ByteArray) (a2 : ByteArray → ByteArray → Option Int) {a2_g : Nat} {a2_k : List V} (a2_h : Clo2 Tryz.prog a2_g a2_k V.s V.s V.i a2) : CallsO Tryz.prog 253 [.sl (List.map V.s a0) u1,.s a1,.clo (.func a2_g) a2_k] (fun r : Int × Bool=>.tup [V.i r.1,V.b r.2]) (p_slices_BinarySearchFunc_string a0 a1 a2) := by
 refine callsO_comp mix Tryz.func253 gc253_ok fun r H=>?_
 rw [p_slices_BinarySearchFunc_string] at H
 conv=>whnf
 refine LenQ.M ?_;conv=>whnf
 obtain ⟨o2,HL3,HQ4⟩ := bind_c H
 refine loop_c [9,10] [11,15,16,17,18,19,20,21,22,23,24,25,26,27,28,29,30,31,32,33,34] [11,15,16,17,18,19,20,21,22,23,24,25,26,27,28,29,30,31,32,33,34] (fun n vals st=>(∃ y6 y7,p_slices_BinarySearchFunc_string_l1  a2 a0 a1 n y6 y7 = some o2 ∧ vals = [.i y6,.i y7] ∧ st = [])) fuel 0 [] (⟨_,_,HL3,rfl,rfl⟩) (Nat.zero_le _) rfl (by simp only [maskF,setF,List.set_cons_zero,List.set_cons_succ,V.ren.renL,V.ren,renL_id _ a2_h.own] <;> rfl) (by simp only [maskF,setF,List.set_cons_zero,List.set_cons_succ,V.idlt.belowL,V.idlt,fun n=>idltL_up (n := n) _ a2_h.own] <;> rfl) rfl trivial ?_
 rintro (_ | n5) _ _ (⟨y6,y7,H,rfl,rfl⟩)
 ·rw [p_slices_BinarySearchFunc_string_l1] at H;cases H
 rw [p_slices_BinarySearchFunc_string_l1] at H
 conv=>whnf
 refine tst_d H (fun b8 H=>?_) (fun b8 H=>?_)
 ·conv=>whnf
  obtain rfl := Option.some.inj H
  have H := HQ4
  try dsimp only at H
  refine tst_d H (fun b12 H=>?_) (fun b12 H=>?_)
  ·conv=>whnf
   iterate 8 (refine Tst.F ?_;conv=>whnf)
   exact fin0_c (enc := (fun r : Int × Bool=>.tup [V.i r.1,V.b r.2])) H (.inr rfl) (.cons (.tmp rfl) (.cons (.tmp rfl) (.nil))) rfl rfl
  conv=>whnf
  iterate 3 (refine Tst.T ?_;conv=>whnf)
  refine ixs_c (f := V.s) H (fun _=>rfl) (fun x13 H=>?_);conv=>whnf
  iterate 3 (refine Tst.T ?_;conv=>whnf)
  refine askC2_c a2_h H (.cons (.c (.id rfl)) (.cons (.c (.id rfl)) (.nil))) (fun v14 H=>?_);conv=>whnf
  iterate 2 (refine Tst.T ?_;conv=>whnf)
  exact fin0_c (enc := (fun r : Int × Bool=>.tup [V.i r.1,V.b r.2])) H (.inr rfl) (.cons (.tmp rfl) (.cons (.tmp rfl) (.nil))) rfl rfl
 conv=>whnf
 iterate 2 (refine Ari.w ?_;conv=>whnf)
 refine Shr.ok (by decide) ?_;conv=>whnf
 refine Ari.w ?_;conv=>whnf
 refine ixs_c (f := V.s) H (fun _=>rfl) (fun x9 H=>?_);conv=>whnf
 refine askC2_c a2_h H (.cons (.c (.id rfl)) (.cons (.c (.id rfl)) (.nil))) (fun v10 H=>?_);conv=>whnf
 refine tst_d H (fun b11 H=>?_) (fun b11 H=>?_)
 ·conv=>whnf
  exact again_c [11,15,16,17,18,19,20,21,22,23,24,25,26,27,28,29,30,31,32,33,34] n5 0 [] (⟨_,_,H,rfl,rfl⟩) (Nat.lt_succ_self _) (Nat.zero_le _) rfl (by simp only [maskF,setF,List.set_cons_zero,List.set_cons_succ,V.ren.renL,V.ren,renL_id _ a2_h.own] <;> rfl) (by simp only [maskF,setF,List.set_cons_zero,List.set_cons_succ,V.idlt.belowL,V.idlt,fun n=>idltL_up (n := n) _ a2_h.own] <;> rfl) rfl trivial
 conv=>whnf
 refine Ari.w ?_;conv=>whnf
 exact again_c [11,15,16,17,18,19,20,21,22,23,24,25,26,27,28,29,30,31,32,33,34] n5 0 [] (⟨_,_,H,rfl,rfl⟩) (Nat.lt_succ_self _) (Nat.zero_le _) rfl (by simp only [maskF,setF,List.set_cons_zero,List.set_cons_succ,V.ren.renL,V.ren,renL_id _ a2_h.own] <;> rfl) (by simp only [maskF,setF,List.set_cons_zero,List.set_cons_succ,V.idlt.belowL,V.idlt,fun n=>idltL_up (n := n) _ a2_h.own] <;> rfl) rfl trivial
def gc201 : BCode := (.seq (.reg 1 [⟨(some 5),.bx (.tmp 2),none,0⟩,⟨(some 6),.mv (.const (.int .i64 0)),none,1⟩,⟨(some 7),.mv (.const (.bool false)),none,1⟩] none 0 []) (.seq (.reg 0 [⟨(some 8),.mv (.tmp 0),none,0⟩,⟨(some 9),.mv (.tmp 1),none,0⟩,⟨(some 10),.mf (.func 254) [(.tmp 5)],none,0⟩,⟨(some 11),.cl 253 [(.tmp 8),(.tmp 9),(.tmp 10)],none,0⟩,⟨(some 12),.ex (.tmp 11) 0,none,0⟩,⟨(some 13),.ex (.tmp 11) 1,none,0⟩,⟨(some 6),.mv (.tmp 12),none,0⟩,⟨(some 7),.mv (.tmp 13),none,0⟩] none 0 [5]) .ret))
theorem gc201_ok : compF Tryz.prog Tryz.f201 = some (gc201.er,14,[.tmp 6,.tmp 7]) := by unfold gc201;kernel_rfl
set_option maxRecDepth 100000 in
set_option maxHeartbeats 4000000 in
theorem p_view_find_string__v {u1 : Bool} (a0 : List ByteArray) (a1 : ByteArray) (a2 : ByteArray → Option ByteArray) {a2_g : Nat} {a2_k : List V} (a2_h : Clo1 Tryz.prog a2_g a2_k V.s V.s a2) : CallsO Tryz.prog 201 [.sl (List.map V.s a0) u1,.s a1,.clo (.func a2_g) a2_k] (fun r : Int × Bool=>.tup [V.i r.1,V.b r.2]) (p_view_find_string_ a0 a1 a2) := by
 refine callsO_comp mix Tryz.func201 gc201_ok fun r H=>?_
 rw [p_view_find_string_] at H
 conv=>whnf
 refine ⟨Nat.zero_le _,?_⟩;conv=>whnf
 refine askF_c (p_slices_BinarySearchFunc_string_v _ _ _ ⟨⟨_,Tryz.func254,by kernel_rfl,by kernel_rfl⟩,(by simp only [V.idlt.belowL,V.idlt,a2_h.own] <;> rfl),fun x0 x1=>p_view_find_string__1_v _ _ _ a2_h⟩) H (.cons (.c (.slw)) (.cons (.c (.id rfl)) (.cons (.c (.clo (.cons (.ptr rfl (Nat.le_of_ble_eq_true rfl) (.cons (.id a2_h.own) (.nil))) (.nil)))) (.nil)))) (fun v1 H=>?_);conv=>whnf
 exact fin0_c (enc := (fun r : Int × Bool=>.tup [V.i r.1,V.b r.2])) H (.inr rfl) (.cons (.tmp rfl) (.cons (.tmp rfl) (.nil))) rfl rfl
def gc200 : BCode := (.seq (.reg 1 [⟨(some 2),.bx (.tmp 0),none,0⟩,⟨(some 3),.mv (.const (.bool false)),none,1⟩] none 0 []) (.seq (.reg 0 [⟨(some 7),.fa 3 (.tmp 1),none,0⟩,⟨(some 8),.ld 1 false (.tmp 7),none,0⟩,⟨(some 9),.fa 0 (.tmp 2),none,0⟩,⟨(some 10),.ld 1 false (.tmp 9),none,0⟩,⟨(some 11),.cl 201 [(.tmp 8),(.tmp 10),(.func 137)],none,0⟩,⟨(some 6),.mv (.tmp 11),none,0⟩,⟨(some 12),.ex (.tmp 6) 0,none,0⟩,⟨(some 13),.ex (.tmp 6) 1,none,0⟩,⟨(some 4),.mv (.tmp 12),none,0⟩,⟨(some 5),.mv (.tmp 13),none,0⟩] none 0 []) (.seq (.reg 0 [⟨(some 14),.mv (.tmp 5),none,0⟩,⟨(some 15),.un .not (.tmp 14),none,0⟩,⟨(some 3),.mv (.tmp 15),none,0⟩] none 0 []) .ret)))
theorem gc200_ok : compF Tryz.prog Tryz.f200 = some (gc200.er,16,[.tmp 3]) := by unfold gc200;kernel_rfl
set_option maxRecDepth 100000 in
set_option maxHeartbeats 4000000 in
theorem p_view_State_done_1_v {u1 u2 u3 u4 : Bool} (a0 : MailEntry) (c0 : Ref35State) : CallsO Tryz.prog 200 [.agg [.s a0.Key,.b a0.P.On,.i a0.P.Show,.i a0.P.Prio,.i a0.P.Seq],.eptr [.sl (List.map MailEntry.v c0.Rows) u1,.sl (List.map MailEntry.v c0.Last) u2,.b c0.Anew,.sl (List.map V.s c0.Seen) u3,.sl (List.map Ref35Contact.v c0.List) u4,.i c0.Odd,.i c0.Told]] V.b (p_view_State_done_1 a0 c0) := by
 refine callsO_comp mix Tryz.func200 gc200_ok fun r H=>?_
 rw [p_view_State_done_1] at H
 conv=>whnf
 refine ⟨Nat.le_of_ble_eq_true rfl,?_⟩;conv=>whnf
 refine askF_c (p_view_find_string__v _ _ _ ⟨⟨_,Tryz.func137,by kernel_rfl,by kernel_rfl⟩,rfl,fun x0=>p_view_itself_v _⟩) H (.cons (.c (.slw)) (.cons (.c (.id rfl)) (.cons (.c (.clo (.nil))) (.nil)))) (fun v1 H=>?_);conv=>whnf
 exact fin0_c (enc := V.b) H (.inr rfl) (.cons (.tmp rfl) (.nil)) rfl rfl
def gc129 : BCode := (.seq (.reg 2 [⟨(some 1),.bx (.tmp 0),none,0⟩,⟨(some 2),.al (.agg [(.sl [] true),(.sl [] true),(.lit (.bool false)),(.sl [] true),(.sl [] true),(.lit (.int .i64 0)),(.lit (.int .i64 0))]),none,1⟩] none 0 []) (.seq (.seq (.reg 0 [⟨(some 4),.fa 2 (.tmp 1),none,0⟩,⟨(some 5),.ld 1 false (.tmp 4),none,0⟩,⟨(some 6),.un .not (.tmp 5),none,0⟩] none 0 []) (.cond (.tmp 6) (.seq (.reg 0 [⟨(some 7),.ld 7 true (.tmp 1),none,0⟩,⟨none,.st 7 (.tmp 2) (.tmp 7),none,0⟩] none 0 []) .ret) .skip)) (.seq (.reg 0 [⟨(some 8),.mf (.func 200) [(.tmp 1)],none,0⟩,⟨(some 3),.mv (.tmp 8),none,0⟩] none 0 []) (.seq (.reg 0 [⟨(some 9),.fa 0 (.tmp 1),none,0⟩,⟨(some 10),.ld 1 false (.tmp 9),none,0⟩,⟨(some 11),.cl 203 [(.tmp 10)],none,0⟩,⟨(some 12),.mv (.tmp 3),none,0⟩,⟨(some 13),.cl 202 [(.tmp 11),(.tmp 12)],none,0⟩,⟨(some 14),.fa 0 (.tmp 1),none,0⟩,⟨none,.st 1 (.tmp 14) (.tmp 13),none,0⟩] none 1 []) (.seq (.reg 0 [⟨(some 15),.fa 2 (.tmp 1),none,0⟩,⟨none,.st 1 (.tmp 15) (.const (.bool false)),none,0⟩,⟨(some 16),.fa 3 (.tmp 1),none,0⟩,⟨none,.st 1 (.tmp 16) (.const (.slice none 0 0)),none,0⟩] none 0 []) (.seq (.reg 0 [⟨(some 17),.ld 7 true (.tmp 1),none,0⟩,⟨none,.st 7 (.tmp 2) (.tmp 17),none,0⟩] none 0 []) .ret))))))
theorem gc129_ok : compF Tryz.prog Tryz.f129 = some (gc129.er,18,[.cell 2 7 true]) := by unfold gc129;kernel_rfl
set_option maxRecDepth 100000 in
set_option maxHeartbeats 4000000 in
theorem p_view_State_done_v {u1 u2 u3 u4 : Bool} (a0 : Ref35State) : CallsO Tryz.prog 129 [.agg [.sl (List.map MailEntry.v a0.Rows) u1,.sl (List.map MailEntry.v a0.Last) u2,.b a0.Anew,.sl (List.map V.s a0.Seen) u3,.sl (List.map Ref35Contact.v a0.List) u4,.i a0.Odd,.i a0.Told]] Ref35State.v (p_view_State_done a0) := by
 refine callsO_comp mix Tryz.func129 gc129_ok fun r H=>?_
 rw [p_view_State_done] at H
 conv=>whnf
 refine Tst.not ?_
 refine tst_d H (fun b1 H=>?_) (fun b1 H=>?_)
 ·conv=>whnf
  refine ⟨Nat.le_of_ble_eq_true rfl,?_⟩;conv=>whnf
  refine finR_c (enc := Ref35State.v) H ?_;conv=>whnf
  exact ⟨_,.v (fzagg (.cons (.slw) (.cons (.slw) (.cons (.id rfl) (.cons (.slw) (.cons (.slw) (.cons (.id rfl) (.cons (.id rfl) (.nil)))))))) rfl)⟩
 conv=>whnf
 refine clone_c (f := MailEntry.v) (id := 2) cloR203_v H (fun _=>rfl) (fun _=>rfl) rfl (fun H=>?_) (fun l2 H=>?_)
 ·conv=>whnf
  refine dfNT_c (f := MailEntry.v) [0] delF202_n H (⟨⟨_,Tryz.func200,by kernel_rfl,by kernel_rfl⟩,rfl,fun x0=>p_view_State_done_1_v _ _⟩) (.clo (.cons (.ptr rfl (Nat.le_of_ble_eq_true rfl) (.cons (.id rfl) (.cons (.id rfl) (.cons (.id rfl) (.cons (.id rfl) (.cons (.id rfl) (.cons (.id rfl) (.cons (.id rfl) (.nil))))))))) (.nil))) (fun H=>?_);conv=>whnf
  refine ⟨Nat.le_of_ble_eq_true rfl,?_⟩;conv=>whnf
  refine ⟨Nat.le_of_ble_eq_true rfl,?_⟩;conv=>whnf
  refine ⟨Nat.le_of_ble_eq_true rfl,?_⟩;conv=>whnf
  refine ⟨Nat.le_of_ble_eq_true rfl,?_⟩;conv=>whnf
  refine finR_c (enc := Ref35State.v) H ?_;conv=>whnf
  exact ⟨_,.v (fzagg (.cons (.slw) (.cons (.slw) (.cons (.id rfl) (.cons (.slw) (.cons (.slw) (.cons (.id rfl) (.cons (.id rfl) (.nil)))))))) rfl)⟩
 conv=>whnf
 refine dfT_c (f := MailEntry.v) delF202_v H (⟨⟨_,Tryz.func200,by kernel_rfl,by kernel_rfl⟩,rfl,fun x0=>p_view_State_done_1_v _ _⟩) (.ptr rfl (by decide) (.cons (.id rfl) (.cons (.id rfl) (.cons (.id rfl) (.cons (.id rfl) (.cons (.id rfl) (.cons (.id rfl) (.cons (.id rfl) (.nil)))))))) (.nil)) (fun _=>rfl) (fun _=>rfl) rfl rfl (fun v3 H=>?_);conv=>whnf
 refine ⟨Nat.le_of_ble_eq_true rfl,?_⟩;conv=>whnf
 refine ⟨Nat.le_of_ble_eq_true rfl,?_⟩;conv=>whnf
 refine ⟨Nat.le_of_ble_eq_true rfl,?_⟩;conv=>whnf
 refine ⟨Nat.le_of_ble_eq_true rfl,?_⟩;conv=>whnf
 refine finRz_c (enc := Ref35State.v) [2] H ?_;conv=>whnf
 refine ⟨Nat.zero_le _,?_⟩;conv=>whnf
 exact ⟨_,.v (fzagg (.cons (fzown (f := MailEntry.v) (l := v3) rfl rfl (fun _=>rfl) (fun _=>rfl)) (.cons (.slw) (.cons (.id rfl) (.cons (.slw) (.cons (.slw) (.cons (.id rfl) (.cons (.id rfl) (.nil)))))))) rfl)⟩
def gc204 : BCode := (.seq (.reg 2 [⟨(some 1),.bx (.tmp 0),none,0⟩,⟨(some 2),.mv (.const (.string ⟨#[]⟩)),none,1⟩,⟨(some 3),.mv (.const (.string ⟨#[]⟩)),none,1⟩,⟨(some 4),.al (.agg [(.lit (.bool false)),(.lit (.int .i64 0)),(.lit (.int .i64 0)),(.lit (.int .i64 0))]),none,1⟩,⟨(some 5),.mv (.const (.int .i64 0)),none,2⟩] none 0 []) (.seq (.seq (.reg 0 [⟨(some 9),.fa 0 (.tmp 1),none,0⟩,⟨(some 10),.ld 1 false (.tmp 9),none,0⟩,⟨(some 11),.bin .neq (.tmp 10) (.const (.int .u8 34)),none,0⟩,⟨(some 12),.mv (.tmp 11),none,0⟩,⟨(some 13),.fa 0 (.tmp 1),(some (12,true)),0⟩,⟨(some 14),.ld 1 false (.tmp 13),(some (12,true)),0⟩,⟨(some 15),.bin .neq (.tmp 14) (.const (.int .u8 35)),(some (12,true)),0⟩,⟨(some 16),.pick (.tmp 12) (.tmp 15) (.const (.bool false)),none,0⟩] none 0 []) (.cond (.tmp 16) (.seq (.reg 0 [⟨(some 17),.bd [(.lit (.bool false)),(.lit (.int .i64 0)),(.lit (.int .i64 0)),(.lit (.int .i64 0))] [],none,0⟩,⟨(some 2),.mv (.const (.string ⟨#[]⟩)),none,0⟩,⟨(some 3),.mv (.const (.string ⟨#[]⟩)),none,0⟩,⟨none,.st 4 (.tmp 4) (.tmp 17),none,0⟩,⟨(some 5),.mv (.const (.int .i64 12)),none,0⟩] none 0 []) .ret) .skip)) (.seq (.seq (.reg 0 [⟨(some 18),.ld 8 true (.tmp 1),none,0⟩,⟨(some 19),.cl 75 [(.tmp 18)],none,0⟩,⟨(some 6),.mv (.tmp 19),none,0⟩] none 0 []) (.seq (.reg 0 [⟨(some 20),.mv (.tmp 6),none,0⟩,⟨(some 21),.bin .neq (.tmp 20) (.const (.int .i64 0)),none,0⟩] none 0 []) (.cond (.tmp 21) (.seq (.reg 0 [⟨(some 22),.bd [(.lit (.bool false)),(.lit (.int .i64 0)),(.lit (.int .i64 0)),(.lit (.int .i64 0))] [],none,0⟩,⟨(some 23),.mv (.tmp 6),none,0⟩,⟨(some 2),.mv (.const (.string ⟨#[]⟩)),none,0⟩,⟨(some 3),.mv (.const (.string ⟨#[]⟩)),none,0⟩,⟨none,.st 4 (.tmp 4) (.tmp 22),none,0⟩,⟨(some 5),.mv (.tmp 23),none,0⟩] none 0 []) .ret) .skip))) (.seq (.reg 1 [⟨(some 24),.fa 0 (.tmp 1),none,0⟩,⟨(some 25),.ld 1 false (.tmp 24),none,0⟩,⟨(some 26),.bin .eql (.tmp 25) (.const (.int .u8 34)),none,0⟩,⟨(some 27),.fa 4 (.tmp 1),none,0⟩,⟨(some 28),.ld 1 false (.tmp 27),none,0⟩,⟨(some 29),.fa 5 (.tmp 1),none,0⟩,⟨(some 30),.ld 1 false (.tmp 29),none,0⟩,⟨(some 31),.fa 7 (.tmp 1),none,0⟩,⟨(some 32),.ld 1 false (.tmp 31),none,0⟩,⟨(some 33),.bd [(.lit (.bool false)),(.lit (.int .i64 0)),(.lit (.int .i64 0)),(.lit (.int .i64 0))] [(0,1,(.tmp 26)),(1,1,(.tmp 28)),(2,1,(.tmp 30)),(3,1,(.tmp 32))],none,0⟩,⟨(some 7),.al (.agg [(.lit (.bool false)),(.lit (.int .i64 0)),(.lit (.int .i64 0)),(.lit (.int .i64 0))]),none,0⟩,⟨none,.st 4 (.tmp 7) (.tmp 33),none,1⟩] none 0 []) (.seq (.seq (.reg 0 [⟨(some 34),.ld 4 true (.tmp 7),none,0⟩,⟨(some 35),.cl 148 [(.tmp 34)],none,0⟩,⟨(some 8),.mv (.tmp 35),none,0⟩] none 0 []) (.seq (.reg 0 [⟨(some 36),.mv (.tmp 8),none,0⟩,⟨(some 37),.bin .neq (.tmp 36) (.const (.int .i64 0)),none,0⟩] none 0 []) (.cond (.tmp 37) (.seq (.reg 0 [⟨(some 38),.bd [(.lit (.bool false)),(.lit (.int .i64 0)),(.lit (.int .i64 0)),(.lit (.int .i64 0))] [],none,0⟩,⟨(some 39),.mv (.tmp 8),none,0⟩,⟨(some 2),.mv (.const (.string ⟨#[]⟩)),none,0⟩,⟨(some 3),.mv (.const (.string ⟨#[]⟩)),none,0⟩,⟨none,.st 4 (.tmp 4) (.tmp 38),none,0⟩,⟨(some 5),.mv (.tmp 39),none,0⟩] none 0 []) .ret) .skip))) (.seq (.reg 0 [⟨(some 40),.fa 1 (.tmp 1),none,0⟩,⟨(some 41),.ld 1 false (.tmp 40),none,0⟩,⟨(some 42),.fa 2 (.tmp 1),none,0⟩,⟨(some 43),.ld 1 false (.tmp 42),none,0⟩,⟨(some 44),.ld 4 true (.tmp 7),none,0⟩,⟨(some 2),.mv (.tmp 41),none,0⟩,⟨(some 3),.mv (.tmp 43),none,0⟩,⟨none,.st 4 (.tmp 4) (.tmp 44),none,0⟩,⟨(some 5),.mv (.const (.int .i64 0)),none,0⟩] (some [[],[0],[],[2],[],[0,1],[1,0,5,2,3],[3,2,5,0,1,6,4],[4,6,1,0,5,2,3,7]]) 0 []) .ret))))))
theorem gc204_ok : compF Tryz.prog Tryz.f204 = some (gc204.er,45,[.tmp 2,.tmp 3,.cell 4 4 true,.tmp 5]) := by unfold gc204;kernel_rfl
set_option maxRecDepth 100000 in
set_option maxHeartbeats 4000000 in
theorem p_pres_Of_v (a0 : StanzaStanza) : CallsO Tryz.prog 204 [.agg [.y8 a0.Kind,.s a0.User,.s a0.Res,.s a0.Name,.i a0.Show,.i a0.Prio,.i a0.Code,.i a0.N]] (fun r : ByteArray × ByteArray × PresPres × Int=>.tup [V.s r.1,V.s r.2.1,PresPres.v r.2.2.1,V.i r.2.2.2]) (p_pres_Of a0) := by
 refine callsO_comp mix Tryz.func204 gc204_ok fun r H=>?_
 rw [p_pres_Of] at H
 conv=>whnf
 refine tst_d H (fun b1 H=>?_) (fun b1 H=>?_)
 ·conv=>whnf
  iterate 4 (refine Tst.F ?_;conv=>whnf)
  refine ask_c (p_stanza_Check_v _) H rfl rfl (fun v7 H=>?_);conv=>whnf
  refine tst_c H (fun b8 H=>?_) (fun b8 H=>?_)
  ·conv=>whnf
   refine ⟨Nat.le_of_ble_eq_true rfl,?_⟩;conv=>whnf
   exact fin0_c (enc := (fun r : ByteArray × ByteArray × PresPres × Int=>.tup [V.s r.1,V.s r.2.1,PresPres.v r.2.2.1,V.i r.2.2.2])) H (.inr rfl) (.cons (.tmp rfl) (.cons (.tmp rfl) (.cons (.cell rfl rfl (Nat.le_of_ble_eq_true rfl)) (.cons (.tmp rfl) (.nil))))) rfl rfl
  conv=>whnf
  refine ⟨Nat.le_of_ble_eq_true rfl,?_⟩;conv=>whnf
  refine ask_c (p_pres_Check_v _) H rfl rfl (fun v9 H=>?_);conv=>whnf
  refine tst_c H (fun b10 H=>?_) (fun b10 H=>?_)
  ·conv=>whnf
   refine ⟨Nat.le_of_ble_eq_true rfl,?_⟩;conv=>whnf
   exact fin0_c (enc := (fun r : ByteArray × ByteArray × PresPres × Int=>.tup [V.s r.1,V.s r.2.1,PresPres.v r.2.2.1,V.i r.2.2.2])) H (.inr rfl) (.cons (.tmp rfl) (.cons (.tmp rfl) (.cons (.cell rfl rfl (Nat.le_of_ble_eq_true rfl)) (.cons (.tmp rfl) (.nil))))) rfl rfl
  conv=>whnf
  refine ⟨Nat.le_of_ble_eq_true rfl,?_⟩;conv=>whnf
  refine FootQ.mk ⟨rfl,?_⟩;conv=>whnf
  exact fin0_c (enc := (fun r : ByteArray × ByteArray × PresPres × Int=>.tup [V.s r.1,V.s r.2.1,PresPres.v r.2.2.1,V.i r.2.2.2])) H (.inr rfl) (.cons (.tmp rfl) (.cons (.tmp rfl) (.cons (.cell rfl rfl (Nat.le_of_ble_eq_true rfl)) (.cons (.tmp rfl) (.nil))))) rfl rfl
 conv=>whnf
 iterate 3 (refine Tst.T ?_;conv=>whnf)
 refine tst_c H (fun b2 H=>?_) (fun b2 H=>?_)
 ·conv=>whnf
  refine ⟨Nat.le_of_ble_eq_true rfl,?_⟩;conv=>whnf
  exact fin0_c (enc := (fun r : ByteArray × ByteArray × PresPres × Int=>.tup [V.s r.1,V.s r.2.1,PresPres.v r.2.2.1,V.i r.2.2.2])) H (.inr rfl) (.cons (.tmp rfl) (.cons (.tmp rfl) (.cons (.cell rfl rfl (Nat.le_of_ble_eq_true rfl)) (.cons (.tmp rfl) (.nil))))) rfl rfl
 conv=>whnf
 refine ask_c (p_stanza_Check_v _) H rfl rfl (fun v3 H=>?_);conv=>whnf
 refine tst_c H (fun b4 H=>?_) (fun b4 H=>?_)
 ·conv=>whnf
  refine ⟨Nat.le_of_ble_eq_true rfl,?_⟩;conv=>whnf
  exact fin0_c (enc := (fun r : ByteArray × ByteArray × PresPres × Int=>.tup [V.s r.1,V.s r.2.1,PresPres.v r.2.2.1,V.i r.2.2.2])) H (.inr rfl) (.cons (.tmp rfl) (.cons (.tmp rfl) (.cons (.cell rfl rfl (Nat.le_of_ble_eq_true rfl)) (.cons (.tmp rfl) (.nil))))) rfl rfl
 conv=>whnf
 refine ⟨Nat.le_of_ble_eq_true rfl,?_⟩;conv=>whnf
 refine ask_c (p_pres_Check_v _) H rfl rfl (fun v5 H=>?_);conv=>whnf
 refine tst_c H (fun b6 H=>?_) (fun b6 H=>?_)
 ·conv=>whnf
  refine ⟨Nat.le_of_ble_eq_true rfl,?_⟩;conv=>whnf
  exact fin0_c (enc := (fun r : ByteArray × ByteArray × PresPres × Int=>.tup [V.s r.1,V.s r.2.1,PresPres.v r.2.2.1,V.i r.2.2.2])) H (.inr rfl) (.cons (.tmp rfl) (.cons (.tmp rfl) (.cons (.cell rfl rfl (Nat.le_of_ble_eq_true rfl)) (.cons (.tmp rfl) (.nil))))) rfl rfl
 conv=>whnf
 refine ⟨Nat.le_of_ble_eq_true rfl,?_⟩;conv=>whnf
 refine FootQ.mk ⟨rfl,?_⟩;conv=>whnf
 exact fin0_c (enc := (fun r : ByteArray × ByteArray × PresPres × Int=>.tup [V.s r.1,V.s r.2.1,PresPres.v r.2.2.1,V.i r.2.2.2])) H (.inr rfl) (.cons (.tmp rfl) (.cons (.tmp rfl) (.cons (.cell rfl rfl (Nat.le_of_ble_eq_true rfl)) (.cons (.tmp rfl) (.nil))))) rfl rfl
def gc256 : BCode := (.seq (.reg 1 [⟨(some 3),.bx (.tmp 0),none,0⟩,⟨(some 5),.mv (.const (.int .i64 0)),none,1⟩] none 0 []) (.seq (.reg 0 [⟨(some 6),.ld 1 false (.tmp 2),none,0⟩,⟨(some 7),.ld 5 true (.tmp 3),none,0⟩,⟨(some 8),.cv (.tmp 6) [(.tmp 7)],none,0⟩,⟨(some 9),.mv (.tmp 1),none,0⟩,⟨(some 10),.cl 183 [(.tmp 8),(.tmp 9)],none,0⟩,⟨(some 5),.mv (.tmp 10),none,0⟩] none 0 []) .ret))
theorem gc256_ok : compF Tryz.prog Tryz.f256 = some (gc256.er,11,[.tmp 5]) := by unfold gc256;kernel_rfl
set_option maxRecDepth 100000 in
set_option maxHeartbeats 4000000 in
theorem p_view_find_view_Row__1_v (a0 : MailEntry) (a1 : ByteArray) (c0 : MailEntry → Option ByteArray) {c0_g : Nat} {c0_k : List V} (c0_h : Clo1 Tryz.prog c0_g c0_k MailEntry.v V.s c0) : CallsO Tryz.prog 256 [.agg [.s a0.Key,.b a0.P.On,.i a0.P.Show,.i a0.P.Prio,.i a0.P.Seq],.s a1,.eptr [.clo (.func c0_g) c0_k]] V.i (p_view_find_view_Row__1 a0 a1 c0) := by
 refine callsO_comp mix Tryz.func256 gc256_ok fun r H=>?_
 rw [p_view_find_view_Row__1] at H
 conv=>whnf
 refine askC_c c0_h H (.cons (fzagg (.cons (.id rfl) (.cons (.id rfl) (.cons (.id rfl) (.cons (.id rfl) (.cons (.id rfl) (.nil)))))) rfl) (.nil)) (fun v1 H=>?_);conv=>whnf
 refine ask_c (p_strings_Compare_v _ _) H rfl rfl (fun v2 H=>?_);conv=>whnf
 exact fin0_c (enc := V.i) H (.inr rfl) (.cons (.tmp rfl) (.nil)) rfl rfl
def gc255 : BCode := (.seq (.reg 0 [⟨(some 6),.mv (.const (.int .i64 0)),none,0⟩,⟨(some 7),.mv (.const (.bool false)),none,0⟩] none 0 []) (.seq (.reg 0 [⟨(some 12),.mv (.tmp 0),none,0⟩,⟨(some 13),.lens (.tmp 12),none,0⟩,⟨(some 8),.mv (.tmp 13),none,0⟩] none 0 []) (.seq (.reg 0 [⟨(some 14),.mv (.tmp 8),none,0⟩,⟨(some 9),.mv (.const (.int .i64 0)),none,0⟩,⟨(some 10),.mv (.tmp 14),none,0⟩] none 0 []) (.seq (.block 0 (.loop (.seq (.seq (.reg 0 [⟨(some 15),.mv (.tmp 9),none,0⟩,⟨(some 16),.mv (.tmp 10),none,0⟩,⟨(some 17),.bin .lss (.tmp 15) (.tmp 16),none,0⟩] none 0 []) (.cond (.tmp 17) .skip (.exit 0))) (.block 1 (.seq (.reg 0 [⟨(some 18),.mv (.tmp 9),none,0⟩,⟨(some 19),.mv (.tmp 10),none,0⟩,⟨(some 20),.bin .add (.tmp 18) (.tmp 19),none,0⟩,⟨(some 21),.cvi .u64 (.tmp 20),none,0⟩,⟨(some 22),.bin .shr (.tmp 21) (.const (.int .u64 1)),none,0⟩,⟨(some 23),.cvi .i64 (.tmp 22),none,0⟩,⟨(some 11),.mv (.tmp 23),none,0⟩] none 0 []) (.seq (.reg 0 [⟨(some 24),.mv (.tmp 2),none,0⟩,⟨(some 25),.mv (.tmp 0),none,0⟩,⟨(some 26),.mv (.tmp 11),none,0⟩,⟨(some 27),.ixs 5 (.tmp 25) (.tmp 26),none,0⟩,⟨(some 28),.ld 5 true (.tmp 27),none,0⟩,⟨(some 29),.mv (.tmp 1),none,0⟩,⟨(some 30),.cv (.tmp 24) [(.tmp 28),(.tmp 29)],none,0⟩,⟨(some 31),.bin .lss (.tmp 30) (.const (.int .i64 0)),none,0⟩] none 0 []) (.cond (.tmp 31) (.reg 0 [⟨(some 32),.mv (.tmp 11),none,0⟩,⟨(some 33),.bin .add (.tmp 32) (.const (.int .i64 1)),none,0⟩,⟨(some 9),.mv (.tmp 33),none,0⟩] none 0 []) (.reg 0 [⟨(some 34),.mv (.tmp 11),none,0⟩,⟨(some 10),.mv (.tmp 34),none,0⟩] none 0 [])))))))) (.seq (.reg 0 [⟨(some 35),.mv (.tmp 9),none,0⟩,⟨(some 36),.mv (.tmp 9),none,0⟩,⟨(some 37),.mv (.tmp 8),none,0⟩,⟨(some 38),.bin .lss (.tmp 36) (.tmp 37),none,0⟩,⟨(some 39),.mv (.tmp 38),none,0⟩,⟨(some 40),.mv (.tmp 2),(some (39,true)),0⟩,⟨(some 41),.mv (.tmp 0),(some (39,true)),0⟩,⟨(some 42),.mv (.tmp 9),(some (39,true)),0⟩,⟨(some 43),.ixs 5 (.tmp 41) (.tmp 42),(some (39,true)),0⟩,⟨(some 44),.ld 5 true (.tmp 43),(some (39,true)),0⟩,⟨(some 45),.mv (.tmp 1),(some (39,true)),0⟩,⟨(some 46),.cv (.tmp 40) [(.tmp 44),(.tmp 45)],(some (39,true)),0⟩,⟨(some 47),.bin .eql (.tmp 46) (.const (.int .i64 0)),(some (39,true)),0⟩,⟨(some 48),.pick (.tmp 39) (.tmp 47) (.const (.bool false)),none,0⟩,⟨(some 6),.mv (.tmp 35),none,0⟩,⟨(some 7),.mv (.tmp 48),none,0⟩] none 0 []) .ret)))))
theorem gc255_ok : compF Tryz.prog Tryz.f255 = some (gc255.er,49,[.tmp 6,.tmp 7]) := by unfold gc255;kernel_rfl
set_option maxRecDepth 100000 in
set_option maxHeartbeats 4000000 in
theorem p_slices_BinarySearchFunc_view_Row_v {u1 : Bool} (a0 : List MailEntry) (a1 : ByteArray) (a2 : MailEntry → ByteArray → Option Int) {a2_g : Nat} {a2_k : List V} (a2_h : Clo2 Tryz.prog a2_g a2_k MailEntry.v V.s V.i a2) : CallsO Tryz.prog 255 [.sl (List.map MailEntry.v a0) u1,.s a1,.clo (.func a2_g) a2_k] (fun r : Int × Bool=>.tup [V.i r.1,V.b r.2]) (p_slices_BinarySearchFunc_view_Row a0 a1 a2) := by
 refine callsO_comp mix Tryz.func255 gc255_ok fun r H=>?_
 rw [p_slices_BinarySearchFunc_view_Row] at H
 conv=>whnf
 refine LenQ.M ?_;conv=>whnf
 obtain ⟨o2,HL3,HQ4⟩ := bind_c H
 refine loop_c [9,10] [11,15,16,17,18,19,20,21,22,23,24,25,26,27,28,29,30,31,32,33,34] [11,15,16,17,18,19,20,21,22,23,24,25,26,27,28,29,30,31,32,33,34] (fun n vals st=>(∃ y6 y7,p_slices_BinarySearchFunc_view_Row_l1  a2 a0 a1 n y6 y7 = some o2 ∧ vals = [.i y6,.i y7] ∧ st = [])) fuel 0 [] (⟨_,_,HL3,rfl,rfl⟩) (Nat.zero_le _) rfl (by simp only [maskF,setF,List.set_cons_zero,List.set_cons_succ,V.ren.renL,V.ren,renL_id _ a2_h.own] <;> rfl) (by simp only [maskF,setF,List.set_cons_zero,List.set_cons_succ,V.idlt.belowL,V.idlt,fun n=>idltL_up (n := n) _ a2_h.own] <;> rfl) rfl trivial ?_
 rintro (_ | n5) _ _ (⟨y6,y7,H,rfl,rfl⟩)
 ·rw [p_slices_BinarySearchFunc_view_Row_l1] at H;cases H
 rw [p_slices_BinarySearchFunc_view_Row_l1] at H
 conv=>whnf
 refine tst_d H (fun b8 H=>?_) (fun b8 H=>?_)
 ·conv=>whnf
  obtain rfl := Option.some.inj H
  have H := HQ4
  try dsimp only at H
  refine tst_d H (fun b12 H=>?_) (fun b12 H=>?_)
  ·conv=>whnf
   iterate 8 (refine Tst.F ?_;conv=>whnf)
   exact fin0_c (enc := (fun r : Int × Bool=>.tup [V.i r.1,V.b r.2])) H (.inr rfl) (.cons (.tmp rfl) (.cons (.tmp rfl) (.nil))) rfl rfl
  conv=>whnf
  iterate 3 (refine Tst.T ?_;conv=>whnf)
  refine ixs_c (f := MailEntry.v) H (fun _=>rfl) (fun x13 H=>?_);conv=>whnf
  iterate 3 (refine Tst.T ?_;conv=>whnf)
  refine askC2_c a2_h H (.cons (fzagg (.cons (.id rfl) (.cons (.id rfl) (.cons (.id rfl) (.cons (.id rfl) (.cons (.id rfl) (.nil)))))) rfl) (.cons (.c (.id rfl)) (.nil))) (fun v14 H=>?_);conv=>whnf
  iterate 2 (refine Tst.T ?_;conv=>whnf)
  exact fin0_c (enc := (fun r : Int × Bool=>.tup [V.i r.1,V.b r.2])) H (.inr rfl) (.cons (.tmp rfl) (.cons (.tmp rfl) (.nil))) rfl rfl
 conv=>whnf
 iterate 2 (refine Ari.w ?_;conv=>whnf)
 refine Shr.ok (by decide) ?_;conv=>whnf
 refine Ari.w ?_;conv=>whnf
 refine ixs_c (f := MailEntry.v) H (fun _=>rfl) (fun x9 H=>?_);conv=>whnf
 refine askC2_c a2_h H (.cons (fzagg (.cons (.id rfl) (.cons (.id rfl) (.cons (.id rfl) (.cons (.id rfl) (.cons (.id rfl) (.nil)))))) rfl) (.cons (.c (.id rfl)) (.nil))) (fun v10 H=>?_);conv=>whnf
 refine tst_d H (fun b11 H=>?_) (fun b11 H=>?_)
 ·conv=>whnf
  exact again_c [11,15,16,17,18,19,20,21,22,23,24,25,26,27,28,29,30,31,32,33,34] n5 0 [] (⟨_,_,H,rfl,rfl⟩) (Nat.lt_succ_self _) (Nat.zero_le _) rfl (by simp only [maskF,setF,List.set_cons_zero,List.set_cons_succ,V.ren.renL,V.ren,renL_id _ a2_h.own] <;> rfl) (by simp only [maskF,setF,List.set_cons_zero,List.set_cons_succ,V.idlt.belowL,V.idlt,fun n=>idltL_up (n := n) _ a2_h.own] <;> rfl) rfl trivial
 conv=>whnf
 refine Ari.w ?_;conv=>whnf
 exact again_c [11,15,16,17,18,19,20,21,22,23,24,25,26,27,28,29,30,31,32,33,34] n5 0 [] (⟨_,_,H,rfl,rfl⟩) (Nat.lt_succ_self _) (Nat.zero_le _) rfl (by simp only [maskF,setF,List.set_cons_zero,List.set_cons_succ,V.ren.renL,V.ren,renL_id _ a2_h.own] <;> rfl) (by simp only [maskF,setF,List.set_cons_zero,List.set_cons_succ,V.idlt.belowL,V.idlt,fun n=>idltL_up (n := n) _ a2_h.own] <;> rfl) rfl trivial
end Go.Proofs.YthlhbgedidipkaaGreat

