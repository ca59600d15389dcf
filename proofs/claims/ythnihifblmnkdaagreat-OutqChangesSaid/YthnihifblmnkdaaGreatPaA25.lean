/- OutqChanges: for every input the call returns true, and its arguments read as they did. -/
import Derived.Test.YthnihifblmnkdaaGreatPaA18
import Derived.Test.YthnihifblmnkdaaGreatPaA24
import Derived.Test.YthnihifblmnkdaaGreatPaA12
import Derived.KernelRfl
import Derived.Test.YthnihifblmnkdaaGreatPaA22
import Derived.Test.YthnihifblmnkdaaGreatPaA21
import Derived.Test.YthnihifblmnkdaaGreatPaA13
import Derived.Test.YthnihifblmnkdaaGreatRows
import Derived.Test.YthnihifblmnkdaaGreatPaA23
set_option linter.all false
namespace Go.Proofs.YthnihifblmnkdaaGreat
open Go.RowKit
set_option maxRecDepth 1000000
set_option maxHeartbeats 4000000
def gc40:BCode:=(.seq (R_ 1 [O_ 5 (.bx (t_ 2)) 0,O_ 6 (.mv (.const (.slice none 0 0))) 1,O_ 7 (.mv (i_ 0)) 1]) (.seq (.block 0 (.seq (R_ 0 [O_ 13 (.mv (t_ 0)) 0,O_ 14 (.cl 46 [(t_ 13)]) 0,O_ 15 (.bin .neq (t_ 14) (i_ 0)) 0,O_ 12 (.mv (t_ 15)) 0]) (.cond (t_ 12) (.seq (R_ 0 [O_ 16 (.mv (t_ 0)) 0,O_ 17 (.mv (t_ 0)) 0,O_ 18 (.cl 46 [(t_ 17)]) 0,O_ 6 (.mv (t_ 16)) 0,O_ 7 (.mv (t_ 18)) 0]) .ret) (.seq (R_ 0 [O_ 20 (.mv (t_ 1)) 0,O_ 21 (.cl 66 [(t_ 20)]) 0,O_ 22 (.un .not (t_ 21)) 0,O_ 19 (.mv (t_ 22)) 0]) (.cond (t_ 19) (.seq (R_ 0 [O_ 23 (.mv (t_ 0)) 0,O_ 6 (.mv (t_ 23)) 0,O_ 7 (.mv (i_ 11)) 0]) .ret) (.seq (R_ 0 [O_ 25 (.ld 4 true (t_ 5)) 0,O_ 26 (.cl 67 [(t_ 25)]) 0,O_ 27 (.bin .neq (t_ 26) (i_ 0)) 0,O_ 24 (.mv (t_ 27)) 0]) (.cond (t_ 24) (.seq (R_ 0 [O_ 28 (.mv (t_ 0)) 0,O_ 29 (.ld 4 true (t_ 5)) 0,O_ 30 (.cl 67 [(t_ 29)]) 0,O_ 6 (.mv (t_ 28)) 0,O_ 7 (.mv (t_ 30)) 0]) .ret) .skip))))))) (.seq (R_ 0 [O_ 31 (.mv (t_ 0)) 0,O_ 32 (.mv (t_ 1)) 0,O_ 33 (.cl 68 [(t_ 31),(t_ 32)]) 0,O_ 8 (.mv (t_ 33)) 0]) (.seq (.block 1 (.seq (.reg 0 [O_ 35 (.mv (t_ 8)) 0,O_ 36 (.bin .geq (t_ 35) (i_ 0)) 0,O_ 37 (.mv (t_ 36)) 0,⟨(some 38),.ld 4 true (t_ 5),(some (37,true)),0⟩,⟨(some 39),.mv (t_ 0),(some (37,true)),0⟩,⟨(some 40),.mv (t_ 8),(some (37,true)),0⟩,⟨(some 41),.ixs 5 (t_ 39) (t_ 40),(some (37,true)),0⟩,⟨(some 42),.fa 1 (t_ 41),(some (37,true)),0⟩,⟨(some 43),.ld 4 true (t_ 42),(some (37,true)),0⟩,⟨(some 44),.cl 69 [(t_ 38),(t_ 43)],(some (37,true)),0⟩,⟨(some 45),.un .not (t_ 44),(some (37,true)),0⟩,O_ 46 (.pick (t_ 37) (t_ 45) (b_ false)) 0,O_ 34 (.mv (t_ 46)) 0] (some [[],[0],[0,1],[1,0,2],[1,0,2],[1,0,2],[5,2,0,1,4],[4,1,0,2,5,6],[6,5,2,0,1,4,7],[7,4,5,6,8,2,0,1,3],[3,1,0,2,8,6,5,4,7,9],[9,7,4,5,6,8,3,10,1,0,2],[2,0,1,10,3,8,6,5,4,7,9,11]]) 0 []) (.cond (t_ 34) (.seq (R_ 0 [O_ 47 (.mv (t_ 0)) 0,O_ 6 (.mv (t_ 47)) 0,O_ 7 (.mv (i_ 0)) 0]) .ret) (.seq (.reg 0 [O_ 49 (.mv (t_ 8)) 0,O_ 50 (.bin .geq (t_ 49) (i_ 0)) 0,O_ 51 (.mv (t_ 50)) 0,⟨(some 52),.mv (t_ 0),(some (51,true)),0⟩,⟨(some 53),.mv (t_ 8),(some (51,true)),0⟩,⟨(some 54),.ixs 5 (t_ 52) (t_ 53),(some (51,true)),0⟩,⟨(some 55),.fa 1 (t_ 54),(some (51,true)),0⟩,⟨(some 56),.fa 0 (t_ 55),(some (51,true)),0⟩,⟨(some 57),.ld 1 false (t_ 56),(some (51,true)),0⟩,⟨(some 58),.fa 0 (t_ 5),(some (51,true)),0⟩,⟨(some 59),.ld 1 false (t_ 58),(some (51,true)),0⟩,⟨(some 60),.binb false (t_ 57) (t_ 59),(some (51,true)),0⟩,O_ 61 (.pick (t_ 51) (t_ 60) (b_ false)) 0,O_ 48 (.mv (t_ 61)) 0] (some [[],[0],[0,1],[1,0,2],[1,0,2],[4,2,0,1,3],[3,1,0,2,4,5],[5,4,2,0,1,3,6],[6,3,1,0,2,4,5,7],[1,0,2],[2,0,1,9],[9,10,7,5,4,2,0,1,3,6,8],[8,6,3,4,5,7,10,9,11,1,0,2],[2,0,1,11,9,10,7,5,4,3,6,8,12]]) 0 []) (.cond (t_ 48) (.seq (R_ 0 [O_ 9 (.mv (.const (.slice none 0 0))) 0]) (.seq (R_ 1 [O_ 62 (.mv (t_ 9)) 0,O_ 63 (.mv (t_ 0)) 0,O_ 64 (.ap 5 48 (t_ 62) (t_ 63)) 0,O_ 9 (.mv (t_ 64)) 1]) (.seq (R_ 0 [O_ 65 (.mv (t_ 9)) 0,O_ 66 (.mv (t_ 8)) 0,O_ 67 (.ld 4 true (t_ 5)) 0,O_ 68 (.ixs 5 (t_ 65) (t_ 66)) 0,O_ 69 (.fa 1 (t_ 68)) 0,U_ (.st 4 (t_ 69) (t_ 67)) 0]) (.seq (R_ 0 [O_ 70 (.mv (t_ 9)) 0,O_ 6 (.mv (t_ 70)) 0,O_ 7 (.mv (i_ 0)) 0]) .ret)))) (.seq (R_ 0 [O_ 72 (.mv (t_ 8)) 0,O_ 73 (.bin .lss (t_ 72) (i_ 0)) 0,O_ 74 (.mv (t_ 73)) 0,⟨(some 75),.mv (t_ 0),(some (74,true)),0⟩,⟨(some 76),.lens (t_ 75),(some (74,true)),0⟩,⟨(some 77),.bin .geq (t_ 76) (i_ 16),(some (74,true)),0⟩,O_ 78 (.pick (t_ 74) (t_ 77) (b_ false)) 0,O_ 71 (.mv (t_ 78)) 0]) (.cond (t_ 71) (.seq (R_ 0 [O_ 79 (.mv (t_ 0)) 0,O_ 6 (.mv (t_ 79)) 0,O_ 7 (.mv (i_ 7)) 0]) .ret) .skip))))))) (.seq (.reg 0 [O_ 80 (.mv (t_ 0)) 0,O_ 81 (.mv (t_ 1)) 0,O_ 82 (.cl 70 [(t_ 80),(b_ false),(t_ 81)]) 0,O_ 83 (.mv (t_ 0)) 0,O_ 84 (.mv (t_ 1)) 0,O_ 85 (.cl 70 [(t_ 83),(b_ true),(t_ 84)]) 0,O_ 10 (.mv (t_ 82)) 0,O_ 11 (.mv (t_ 85)) 0] none 4 []) (.seq (.seq (R_ 0 [O_ 86 (.fa 0 (t_ 5)) 0,O_ 87 (.ld 1 false (t_ 86)) 0]) (.cond (t_ 87) (R_ 2 [O_ 88 (.mv (t_ 11)) 0,O_ 89 (.mv (t_ 1)) 0,O_ 90 (.ld 4 true (t_ 5)) 0,O_ 91 (.bd [(.lit (.string ⟨#[]⟩)),(.lit (.bool false)),(.lit (.int .i64 0)),(.lit (.int .i64 0)),(.lit (.int .i64 0))] [(0,1,(t_ 89)),(1,4,(t_ 90))]) 0,O_ 92 (.bs 5 1 [(.lit (.string ⟨#[]⟩)),(.lit (.bool false)),(.lit (.int .i64 0)),(.lit (.int .i64 0)),(.lit (.int .i64 0))] [(0,(t_ 91))]) 0,O_ 93 (.ap 5 48 (t_ 88) (t_ 92)) 1,O_ 11 (.mv (t_ 93)) 2]) (R_ 2 [O_ 94 (.mv (t_ 10)) 0,O_ 95 (.mv (t_ 1)) 0,O_ 96 (.ld 4 true (t_ 5)) 0,O_ 97 (.bd [(.lit (.string ⟨#[]⟩)),(.lit (.bool false)),(.lit (.int .i64 0)),(.lit (.int .i64 0)),(.lit (.int .i64 0))] [(0,1,(t_ 95)),(1,4,(t_ 96))]) 0,O_ 98 (.bs 5 1 [(.lit (.string ⟨#[]⟩)),(.lit (.bool false)),(.lit (.int .i64 0)),(.lit (.int .i64 0)),(.lit (.int .i64 0))] [(0,(t_ 97))]) 0,O_ 99 (.ap 5 48 (t_ 94) (t_ 98)) 1,O_ 10 (.mv (t_ 99)) 2]))) (.seq (R_ 1 [O_ 100 (.mv (t_ 10)) 0,O_ 101 (.mv (t_ 11)) 0,O_ 102 (.ap 5 48 (t_ 100) (t_ 101)) 0,O_ 6 (.mv (t_ 102)) 1,O_ 7 (.mv (i_ 0)) 1]) .ret)))))))
theorem gc40_ok:compF Tryz.prog Tryz.f40=some (gc40.er,103,[.tmp 6,.tmp 7]):=by unfold gc40;kernel_rfl
theorem p_ref25_Put_v {u1:Bool} (a0:List MailEntry) (a1:ByteArray) (a2:PresPres):CallsO Tryz.prog 40 [.sl (List.map MailEntry.v a0) u1,.s a1,.agg [.b a2.On,.i a2.Show,.i a2.Prio,.i a2.Seq]] (fun r:(List MailEntry) × Int=>.tup [(fun l:List MailEntry=>V.sl (l.map MailEntry.v) false) r.1,V.i r.2]) (p_ref25_Put a0 a1 a2):=by
 refine callsO_comp mix Tryz.func40 gc40_ok fun r H=>?_
 rw [p_ref25_Put] at H
 conv=>whnf
 refine ask_c (p_ref25_Check_v _) H rfl rfl (fun v1 H=>?_);conv=>whnf
 refine tst_c H (fun b2 H=>?_) (fun b2 H=>?_)
 ·conv=>whnf
  refine ask_c (p_ref25_Check_v _) H rfl rfl (fun v3 H=>?_);conv=>whnf
  refine finR_c (enc:=(fun r:(List MailEntry) × Int=>.tup [(fun l:List MailEntry=>V.sl (l.map MailEntry.v) false) r.1,V.i r.2])) H ?_;conv=>whnf
  exact ⟨_,.tup (.cons (.c (.slw)) (.cons (.c (.id rfl)) (.nil)))⟩
 conv=>whnf
 refine ask_c (p_ref25_key_v _) H rfl rfl (fun v4 H=>?_);conv=>whnf
 refine Tst.not ?_
 refine tst_d H (fun b5 H=>?_) (fun b5 H=>?_)
 ·conv=>whnf
  refine finR_c (enc:=(fun r:(List MailEntry) × Int=>.tup [(fun l:List MailEntry=>V.sl (l.map MailEntry.v) false) r.1,V.i r.2])) H ?_;conv=>whnf
  exact ⟨_,.tup (.cons (.c (.slw)) (.cons (.c (.id rfl)) (.nil)))⟩
 conv=>whnf
 refine ask_c (p_ref23_Check_v _) H rfl rfl (fun v6 H=>?_);conv=>whnf
 refine tst_c H (fun b7 H=>?_) (fun b7 H=>?_)
 ·conv=>whnf
  refine ask_c (p_ref23_Check_v _) H rfl rfl (fun v8 H=>?_);conv=>whnf
  refine finR_c (enc:=(fun r:(List MailEntry) × Int=>.tup [(fun l:List MailEntry=>V.sl (l.map MailEntry.v) false) r.1,V.i r.2])) H ?_;conv=>whnf
  exact ⟨_,.tup (.cons (.c (.slw)) (.cons (.c (.id rfl)) (.nil)))⟩
 conv=>whnf
 refine ask_c (p_ref25_Find_v _ _) H rfl rfl (fun v9 H=>?_);conv=>whnf
 refine tst_d H (fun b10 H=>?_) (fun b10 H=>?_)
 ·conv=>whnf
  iterate 8 (refine Tst.F ?_;conv=>whnf)
  refine FootQ.mk ⟨rfl,?_⟩;conv=>whnf
  refine Tst.F ?_;conv=>whnf
  refine Tst.isF b10 ?_;conv=>whnf
  iterate 9 (refine Tst.F ?_;conv=>whnf)
  refine FootQ.mk ⟨rfl,?_⟩;conv=>whnf
  refine Tst.F ?_;conv=>whnf
  refine tst_d H (fun b91 H=>?_) (fun b91 H=>?_)
  ·conv=>whnf
   iterate 4 (refine Tst.F ?_;conv=>whnf)
   refine p_ref25_kind_c (i:=1) (j:=2) H (by decide) rfl rfl (fun H=>?_) (fun l128 H=>?_)
   ·conv=>whnf
    refine p_ref25_kind_c (i:=3) (j:=4) H (by decide) rfl rfl (fun H=>?_) (fun l146 H=>?_)
    ·conv=>whnf
     refine tst_c H (fun b155 H=>?_) (fun b155 H=>?_)
     ·conv=>whnf
      refine appNq_c (f:=MailEntry.v) H (fun _=>rfl) (srcM (f:=MailEntry.v) (fun _=>rfl) [] true) rfl (.v (srcOwn (f:=MailEntry.v) (l:=[(MailEntry.mk a1 a2)]) (fun _=>rfl) rfl rfl rfl)) (by decide) rfl (by simp) (fun l156 h157 H=>?_);conv=>whnf
      refine appNq_c (f:=MailEntry.v) H (fun _=>rfl) (srcM (f:=MailEntry.v) (fun _=>rfl) [] true) rfl (.v (srcOwn (f:=MailEntry.v) (l:=l156) (fun _=>rfl) rfl rfl rfl)) (by decide) rfl h157 (fun l158 h159 H=>?_);conv=>whnf
      refine finRz_c (enc:=(fun r:(List MailEntry) × Int=>.tup [(fun l:List MailEntry=>V.sl (l.map MailEntry.v) false) r.1,V.i r.2])) [7] H ?_;conv=>whnf
      refine ⟨Nat.zero_le _,?_⟩;conv=>whnf
      exact ⟨_,.tup (.cons (.c (fzown (f:=MailEntry.v) (l:=l158) rfl rfl (fun _=>rfl) (fun _=>rfl))) (.cons (.c (.id rfl)) (.nil)))⟩
     conv=>whnf
     refine appNq_c (f:=MailEntry.v) H (fun _=>rfl) (srcM (f:=MailEntry.v) (fun _=>rfl) [] true) rfl (.v (srcOwn (f:=MailEntry.v) (l:=[(MailEntry.mk a1 a2)]) (fun _=>rfl) rfl rfl rfl)) (by decide) rfl (by simp) (fun l160 h161 H=>?_);conv=>whnf
     refine appPs_c (f:=MailEntry.v) H (fun _=>rfl) rfl rfl (.v (srcM (f:=MailEntry.v) (fun _=>rfl) [] true)) (by decide) rfl (fun l162 H=>?_) (fun l162 H=>?_)
     ·conv=>whnf
      refine finRz_c (enc:=(fun r:(List MailEntry) × Int=>.tup [(fun l:List MailEntry=>V.sl (l.map MailEntry.v) false) r.1,V.i r.2])) [6] H ?_;conv=>whnf
      refine ⟨Nat.zero_le _,?_⟩;conv=>whnf
      exact ⟨_,.tup (.cons (.c (fzown (f:=MailEntry.v) (l:=l162) rfl rfl (fun _=>rfl) (fun _=>rfl))) (.cons (.c (.id rfl)) (.nil)))⟩
     conv=>whnf
     refine finRz_c (enc:=(fun r:(List MailEntry) × Int=>.tup [(fun l:List MailEntry=>V.sl (l.map MailEntry.v) false) r.1,V.i r.2])) [7] H ?_;conv=>whnf
     refine ⟨Nat.zero_le _,?_⟩;conv=>whnf
     exact ⟨_,.tup (.cons (.c (fzown (f:=MailEntry.v) (l:=l162) rfl rfl (fun _=>rfl) (fun _=>rfl))) (.cons (.c (.id rfl)) (.nil)))⟩
    conv=>whnf
    refine tst_c H (fun b147 H=>?_) (fun b147 H=>?_)
    ·conv=>whnf
     refine appOq_c (f:=MailEntry.v) H (fun _=>rfl) rfl rfl (.v (srcOwn (f:=MailEntry.v) (l:=[(MailEntry.mk a1 a2)]) (fun _=>rfl) rfl rfl rfl)) (by decide) rfl (by simp) (fun l148 h149 H=>?_);conv=>whnf
     refine appNq_c (f:=MailEntry.v) H (fun _=>rfl) (srcM (f:=MailEntry.v) (fun _=>rfl) [] true) rfl (.v (srcOwn (f:=MailEntry.v) (l:=l148) (fun _=>rfl) rfl rfl rfl)) (by decide) rfl h149 (fun l150 h151 H=>?_);conv=>whnf
     refine finRz_c (enc:=(fun r:(List MailEntry) × Int=>.tup [(fun l:List MailEntry=>V.sl (l.map MailEntry.v) false) r.1,V.i r.2])) [7] H ?_;conv=>whnf
     refine ⟨Nat.zero_le _,?_⟩;conv=>whnf
     exact ⟨_,.tup (.cons (.c (fzown (f:=MailEntry.v) (l:=l150) rfl rfl (fun _=>rfl) (fun _=>rfl))) (.cons (.c (.id rfl)) (.nil)))⟩
    conv=>whnf
    refine appNq_c (f:=MailEntry.v) H (fun _=>rfl) (srcM (f:=MailEntry.v) (fun _=>rfl) [] true) rfl (.v (srcOwn (f:=MailEntry.v) (l:=[(MailEntry.mk a1 a2)]) (fun _=>rfl) rfl rfl rfl)) (by decide) rfl (by simp) (fun l152 h153 H=>?_);conv=>whnf
    refine appPs_c (f:=MailEntry.v) H (fun _=>rfl) rfl rfl (.v (srcOwn (f:=MailEntry.v) (l:=l146) (fun _=>rfl) rfl rfl rfl)) (by decide) rfl (fun l154 H=>?_) (fun l154 H=>?_)
    ·conv=>whnf
     refine finRz_c (enc:=(fun r:(List MailEntry) × Int=>.tup [(fun l:List MailEntry=>V.sl (l.map MailEntry.v) false) r.1,V.i r.2])) [6] H ?_;conv=>whnf
     refine ⟨Nat.zero_le _,?_⟩;conv=>whnf
     exact ⟨_,.tup (.cons (.c (fzown (f:=MailEntry.v) (l:=l154) rfl rfl (fun _=>rfl) (fun _=>rfl))) (.cons (.c (.id rfl)) (.nil)))⟩
    conv=>whnf
    refine finRz_c (enc:=(fun r:(List MailEntry) × Int=>.tup [(fun l:List MailEntry=>V.sl (l.map MailEntry.v) false) r.1,V.i r.2])) [7] H ?_;conv=>whnf
    refine ⟨Nat.zero_le _,?_⟩;conv=>whnf
    exact ⟨_,.tup (.cons (.c (fzown (f:=MailEntry.v) (l:=l154) rfl rfl (fun _=>rfl) (fun _=>rfl))) (.cons (.c (.id rfl)) (.nil)))⟩
   conv=>whnf
   refine p_ref25_kind_c (i:=3) (j:=4) H (by decide) rfl rfl (fun H=>?_) (fun l129 H=>?_)
   ·conv=>whnf
    refine tst_c H (fun b138 H=>?_) (fun b138 H=>?_)
    ·conv=>whnf
     refine appNq_c (f:=MailEntry.v) H (fun _=>rfl) (srcM (f:=MailEntry.v) (fun _=>rfl) [] true) rfl (.v (srcOwn (f:=MailEntry.v) (l:=[(MailEntry.mk a1 a2)]) (fun _=>rfl) rfl rfl rfl)) (by decide) rfl (by simp) (fun l139 h140 H=>?_);conv=>whnf
     refine appOq_c (f:=MailEntry.v) H (fun _=>rfl) rfl rfl (.v (srcOwn (f:=MailEntry.v) (l:=l139) (fun _=>rfl) rfl rfl rfl)) (by decide) rfl h140 (fun l141 h142 H=>?_);conv=>whnf
     refine finRz_c (enc:=(fun r:(List MailEntry) × Int=>.tup [(fun l:List MailEntry=>V.sl (l.map MailEntry.v) false) r.1,V.i r.2])) [7] H ?_;conv=>whnf
     refine ⟨Nat.zero_le _,?_⟩;conv=>whnf
     exact ⟨_,.tup (.cons (.c (fzown (f:=MailEntry.v) (l:=l141) rfl rfl (fun _=>rfl) (fun _=>rfl))) (.cons (.c (.id rfl)) (.nil)))⟩
    conv=>whnf
    refine appOq_c (f:=MailEntry.v) H (fun _=>rfl) rfl rfl (.v (srcOwn (f:=MailEntry.v) (l:=[(MailEntry.mk a1 a2)]) (fun _=>rfl) rfl rfl rfl)) (by decide) rfl (by simp) (fun l143 h144 H=>?_);conv=>whnf
    refine appPs_c (f:=MailEntry.v) H (fun _=>rfl) rfl rfl (.v (srcM (f:=MailEntry.v) (fun _=>rfl) [] true)) (by decide) rfl (fun l145 H=>?_) (fun l145 H=>?_)
    ·conv=>whnf
     refine finRz_c (enc:=(fun r:(List MailEntry) × Int=>.tup [(fun l:List MailEntry=>V.sl (l.map MailEntry.v) false) r.1,V.i r.2])) [6] H ?_;conv=>whnf
     refine ⟨Nat.zero_le _,?_⟩;conv=>whnf
     exact ⟨_,.tup (.cons (.c (fzown (f:=MailEntry.v) (l:=l145) rfl rfl (fun _=>rfl) (fun _=>rfl))) (.cons (.c (.id rfl)) (.nil)))⟩
    conv=>whnf
    refine finRz_c (enc:=(fun r:(List MailEntry) × Int=>.tup [(fun l:List MailEntry=>V.sl (l.map MailEntry.v) false) r.1,V.i r.2])) [7] H ?_;conv=>whnf
    refine ⟨Nat.zero_le _,?_⟩;conv=>whnf
    exact ⟨_,.tup (.cons (.c (fzown (f:=MailEntry.v) (l:=l145) rfl rfl (fun _=>rfl) (fun _=>rfl))) (.cons (.c (.id rfl)) (.nil)))⟩
   conv=>whnf
   refine tst_c H (fun b130 H=>?_) (fun b130 H=>?_)
   ·conv=>whnf
    refine appOq_c (f:=MailEntry.v) H (fun _=>rfl) rfl rfl (.v (srcOwn (f:=MailEntry.v) (l:=[(MailEntry.mk a1 a2)]) (fun _=>rfl) rfl rfl rfl)) (by decide) rfl (by simp) (fun l131 h132 H=>?_);conv=>whnf
    refine appOq_c (f:=MailEntry.v) H (fun _=>rfl) rfl rfl (.v (srcOwn (f:=MailEntry.v) (l:=l131) (fun _=>rfl) rfl rfl rfl)) (by decide) rfl h132 (fun l133 h134 H=>?_);conv=>whnf
    refine finRz_c (enc:=(fun r:(List MailEntry) × Int=>.tup [(fun l:List MailEntry=>V.sl (l.map MailEntry.v) false) r.1,V.i r.2])) [7] H ?_;conv=>whnf
    refine ⟨Nat.zero_le _,?_⟩;conv=>whnf
    exact ⟨_,.tup (.cons (.c (fzown (f:=MailEntry.v) (l:=l133) rfl rfl (fun _=>rfl) (fun _=>rfl))) (.cons (.c (.id rfl)) (.nil)))⟩
   conv=>whnf
   refine appOq_c (f:=MailEntry.v) H (fun _=>rfl) rfl rfl (.v (srcOwn (f:=MailEntry.v) (l:=[(MailEntry.mk a1 a2)]) (fun _=>rfl) rfl rfl rfl)) (by decide) rfl (by simp) (fun l135 h136 H=>?_);conv=>whnf
   refine appPs_c (f:=MailEntry.v) H (fun _=>rfl) rfl rfl (.v (srcOwn (f:=MailEntry.v) (l:=l129) (fun _=>rfl) rfl rfl rfl)) (by decide) rfl (fun l137 H=>?_) (fun l137 H=>?_)
   ·conv=>whnf
    refine finRz_c (enc:=(fun r:(List MailEntry) × Int=>.tup [(fun l:List MailEntry=>V.sl (l.map MailEntry.v) false) r.1,V.i r.2])) [6] H ?_;conv=>whnf
    refine ⟨Nat.zero_le _,?_⟩;conv=>whnf
    exact ⟨_,.tup (.cons (.c (fzown (f:=MailEntry.v) (l:=l137) rfl rfl (fun _=>rfl) (fun _=>rfl))) (.cons (.c (.id rfl)) (.nil)))⟩
   conv=>whnf
   refine finRz_c (enc:=(fun r:(List MailEntry) × Int=>.tup [(fun l:List MailEntry=>V.sl (l.map MailEntry.v) false) r.1,V.i r.2])) [7] H ?_;conv=>whnf
   refine ⟨Nat.zero_le _,?_⟩;conv=>whnf
   exact ⟨_,.tup (.cons (.c (fzown (f:=MailEntry.v) (l:=l137) rfl rfl (fun _=>rfl) (fun _=>rfl))) (.cons (.c (.id rfl)) (.nil)))⟩
  conv=>whnf
  refine Tst.T ?_;conv=>whnf
  refine LenQ.M ?_;conv=>whnf
  iterate 2 (refine Tst.T ?_;conv=>whnf)
  refine tst_c H (fun b92 H=>?_) (fun b92 H=>?_)
  ·conv=>whnf
   refine finR_c (enc:=(fun r:(List MailEntry) × Int=>.tup [(fun l:List MailEntry=>V.sl (l.map MailEntry.v) false) r.1,V.i r.2])) H ?_;conv=>whnf
   exact ⟨_,.tup (.cons (.c (.slw)) (.cons (.c (.id rfl)) (.nil)))⟩
  conv=>whnf
  refine p_ref25_kind_c (i:=1) (j:=2) H (by decide) rfl rfl (fun H=>?_) (fun l93 H=>?_)
  ·conv=>whnf
   refine p_ref25_kind_c (i:=3) (j:=4) H (by decide) rfl rfl (fun H=>?_) (fun l111 H=>?_)
   ·conv=>whnf
    refine tst_c H (fun b120 H=>?_) (fun b120 H=>?_)
    ·conv=>whnf
     refine appNq_c (f:=MailEntry.v) H (fun _=>rfl) (srcM (f:=MailEntry.v) (fun _=>rfl) [] true) rfl (.v (srcOwn (f:=MailEntry.v) (l:=[(MailEntry.mk a1 a2)]) (fun _=>rfl) rfl rfl rfl)) (by decide) rfl (by simp) (fun l121 h122 H=>?_);conv=>whnf
     refine appNq_c (f:=MailEntry.v) H (fun _=>rfl) (srcM (f:=MailEntry.v) (fun _=>rfl) [] true) rfl (.v (srcOwn (f:=MailEntry.v) (l:=l121) (fun _=>rfl) rfl rfl rfl)) (by decide) rfl h122 (fun l123 h124 H=>?_);conv=>whnf
     refine finRz_c (enc:=(fun r:(List MailEntry) × Int=>.tup [(fun l:List MailEntry=>V.sl (l.map MailEntry.v) false) r.1,V.i r.2])) [7] H ?_;conv=>whnf
     refine ⟨Nat.zero_le _,?_⟩;conv=>whnf
     exact ⟨_,.tup (.cons (.c (fzown (f:=MailEntry.v) (l:=l123) rfl rfl (fun _=>rfl) (fun _=>rfl))) (.cons (.c (.id rfl)) (.nil)))⟩
    conv=>whnf
    refine appNq_c (f:=MailEntry.v) H (fun _=>rfl) (srcM (f:=MailEntry.v) (fun _=>rfl) [] true) rfl (.v (srcOwn (f:=MailEntry.v) (l:=[(MailEntry.mk a1 a2)]) (fun _=>rfl) rfl rfl rfl)) (by decide) rfl (by simp) (fun l125 h126 H=>?_);conv=>whnf
    refine appPs_c (f:=MailEntry.v) H (fun _=>rfl) rfl rfl (.v (srcM (f:=MailEntry.v) (fun _=>rfl) [] true)) (by decide) rfl (fun l127 H=>?_) (fun l127 H=>?_)
    ·conv=>whnf
     refine finRz_c (enc:=(fun r:(List MailEntry) × Int=>.tup [(fun l:List MailEntry=>V.sl (l.map MailEntry.v) false) r.1,V.i r.2])) [6] H ?_;conv=>whnf
     refine ⟨Nat.zero_le _,?_⟩;conv=>whnf
     exact ⟨_,.tup (.cons (.c (fzown (f:=MailEntry.v) (l:=l127) rfl rfl (fun _=>rfl) (fun _=>rfl))) (.cons (.c (.id rfl)) (.nil)))⟩
    conv=>whnf
    refine finRz_c (enc:=(fun r:(List MailEntry) × Int=>.tup [(fun l:List MailEntry=>V.sl (l.map MailEntry.v) false) r.1,V.i r.2])) [7] H ?_;conv=>whnf
    refine ⟨Nat.zero_le _,?_⟩;conv=>whnf
    exact ⟨_,.tup (.cons (.c (fzown (f:=MailEntry.v) (l:=l127) rfl rfl (fun _=>rfl) (fun _=>rfl))) (.cons (.c (.id rfl)) (.nil)))⟩
   conv=>whnf
   refine tst_c H (fun b112 H=>?_) (fun b112 H=>?_)
   ·conv=>whnf
    refine appOq_c (f:=MailEntry.v) H (fun _=>rfl) rfl rfl (.v (srcOwn (f:=MailEntry.v) (l:=[(MailEntry.mk a1 a2)]) (fun _=>rfl) rfl rfl rfl)) (by decide) rfl (by simp) (fun l113 h114 H=>?_);conv=>whnf
    refine appNq_c (f:=MailEntry.v) H (fun _=>rfl) (srcM (f:=MailEntry.v) (fun _=>rfl) [] true) rfl (.v (srcOwn (f:=MailEntry.v) (l:=l113) (fun _=>rfl) rfl rfl rfl)) (by decide) rfl h114 (fun l115 h116 H=>?_);conv=>whnf
    refine finRz_c (enc:=(fun r:(List MailEntry) × Int=>.tup [(fun l:List MailEntry=>V.sl (l.map MailEntry.v) false) r.1,V.i r.2])) [7] H ?_;conv=>whnf
    refine ⟨Nat.zero_le _,?_⟩;conv=>whnf
    exact ⟨_,.tup (.cons (.c (fzown (f:=MailEntry.v) (l:=l115) rfl rfl (fun _=>rfl) (fun _=>rfl))) (.cons (.c (.id rfl)) (.nil)))⟩
   conv=>whnf
   refine appNq_c (f:=MailEntry.v) H (fun _=>rfl) (srcM (f:=MailEntry.v) (fun _=>rfl) [] true) rfl (.v (srcOwn (f:=MailEntry.v) (l:=[(MailEntry.mk a1 a2)]) (fun _=>rfl) rfl rfl rfl)) (by decide) rfl (by simp) (fun l117 h118 H=>?_);conv=>whnf
   refine appPs_c (f:=MailEntry.v) H (fun _=>rfl) rfl rfl (.v (srcOwn (f:=MailEntry.v) (l:=l111) (fun _=>rfl) rfl rfl rfl)) (by decide) rfl (fun l119 H=>?_) (fun l119 H=>?_)
   ·conv=>whnf
    refine finRz_c (enc:=(fun r:(List MailEntry) × Int=>.tup [(fun l:List MailEntry=>V.sl (l.map MailEntry.v) false) r.1,V.i r.2])) [6] H ?_;conv=>whnf
    refine ⟨Nat.zero_le _,?_⟩;conv=>whnf
    exact ⟨_,.tup (.cons (.c (fzown (f:=MailEntry.v) (l:=l119) rfl rfl (fun _=>rfl) (fun _=>rfl))) (.cons (.c (.id rfl)) (.nil)))⟩
   conv=>whnf
   refine finRz_c (enc:=(fun r:(List MailEntry) × Int=>.tup [(fun l:List MailEntry=>V.sl (l.map MailEntry.v) false) r.1,V.i r.2])) [7] H ?_;conv=>whnf
   refine ⟨Nat.zero_le _,?_⟩;conv=>whnf
   exact ⟨_,.tup (.cons (.c (fzown (f:=MailEntry.v) (l:=l119) rfl rfl (fun _=>rfl) (fun _=>rfl))) (.cons (.c (.id rfl)) (.nil)))⟩
  conv=>whnf
  refine p_ref25_kind_c (i:=3) (j:=4) H (by decide) rfl rfl (fun H=>?_) (fun l94 H=>?_)
  ·conv=>whnf
   refine tst_c H (fun b103 H=>?_) (fun b103 H=>?_)
   ·conv=>whnf
    refine appNq_c (f:=MailEntry.v) H (fun _=>rfl) (srcM (f:=MailEntry.v) (fun _=>rfl) [] true) rfl (.v (srcOwn (f:=MailEntry.v) (l:=[(MailEntry.mk a1 a2)]) (fun _=>rfl) rfl rfl rfl)) (by decide) rfl (by simp) (fun l104 h105 H=>?_);conv=>whnf
    refine appOq_c (f:=MailEntry.v) H (fun _=>rfl) rfl rfl (.v (srcOwn (f:=MailEntry.v) (l:=l104) (fun _=>rfl) rfl rfl rfl)) (by decide) rfl h105 (fun l106 h107 H=>?_);conv=>whnf
    refine finRz_c (enc:=(fun r:(List MailEntry) × Int=>.tup [(fun l:List MailEntry=>V.sl (l.map MailEntry.v) false) r.1,V.i r.2])) [7] H ?_;conv=>whnf
    refine ⟨Nat.zero_le _,?_⟩;conv=>whnf
    exact ⟨_,.tup (.cons (.c (fzown (f:=MailEntry.v) (l:=l106) rfl rfl (fun _=>rfl) (fun _=>rfl))) (.cons (.c (.id rfl)) (.nil)))⟩
   conv=>whnf
   refine appOq_c (f:=MailEntry.v) H (fun _=>rfl) rfl rfl (.v (srcOwn (f:=MailEntry.v) (l:=[(MailEntry.mk a1 a2)]) (fun _=>rfl) rfl rfl rfl)) (by decide) rfl (by simp) (fun l108 h109 H=>?_);conv=>whnf
   refine appPs_c (f:=MailEntry.v) H (fun _=>rfl) rfl rfl (.v (srcM (f:=MailEntry.v) (fun _=>rfl) [] true)) (by decide) rfl (fun l110 H=>?_) (fun l110 H=>?_)
   ·conv=>whnf
    refine finRz_c (enc:=(fun r:(List MailEntry) × Int=>.tup [(fun l:List MailEntry=>V.sl (l.map MailEntry.v) false) r.1,V.i r.2])) [6] H ?_;conv=>whnf
    refine ⟨Nat.zero_le _,?_⟩;conv=>whnf
    exact ⟨_,.tup (.cons (.c (fzown (f:=MailEntry.v) (l:=l110) rfl rfl (fun _=>rfl) (fun _=>rfl))) (.cons (.c (.id rfl)) (.nil)))⟩
   conv=>whnf
   refine finRz_c (enc:=(fun r:(List MailEntry) × Int=>.tup [(fun l:List MailEntry=>V.sl (l.map MailEntry.v) false) r.1,V.i r.2])) [7] H ?_;conv=>whnf
   refine ⟨Nat.zero_le _,?_⟩;conv=>whnf
   exact ⟨_,.tup (.cons (.c (fzown (f:=MailEntry.v) (l:=l110) rfl rfl (fun _=>rfl) (fun _=>rfl))) (.cons (.c (.id rfl)) (.nil)))⟩
  conv=>whnf
  refine tst_c H (fun b95 H=>?_) (fun b95 H=>?_)
  ·conv=>whnf
   refine appOq_c (f:=MailEntry.v) H (fun _=>rfl) rfl rfl (.v (srcOwn (f:=MailEntry.v) (l:=[(MailEntry.mk a1 a2)]) (fun _=>rfl) rfl rfl rfl)) (by decide) rfl (by simp) (fun l96 h97 H=>?_);conv=>whnf
   refine appOq_c (f:=MailEntry.v) H (fun _=>rfl) rfl rfl (.v (srcOwn (f:=MailEntry.v) (l:=l96) (fun _=>rfl) rfl rfl rfl)) (by decide) rfl h97 (fun l98 h99 H=>?_);conv=>whnf
   refine finRz_c (enc:=(fun r:(List MailEntry) × Int=>.tup [(fun l:List MailEntry=>V.sl (l.map MailEntry.v) false) r.1,V.i r.2])) [7] H ?_;conv=>whnf
   refine ⟨Nat.zero_le _,?_⟩;conv=>whnf
   exact ⟨_,.tup (.cons (.c (fzown (f:=MailEntry.v) (l:=l98) rfl rfl (fun _=>rfl) (fun _=>rfl))) (.cons (.c (.id rfl)) (.nil)))⟩
  conv=>whnf
  refine appOq_c (f:=MailEntry.v) H (fun _=>rfl) rfl rfl (.v (srcOwn (f:=MailEntry.v) (l:=[(MailEntry.mk a1 a2)]) (fun _=>rfl) rfl rfl rfl)) (by decide) rfl (by simp) (fun l100 h101 H=>?_);conv=>whnf
  refine appPs_c (f:=MailEntry.v) H (fun _=>rfl) rfl rfl (.v (srcOwn (f:=MailEntry.v) (l:=l94) (fun _=>rfl) rfl rfl rfl)) (by decide) rfl (fun l102 H=>?_) (fun l102 H=>?_)
  ·conv=>whnf
   refine finRz_c (enc:=(fun r:(List MailEntry) × Int=>.tup [(fun l:List MailEntry=>V.sl (l.map MailEntry.v) false) r.1,V.i r.2])) [6] H ?_;conv=>whnf
   refine ⟨Nat.zero_le _,?_⟩;conv=>whnf
   exact ⟨_,.tup (.cons (.c (fzown (f:=MailEntry.v) (l:=l102) rfl rfl (fun _=>rfl) (fun _=>rfl))) (.cons (.c (.id rfl)) (.nil)))⟩
  conv=>whnf
  refine finRz_c (enc:=(fun r:(List MailEntry) × Int=>.tup [(fun l:List MailEntry=>V.sl (l.map MailEntry.v) false) r.1,V.i r.2])) [7] H ?_;conv=>whnf
  refine ⟨Nat.zero_le _,?_⟩;conv=>whnf
  exact ⟨_,.tup (.cons (.c (fzown (f:=MailEntry.v) (l:=l102) rfl rfl (fun _=>rfl) (fun _=>rfl))) (.cons (.c (.id rfl)) (.nil)))⟩
 conv=>whnf
 iterate 3 (refine Tst.T ?_;conv=>whnf)
 refine ixs_c (f:=MailEntry.v) H (fun _=>rfl) (fun x11 H=>?_);conv=>whnf
 refine Tst.T ?_;conv=>whnf
 refine lq_ ?_;conv=>whnf
 iterate 2 (refine Tst.T ?_;conv=>whnf)
 refine ask_c (p_ref23_Newer_v _ _) H rfl rfl (fun v12 H=>?_);conv=>whnf
 iterate 2 (refine Tst.T ?_;conv=>whnf)
 refine FootQ.mk ⟨rfl,?_⟩;conv=>whnf
 refine Tst.not ?_
 refine tst_d H (fun b13 H=>?_) (fun b13 H=>?_)
 ·conv=>whnf
  refine finR_c (enc:=(fun r:(List MailEntry) × Int=>.tup [(fun l:List MailEntry=>V.sl (l.map MailEntry.v) false) r.1,V.i r.2])) H ?_;conv=>whnf
  exact ⟨_,.tup (.cons (.c (.slw)) (.cons (.c (.id rfl)) (.nil)))⟩
 conv=>whnf
 refine Tst.isT b10 ?_;conv=>whnf
 iterate 2 (refine Tst.T ?_;conv=>whnf)
 refine ixs_c (f:=MailEntry.v) H (fun _=>rfl) (fun x14 H=>?_);conv=>whnf
 refine Tst.T ?_;conv=>whnf
 refine lq_ ?_;conv=>whnf
 refine Tst.T ?_;conv=>whnf
 refine lq_ ?_;conv=>whnf
 iterate 5 (refine Tst.T ?_;conv=>whnf)
 refine FootQ.mk ⟨rfl,?_⟩;conv=>whnf
 refine tst_c H (fun b15 H=>?_) (fun b15 H=>?_)
 ·conv=>whnf
  refine appEs_c (f:=MailEntry.v) H (fun _=>rfl) rfl (.v (srcM (f:=MailEntry.v) (fun _=>rfl) _ _)) (by decide) rfl (fun H=>?_) (fun l16 H=>?_)
  ·conv=>whnf
   exact nil_at H
  conv=>whnf
  refine ⟨rfl,ixo_c H (fun x17 h18 H=>?_)⟩;conv=>whnf
  refine ⟨Nat.zero_le _,sto_c (f:=MailEntry.v) (es:=5) h18 (x':=(MailEntry.mk x17.Key a2)) (fun _=>rfl) 1 (by omega) (Nat.le_of_ble_eq_true rfl) (by rfl) ?_⟩;conv=>whnf
  refine finRz_c (enc:=(fun r:(List MailEntry) × Int=>.tup [(fun l:List MailEntry=>V.sl (l.map MailEntry.v) false) r.1,V.i r.2])) [1] H ?_;conv=>whnf
  refine ⟨Nat.zero_le _,?_⟩;conv=>whnf
  exact ⟨_,.tup (.cons (.c (fzc_made (f:=MailEntry.v) (l:=(List.set l16 (Int.toNat v9) (MailEntry.mk x17.Key a2))) rfl rfl rfl (by simp) (fun _=>rfl) (fun _=>rfl))) (.cons (.c (.id rfl)) (.nil)))⟩
 conv=>whnf
 refine tst_d H (fun b19 H=>?_) (fun b19 H=>?_)
 ·conv=>whnf
  iterate 4 (refine Tst.F ?_;conv=>whnf)
  refine p_ref25_kind_c (i:=1) (j:=2) H (by decide) rfl rfl (fun H=>?_) (fun l56 H=>?_)
  ·conv=>whnf
   refine p_ref25_kind_c (i:=3) (j:=4) H (by decide) rfl rfl (fun H=>?_) (fun l74 H=>?_)
   ·conv=>whnf
    refine tst_c H (fun b83 H=>?_) (fun b83 H=>?_)
    ·conv=>whnf
     refine appNq_c (f:=MailEntry.v) H (fun _=>rfl) (srcM (f:=MailEntry.v) (fun _=>rfl) [] true) rfl (.v (srcOwn (f:=MailEntry.v) (l:=[(MailEntry.mk a1 a2)]) (fun _=>rfl) rfl rfl rfl)) (by decide) rfl (by simp) (fun l84 h85 H=>?_);conv=>whnf
     refine appNq_c (f:=MailEntry.v) H (fun _=>rfl) (srcM (f:=MailEntry.v) (fun _=>rfl) [] true) rfl (.v (srcOwn (f:=MailEntry.v) (l:=l84) (fun _=>rfl) rfl rfl rfl)) (by decide) rfl h85 (fun l86 h87 H=>?_);conv=>whnf
     refine finRz_c (enc:=(fun r:(List MailEntry) × Int=>.tup [(fun l:List MailEntry=>V.sl (l.map MailEntry.v) false) r.1,V.i r.2])) [7] H ?_;conv=>whnf
     refine ⟨Nat.zero_le _,?_⟩;conv=>whnf
     exact ⟨_,.tup (.cons (.c (fzown (f:=MailEntry.v) (l:=l86) rfl rfl (fun _=>rfl) (fun _=>rfl))) (.cons (.c (.id rfl)) (.nil)))⟩
    conv=>whnf
    refine appNq_c (f:=MailEntry.v) H (fun _=>rfl) (srcM (f:=MailEntry.v) (fun _=>rfl) [] true) rfl (.v (srcOwn (f:=MailEntry.v) (l:=[(MailEntry.mk a1 a2)]) (fun _=>rfl) rfl rfl rfl)) (by decide) rfl (by simp) (fun l88 h89 H=>?_);conv=>whnf
    refine appPs_c (f:=MailEntry.v) H (fun _=>rfl) rfl rfl (.v (srcM (f:=MailEntry.v) (fun _=>rfl) [] true)) (by decide) rfl (fun l90 H=>?_) (fun l90 H=>?_)
    ·conv=>whnf
     refine finRz_c (enc:=(fun r:(List MailEntry) × Int=>.tup [(fun l:List MailEntry=>V.sl (l.map MailEntry.v) false) r.1,V.i r.2])) [6] H ?_;conv=>whnf
     refine ⟨Nat.zero_le _,?_⟩;conv=>whnf
     exact ⟨_,.tup (.cons (.c (fzown (f:=MailEntry.v) (l:=l90) rfl rfl (fun _=>rfl) (fun _=>rfl))) (.cons (.c (.id rfl)) (.nil)))⟩
    conv=>whnf
    refine finRz_c (enc:=(fun r:(List MailEntry) × Int=>.tup [(fun l:List MailEntry=>V.sl (l.map MailEntry.v) false) r.1,V.i r.2])) [7] H ?_;conv=>whnf
    refine ⟨Nat.zero_le _,?_⟩;conv=>whnf
    exact ⟨_,.tup (.cons (.c (fzown (f:=MailEntry.v) (l:=l90) rfl rfl (fun _=>rfl) (fun _=>rfl))) (.cons (.c (.id rfl)) (.nil)))⟩
   conv=>whnf
   refine tst_c H (fun b75 H=>?_) (fun b75 H=>?_)
   ·conv=>whnf
    refine appOq_c (f:=MailEntry.v) H (fun _=>rfl) rfl rfl (.v (srcOwn (f:=MailEntry.v) (l:=[(MailEntry.mk a1 a2)]) (fun _=>rfl) rfl rfl rfl)) (by decide) rfl (by simp) (fun l76 h77 H=>?_);conv=>whnf
    refine appNq_c (f:=MailEntry.v) H (fun _=>rfl) (srcM (f:=MailEntry.v) (fun _=>rfl) [] true) rfl (.v (srcOwn (f:=MailEntry.v) (l:=l76) (fun _=>rfl) rfl rfl rfl)) (by decide) rfl h77 (fun l78 h79 H=>?_);conv=>whnf
    refine finRz_c (enc:=(fun r:(List MailEntry) × Int=>.tup [(fun l:List MailEntry=>V.sl (l.map MailEntry.v) false) r.1,V.i r.2])) [7] H ?_;conv=>whnf
    refine ⟨Nat.zero_le _,?_⟩;conv=>whnf
    exact ⟨_,.tup (.cons (.c (fzown (f:=MailEntry.v) (l:=l78) rfl rfl (fun _=>rfl) (fun _=>rfl))) (.cons (.c (.id rfl)) (.nil)))⟩
   conv=>whnf
   refine appNq_c (f:=MailEntry.v) H (fun _=>rfl) (srcM (f:=MailEntry.v) (fun _=>rfl) [] true) rfl (.v (srcOwn (f:=MailEntry.v) (l:=[(MailEntry.mk a1 a2)]) (fun _=>rfl) rfl rfl rfl)) (by decide) rfl (by simp) (fun l80 h81 H=>?_);conv=>whnf
   refine appPs_c (f:=MailEntry.v) H (fun _=>rfl) rfl rfl (.v (srcOwn (f:=MailEntry.v) (l:=l74) (fun _=>rfl) rfl rfl rfl)) (by decide) rfl (fun l82 H=>?_) (fun l82 H=>?_)
   ·conv=>whnf
    refine finRz_c (enc:=(fun r:(List MailEntry) × Int=>.tup [(fun l:List MailEntry=>V.sl (l.map MailEntry.v) false) r.1,V.i r.2])) [6] H ?_;conv=>whnf
    refine ⟨Nat.zero_le _,?_⟩;conv=>whnf
    exact ⟨_,.tup (.cons (.c (fzown (f:=MailEntry.v) (l:=l82) rfl rfl (fun _=>rfl) (fun _=>rfl))) (.cons (.c (.id rfl)) (.nil)))⟩
   conv=>whnf
   refine finRz_c (enc:=(fun r:(List MailEntry) × Int=>.tup [(fun l:List MailEntry=>V.sl (l.map MailEntry.v) false) r.1,V.i r.2])) [7] H ?_;conv=>whnf
   refine ⟨Nat.zero_le _,?_⟩;conv=>whnf
   exact ⟨_,.tup (.cons (.c (fzown (f:=MailEntry.v) (l:=l82) rfl rfl (fun _=>rfl) (fun _=>rfl))) (.cons (.c (.id rfl)) (.nil)))⟩
  conv=>whnf
  refine p_ref25_kind_c (i:=3) (j:=4) H (by decide) rfl rfl (fun H=>?_) (fun l57 H=>?_)
  ·conv=>whnf
   refine tst_c H (fun b66 H=>?_) (fun b66 H=>?_)
   ·conv=>whnf
    refine appNq_c (f:=MailEntry.v) H (fun _=>rfl) (srcM (f:=MailEntry.v) (fun _=>rfl) [] true) rfl (.v (srcOwn (f:=MailEntry.v) (l:=[(MailEntry.mk a1 a2)]) (fun _=>rfl) rfl rfl rfl)) (by decide) rfl (by simp) (fun l67 h68 H=>?_);conv=>whnf
    refine appOq_c (f:=MailEntry.v) H (fun _=>rfl) rfl rfl (.v (srcOwn (f:=MailEntry.v) (l:=l67) (fun _=>rfl) rfl rfl rfl)) (by decide) rfl h68 (fun l69 h70 H=>?_);conv=>whnf
    refine finRz_c (enc:=(fun r:(List MailEntry) × Int=>.tup [(fun l:List MailEntry=>V.sl (l.map MailEntry.v) false) r.1,V.i r.2])) [7] H ?_;conv=>whnf
    refine ⟨Nat.zero_le _,?_⟩;conv=>whnf
    exact ⟨_,.tup (.cons (.c (fzown (f:=MailEntry.v) (l:=l69) rfl rfl (fun _=>rfl) (fun _=>rfl))) (.cons (.c (.id rfl)) (.nil)))⟩
   conv=>whnf
   refine appOq_c (f:=MailEntry.v) H (fun _=>rfl) rfl rfl (.v (srcOwn (f:=MailEntry.v) (l:=[(MailEntry.mk a1 a2)]) (fun _=>rfl) rfl rfl rfl)) (by decide) rfl (by simp) (fun l71 h72 H=>?_);conv=>whnf
   refine appPs_c (f:=MailEntry.v) H (fun _=>rfl) rfl rfl (.v (srcM (f:=MailEntry.v) (fun _=>rfl) [] true)) (by decide) rfl (fun l73 H=>?_) (fun l73 H=>?_)
   ·conv=>whnf
    refine finRz_c (enc:=(fun r:(List MailEntry) × Int=>.tup [(fun l:List MailEntry=>V.sl (l.map MailEntry.v) false) r.1,V.i r.2])) [6] H ?_;conv=>whnf
    refine ⟨Nat.zero_le _,?_⟩;conv=>whnf
    exact ⟨_,.tup (.cons (.c (fzown (f:=MailEntry.v) (l:=l73) rfl rfl (fun _=>rfl) (fun _=>rfl))) (.cons (.c (.id rfl)) (.nil)))⟩
   conv=>whnf
   refine finRz_c (enc:=(fun r:(List MailEntry) × Int=>.tup [(fun l:List MailEntry=>V.sl (l.map MailEntry.v) false) r.1,V.i r.2])) [7] H ?_;conv=>whnf
   refine ⟨Nat.zero_le _,?_⟩;conv=>whnf
   exact ⟨_,.tup (.cons (.c (fzown (f:=MailEntry.v) (l:=l73) rfl rfl (fun _=>rfl) (fun _=>rfl))) (.cons (.c (.id rfl)) (.nil)))⟩
  conv=>whnf
  refine tst_c H (fun b58 H=>?_) (fun b58 H=>?_)
  ·conv=>whnf
   refine appOq_c (f:=MailEntry.v) H (fun _=>rfl) rfl rfl (.v (srcOwn (f:=MailEntry.v) (l:=[(MailEntry.mk a1 a2)]) (fun _=>rfl) rfl rfl rfl)) (by decide) rfl (by simp) (fun l59 h60 H=>?_);conv=>whnf
   refine appOq_c (f:=MailEntry.v) H (fun _=>rfl) rfl rfl (.v (srcOwn (f:=MailEntry.v) (l:=l59) (fun _=>rfl) rfl rfl rfl)) (by decide) rfl h60 (fun l61 h62 H=>?_);conv=>whnf
   refine finRz_c (enc:=(fun r:(List MailEntry) × Int=>.tup [(fun l:List MailEntry=>V.sl (l.map MailEntry.v) false) r.1,V.i r.2])) [7] H ?_;conv=>whnf
   refine ⟨Nat.zero_le _,?_⟩;conv=>whnf
   exact ⟨_,.tup (.cons (.c (fzown (f:=MailEntry.v) (l:=l61) rfl rfl (fun _=>rfl) (fun _=>rfl))) (.cons (.c (.id rfl)) (.nil)))⟩
  conv=>whnf
  refine appOq_c (f:=MailEntry.v) H (fun _=>rfl) rfl rfl (.v (srcOwn (f:=MailEntry.v) (l:=[(MailEntry.mk a1 a2)]) (fun _=>rfl) rfl rfl rfl)) (by decide) rfl (by simp) (fun l63 h64 H=>?_);conv=>whnf
  refine appPs_c (f:=MailEntry.v) H (fun _=>rfl) rfl rfl (.v (srcOwn (f:=MailEntry.v) (l:=l57) (fun _=>rfl) rfl rfl rfl)) (by decide) rfl (fun l65 H=>?_) (fun l65 H=>?_)
  ·conv=>whnf
   refine finRz_c (enc:=(fun r:(List MailEntry) × Int=>.tup [(fun l:List MailEntry=>V.sl (l.map MailEntry.v) false) r.1,V.i r.2])) [6] H ?_;conv=>whnf
   refine ⟨Nat.zero_le _,?_⟩;conv=>whnf
   exact ⟨_,.tup (.cons (.c (fzown (f:=MailEntry.v) (l:=l65) rfl rfl (fun _=>rfl) (fun _=>rfl))) (.cons (.c (.id rfl)) (.nil)))⟩
  conv=>whnf
  refine finRz_c (enc:=(fun r:(List MailEntry) × Int=>.tup [(fun l:List MailEntry=>V.sl (l.map MailEntry.v) false) r.1,V.i r.2])) [7] H ?_;conv=>whnf
  refine ⟨Nat.zero_le _,?_⟩;conv=>whnf
  exact ⟨_,.tup (.cons (.c (fzown (f:=MailEntry.v) (l:=l65) rfl rfl (fun _=>rfl) (fun _=>rfl))) (.cons (.c (.id rfl)) (.nil)))⟩
 conv=>whnf
 refine Tst.T ?_;conv=>whnf
 refine LenQ.M ?_;conv=>whnf
 iterate 2 (refine Tst.T ?_;conv=>whnf)
 refine tst_c H (fun b20 H=>?_) (fun b20 H=>?_)
 ·conv=>whnf
  refine finR_c (enc:=(fun r:(List MailEntry) × Int=>.tup [(fun l:List MailEntry=>V.sl (l.map MailEntry.v) false) r.1,V.i r.2])) H ?_;conv=>whnf
  exact ⟨_,.tup (.cons (.c (.slw)) (.cons (.c (.id rfl)) (.nil)))⟩
 conv=>whnf
 refine p_ref25_kind_c (i:=1) (j:=2) H (by decide) rfl rfl (fun H=>?_) (fun l21 H=>?_)
 ·conv=>whnf
  refine p_ref25_kind_c (i:=3) (j:=4) H (by decide) rfl rfl (fun H=>?_) (fun l39 H=>?_)
  ·conv=>whnf
   refine tst_c H (fun b48 H=>?_) (fun b48 H=>?_)
   ·conv=>whnf
    refine appNq_c (f:=MailEntry.v) H (fun _=>rfl) (srcM (f:=MailEntry.v) (fun _=>rfl) [] true) rfl (.v (srcOwn (f:=MailEntry.v) (l:=[(MailEntry.mk a1 a2)]) (fun _=>rfl) rfl rfl rfl)) (by decide) rfl (by simp) (fun l49 h50 H=>?_);conv=>whnf
    refine appNq_c (f:=MailEntry.v) H (fun _=>rfl) (srcM (f:=MailEntry.v) (fun _=>rfl) [] true) rfl (.v (srcOwn (f:=MailEntry.v) (l:=l49) (fun _=>rfl) rfl rfl rfl)) (by decide) rfl h50 (fun l51 h52 H=>?_);conv=>whnf
    refine finRz_c (enc:=(fun r:(List MailEntry) × Int=>.tup [(fun l:List MailEntry=>V.sl (l.map MailEntry.v) false) r.1,V.i r.2])) [7] H ?_;conv=>whnf
    refine ⟨Nat.zero_le _,?_⟩;conv=>whnf
    exact ⟨_,.tup (.cons (.c (fzown (f:=MailEntry.v) (l:=l51) rfl rfl (fun _=>rfl) (fun _=>rfl))) (.cons (.c (.id rfl)) (.nil)))⟩
   conv=>whnf
   refine appNq_c (f:=MailEntry.v) H (fun _=>rfl) (srcM (f:=MailEntry.v) (fun _=>rfl) [] true) rfl (.v (srcOwn (f:=MailEntry.v) (l:=[(MailEntry.mk a1 a2)]) (fun _=>rfl) rfl rfl rfl)) (by decide) rfl (by simp) (fun l53 h54 H=>?_);conv=>whnf
   refine appPs_c (f:=MailEntry.v) H (fun _=>rfl) rfl rfl (.v (srcM (f:=MailEntry.v) (fun _=>rfl) [] true)) (by decide) rfl (fun l55 H=>?_) (fun l55 H=>?_)
   ·conv=>whnf
    refine finRz_c (enc:=(fun r:(List MailEntry) × Int=>.tup [(fun l:List MailEntry=>V.sl (l.map MailEntry.v) false) r.1,V.i r.2])) [6] H ?_;conv=>whnf
    refine ⟨Nat.zero_le _,?_⟩;conv=>whnf
    exact ⟨_,.tup (.cons (.c (fzown (f:=MailEntry.v) (l:=l55) rfl rfl (fun _=>rfl) (fun _=>rfl))) (.cons (.c (.id rfl)) (.nil)))⟩
   conv=>whnf
   refine finRz_c (enc:=(fun r:(List MailEntry) × Int=>.tup [(fun l:List MailEntry=>V.sl (l.map MailEntry.v) false) r.1,V.i r.2])) [7] H ?_;conv=>whnf
   refine ⟨Nat.zero_le _,?_⟩;conv=>whnf
   exact ⟨_,.tup (.cons (.c (fzown (f:=MailEntry.v) (l:=l55) rfl rfl (fun _=>rfl) (fun _=>rfl))) (.cons (.c (.id rfl)) (.nil)))⟩
  conv=>whnf
  refine tst_c H (fun b40 H=>?_) (fun b40 H=>?_)
  ·conv=>whnf
   refine appOq_c (f:=MailEntry.v) H (fun _=>rfl) rfl rfl (.v (srcOwn (f:=MailEntry.v) (l:=[(MailEntry.mk a1 a2)]) (fun _=>rfl) rfl rfl rfl)) (by decide) rfl (by simp) (fun l41 h42 H=>?_);conv=>whnf
   refine appNq_c (f:=MailEntry.v) H (fun _=>rfl) (srcM (f:=MailEntry.v) (fun _=>rfl) [] true) rfl (.v (srcOwn (f:=MailEntry.v) (l:=l41) (fun _=>rfl) rfl rfl rfl)) (by decide) rfl h42 (fun l43 h44 H=>?_);conv=>whnf
   refine finRz_c (enc:=(fun r:(List MailEntry) × Int=>.tup [(fun l:List MailEntry=>V.sl (l.map MailEntry.v) false) r.1,V.i r.2])) [7] H ?_;conv=>whnf
   refine ⟨Nat.zero_le _,?_⟩;conv=>whnf
   exact ⟨_,.tup (.cons (.c (fzown (f:=MailEntry.v) (l:=l43) rfl rfl (fun _=>rfl) (fun _=>rfl))) (.cons (.c (.id rfl)) (.nil)))⟩
  conv=>whnf
  refine appNq_c (f:=MailEntry.v) H (fun _=>rfl) (srcM (f:=MailEntry.v) (fun _=>rfl) [] true) rfl (.v (srcOwn (f:=MailEntry.v) (l:=[(MailEntry.mk a1 a2)]) (fun _=>rfl) rfl rfl rfl)) (by decide) rfl (by simp) (fun l45 h46 H=>?_);conv=>whnf
  refine appPs_c (f:=MailEntry.v) H (fun _=>rfl) rfl rfl (.v (srcOwn (f:=MailEntry.v) (l:=l39) (fun _=>rfl) rfl rfl rfl)) (by decide) rfl (fun l47 H=>?_) (fun l47 H=>?_)
  ·conv=>whnf
   refine finRz_c (enc:=(fun r:(List MailEntry) × Int=>.tup [(fun l:List MailEntry=>V.sl (l.map MailEntry.v) false) r.1,V.i r.2])) [6] H ?_;conv=>whnf
   refine ⟨Nat.zero_le _,?_⟩;conv=>whnf
   exact ⟨_,.tup (.cons (.c (fzown (f:=MailEntry.v) (l:=l47) rfl rfl (fun _=>rfl) (fun _=>rfl))) (.cons (.c (.id rfl)) (.nil)))⟩
  conv=>whnf
  refine finRz_c (enc:=(fun r:(List MailEntry) × Int=>.tup [(fun l:List MailEntry=>V.sl (l.map MailEntry.v) false) r.1,V.i r.2])) [7] H ?_;conv=>whnf
  refine ⟨Nat.zero_le _,?_⟩;conv=>whnf
  exact ⟨_,.tup (.cons (.c (fzown (f:=MailEntry.v) (l:=l47) rfl rfl (fun _=>rfl) (fun _=>rfl))) (.cons (.c (.id rfl)) (.nil)))⟩
 conv=>whnf
 refine p_ref25_kind_c (i:=3) (j:=4) H (by decide) rfl rfl (fun H=>?_) (fun l22 H=>?_)
 ·conv=>whnf
  refine tst_c H (fun b31 H=>?_) (fun b31 H=>?_)
  ·conv=>whnf
   refine appNq_c (f:=MailEntry.v) H (fun _=>rfl) (srcM (f:=MailEntry.v) (fun _=>rfl) [] true) rfl (.v (srcOwn (f:=MailEntry.v) (l:=[(MailEntry.mk a1 a2)]) (fun _=>rfl) rfl rfl rfl)) (by decide) rfl (by simp) (fun l32 h33 H=>?_);conv=>whnf
   refine appOq_c (f:=MailEntry.v) H (fun _=>rfl) rfl rfl (.v (srcOwn (f:=MailEntry.v) (l:=l32) (fun _=>rfl) rfl rfl rfl)) (by decide) rfl h33 (fun l34 h35 H=>?_);conv=>whnf
   refine finRz_c (enc:=(fun r:(List MailEntry) × Int=>.tup [(fun l:List MailEntry=>V.sl (l.map MailEntry.v) false) r.1,V.i r.2])) [7] H ?_;conv=>whnf
   refine ⟨Nat.zero_le _,?_⟩;conv=>whnf
   exact ⟨_,.tup (.cons (.c (fzown (f:=MailEntry.v) (l:=l34) rfl rfl (fun _=>rfl) (fun _=>rfl))) (.cons (.c (.id rfl)) (.nil)))⟩
  conv=>whnf
  refine appOq_c (f:=MailEntry.v) H (fun _=>rfl) rfl rfl (.v (srcOwn (f:=MailEntry.v) (l:=[(MailEntry.mk a1 a2)]) (fun _=>rfl) rfl rfl rfl)) (by decide) rfl (by simp) (fun l36 h37 H=>?_);conv=>whnf
  refine appPs_c (f:=MailEntry.v) H (fun _=>rfl) rfl rfl (.v (srcM (f:=MailEntry.v) (fun _=>rfl) [] true)) (by decide) rfl (fun l38 H=>?_) (fun l38 H=>?_)
  ·conv=>whnf
   refine finRz_c (enc:=(fun r:(List MailEntry) × Int=>.tup [(fun l:List MailEntry=>V.sl (l.map MailEntry.v) false) r.1,V.i r.2])) [6] H ?_;conv=>whnf
   refine ⟨Nat.zero_le _,?_⟩;conv=>whnf
   exact ⟨_,.tup (.cons (.c (fzown (f:=MailEntry.v) (l:=l38) rfl rfl (fun _=>rfl) (fun _=>rfl))) (.cons (.c (.id rfl)) (.nil)))⟩
  conv=>whnf
  refine finRz_c (enc:=(fun r:(List MailEntry) × Int=>.tup [(fun l:List MailEntry=>V.sl (l.map MailEntry.v) false) r.1,V.i r.2])) [7] H ?_;conv=>whnf
  refine ⟨Nat.zero_le _,?_⟩;conv=>whnf
  exact ⟨_,.tup (.cons (.c (fzown (f:=MailEntry.v) (l:=l38) rfl rfl (fun _=>rfl) (fun _=>rfl))) (.cons (.c (.id rfl)) (.nil)))⟩
 conv=>whnf
 refine tst_c H (fun b23 H=>?_) (fun b23 H=>?_)
 ·conv=>whnf
  refine appOq_c (f:=MailEntry.v) H (fun _=>rfl) rfl rfl (.v (srcOwn (f:=MailEntry.v) (l:=[(MailEntry.mk a1 a2)]) (fun _=>rfl) rfl rfl rfl)) (by decide) rfl (by simp) (fun l24 h25 H=>?_);conv=>whnf
  refine appOq_c (f:=MailEntry.v) H (fun _=>rfl) rfl rfl (.v (srcOwn (f:=MailEntry.v) (l:=l24) (fun _=>rfl) rfl rfl rfl)) (by decide) rfl h25 (fun l26 h27 H=>?_);conv=>whnf
  refine finRz_c (enc:=(fun r:(List MailEntry) × Int=>.tup [(fun l:List MailEntry=>V.sl (l.map MailEntry.v) false) r.1,V.i r.2])) [7] H ?_;conv=>whnf
  refine ⟨Nat.zero_le _,?_⟩;conv=>whnf
  exact ⟨_,.tup (.cons (.c (fzown (f:=MailEntry.v) (l:=l26) rfl rfl (fun _=>rfl) (fun _=>rfl))) (.cons (.c (.id rfl)) (.nil)))⟩
 conv=>whnf
 refine appOq_c (f:=MailEntry.v) H (fun _=>rfl) rfl rfl (.v (srcOwn (f:=MailEntry.v) (l:=[(MailEntry.mk a1 a2)]) (fun _=>rfl) rfl rfl rfl)) (by decide) rfl (by simp) (fun l28 h29 H=>?_);conv=>whnf
 refine appPs_c (f:=MailEntry.v) H (fun _=>rfl) rfl rfl (.v (srcOwn (f:=MailEntry.v) (l:=l22) (fun _=>rfl) rfl rfl rfl)) (by decide) rfl (fun l30 H=>?_) (fun l30 H=>?_)
 ·conv=>whnf
  refine finRz_c (enc:=(fun r:(List MailEntry) × Int=>.tup [(fun l:List MailEntry=>V.sl (l.map MailEntry.v) false) r.1,V.i r.2])) [6] H ?_;conv=>whnf
  refine ⟨Nat.zero_le _,?_⟩;conv=>whnf
  exact ⟨_,.tup (.cons (.c (fzown (f:=MailEntry.v) (l:=l30) rfl rfl (fun _=>rfl) (fun _=>rfl))) (.cons (.c (.id rfl)) (.nil)))⟩
 conv=>whnf
 refine finRz_c (enc:=(fun r:(List MailEntry) × Int=>.tup [(fun l:List MailEntry=>V.sl (l.map MailEntry.v) false) r.1,V.i r.2])) [7] H ?_;conv=>whnf
 refine ⟨Nat.zero_le _,?_⟩;conv=>whnf
 exact ⟨_,.tup (.cons (.c (fzown (f:=MailEntry.v) (l:=l30) rfl rfl (fun _=>rfl) (fun _=>rfl))) (.cons (.c (.id rfl)) (.nil)))⟩
end Go.Proofs.YthnihifblmnkdaaGreat

namespace Go.Proofs.YthnihifblmnkdaaGreat
open Go.RowKit
set_option maxRecDepth 100000
set_option maxHeartbeats 4000000
def gc12:BCode:=(.seq (R_ 3 [O_ 3 (.bx (t_ 0)) 0,O_ 5 (.bx (t_ 2)) 1,O_ 6 (.al (.agg [(.sl [] true),(.lit (.bool false)),(.lit (.bool false)),(.lit (.string ⟨#[]⟩)),(.lit (.int .i64 0)),(.lit (.int .i64 0)),(.lit (.int .i64 0))])) 2]) (.seq (.seq (R_ 0 [O_ 9 (.ld 7 true (t_ 3)) 0,O_ 10 (.cl 18 [(t_ 9)]) 0,O_ 11 (.bin .neq (t_ 10) (i_ 0)) 0,O_ 12 (.mv (t_ 11)) 0,⟨(some 13),.fa 1 (t_ 3),(some (12,false)),0⟩,⟨(some 14),.ld 4 true (t_ 13),(some (12,false)),0⟩,⟨(some 15),.mv (t_ 1),(some (12,false)),0⟩,⟨(some 16),.cl 39 [(t_ 14),(t_ 15)],(some (12,false)),0⟩,O_ 17 (.pick (t_ 12) (b_ true) (t_ 16)) 0]) (.cond (t_ 17) (.seq (R_ 0 [O_ 18 (.ld 7 true (t_ 3)) 0,U_ (.st 7 (t_ 6) (t_ 18)) 0]) .ret) .skip)) (.seq (R_ 0 [O_ 20 (.fa 0 (t_ 3)) 0,O_ 21 (.ld 1 false (t_ 20)) 0,O_ 22 (.mv (t_ 1)) 0,O_ 23 (.ld 4 true (t_ 5)) 0,O_ 24 (.cl 40 [(t_ 21),(t_ 22),(t_ 23)]) 0,O_ 19 (.mv (t_ 24)) 0,O_ 25 (.ex (t_ 19) 0) 0,O_ 26 (.ex (t_ 19) 1) 0,O_ 7 (.mv (t_ 25)) 0,O_ 8 (.mv (t_ 26)) 0]) (.seq (.block 0 (.seq (R_ 0 [O_ 28 (.mv (t_ 8)) 0,O_ 29 (.bin .eql (t_ 28) (i_ 7)) 0,O_ 27 (.mv (t_ 29)) 0]) (.cond (t_ 27) (.seq (R_ 0 [O_ 30 (.bd [(.lit (.bool false)),(.lit (.bool false)),(.lit (.string ⟨#[]⟩)),(.lit (.int .i64 0))] [(0,1,(b_ true))]) 0,O_ 31 (.fa 5 (t_ 3)) 0,O_ 32 (.ld 1 false (t_ 31)) 0,O_ 33 (.fa 6 (t_ 3)) 0,O_ 34 (.ld 1 false (t_ 33)) 0,O_ 35 (.bin .add (t_ 34) (i_ 1)) 0,O_ 36 (.mn false (i_ 1099511627776) (t_ 35)) 0,O_ 37 (.bd [(.sl [] true),(.lit (.bool false)),(.lit (.bool false)),(.lit (.string ⟨#[]⟩)),(.lit (.int .i64 0)),(.lit (.int .i64 0)),(.lit (.int .i64 0))] [(1,4,(t_ 30)),(5,1,(t_ 32)),(6,1,(t_ 36))]) 0,U_ (.st 7 (t_ 6) (t_ 37)) 0]) .ret) (.seq (R_ 0 [O_ 39 (.mv (t_ 8)) 0,O_ 40 (.bin .eql (t_ 39) (i_ 0)) 0,O_ 38 (.mv (t_ 40)) 0]) (.cond (t_ 38) (R_ 0 [O_ 41 (.mv (t_ 7)) 0,O_ 42 (.fa 0 (t_ 3)) 0,U_ (.st 1 (t_ 42) (t_ 41)) 0]) .skip))))) (.seq (R_ 0 [O_ 43 (.ld 7 true (t_ 3)) 0,U_ (.st 7 (t_ 6) (t_ 43)) 0]) .ret)))))
theorem gc12_ok:compF Tryz.prog Tryz.f12=some (gc12.er,44,[.cell 6 7 true]):=by unfold gc12;kernel_rfl
theorem p_ref27_Add_v {u1:Bool} (a0:Ref27State) (a1:ByteArray) (a2:PresPres):CallsO Tryz.prog 12 [.agg [.sl (List.map MailEntry.v a0.Mail) u1,.b a0.Snap.On,.b a0.Snap.Begun,.s a0.Snap.After,.i a0.Snap.Told,.i a0.Sent,.i a0.Lost],.s a1,.agg [.b a2.On,.i a2.Show,.i a2.Prio,.i a2.Seq]] Ref27State.v (p_ref27_Add a0 a1 a2):=by
 refine callsO_comp mix Tryz.func12 gc12_ok fun r H=>?_
 rw [p_ref27_Add] at H
 conv=>whnf
 refine ask_c (p_ref27_Check_v _) H rfl rfl (fun v1 H=>?_);conv=>whnf
 refine tst_c H (fun b2 H=>?_) (fun b2 H=>?_)
 ·conv=>whnf
  iterate 5 (refine Tst.T ?_;conv=>whnf)
  refine lq_ ?_;conv=>whnf
  refine finR_c (enc:=Ref27State.v) H ?_;conv=>whnf
  exact ⟨_,.v (fzagg (.cons (.slw) (.cons (.id rfl) (.cons (.id rfl) (.cons (.id rfl) (.cons (.id rfl) (.cons (.id rfl) (.cons (.id rfl) (.nil)))))))) rfl)⟩
 conv=>whnf
 iterate 3 (refine Tst.F ?_;conv=>whnf)
 refine ask_c (p_ref26_Covers_v _ _) H rfl rfl (fun v3 H=>?_);conv=>whnf
 refine Tst.F ?_;conv=>whnf
 refine tst_c H (fun b4 H=>?_) (fun b4 H=>?_)
 ·conv=>whnf
  refine lq_ ?_;conv=>whnf
  refine finR_c (enc:=Ref27State.v) H ?_;conv=>whnf
  exact ⟨_,.v (fzagg (.cons (.slw) (.cons (.id rfl) (.cons (.id rfl) (.cons (.id rfl) (.cons (.id rfl) (.cons (.id rfl) (.cons (.id rfl) (.nil)))))))) rfl)⟩
 conv=>whnf
 refine ask_c (p_ref25_Put_v _ _ _) H rfl rfl (fun v5 H=>?_);conv=>whnf
 refine tst_c H (fun b6 H=>?_) (fun b6 H=>?_)
 ·conv=>whnf
  refine Ari.w ?_;conv=>whnf
  refine lq_ ?_;conv=>whnf
  refine finR_c (enc:=Ref27State.v) H ?_;conv=>whnf
  exact ⟨_,.v (fzagg (.cons (.slw) (.cons (.id rfl) (.cons (.id rfl) (.cons (.id rfl) (.cons (.id rfl) (.cons (.id rfl) (.cons (.id rfl) (.nil)))))))) rfl)⟩
 conv=>whnf
 refine tst_c H (fun b7 H=>?_) (fun b7 H=>?_)
 ·conv=>whnf
  refine lq_ ?_;conv=>whnf
  refine lq_ ?_;conv=>whnf
  exact fin0_c (enc:=Ref27State.v) H (.inr rfl) (.cons (.cell rfl rfl (Nat.le_of_ble_eq_true rfl)) (.nil)) rfl rfl
 conv=>whnf
 refine lq_ ?_;conv=>whnf
 refine finR_c (enc:=Ref27State.v) H ?_;conv=>whnf
 exact ⟨_,.v (fzagg (.cons (.slw) (.cons (.id rfl) (.cons (.id rfl) (.cons (.id rfl) (.cons (.id rfl) (.cons (.id rfl) (.cons (.id rfl) (.nil)))))))) rfl)⟩
def gc34:BCode:=(.seq (R_ 0 [O_ 4 (.mv (b_ false)) 0]) (.seq (.seq (R_ 0 [O_ 6 (.mv (t_ 0)) 0,O_ 7 (.lens (t_ 6)) 0,O_ 8 (.mv (t_ 1)) 0,O_ 9 (.lens (t_ 8)) 0,O_ 10 (.bin .neq (t_ 7) (t_ 9)) 0]) (.cond (t_ 10) (.seq (R_ 0 [O_ 4 (.mv (b_ false)) 0]) .ret) .skip)) (.seq (.seq (R_ 0 [O_ 5 (.mv (i_ 0)) 0]) (.block 0 (.loop (.seq (.seq (R_ 0 [O_ 11 (.mv (t_ 5)) 0,O_ 12 (.mv (t_ 0)) 0,O_ 13 (.lens (t_ 12)) 0,O_ 14 (.bin .lss (t_ 11) (t_ 13)) 0]) (.cond (t_ 14) .skip (.exit 0))) (.seq (.block 1 (.seq (.reg 0 [O_ 17 (.mv (t_ 0)) 0,O_ 18 (.mv (t_ 5)) 0,O_ 19 (.ixs 5 (t_ 17) (t_ 18)) 0,O_ 20 (.ld 5 true (t_ 19)) 0,O_ 21 (.mv (t_ 1)) 0,O_ 22 (.mv (t_ 5)) 0,O_ 23 (.ixs 5 (t_ 21) (t_ 22)) 0,O_ 24 (.ld 5 true (t_ 23)) 0,O_ 25 (.eqa true [2,0,1,1,1] (t_ 20) (t_ 24)) 0] (some [[],[],[1,0],[0,1,2],[],[],[5,4],[4,5,6],[6,5,4,7,2,1,0,3]]) 0 []) (.cond (t_ 25) (.seq (R_ 0 [O_ 4 (.mv (b_ false)) 0]) .ret) .skip))) (R_ 0 [O_ 15 (.mv (t_ 5)) 0,O_ 16 (.bin .add (t_ 15) (i_ 1)) 0,O_ 5 (.mv (t_ 16)) 0])))))) (.seq (R_ 0 [O_ 4 (.mv (b_ true)) 0]) .ret))))
theorem gc34_ok:compF Tryz.prog Tryz.f34=some (gc34.er,26,[.tmp 4]):=by unfold gc34;kernel_rfl
theorem p_ref25_Same_v {u1 u2:Bool} (a0:List MailEntry) (a1:List MailEntry):CallsO Tryz.prog 34 [.sl (List.map MailEntry.v a0) u1,.sl (List.map MailEntry.v a1) u2] V.b (p_ref25_Same a0 a1):=by
 refine callsO_comp mix Tryz.func34 gc34_ok fun r H=>?_
 rw [p_ref25_Same] at H
 conv=>whnf
 iterate 2 (refine LenQ.M ?_;conv=>whnf)
 refine tst_c H (fun b1 H=>?_) (fun b1 H=>?_)
 ·conv=>whnf
  exact fb_ H
 conv=>whnf
 obtain ⟨o3,HL4,HQ5⟩:=bind_c H
 refine loop_c [4,5] [11,12,13,14,15,16,17,18,19,20,21,22,23,24,25] [11,12,13,14,15,16,17,18,19,20,21,22,23,24,25] (fun n vals st=>(∃ y7,p_ref25_Same_l1  a0 a1 n y7=some o3∧vals=[.b false,.i y7]∧st=[])) fuel 0 [] (⟨_,HL4,rfl,rfl⟩) (Nat.zero_le _) rfl (by kernel_rfl) (by kernel_rfl) rfl trivial ?_
 rintro (_ | n6) _ _ (⟨y7,H,rfl,rfl⟩)
 ·rw [p_ref25_Same_l1] at H;cases H
 rw [p_ref25_Same_l1] at H
 conv=>whnf
 refine LenQ.M ?_;conv=>whnf
 refine tst_d H (fun b8 H=>?_) (fun b8 H=>?_)
 ·conv=>whnf
  obtain rfl:=Option.some.inj H
  have H:=HQ5
  try dsimp only at H
  exact fb_ H
 conv=>whnf
 refine ixs_c (f:=MailEntry.v) H (fun _=>rfl) (fun x9 H=>?_);conv=>whnf
 refine ixs_c (f:=MailEntry.v) H (fun _=>rfl) (fun x10 H=>?_);conv=>whnf
 refine FootQ.mk ⟨rfl,?_⟩;conv=>whnf
 refine Tst.not ?_
 refine tst_d H (fun b11 H=>?_) (fun b11 H=>?_)
 ·conv=>whnf
  obtain rfl:=Option.some.inj H
  have H:=HQ5
  try dsimp only at H
  exact fb_ H
 conv=>whnf
 refine Ari.w ?_;conv=>whnf
 exact again_c [11,12,13,14,15,16,17,18,19,20,21,22,23,24,25] n6 0 [] (⟨_,H,rfl,rfl⟩) (Nat.lt_succ_self _) (Nat.zero_le _) rfl (by kernel_rfl) (by kernel_rfl) rfl trivial
def gc9:BCode:=(.seq (R_ 2 [O_ 2 (.bx (t_ 0)) 0,O_ 3 (.bx (t_ 1)) 1,O_ 4 (.mv (b_ false)) 2]) (.seq (R_ 0 [O_ 5 (.fa 0 (t_ 2)) 0,O_ 6 (.ld 1 false (t_ 5)) 0,O_ 7 (.fa 0 (t_ 3)) 0,O_ 8 (.ld 1 false (t_ 7)) 0,O_ 9 (.cl 34 [(t_ 6),(t_ 8)]) 0,O_ 10 (.mv (t_ 9)) 0,⟨(some 11),.fa 1 (t_ 2),(some (10,true)),0⟩,⟨(some 12),.ld 4 true (t_ 11),(some (10,true)),0⟩,⟨(some 13),.fa 1 (t_ 3),(some (10,true)),0⟩,⟨(some 14),.ld 4 true (t_ 13),(some (10,true)),0⟩,⟨(some 15),.eqa false [0,0,2,1] (t_ 12) (t_ 14),(some (10,true)),0⟩,O_ 16 (.pick (t_ 10) (t_ 15) (b_ false)) 0,O_ 17 (.mv (t_ 16)) 0,⟨(some 18),.fa 5 (t_ 2),(some (17,true)),0⟩,⟨(some 19),.ld 1 false (t_ 18),(some (17,true)),0⟩,⟨(some 20),.fa 5 (t_ 3),(some (17,true)),0⟩,⟨(some 21),.ld 1 false (t_ 20),(some (17,true)),0⟩,⟨(some 22),.bin .eql (t_ 19) (t_ 21),(some (17,true)),0⟩,O_ 23 (.pick (t_ 17) (t_ 22) (b_ false)) 0,O_ 24 (.mv (t_ 23)) 0,⟨(some 25),.fa 6 (t_ 2),(some (24,true)),0⟩,⟨(some 26),.ld 1 false (t_ 25),(some (24,true)),0⟩,⟨(some 27),.fa 6 (t_ 3),(some (24,true)),0⟩,⟨(some 28),.ld 1 false (t_ 27),(some (24,true)),0⟩,⟨(some 29),.bin .eql (t_ 26) (t_ 28),(some (24,true)),0⟩,O_ 30 (.pick (t_ 24) (t_ 29) (b_ false)) 0,O_ 4 (.mv (t_ 30)) 0]) .ret))
theorem gc9_ok:compF Tryz.prog Tryz.f9=some (gc9.er,31,[.tmp 4]):=by unfold gc9;kernel_rfl
theorem p_ref27_Same_v {u1 u2:Bool} (a0:Ref27State) (a1:Ref27State):CallsO Tryz.prog 9 [.agg [.sl (List.map MailEntry.v a0.Mail) u1,.b a0.Snap.On,.b a0.Snap.Begun,.s a0.Snap.After,.i a0.Snap.Told,.i a0.Sent,.i a0.Lost],.agg [.sl (List.map MailEntry.v a1.Mail) u2,.b a1.Snap.On,.b a1.Snap.Begun,.s a1.Snap.After,.i a1.Snap.Told,.i a1.Sent,.i a1.Lost]] V.b (p_ref27_Same a0 a1):=by
 refine callsO_comp mix Tryz.func9 gc9_ok fun r H=>?_
 rw [p_ref27_Same] at H
 conv=>whnf
 refine ask_c (p_ref25_Same_v _ _) H rfl rfl (fun v1 H=>?_);conv=>whnf
 refine tst_d H (fun b2 H=>?_) (fun b2 H=>?_)
 ·conv=>whnf
  iterate 17 (refine Tst.F ?_;conv=>whnf)
  exact fb_ H
 conv=>whnf
 iterate 5 (refine Tst.T ?_;conv=>whnf)
 refine tst_d H (fun b3 H=>?_) (fun b3 H=>?_)
 ·conv=>whnf
  iterate 11 (refine Tst.F ?_;conv=>whnf)
  exact fb_ H
 conv=>whnf
 iterate 5 (refine Tst.T ?_;conv=>whnf)
 refine tst_c H (fun b4 H=>?_) (fun b4 H=>?_)
 ·conv=>whnf
  iterate 5 (refine Tst.T ?_;conv=>whnf)
  exact fb_ H
 conv=>whnf
 iterate 5 (refine Tst.F ?_;conv=>whnf)
 exact fb_ H
def gc14:BCode:=(.seq (R_ 2 [O_ 1 (.bx (t_ 0)) 0,O_ 2 (.al (.agg [(.sl [] true),(.lit (.bool false)),(.lit (.bool false)),(.lit (.string ⟨#[]⟩)),(.lit (.int .i64 0)),(.lit (.int .i64 0)),(.lit (.int .i64 0))])) 1]) (.seq (.seq (R_ 0 [O_ 3 (.ld 7 true (t_ 1)) 0,O_ 4 (.cl 18 [(t_ 3)]) 0,O_ 5 (.bin .neq (t_ 4) (i_ 0)) 0]) (.cond (t_ 5) (.seq (R_ 0 [O_ 6 (.ld 7 true (t_ 1)) 0,U_ (.st 7 (t_ 2) (t_ 6)) 0]) .ret) .skip)) (.seq (R_ 0 [O_ 7 (.bd [(.lit (.bool false)),(.lit (.bool false)),(.lit (.string ⟨#[]⟩)),(.lit (.int .i64 0))] [(0,1,(b_ true))]) 0,O_ 8 (.fa 5 (t_ 1)) 0,O_ 9 (.ld 1 false (t_ 8)) 0,O_ 10 (.fa 6 (t_ 1)) 0,O_ 11 (.ld 1 false (t_ 10)) 0,O_ 12 (.bd [(.sl [] true),(.lit (.bool false)),(.lit (.bool false)),(.lit (.string ⟨#[]⟩)),(.lit (.int .i64 0)),(.lit (.int .i64 0)),(.lit (.int .i64 0))] [(1,4,(t_ 7)),(5,1,(t_ 9)),(6,1,(t_ 11))]) 0,U_ (.st 7 (t_ 2) (t_ 12)) 0]) .ret)))
theorem gc14_ok:compF Tryz.prog Tryz.f14=some (gc14.er,13,[.cell 2 7 true]):=by unfold gc14;kernel_rfl
theorem p_ref27_Begin_v {u1:Bool} (a0:Ref27State):CallsO Tryz.prog 14 [.agg [.sl (List.map MailEntry.v a0.Mail) u1,.b a0.Snap.On,.b a0.Snap.Begun,.s a0.Snap.After,.i a0.Snap.Told,.i a0.Sent,.i a0.Lost]] Ref27State.v (p_ref27_Begin a0):=by
 refine callsO_comp mix Tryz.func14 gc14_ok fun r H=>?_
 rw [p_ref27_Begin] at H
 conv=>whnf
 refine ask_c (p_ref27_Check_v _) H rfl rfl (fun v1 H=>?_);conv=>whnf
 refine tst_c H (fun b2 H=>?_) (fun b2 H=>?_)
 ·conv=>whnf
  refine lq_ ?_;conv=>whnf
  refine finR_c (enc:=Ref27State.v) H ?_;conv=>whnf
  exact ⟨_,.v (fzagg (.cons (.slw) (.cons (.id rfl) (.cons (.id rfl) (.cons (.id rfl) (.cons (.id rfl) (.cons (.id rfl) (.cons (.id rfl) (.nil)))))))) rfl)⟩
 conv=>whnf
 refine lq_ ?_;conv=>whnf
 refine finR_c (enc:=Ref27State.v) H ?_;conv=>whnf
 exact ⟨_,.v (fzagg (.cons (.slw) (.cons (.id rfl) (.cons (.id rfl) (.cons (.id rfl) (.cons (.id rfl) (.cons (.id rfl) (.cons (.id rfl) (.nil)))))))) rfl)⟩
def gc42:BCode:=(.seq (R_ 0 [O_ 4 (.mv (.const (.slice none 0 0))) 0,O_ 5 (.mv (i_ 0)) 0]) (.seq (.seq (R_ 0 [O_ 11 (.mv (t_ 0)) 0,O_ 12 (.cl 46 [(t_ 11)]) 0,O_ 13 (.bin .neq (t_ 12) (i_ 0)) 0]) (.cond (t_ 13) (.seq (R_ 0 [O_ 14 (.mv (t_ 0)) 0,O_ 4 (.mv (t_ 14)) 0,O_ 5 (.mv (i_ 0)) 0]) .ret) .skip)) (.seq (R_ 0 [O_ 6 (.mv (.const (.slice none 0 0))) 0]) (.seq (.seq (R_ 0 [O_ 7 (.mv (i_ 0)) 0]) (.block 0 (.loop (.seq (.seq (R_ 0 [O_ 15 (.mv (t_ 7)) 0,O_ 16 (.mv (t_ 0)) 0,O_ 17 (.lens (t_ 16)) 0,O_ 18 (.bin .lss (t_ 15) (t_ 17)) 0]) (.cond (t_ 18) .skip (.exit 0))) (.seq (.block 1 (.seq (R_ 0 [O_ 22 (.mv (t_ 0)) 0,O_ 23 (.mv (t_ 7)) 0,O_ 24 (.ixs 5 (t_ 22) (t_ 23)) 0,O_ 25 (.fa 0 (t_ 24)) 0,O_ 26 (.ld 1 false (t_ 25)) 0,O_ 27 (.cl 74 [(t_ 26)]) 0,O_ 21 (.mv (t_ 27)) 0,O_ 28 (.ex (t_ 21) 0) 0,O_ 29 (.ex (t_ 21) 1) 0,O_ 30 (.ex (t_ 21) 2) 0,O_ 8 (.mv (t_ 28)) 0,O_ 9 (.mv (t_ 29)) 0,O_ 10 (.mv (t_ 30)) 0]) (.seq (R_ 0 [O_ 31 (.mv (t_ 8)) 0,O_ 32 (.mv (t_ 1)) 0,O_ 33 (.bin .neq (t_ 31) (t_ 32)) 0]) (.cond (t_ 33) (R_ 2 [O_ 34 (.mv (t_ 6)) 0,O_ 35 (.mv (t_ 0)) 0,O_ 36 (.mv (t_ 7)) 0,O_ 37 (.ixs 5 (t_ 35) (t_ 36)) 0,O_ 38 (.ld 5 true (t_ 37)) 0,O_ 39 (.bs 5 1 [(.lit (.string ⟨#[]⟩)),(.lit (.bool false)),(.lit (.int .i64 0)),(.lit (.int .i64 0)),(.lit (.int .i64 0))] [(0,(t_ 38))]) 0,O_ 40 (.ap 5 48 (t_ 34) (t_ 39)) 1,O_ 6 (.mv (t_ 40)) 2]) .skip)))) (R_ 0 [O_ 19 (.mv (t_ 7)) 0,O_ 20 (.bin .add (t_ 19) (i_ 1)) 0,O_ 7 (.mv (t_ 20)) 0])))))) (.seq (R_ 0 [O_ 41 (.mv (t_ 6)) 0,O_ 42 (.mv (t_ 0)) 0,O_ 43 (.lens (t_ 42)) 0,O_ 44 (.mv (t_ 6)) 0,O_ 45 (.lens (t_ 44)) 0,O_ 46 (.bin .sub (t_ 43) (t_ 45)) 0,O_ 4 (.mv (t_ 41)) 0,O_ 5 (.mv (t_ 46)) 0]) .ret)))))
theorem gc42_ok:compF Tryz.prog Tryz.f42=some (gc42.er,47,[.tmp 4,.tmp 5]):=by unfold gc42;kernel_rfl
theorem p_ref25_Drop_v {u1:Bool} (a0:List MailEntry) (a1:ByteArray):CallsO Tryz.prog 42 [.sl (List.map MailEntry.v a0) u1,.s a1] (fun r:(List MailEntry) × Int=>.tup [(fun l:List MailEntry=>V.sl (l.map MailEntry.v) false) r.1,V.i r.2]) (p_ref25_Drop a0 a1):=by
 refine callsO_comp mix Tryz.func42 gc42_ok fun r H=>?_
 rw [p_ref25_Drop] at H
 conv=>whnf
 refine ask_c (p_ref25_Check_v _) H rfl rfl (fun v1 H=>?_);conv=>whnf
 refine tst_c H (fun b2 H=>?_) (fun b2 H=>?_)
 ·conv=>whnf
  refine finR_c (enc:=(fun r:(List MailEntry) × Int=>.tup [(fun l:List MailEntry=>V.sl (l.map MailEntry.v) false) r.1,V.i r.2])) H ?_;conv=>whnf
  exact ⟨_,.tup (.cons (.c (.slw)) (.cons (.c (.id rfl)) (.nil)))⟩
 conv=>whnf
 obtain ⟨o4,HL5,HQ6⟩:=bind_c H
 refine loop_c [6,7] [8,9,10,15,16,17,18,19,20,21,22,23,24,25,26,27,28,29,30,31,32,33,34,35,36,37,38,39,40] [8,9,10,15,16,17,18,19,20,21,22,23,24,25,26,27,28,29,30,31,32,33,34,35,36,37,38,39,40] (fun n vals st=>(∃ y8,p_ref25_Drop_l1  a0 a1 n [] y8=some o4∧vals=[.sl (List.map MailEntry.v []) true,.i y8]∧st=[])∨(∃ y15 y16,p_ref25_Drop_l1  a0 a1 n y15 y16=some o4∧vals=[.osl 0 0 (List.length y15) 5 false,.i y16]∧st=[.live (cellsM MailEntry.v y15) (cellsM MailEntry.v y15).length])) fuel 0 [] (.inl (⟨_,HL5,rfl,rfl⟩)) (Nat.zero_le _) rfl (by kernel_rfl) (by kernel_rfl) rfl trivial ?_
 rintro (_ | n7) _ _ (⟨y8,H,rfl,rfl⟩ | ⟨y15,y16,H,rfl,rfl⟩)
 ·rw [p_ref25_Drop_l1] at H;cases H
 ·rw [p_ref25_Drop_l1] at H;cases H
 ·rw [p_ref25_Drop_l1] at H
  conv=>whnf
  refine LenQ.M ?_;conv=>whnf
  refine tst_d H (fun b9 H=>?_) (fun b9 H=>?_)
  ·conv=>whnf
   obtain rfl:=Option.some.inj H
   have H:=HQ6
   try dsimp only at H
   refine LenQ.M ?_;conv=>whnf
   refine LenQ.ok ?_;conv=>whnf
   refine Ari.w ?_;conv=>whnf
   refine finR_c (enc:=(fun r:(List MailEntry) × Int=>.tup [(fun l:List MailEntry=>V.sl (l.map MailEntry.v) false) r.1,V.i r.2])) H ?_;conv=>whnf
   exact ⟨_,.tup (.cons (.c (.slw)) (.cons (.c (.id rfl)) (.nil)))⟩
  conv=>whnf
  refine ixs_c (f:=MailEntry.v) H (fun _=>rfl) (fun x10 H=>?_);conv=>whnf
  refine lq_ ?_;conv=>whnf
  refine ask_c (p_ref23_Split_v _) H rfl rfl (fun v11 H=>?_);conv=>whnf
  refine Tst.not ?_
  refine tst_c H (fun b12 H=>?_) (fun b12 H=>?_)
  ·conv=>whnf
   refine Ari.w ?_;conv=>whnf
   exact again_c [8,9,10,15,16,17,18,19,20,21,22,23,24,25,26,27,28,29,30,31,32,33,34,35,36,37,38,39,40] n7 0 [] (.inl (⟨_,H,rfl,rfl⟩)) (Nat.lt_succ_self _) (Nat.zero_le _) rfl (by kernel_rfl) (by kernel_rfl) rfl trivial
  conv=>whnf
  refine ixs_c (f:=MailEntry.v) H (fun _=>rfl) (fun x13 H=>?_);conv=>whnf
  refine appN_c (f:=MailEntry.v) H (fun _=>rfl) (srcM (f:=MailEntry.v) (fun _=>rfl) [] true) rfl (.v (srcOwn (f:=MailEntry.v) (l:=[x13]) (fun _=>rfl) rfl rfl rfl)) (by decide) rfl (by simp) (fun l14 H=>?_);conv=>whnf
  refine Ari.w ?_;conv=>whnf
  exact again_c [8,9,10,15,16,17,18,19,20,21,22,23,24,25,26,27,28,29,30,31,32,33,34,35,36,37,38,39,40] n7 1 [1] (.inr (⟨_,_,H,rfl,rfl⟩)) (Nat.lt_succ_self _) (Nat.zero_le _) rfl (by kernel_rfl) (by kernel_rfl) rfl (wkB_live0 rfl (cellsM_idlt (f:=MailEntry.v) (fun _=>rfl) _) rfl trivial)
 rw [p_ref25_Drop_l1] at H
 conv=>whnf
 refine LenQ.M ?_;conv=>whnf
 refine tst_d H (fun b17 H=>?_) (fun b17 H=>?_)
 ·conv=>whnf
  obtain rfl:=Option.some.inj H
  have H:=HQ6
  try dsimp only at H
  refine LenQ.M ?_;conv=>whnf
  refine Ari.w ?_;conv=>whnf
  refine finR_c (enc:=(fun r:(List MailEntry) × Int=>.tup [(fun l:List MailEntry=>V.sl (l.map MailEntry.v) false) r.1,V.i r.2])) H ?_;conv=>whnf
  exact ⟨_,.tup (.cons (.c (fzown (f:=MailEntry.v) (l:=y15) rfl rfl (fun _=>rfl) (fun _=>rfl))) (.cons (.c (.id rfl)) (.nil)))⟩
 conv=>whnf
 refine ixs_c (f:=MailEntry.v) H (fun _=>rfl) (fun x18 H=>?_);conv=>whnf
 refine lq_ ?_;conv=>whnf
 refine ask_c (p_ref23_Split_v _) H rfl rfl (fun v19 H=>?_);conv=>whnf
 refine Tst.not ?_
 refine tst_c H (fun b20 H=>?_) (fun b20 H=>?_)
 ·conv=>whnf
  refine Ari.w ?_;conv=>whnf
  exact again_c [8,9,10,15,16,17,18,19,20,21,22,23,24,25,26,27,28,29,30,31,32,33,34,35,36,37,38,39,40] n7 1 [] (.inr (⟨_,_,H,rfl,rfl⟩)) (Nat.lt_succ_self _) (Nat.zero_le _) rfl (by kernel_rfl) (by kernel_rfl) rfl (wkB_live0 rfl (cellsM_idlt (f:=MailEntry.v) (fun _=>rfl) _) rfl trivial)
 conv=>whnf
 refine ixs_c (f:=MailEntry.v) H (fun _=>rfl) (fun x21 H=>?_);conv=>whnf
 refine appO_c (f:=MailEntry.v) H (fun _=>rfl) rfl (Nat.le_refl _) (.v (srcOwn (f:=MailEntry.v) (l:=[x21]) (fun _=>rfl) rfl rfl rfl)) (by decide) rfl (by simp) (fun l22 H=>?_);conv=>whnf
 refine Ari.w ?_;conv=>whnf
 exact again_c [8,9,10,15,16,17,18,19,20,21,22,23,24,25,26,27,28,29,30,31,32,33,34,35,36,37,38,39,40] n7 1 [2] (.inr (⟨_,_,H,rfl,rfl⟩)) (Nat.lt_succ_self _) (Nat.zero_le _) rfl (by kernel_rfl) (by kernel_rfl) rfl (wkB_live0 rfl (cellsM_idlt (f:=MailEntry.v) (fun _=>rfl) _) rfl trivial)
def gc16:BCode:=(.seq (R_ 2 [O_ 2 (.bx (t_ 0)) 0,O_ 4 (.al (.agg [(.sl [] true),(.lit (.bool false)),(.lit (.bool false)),(.lit (.string ⟨#[]⟩)),(.lit (.int .i64 0)),(.lit (.int .i64 0)),(.lit (.int .i64 0))])) 1]) (.seq (.seq (R_ 0 [O_ 5 (.ld 7 true (t_ 2)) 0,O_ 6 (.cl 18 [(t_ 5)]) 0,O_ 7 (.bin .eql (t_ 6) (i_ 0)) 0]) (.cond (t_ 7) (R_ 0 [O_ 9 (.fa 0 (t_ 2)) 0,O_ 10 (.ld 1 false (t_ 9)) 0,O_ 11 (.mv (t_ 1)) 0,O_ 12 (.cl 42 [(t_ 10),(t_ 11)]) 0,O_ 8 (.mv (t_ 12)) 0,O_ 13 (.ex (t_ 8) 0) 0,O_ 14 (.ex (t_ 8) 1) 0,O_ 15 (.fa 0 (t_ 2)) 0,U_ (.st 1 (t_ 15) (t_ 13)) 0]) .skip)) (.seq (R_ 0 [O_ 16 (.ld 7 true (t_ 2)) 0,U_ (.st 7 (t_ 4) (t_ 16)) 0]) .ret)))
theorem gc16_ok:compF Tryz.prog Tryz.f16=some (gc16.er,17,[.cell 4 7 true]):=by unfold gc16;kernel_rfl
theorem p_ref27_Forget_v {u1:Bool} (a0:Ref27State) (a1:ByteArray):CallsO Tryz.prog 16 [.agg [.sl (List.map MailEntry.v a0.Mail) u1,.b a0.Snap.On,.b a0.Snap.Begun,.s a0.Snap.After,.i a0.Snap.Told,.i a0.Sent,.i a0.Lost],.s a1] Ref27State.v (p_ref27_Forget a0 a1):=by
 refine callsO_comp mix Tryz.func16 gc16_ok fun r H=>?_
 rw [p_ref27_Forget] at H
 conv=>whnf
 refine ask_c (p_ref27_Check_v _) H rfl rfl (fun v1 H=>?_);conv=>whnf
 refine tst_d H (fun b2 H=>?_) (fun b2 H=>?_)
 ·conv=>whnf
  refine lq_ ?_;conv=>whnf
  refine finR_c (enc:=Ref27State.v) H ?_;conv=>whnf
  exact ⟨_,.v (fzagg (.cons (.slw) (.cons (.id rfl) (.cons (.id rfl) (.cons (.id rfl) (.cons (.id rfl) (.cons (.id rfl) (.cons (.id rfl) (.nil)))))))) rfl)⟩
 conv=>whnf
 refine ask_c (p_ref25_Drop_v _ _) H rfl rfl (fun v3 H=>?_);conv=>whnf
 refine lq_ ?_;conv=>whnf
 refine lq_ ?_;conv=>whnf
 exact fin0_c (enc:=Ref27State.v) H (.inr rfl) (.cons (.cell rfl rfl (Nat.le_of_ble_eq_true rfl)) (.nil)) rfl rfl
def gc20:BCode:=(.seq (R_ 1 [O_ 1 (.bx (t_ 0)) 0,O_ 2 (.mv (b_ false)) 1]) (.seq (R_ 0 [O_ 3 (.fa 1 (t_ 1)) 0,O_ 4 (.fa 0 (t_ 3)) 0,O_ 5 (.ld 1 false (t_ 4)) 0,O_ 6 (.mv (t_ 5)) 0,⟨(some 7),.fa 0 (t_ 1),(some (6,false)),0⟩,⟨(some 8),.ld 1 false (t_ 7),(some (6,false)),0⟩,⟨(some 9),.lens (t_ 8),(some (6,false)),0⟩,⟨(some 10),.bin .gtr (t_ 9) (i_ 0),(some (6,false)),0⟩,O_ 11 (.pick (t_ 6) (b_ true) (t_ 10)) 0,O_ 2 (.mv (t_ 11)) 0]) .ret))
theorem gc20_ok:compF Tryz.prog Tryz.f20=some (gc20.er,12,[.tmp 2]):=by unfold gc20;kernel_rfl
theorem p_ref27_Wants_v {u1:Bool} (a0:Ref27State):CallsO Tryz.prog 20 [.agg [.sl (List.map MailEntry.v a0.Mail) u1,.b a0.Snap.On,.b a0.Snap.Begun,.s a0.Snap.After,.i a0.Snap.Told,.i a0.Sent,.i a0.Lost]] V.b (p_ref27_Wants a0):=by
 refine callsO_comp mix Tryz.func20 gc20_ok fun r H=>?_
 rw [p_ref27_Wants] at H
 conv=>whnf
 refine tst_c H (fun b1 H=>?_) (fun b1 H=>?_)
 ·conv=>whnf
  iterate 4 (refine Tst.T ?_;conv=>whnf)
  exact fb_ H
 conv=>whnf
 iterate 2 (refine Tst.F ?_;conv=>whnf)
 refine LenQ.M ?_;conv=>whnf
 iterate 2 (refine Tst.F ?_;conv=>whnf)
 exact fb_ H
def gc22:BCode:=(.seq (R_ 1 [O_ 1 (.bx (t_ 0)) 0,O_ 2 (.mv (i_ 0)) 1]) (.seq (.seq (R_ 0 [O_ 3 (.fa 1 (t_ 1)) 0,O_ 4 (.fa 0 (t_ 3)) 0,O_ 5 (.ld 1 false (t_ 4)) 0]) (.cond (t_ 5) (.seq (R_ 0 [O_ 6 (.fa 0 (t_ 1)) 0,O_ 7 (.ld 1 false (t_ 6)) 0,O_ 8 (.lens (t_ 7)) 0,O_ 9 (.bin .add (t_ 8) (i_ 1)) 0,O_ 2 (.mv (t_ 9)) 0]) .ret) .skip)) (.seq (R_ 0 [O_ 10 (.fa 0 (t_ 1)) 0,O_ 11 (.ld 1 false (t_ 10)) 0,O_ 12 (.lens (t_ 11)) 0,O_ 2 (.mv (t_ 12)) 0]) .ret)))
theorem gc22_ok:compF Tryz.prog Tryz.f22=some (gc22.er,13,[.tmp 2]):=by unfold gc22;kernel_rfl
theorem p_ref27_Len_v {u1:Bool} (a0:Ref27State):CallsO Tryz.prog 22 [.agg [.sl (List.map MailEntry.v a0.Mail) u1,.b a0.Snap.On,.b a0.Snap.Begun,.s a0.Snap.After,.i a0.Snap.Told,.i a0.Sent,.i a0.Lost]] V.i (p_ref27_Len a0):=by
 refine callsO_comp mix Tryz.func22 gc22_ok fun r H=>?_
 rw [p_ref27_Len] at H
 conv=>whnf
 refine tst_d H (fun b1 H=>?_) (fun b1 H=>?_)
 ·conv=>whnf
  refine LenQ.M ?_;conv=>whnf
  exact fi_ H
 conv=>whnf
 refine LenQ.M ?_;conv=>whnf
 refine Ari.w ?_;conv=>whnf
 exact fi_ H
end Go.Proofs.YthnihifblmnkdaaGreat

namespace Go.Proofs.YthnihifblmnkdaaGreat
open Go.RowKit
set_option maxRecDepth 1000000
set_option maxHeartbeats 4000000
def gc3:BCode:=(.seq (R_ 2 [O_ 3 (.bx (t_ 0)) 0,O_ 4 (.bx (t_ 1)) 1,O_ 6 (.mv (b_ false)) 2]) (.join (.seq (R_ 0 [O_ 8 (.fa 0 (t_ 3)) 0,O_ 9 (.ld 1 false (t_ 8)) 0,O_ 10 (.cl 6 [(t_ 9),(i_ 20)]) 0,O_ 11 (.un .not (t_ 10)) 0,O_ 12 (.mv (t_ 11)) 0,⟨(some 13),.fa 1 (t_ 3),(some (12,false)),0⟩,⟨(some 14),.fa 2 (t_ 13),(some (12,false)),0⟩,⟨(some 15),.ld 1 false (t_ 14),(some (12,false)),0⟩,⟨(some 16),.lent (t_ 15),(some (12,false)),0⟩,⟨(some 17),.bin .gtr (t_ 16) (i_ 100),(some (12,false)),0⟩,O_ 18 (.pick (t_ 12) (b_ true) (t_ 17)) 0,O_ 19 (.mv (t_ 18)) 0,⟨(some 20),.fa 0 (t_ 4),(some (19,false)),0⟩,⟨(some 21),.ld 1 false (t_ 20),(some (19,false)),0⟩,⟨(some 22),.lent (t_ 21),(some (19,false)),0⟩,⟨(some 23),.bin .gtr (t_ 22) (i_ 100),(some (19,false)),0⟩,O_ 24 (.pick (t_ 19) (b_ true) (t_ 23)) 0,O_ 25 (.mv (t_ 24)) 0,⟨(some 26),.mv (t_ 2),(some (25,false)),0⟩,⟨(some 27),.lent (t_ 26),(some (25,false)),0⟩,⟨(some 28),.bin .gtr (t_ 27) (i_ 100),(some (25,false)),0⟩,O_ 29 (.pick (t_ 25) (b_ true) (t_ 28)) 0]) (.cond (t_ 29) (.seq (R_ 0 [O_ 30 (.cl 7 []) 0,O_ 6 (.mv (t_ 30)) 0]) .ret) .skip)) (.seq (R_ 1 [O_ 31 (.ld 7 true (t_ 3)) 0,O_ 32 (.cl 8 [(t_ 31)]) 0,O_ 7 (.al (.agg [(.sl [] true),(.lit (.bool false)),(.lit (.bool false)),(.lit (.string ⟨#[]⟩)),(.lit (.int .i64 0)),(.lit (.int .i64 0)),(.lit (.int .i64 0))])) 0,U_ (.st 7 (t_ 7) (t_ 32)) 1]) (.seq (.reg 0 [O_ 33 (.ld 7 true (t_ 7)) 0,O_ 34 (.fa 0 (t_ 4)) 0,O_ 35 (.ld 1 false (t_ 34)) 0,O_ 36 (.fa 1 (t_ 4)) 0,O_ 37 (.ld 4 true (t_ 36)) 0,O_ 38 (.cl 11 [(t_ 33),(t_ 35),(t_ 37)]) 0,O_ 39 (.cl 10 [(t_ 38)]) 0,O_ 40 (.ld 7 true (t_ 3)) 0,O_ 41 (.fa 0 (t_ 4)) 0,O_ 42 (.ld 1 false (t_ 41)) 0,O_ 43 (.fa 1 (t_ 4)) 0,O_ 44 (.ld 4 true (t_ 43)) 0,O_ 45 (.cl 12 [(t_ 40),(t_ 42),(t_ 44)]) 0,O_ 46 (.cl 9 [(t_ 39),(t_ 45)]) 0,O_ 47 (.mv (t_ 46)) 0,⟨(some 48),.ld 7 true (t_ 7),(some (47,true)),0⟩,⟨(some 49),.cl 13 [(t_ 48)],(some (47,true)),0⟩,⟨(some 50),.cl 10 [(t_ 49)],(some (47,true)),0⟩,⟨(some 51),.ld 7 true (t_ 3),(some (47,true)),0⟩,⟨(some 52),.cl 14 [(t_ 51)],(some (47,true)),0⟩,⟨(some 53),.cl 9 [(t_ 50),(t_ 52)],(some (47,true)),0⟩,O_ 54 (.pick (t_ 47) (t_ 53) (b_ false)) 0,O_ 55 (.mv (t_ 54)) 0,⟨(some 56),.ld 7 true (t_ 7),(some (55,true)),0⟩,⟨(some 57),.mv (t_ 2),(some (55,true)),0⟩,⟨(some 58),.cl 15 [(t_ 56),(t_ 57)],(some (55,true)),0⟩,⟨(some 59),.cl 10 [(t_ 58)],(some (55,true)),0⟩,⟨(some 60),.ld 7 true (t_ 3),(some (55,true)),0⟩,⟨(some 61),.mv (t_ 2),(some (55,true)),0⟩,⟨(some 62),.cl 16 [(t_ 60),(t_ 61)],(some (55,true)),0⟩,⟨(some 63),.cl 9 [(t_ 59),(t_ 62)],(some (55,true)),0⟩,O_ 64 (.pick (t_ 55) (t_ 63) (b_ false)) 0,O_ 65 (.mv (t_ 64)) 0,⟨(some 66),.ld 7 true (t_ 7),(some (65,true)),0⟩,⟨(some 67),.cl 17 [(t_ 66)],(some (65,true)),0⟩,⟨(some 68),.ld 7 true (t_ 3),(some (65,true)),0⟩,⟨(some 69),.cl 18 [(t_ 68)],(some (65,true)),0⟩,⟨(some 70),.bin .eql (t_ 67) (t_ 69),(some (65,true)),0⟩,O_ 71 (.pick (t_ 65) (t_ 70) (b_ false)) 0,O_ 72 (.mv (t_ 71)) 0,⟨(some 73),.ld 7 true (t_ 7),(some (72,true)),0⟩,⟨(some 74),.cl 19 [(t_ 73)],(some (72,true)),0⟩,⟨(some 75),.ld 7 true (t_ 3),(some (72,true)),0⟩,⟨(some 76),.cl 20 [(t_ 75)],(some (72,true)),0⟩,⟨(some 77),.binb false (t_ 74) (t_ 76),(some (72,true)),0⟩,O_ 78 (.pick (t_ 72) (t_ 77) (b_ false)) 0,O_ 79 (.mv (t_ 78)) 0,⟨(some 80),.ld 7 true (t_ 7),(some (79,true)),0⟩,⟨(some 81),.cl 21 [(t_ 80)],(some (79,true)),0⟩,⟨(some 82),.ld 7 true (t_ 3),(some (79,true)),0⟩,⟨(some 83),.cl 22 [(t_ 82)],(some (79,true)),0⟩,⟨(some 84),.bin .eql (t_ 81) (t_ 83),(some (79,true)),0⟩,O_ 85 (.pick (t_ 79) (t_ 84) (b_ false)) 0,O_ 86 (.mv (t_ 85)) 0,⟨(some 87),.ld 7 true (t_ 7),(some (86,true)),0⟩,⟨(some 88),.cl 10 [(t_ 87)],(some (86,true)),0⟩,⟨(some 89),.ld 7 true (t_ 3),(some (86,true)),0⟩,⟨(some 90),.cl 9 [(t_ 88),(t_ 89)],(some (86,true)),0⟩,O_ 91 (.pick (t_ 86) (t_ 90) (b_ false)) 0,O_ 92 (.mv (t_ 91)) 0,⟨(some 93),.cl 7 [],(some (92,true)),0⟩,O_ 94 (.pick (t_ 92) (t_ 93) (b_ false)) 0,O_ 6 (.mv (t_ 94)) 0] (some [[],[],[1],[],[3],[3,4,1,2,0],[0,2,1,4,3,5],[],[],[8],[],[10],[5,3,4,1,2,0,6,10,11,8,9,7],[7,9,8,11,10,12,5,3,4,1,2,0,6],[6,0,2,1,4,3,5,12,10,11,8,9,7,13],[13,7,9,8,11,10,12,5,3,4,1,2,0,6,14],[14,6,0,2,1,4,3,5,12,10,11,8,9,7,13,15],[15,13,7,9,8,11,10,12,5,3,4,1,2,0,6,14,16],[13,7,9,8,11,10,12,5,3,4,1,2,0,6,14],[16,15,17,14,6,0,2,1,4,3,5,12,10,11,8,9,7,13,18],[18,19,16,14,6,0,2,1,4,3,5,12,10,11,8,9,7,13,15,17],[17,15,16,19,18,20,13,7,9,8,11,10,12,5,3,4,1,2,0,6,14],[14,6,0,2,1,4,3,5,12,10,11,8,9,7,13,20,18,19,16,15,17,21],[21,17,15,16,19,18,20,13,7,9,8,11,10,12,5,3,4,1,2,0,6,14,22],[21,17,15,16,19,18,20,13,7,9,8,11,10,12,5,3,4,1,2,0,6,14,22],[24,22,14,6,0,2,1,4,3,5,12,10,11,8,9,7,13,20,18,19,16,15,17,21,23],[23,21,17,15,16,19,18,20,13,7,9,8,11,10,12,5,3,4,1,2,0,6,14,22,24,25],[21,17,15,16,19,18,20,13,7,9,8,11,10,12,5,3,4,1,2,0,6,14,22],[21,17,15,16,19,18,20,13,7,9,8,11,10,12,5,3,4,1,2,0,6,14,22],[25,24,23,26,28,22,14,6,0,2,1,4,3,5,12,10,11,8,9,7,13,20,18,19,16,15,17,21,27],[27,28,29,25,24,22,14,6,0,2,1,4,3,5,12,10,11,8,9,7,13,20,18,19,16,15,17,21,23,26],[26,23,24,25,29,28,27,30,21,17,15,16,19,18,20,13,7,9,8,11,10,12,5,3,4,1,2,0,6,14,22],[22,14,6,0,2,1,4,3,5,12,10,11,8,9,7,13,20,18,19,16,15,17,21,30,27,28,29,25,24,23,26,31],[31,26,23,24,25,29,28,27,30,21,17,15,16,19,18,20,13,7,9,8,11,10,12,5,3,4,1,2,0,6,14,22,32],[32,22,14,6,0,2,1,4,3,5,12,10,11,8,9,7,13,20,18,19,16,15,17,21,30,27,28,29,25,24,23,26,31,33],[31,26,23,24,25,29,28,27,30,21,17,15,16,19,18,20,13,7,9,8,11,10,12,5,3,4,1,2,0,6,14,22,32],[33,34,32,22,14,6,0,2,1,4,3,5,12,10,11,8,9,7,13,20,18,19,16,15,17,21,30,27,28,29,25,24,23,26,31,35],[35,36,33,31,26,23,24,25,29,28,27,30,21,17,15,16,19,18,20,13,7,9,8,11,10,12,5,3,4,1,2,0,6,14,22,32,34],[34,33,36,35,37,31,26,23,24,25,29,28,27,30,21,17,15,16,19,18,20,13,7,9,8,11,10,12,5,3,4,1,2,0,6,14,22,32],[32,22,14,6,0,2,1,4,3,5,12,10,11,8,9,7,13,20,18,19,16,15,17,21,30,27,28,29,25,24,23,26,31,37,35,36,33,34,38],[38,34,33,36,35,37,31,26,23,24,25,29,28,27,30,21,17,15,16,19,18,20,13,7,9,8,11,10,12,5,3,4,1,2,0,6,14,22,32,39],[39,32,22,14,6,0,2,1,4,3,5,12,10,11,8,9,7,13,20,18,19,16,15,17,21,30,27,28,29,25,24,23,26,31,37,35,36,33,34,38,40],[38,34,33,36,35,37,31,26,23,24,25,29,28,27,30,21,17,15,16,19,18,20,13,7,9,8,11,10,12,5,3,4,1,2,0,6,14,22,32,39],[40,41,39,32,22,14,6,0,2,1,4,3,5,12,10,11,8,9,7,13,20,18,19,16,15,17,21,30,27,28,29,25,24,23,26,31,37,35,36,33,34,38,42],[42,43,40,38,34,33,36,35,37,31,26,23,24,25,29,28,27,30,21,17,15,16,19,18,20,13,7,9,8,11,10,12,5,3,4,1,2,0,6,14,22,32,39,41],[41,40,43,42,44,38,34,33,36,35,37,31,26,23,24,25,29,28,27,30,21,17,15,16,19,18,20,13,7,9,8,11,10,12,5,3,4,1,2,0,6,14,22,32,39],[39,32,22,14,6,0,2,1,4,3,5,12,10,11,8,9,7,13,20,18,19,16,15,17,21,30,27,28,29,25,24,23,26,31,37,35,36,33,34,38,44,42,43,40,41,45],[45,41,40,43,42,44,38,34,33,36,35,37,31,26,23,24,25,29,28,27,30,21,17,15,16,19,18,20,13,7,9,8,11,10,12,5,3,4,1,2,0,6,14,22,32,39,46],[46,39,32,22,14,6,0,2,1,4,3,5,12,10,11,8,9,7,13,20,18,19,16,15,17,21,30,27,28,29,25,24,23,26,31,37,35,36,33,34,38,44,42,43,40,41,45,47],[45,41,40,43,42,44,38,34,33,36,35,37,31,26,23,24,25,29,28,27,30,21,17,15,16,19,18,20,13,7,9,8,11,10,12,5,3,4,1,2,0,6,14,22,32,39,46],[47,48,46,39,32,22,14,6,0,2,1,4,3,5,12,10,11,8,9,7,13,20,18,19,16,15,17,21,30,27,28,29,25,24,23,26,31,37,35,36,33,34,38,44,42,43,40,41,45,49],[49,50,47,45,41,40,43,42,44,38,34,33,36,35,37,31,26,23,24,25,29,28,27,30,21,17,15,16,19,18,20,13,7,9,8,11,10,12,5,3,4,1,2,0,6,14,22,32,39,46,48],[48,47,50,49,51,45,41,40,43,42,44,38,34,33,36,35,37,31,26,23,24,25,29,28,27,30,21,17,15,16,19,18,20,13,7,9,8,11,10,12,5,3,4,1,2,0,6,14,22,32,39,46],[46,39,32,22,14,6,0,2,1,4,3,5,12,10,11,8,9,7,13,20,18,19,16,15,17,21,30,27,28,29,25,24,23,26,31,37,35,36,33,34,38,44,42,43,40,41,45,51,49,50,47,48,52],[52,48,47,50,49,51,45,41,40,43,42,44,38,34,33,36,35,37,31,26,23,24,25,29,28,27,30,21,17,15,16,19,18,20,13,7,9,8,11,10,12,5,3,4,1,2,0,6,14,22,32,39,46,53],[53,46,39,32,22,14,6,0,2,1,4,3,5,12,10,11,8,9,7,13,20,18,19,16,15,17,21,30,27,28,29,25,24,23,26,31,37,35,36,33,34,38,44,42,43,40,41,45,51,49,50,47,48,52,54],[52,48,47,50,49,51,45,41,40,43,42,44,38,34,33,36,35,37,31,26,23,24,25,29,28,27,30,21,17,15,16,19,18,20,13,7,9,8,11,10,12,5,3,4,1,2,0,6,14,22,32,39,46,53],[56,54,52,48,47,50,49,51,45,41,40,43,42,44,38,34,33,36,35,37,31,26,23,24,25,29,28,27,30,21,17,15,16,19,18,20,13,7,9,8,11,10,12,5,3,4,1,2,0,6,14,22,32,39,46,53,55],[55,54,56,57,52,48,47,50,49,51,45,41,40,43,42,44,38,34,33,36,35,37,31,26,23,24,25,29,28,27,30,21,17,15,16,19,18,20,13,7,9,8,11,10,12,5,3,4,1,2,0,6,14,22,32,39,46,53],[53,46,39,32,22,14,6,0,2,1,4,3,5,12,10,11,8,9,7,13,20,18,19,16,15,17,21,30,27,28,29,25,24,23,26,31,37,35,36,33,34,38,44,42,43,40,41,45,51,49,50,47,48,52,57,56,54,55,58],[58,55,54,56,57,52,48,47,50,49,51,45,41,40,43,42,44,38,34,33,36,35,37,31,26,23,24,25,29,28,27,30,21,17,15,16,19,18,20,13,7,9,8,11,10,12,5,3,4,1,2,0,6,14,22,32,39,46,53,59],[60,58,55,54,56,57,52,48,47,50,49,51,45,41,40,43,42,44,38,34,33,36,35,37,31,26,23,24,25,29,28,27,30,21,17,15,16,19,18,20,13,7,9,8,11,10,12,5,3,4,1,2,0,6,14,22,32,39,46,53,59],[59,53,46,39,32,22,14,6,0,2,1,4,3,5,12,10,11,8,9,7,13,20,18,19,16,15,17,21,30,27,28,29,25,24,23,26,31,37,35,36,33,34,38,44,42,43,40,41,45,51,49,50,47,48,52,57,56,54,55,58,60,61]]) 0 []) .ret))))
theorem gc3_ok:compF Tryz.prog Tryz.f3=some (gc3.er,95,[.tmp 6]):=by unfold gc3;kernel_rfl
theorem p_law27_OutqChanges_v {u1:Bool} (a0:Ref27State) (a1:MailEntry) (a2:ByteArray):CallsO Tryz.prog 3 [.agg [.sl (List.map MailEntry.v a0.Mail) u1,.b a0.Snap.On,.b a0.Snap.Begun,.s a0.Snap.After,.i a0.Snap.Told,.i a0.Sent,.i a0.Lost],.agg [.s a1.Key,.b a1.P.On,.i a1.P.Show,.i a1.P.Prio,.i a1.P.Seq],.s a2] V.b (tru? (p_law27_OutqChanges a0 a1 a2)):=by
 refine callsO_comp mix Tryz.func3 gc3_ok fun r H=>?_
 have H1:=tru_of H
 clear H
 obtain ⟨rfl,H⟩:=H1
 rw [p_law27_OutqChanges] at H
 conv=>whnf
 obtain ⟨K1,hK2,o3,HL4,HQ5⟩:=join0_c H
 refine join_c [6,3,4] [8,9,10,11,12,13,14,15,16,17,18,19,20,21,22,23,24,25,26,27,28,29,30] (fun vals st=>(K1 (.inr ())=some true∧vals=[.b false,.ptr 0 0,.ptr 1 0]∧st=[.live [.sl (List.map MailEntry.v a0.Mail) u1,.b a0.Snap.On,.b a0.Snap.Begun,.s a0.Snap.After,.i a0.Snap.Told,.i a0.Sent,.i a0.Lost] 0,.live [.s a1.Key,.b a1.P.On,.i a1.P.Show,.i a1.P.Prio,.i a1.P.Seq] 0])) ?_ ?_
 ·have H:=HL4
  conv=>whnf
  refine ask_c (p_ref25_Light_v _ _) H rfl rfl (fun v7 H=>?_);conv=>whnf
  refine Tst.not ?_
  refine tst_d H (fun b8 H=>?_) (fun b8 H=>?_)
  ·conv=>whnf
   iterate 15 (refine Tst.T ?_;conv=>whnf)
   refine ask_c (p_law27_awake_v) H rfl rfl (fun v15 H=>?_);conv=>whnf
   obtain rfl:=Option.some.inj H
   have H:=HQ5
   rw [hK2] at H
   try dsimp only at H
   exact fb_ H
  conv=>whnf
  iterate 5 (refine Tst.F ?_;conv=>whnf)
  refine tst_c H (fun b9 H=>?_) (fun b9 H=>?_)
  ·conv=>whnf
   iterate 9 (refine Tst.T ?_;conv=>whnf)
   refine ask_c (p_law27_awake_v) H rfl rfl (fun v10 H=>?_);conv=>whnf
   obtain rfl:=Option.some.inj H
   have H:=HQ5
   rw [hK2] at H
   try dsimp only at H
   exact fb_ H
  conv=>whnf
  iterate 4 (refine Tst.F ?_;conv=>whnf)
  refine tst_c H (fun b11 H=>?_) (fun b11 H=>?_)
  ·conv=>whnf
   iterate 4 (refine Tst.T ?_;conv=>whnf)
   refine ask_c (p_law27_awake_v) H rfl rfl (fun v12 H=>?_);conv=>whnf
   obtain rfl:=Option.some.inj H
   have H:=HQ5
   rw [hK2] at H
   try dsimp only at H
   exact fb_ H
  conv=>whnf
  iterate 3 (refine Tst.F ?_;conv=>whnf)
  refine tst_c H (fun b13 H=>?_) (fun b13 H=>?_)
  ·conv=>whnf
   refine ask_c (p_law27_awake_v) H rfl rfl (fun v14 H=>?_);conv=>whnf
   obtain rfl:=Option.some.inj H
   have H:=HQ5
   rw [hK2] at H
   try dsimp only at H
   exact fb_ H
  conv=>whnf
  obtain rfl:=Option.some.inj H
  exact arrive_c [8,9,10,11,12,13,14,15,16,17,18,19,20,21,22,23,24,25,26,27,28,29,30] 2 [] (⟨HQ5,rfl,rfl⟩) (Nat.zero_le _) rfl (by kernel_rfl) (by kernel_rfl) rfl ⟨⟨rfl,rfl,rfl⟩,⟨⟨rfl,rfl,rfl⟩,trivial⟩⟩
 rintro _ _ (⟨H,rfl,rfl⟩)
 rw [hK2] at H
 try dsimp only at H
 conv=>whnf
 refine ask_c (p_law27_own_v _) H rfl rfl (fun v16 H=>?_);conv=>whnf
 refine lq_ ?_;conv=>whnf
 refine ask_c (p_outq_Add_v _ _ _) H rfl rfl (fun v17 H=>?_);conv=>whnf
 refine ask_c (p_law27_Back_v _) H rfl rfl (fun v18 H=>?_);conv=>whnf
 refine ask_c (p_ref27_Add_v _ _ _) H rfl rfl (fun v19 H=>?_);conv=>whnf
 refine ask_c (p_ref27_Same_v _ _) H rfl rfl (fun v20 H=>?_);conv=>whnf
 refine tstT_c H (fun b21 H=>?_);conv=>whnf
 refine Tst.T ?_;conv=>whnf
 refine ask_c (p_outq_Begin_v _) H rfl rfl (fun v22 H=>?_);conv=>whnf
 refine Tst.T ?_;conv=>whnf
 refine ask_c (p_law27_Back_v _) H rfl rfl (fun v23 H=>?_);conv=>whnf
 iterate 2 (refine Tst.T ?_;conv=>whnf)
 refine ask_c (p_ref27_Begin_v _) H rfl rfl (fun v24 H=>?_);conv=>whnf
 refine Tst.T ?_;conv=>whnf
 refine ask_c (p_ref27_Same_v _ _) H rfl rfl (fun v25 H=>?_);conv=>whnf
 refine Tst.T ?_;conv=>whnf
 refine tstT_c H (fun b26 H=>?_);conv=>whnf
 iterate 2 (refine Tst.T ?_;conv=>whnf)
 refine ask_c (p_outq_Forget_v _ _) H rfl rfl (fun v27 H=>?_);conv=>whnf
 refine Tst.T ?_;conv=>whnf
 refine ask_c (p_law27_Back_v _) H rfl rfl (fun v28 H=>?_);conv=>whnf
 iterate 3 (refine Tst.T ?_;conv=>whnf)
 refine ask_c (p_ref27_Forget_v _ _) H rfl rfl (fun v29 H=>?_);conv=>whnf
 refine Tst.T ?_;conv=>whnf
 refine ask_c (p_ref27_Same_v _ _) H rfl rfl (fun v30 H=>?_);conv=>whnf
 refine Tst.T ?_;conv=>whnf
 refine tstT_c H (fun b31 H=>?_);conv=>whnf
 refine Tst.T ?_;conv=>whnf
 refine ask_c (p_outq_Check_v _) H rfl rfl (fun v32 H=>?_);conv=>whnf
 iterate 2 (refine Tst.T ?_;conv=>whnf)
 refine ask_c (p_ref27_Check_v _) H rfl rfl (fun v33 H=>?_);conv=>whnf
 iterate 2 (refine Tst.T ?_;conv=>whnf)
 refine tstT_c H (fun b34 H=>?_);conv=>whnf
 refine Tst.T ?_;conv=>whnf
 refine ask_c (p_outq_Wants_v _) H rfl rfl (fun v35 H=>?_);conv=>whnf
 iterate 2 (refine Tst.T ?_;conv=>whnf)
 refine ask_c (p_ref27_Wants_v _) H rfl rfl (fun v36 H=>?_);conv=>whnf
 iterate 2 (refine Tst.T ?_;conv=>whnf)
 refine tstT_c H (fun b37 H=>?_);conv=>whnf
 refine Tst.T ?_;conv=>whnf
 refine ask_c (p_outq_Len_v _) H rfl rfl (fun v38 H=>?_);conv=>whnf
 iterate 2 (refine Tst.T ?_;conv=>whnf)
 refine ask_c (p_ref27_Len_v _) H rfl rfl (fun v39 H=>?_);conv=>whnf
 iterate 2 (refine Tst.T ?_;conv=>whnf)
 refine tstT_c H (fun b40 H=>?_);conv=>whnf
 refine Tst.T ?_;conv=>whnf
 refine ask_c (p_law27_Back_v _) H rfl rfl (fun v41 H=>?_);conv=>whnf
 iterate 2 (refine Tst.T ?_;conv=>whnf)
 refine ask_c (p_ref27_Same_v _ _) H rfl rfl (fun v42 H=>?_);conv=>whnf
 refine Tst.T ?_;conv=>whnf
 refine tstT_c H (fun b43 H=>?_);conv=>whnf
 refine ask_c (p_law27_awake_v) H rfl rfl (fun v44 H=>?_);conv=>whnf
 refine Tst.T ?_;conv=>whnf
 refine FootQ.mk ⟨rfl,?_⟩;conv=>whnf
 exact fb_ H
end Go.Proofs.YthnihifblmnkdaaGreat

namespace Go.Proofs.YthnihifblmnkdaaGreat
open Go.ChangeShapes Go.WideShapes Go.ChangeAt Go.RowKit Go.Joins Go.Deep
theorem outqChanges_named:Tryz.pinned.checked.prog.funcNamed Rows.outqChangesRow.func=some 3:=by kernel_rfl
theorem outqChanges_closed:joinedFacts Tryz.pinned.checked.prog 3 Tryz.f3 Rows.outqChangesSpec Rows.outqChangesRow=true:=by kernel_rfl
end Go.Proofs.YthnihifblmnkdaaGreat

namespace Go.Proofs.YthnihifblmnkdaaGreat
open Go.ChangeShapes Go.WideShapes Go.ChangeAt Go.RowKit Go.Joins Go.Deep
set_option maxRecDepth 100000 in
theorem outqChanges_lifted (os:Os) (started:os.Started) (H:Type) (enc:TypeId × Value→H) :
  ReturnsInHanded {} Tryz.checked os 3 .any (Rows.outqChangesSpec.pre6 enc Tryz.prog Tryz.f3 Rows.outqChangesRow.domain false) (Rows.outqChangesSpec.post enc Tryz.prog Tryz.f3 false true false false):=by
 refine returnsInHanded_of_change_shaped (C:=Tryz.checked) own0 started (by kernel_rfl) Tryz.func3
  (ChangeSpec.witness6 (enc:=enc) (C:=Tryz.checked) false ⟨#[],#[.agg #[.slice none 0 0,.bool false,.bool false,.string ⟨#[]⟩,.int .i64 0,.int .i64 0,.int .i64 0],.agg #[.string ⟨#[]⟩,.bool false,.int .i64 0,.int .i64 0,.int .i64 0],.string ⟨#[]⟩],[]⟩ 8 (by kernel_rfl) (by kernel_rfl) (by kernel_rfl) (by kernel_rfl)) ?_
 intro W base args ds gs before hval0 hW hcnd _ hsh _
 have hval:∀ (j:Nat) t v,Tryz.f3.params[j]?=some t→args[j]?=some v→Value.okWide Tryz.prog W .any base t v:=hval0
 have hW':=hW
 obtain ⟨p,q,hA0,hV,rfl,hfz,hnd⟩:=hW
 have hA:DataW.TrodAll enc Tryz.prog W 0 (fun _=>true) true Tryz.f3.params.toList args.toList ds p:=hA0
 rw [Tryz.params3] at hA hval
 have hA2:=hA
 obtain ⟨v0,v1,v2,d0,d1,d2,p0,p1,p2,rfl,rfl,hp,h0,h1,h2⟩:=trodAll_three hA
 obtain ⟨rfl,rfl⟩:=trodVars_none hV
 obtain ⟨fu0,hf0⟩:=h0
 obtain ⟨cs0,rfl,_⟩:=okWide_struct Tryz.underlying26 (hval 0 _ v0 rfl rfl)
 obtain ⟨a0,w0,r0⟩:=rd_T26 hf0
 have hx0:Rep (MW W) noBk (.agg cs0) (.agg [.sl (List.map MailEntry.v a0.Mail) false,.b a0.Snap.On,.b a0.Snap.Begun,.s a0.Snap.After,.i a0.Snap.Told,.i a0.Sent,.i a0.Lost]):=rep_aggL r0 (by intro u hu;simp only [List.mem_cons,List.not_mem_nil,or_false] at hu;rcases hu with rfl | rfl | rfl | rfl | rfl | rfl | rfl <;> rfl)
 obtain ⟨fu1,hf1⟩:=h1
 obtain ⟨cs1,rfl,_⟩:=okWide_struct Tryz.underlying30 (hval 1 _ v1 rfl rfl)
 obtain ⟨a1,w1,r1⟩:=rd_T30 hf1
 have hx1:Rep (MW W) noBk (.agg cs1) (.agg [.s a1.Key,.b a1.P.On,.i a1.P.Show,.i a1.P.Prio,.i a1.P.Seq]):=rep_aggL r1 (by intro u hu;simp only [List.mem_cons,List.not_mem_nil,or_false] at hu;rcases hu with rfl | rfl | rfl | rfl | rfl <;> rfl)
 obtain ⟨fu2,hf2⟩:=h2
 obtain ⟨q2,rfl⟩:=okWide_string Tryz.underlying9 (hval 2 _ v2 rfl rfl)
 obtain ⟨a2,r2⟩:=rd_string Tryz.underlying9 hf2
 have hx2:Rep (MW W) noBk _ _:=r2.2 0 (by simp [Value.cells]) (by simp)
 refine (rep_one (callsO_true (p_law27_OutqChanges_v a0 a1 a2) (tru_ok (outqChanges_all a0 a1 a2))) (maxLen_cell W hsh) (repAr3 hx0 hx1 hx2)).mono ?_
 rintro e W' ⟨rfl,bel⟩
 refine ⟨_,rfl,_,_,_,[],p,[],hW',?_,?_,?_,?_,?_⟩
 ·exact trodAll_mk1 (shut_bool Tryz.underlying4 true)
 ·exact trodAll_below laid0 bel (by
   intro t ht
   simp at ht
   rcases ht with rfl | rfl | rfl <;> exact ⟨by kernel_rfl,of_decide_eq_true (by kernel_rfl)⟩) hA2
 ·rfl
 ·exact bel.frame _
 ·exact fun h=>by cases h
theorem outqChanges_holds:Rows.OutqChangesSaid :=
 OpenClaim.holds_of_wide 3 Tryz.f3 rfl rfl rfl rfl rfl rfl rfl ⟨rfl,rfl,rfl,rfl,rfl⟩ rfl rfl rfl rfl rfl outqChanges_named Tryz.func3 outqChanges_closed
  (of_decide_eq_true (by kernel_rfl)) (by unfold Func.isWrapper;first | (rw [if_pos (by decide +kernel)];kernel_rfl) | (rw [if_neg (by decide +kernel)];exact ⟨rfl,rfl⟩))
  (fun os started H enc _=>outqChanges_lifted os started H enc)
#print axioms outqChanges_holds
end Go.Proofs.YthnihifblmnkdaaGreat

