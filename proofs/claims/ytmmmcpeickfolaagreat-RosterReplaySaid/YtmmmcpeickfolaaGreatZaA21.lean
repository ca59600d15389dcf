/- A part of the proof: 1 texts joined. -/
import Derived.Test.YtmmmcpeickfolaaGreatZaA15
import Derived.Test.YtmmmcpeickfolaaGreatZaA14
import Derived.Test.YtmmmcpeickfolaaGreatZaA18
import Derived.Test.YtmmmcpeickfolaaGreatZaA20
import Derived.Test.YtmmmcpeickfolaaGreatZaA19
import Derived.Test.YtmmmcpeickfolaaGreatZaA10
import Derived.KernelRfl
set_option linter.all false
namespace Go.Proofs.YtmmmcpeickfolaaGreat
open Go.RowKit
set_option maxRecDepth 100000
set_option maxHeartbeats 4000000
def gc126:BCode:=(.seq (R_ 3 [O_ 2 (.bx (t_ 0)) 0,O_ 3 (.bx (t_ 1)) 1,O_ 4 (.al (.agg [(.lit (.int .i64 0)),(.lit (.int .i64 0)),(.sl [] true),(.sl [] true)])) 2]) (.seq (R_ 0 [O_ 10 (.ld 4 true (t_ 2)) 0,O_ 11 (.fa 0 (t_ 3)) 0,O_ 12 (.ld 1 false (t_ 11)) 0,O_ 13 (.cl 128 [(t_ 10),(t_ 12)]) 0,O_ 9 (.mv (t_ 13)) 0,O_ 14 (.ex (t_ 9) 0) 0,O_ 15 (.ex (t_ 9) 1) 0,O_ 5 (.mv (t_ 14)) 0,O_ 6 (.mv (t_ 15)) 0]) (.seq (R_ 0 [O_ 16 (.mv (t_ 6)) 0,O_ 17 (.mv (t_ 16)) 0,⟨(some 18),.fa 2 (t_ 2),(some (17,true)),0⟩,⟨(some 19),.ld 1 false (t_ 18),(some (17,true)),0⟩,⟨(some 20),.mv (t_ 5),(some (17,true)),0⟩,⟨(some 21),.ixs 5 (t_ 19) (t_ 20),(some (17,true)),0⟩,⟨(some 22),.ld 5 true (t_ 21),(some (17,true)),0⟩,⟨(some 23),.cl 80 [(t_ 22)],(some (17,true)),0⟩,O_ 24 (.pick (t_ 17) (t_ 23) (b_ false)) 0,O_ 7 (.mv (t_ 24)) 0]) (.seq (R_ 0 [O_ 25 (.ld 5 true (t_ 3)) 0,O_ 26 (.cl 80 [(t_ 25)]) 0,O_ 8 (.mv (t_ 26)) 0]) (.seq (R_ 0 [O_ 27 (.fa 0 (t_ 2)) 0,O_ 28 (.ld 1 false (t_ 27)) 0,O_ 29 (.bin .add (t_ 28) (i_ 1)) 0,O_ 30 (.fa 0 (t_ 2)) 0,U_ (.st 1 (t_ 30) (t_ 29)) 0]) (.seq (R_ 0 [O_ 31 (.fa 0 (t_ 2)) 0,O_ 32 (.ld 1 false (t_ 31)) 0,O_ 33 (.fa 3 (t_ 3)) 0,U_ (.st 1 (t_ 33) (t_ 32)) 0]) (.seq (.block 0 (.seq (R_ 0 [O_ 35 (.mv (t_ 6)) 0,O_ 36 (.mv (t_ 35)) 0,⟨(some 37),.ld 5 true (t_ 3),(some (36,true)),0⟩,⟨(some 38),.cl 135 [(t_ 37)],(some (36,true)),0⟩,O_ 39 (.pick (t_ 36) (t_ 38) (b_ false)) 0,O_ 34 (.mv (t_ 39)) 0]) (.cond (t_ 34) (R_ 0 [O_ 40 (.fa 2 (t_ 2)) 0,O_ 41 (.ld 1 false (t_ 40)) 0,O_ 42 (.mv (t_ 5)) 0,O_ 43 (.mv (t_ 5)) 0,O_ 44 (.bin .add (t_ 43) (i_ 1)) 0,O_ 45 (.cl 174 [(t_ 41),(t_ 42),(t_ 44)]) 0,O_ 46 (.fa 2 (t_ 2)) 0,U_ (.st 1 (t_ 46) (t_ 45)) 0]) (.seq (R_ 0 [O_ 48 (.mv (t_ 6)) 0,O_ 47 (.mv (t_ 48)) 0]) (.cond (t_ 47) (R_ 0 [O_ 49 (.fa 2 (t_ 2)) 0,O_ 50 (.ld 1 false (t_ 49)) 0,O_ 51 (.mv (t_ 5)) 0,O_ 52 (.ld 5 true (t_ 3)) 0,O_ 53 (.ixs 5 (t_ 50) (t_ 51)) 0,U_ (.st 5 (t_ 53) (t_ 52)) 0]) (.seq (R_ 0 [O_ 55 (.ld 5 true (t_ 3)) 0,O_ 56 (.cl 135 [(t_ 55)]) 0,O_ 57 (.un .not (t_ 56)) 0,O_ 54 (.mv (t_ 57)) 0]) (.cond (t_ 54) (R_ 1 [O_ 58 (.fa 2 (t_ 2)) 0,O_ 59 (.ld 1 false (t_ 58)) 0,O_ 60 (.mv (t_ 5)) 0,O_ 61 (.ld 5 true (t_ 3)) 0,O_ 62 (.bs 5 1 [(.lit (.string ⟨#[]⟩)),(.lit (.string ⟨#[]⟩)),(.lit (.int .i64 0)),(.lit (.int .i64 0)),(.lit (.bool false))] [(0,(t_ 61))]) 0,O_ 63 (.cl 175 [(t_ 59),(t_ 60),(t_ 62)]) 1,O_ 64 (.fa 2 (t_ 2)) 1,U_ (.st 1 (t_ 64) (t_ 63)) 1]) .skip))))))) (.seq (.seq (R_ 0 [O_ 65 (.mv (t_ 7)) 0,O_ 66 (.mv (t_ 65)) 0,⟨(some 67),.mv (t_ 8),(some (66,false)),0⟩,O_ 68 (.pick (t_ 66) (b_ true) (t_ 67)) 0]) (.cond (t_ 68) (.reg 0 [O_ 69 (.fa 3 (t_ 2)) 0,O_ 70 (.ld 1 false (t_ 69)) 0,O_ 71 (.mf (.func 177) [(t_ 3)]) 0,O_ 72 (.cl 176 [(t_ 70),(t_ 71)]) 0,O_ 73 (.fa 3 (t_ 2)) 0,U_ (.st 1 (t_ 73) (t_ 72)) 0] none 0 [3]) .skip)) (.seq (.seq (R_ 0 [O_ 74 (.mv (t_ 7)) 0,O_ 75 (.mv (t_ 74)) 0,⟨(some 76),.mv (t_ 8),(some (75,true)),0⟩,⟨(some 77),.un .not (t_ 76),(some (75,true)),0⟩,O_ 78 (.pick (t_ 75) (t_ 77) (b_ false)) 0]) (.cond (t_ 78) (R_ 2 [O_ 79 (.fa 3 (t_ 2)) 0,O_ 80 (.ld 1 false (t_ 79)) 0,O_ 81 (.fa 0 (t_ 3)) 0,O_ 82 (.ld 1 false (t_ 81)) 0,O_ 83 (.fa 0 (t_ 2)) 0,O_ 84 (.ld 1 false (t_ 83)) 0,O_ 85 (.bd [(.lit (.string ⟨#[]⟩)),(.lit (.int .i64 0))] [(0,1,(t_ 82)),(1,1,(t_ 84))]) 0,O_ 86 (.bs 2 1 [(.lit (.string ⟨#[]⟩)),(.lit (.int .i64 0))] [(0,(t_ 85))]) 0,O_ 87 (.ap 2 24 (t_ 80) (t_ 86)) 1,O_ 88 (.fa 3 (t_ 2)) 2,U_ (.st 1 (t_ 88) (t_ 87)) 2]) .skip)) (.seq (.seq (R_ 0 [O_ 89 (.fa 3 (t_ 2)) 0,O_ 90 (.ld 1 false (t_ 89)) 0,O_ 91 (.lens (t_ 90)) 0,O_ 92 (.bin .gtr (t_ 91) (i_ 8)) 0]) (.cond (t_ 92) (.seq (R_ 0 [O_ 93 (.fa 3 (t_ 2)) 0,O_ 94 (.ld 1 false (t_ 93)) 0,O_ 95 (.ixs 2 (t_ 94) (i_ 0)) 0,O_ 96 (.fa 1 (t_ 95)) 0,O_ 97 (.ld 1 false (t_ 96)) 0,O_ 98 (.fa 1 (t_ 2)) 0,U_ (.st 1 (t_ 98) (t_ 97)) 0]) (R_ 0 [O_ 99 (.fa 3 (t_ 2)) 0,O_ 100 (.ld 1 false (t_ 99)) 0,O_ 101 (.cl 178 [(t_ 100),(i_ 0),(i_ 1)]) 0,O_ 102 (.fa 3 (t_ 2)) 0,U_ (.st 1 (t_ 102) (t_ 101)) 0])) .skip)) (.seq (R_ 0 [O_ 103 (.ld 4 true (t_ 2)) 0,U_ (.st 4 (t_ 4) (t_ 103)) 0]) .ret)))))))))))
theorem gc126_ok:compF Tryz.prog Tryz.f126=some (gc126.er,104,[.cell 4 4 true]):=by unfold gc126;kernel_rfl
theorem p_roster_State_change_oo (s_0:Int) (s_1:Int) (s_2:List ItemItem) (s_3:List RosterGone) (a1:ItemItem) {R O:List V} {xs:Slot} (hR:V.idlt.belowL 5 R=true) (hO:V.idlt.belowL 5 O=true) (hX:xs.ok5=true) (s:RosterState) (H:p_roster_State_change (RosterState.mk s_0 s_1 s_2 s_3) a1=some s):CallsS Tryz.prog 126 [.agg [.i s_0,.i s_1,.osl 2 0 (List.length s_2) 5 false,.osl 3 0 (List.length s_3) 2 false],.agg [.s a1.Contact,.s a1.Name,.i a1.Sub,.i a1.Ver,.b a1.Own]] [.live R 0,.live O 0,.live (cellsM ItemItem.v s_2) 0,.live (cellsM RosterGone.v s_3) 0,xs] (RosterState.v s) [.live R 0,.live O 0,.dead,.dead,xs]:=by
 rcases xs with _ | _ | ⟨X,_ | fX⟩ <;> first | (cases hX;done) | skip
 all_goals
  refine callsR_c (n0:=5) mix Tryz.func126 gc126_ok rfl ?_
  rw [p_roster_State_change] at H
  conv=>whnf
  refine askT_c [3,2] (p_roster_State_find_v _ _) H (.cons (fzagg (.cons (.id rfl) (.cons (.id rfl) (.cons (fzown (f:=ItemItem.v) (l:=s_2) rfl rfl (fun _=>rfl) (fun _=>rfl)) (.cons (fzown (f:=RosterGone.v) (l:=s_3) rfl rfl (fun _=>rfl) (fun _=>rfl)) (.nil))))) rfl) (.cons (.c (.id rfl)) (.nil))) (fun _=>rfl) (fun v1 H=>?_);conv=>whnf
  refine tst_d H (fun b2 H=>?_) (fun b2 H=>?_)
  ·conv=>whnf
   iterate 6 (refine Tst.F ?_;conv=>whnf)
   refine ask_c (p_item_Listed_v _) H rfl rfl (fun v56 H=>?_);conv=>whnf
   refine Ari.w ?_;conv=>whnf
   refine lq_ ?_;conv=>whnf
   refine lq_ ?_;conv=>whnf
   refine Tst.isF b2 ?_;conv=>whnf
   iterate 3 (refine Tst.F ?_;conv=>whnf)
   refine Tst.isF b2 ?_;conv=>whnf
   refine ask_c (p_item_Idle_v _) H rfl rfl (fun v57 H=>?_);conv=>whnf
   refine Tst.not ?_
   refine tst_d H (fun b58 H=>?_) (fun b58 H=>?_)
   ·conv=>whnf
    refine insO_c (f:=ItemItem.v) insR175_v H (by decide) (fun _=>rfl) (fun _=>rfl) (fun _=>rfl) rfl rfl rfl (fun v69 H=>?_);conv=>whnf
    refine lq_ ?_;conv=>whnf
    iterate 2 (refine Tst.F ?_;conv=>whnf)
    refine tst_d H (fun b70 H=>?_) (fun b70 H=>?_)
    ·conv=>whnf
     iterate 4 (refine Tst.F ?_;conv=>whnf)
     refine tst_d H (fun b76 H=>?_) (fun b76 H=>?_)
     ·conv=>whnf
      refine lq_ ?_;conv=>whnf
      refine finW_c (enc:=RosterState.v) [3] (.inr rfl) H rfl hR hO hX ?_;conv=>whnf
      refine ⟨Nat.zero_le _,?_⟩;conv=>whnf
      refine ⟨⟨rfl,rfl,rfl⟩,?_⟩;conv=>whnf
      exact ⟨_,_,_,rfl,rfl,.cons (.id rfl) (.cons (.id rfl) (.cons (.id rfl) (.cons (fzown (f:=RosterGone.v) (l:=s_3) rfl rfl (fun _=>rfl) (fun _=>rfl)) (.nil)))),rfl⟩
     conv=>whnf
     refine ⟨rfl,ixo_c H (fun x77 h78 H=>?_)⟩;conv=>whnf
     refine ldo_c (f:=RosterGone.v) (es:=2) h78 (fun _=>rfl) 1 (by omega) (by decide) ?_;conv=>whnf
     refine lq_ ?_;conv=>whnf
     refine delO_c (f:=RosterGone.v) delR178_v H (fun _=>rfl) (fun _=>rfl) rfl rfl (fun v79 H=>?_);conv=>whnf
     refine lq_ ?_;conv=>whnf
     refine lq_ ?_;conv=>whnf
     refine finW_c (enc:=RosterState.v) [3] (.inr rfl) H rfl hR hO hX ?_;conv=>whnf
     refine ⟨Nat.zero_le _,?_⟩;conv=>whnf
     refine ⟨⟨rfl,rfl,rfl⟩,?_⟩;conv=>whnf
     exact ⟨_,_,_,rfl,rfl,.cons (.id rfl) (.cons (.id rfl) (.cons (.id rfl) (.cons (fzown (f:=RosterGone.v) (l:=v79) rfl rfl (fun _=>rfl) (fun _=>rfl)) (.nil)))),rfl⟩
    conv=>whnf
    refine ⟨Nat.zero_le _,?_⟩;conv=>whnf
    refine dfO_c (f:=RosterGone.v) delF176_v H (⟨⟨_,Tryz.func177,by kernel_rfl,by kernel_rfl⟩,rfl,fun x0=>p_roster_State_change_1_v _ _⟩) (.clo (.cons (.ptr rfl (Nat.le_of_ble_eq_true rfl) (.cons (.id rfl) (.cons (.id rfl) (.cons (.id rfl) (.cons (.id rfl) (.cons (.id rfl) (.nil))))))) (.nil))) (fun _=>rfl) (fun _=>rfl) rfl rfl (fun v71 H=>?_);conv=>whnf
    refine lq_ ?_;conv=>whnf
    iterate 4 (refine Tst.F ?_;conv=>whnf)
    refine tst_d H (fun b72 H=>?_) (fun b72 H=>?_)
    ·conv=>whnf
     refine lq_ ?_;conv=>whnf
     refine finW_c (enc:=RosterState.v) [3] (.inr rfl) H rfl hR hO hX ?_;conv=>whnf
     refine ⟨Nat.zero_le _,?_⟩;conv=>whnf
     refine ⟨⟨rfl,rfl,rfl⟩,?_⟩;conv=>whnf
     exact ⟨_,_,_,rfl,rfl,.cons (.id rfl) (.cons (.id rfl) (.cons (.id rfl) (.cons (fzown (f:=RosterGone.v) (l:=v71) rfl rfl (fun _=>rfl) (fun _=>rfl)) (.nil)))),rfl⟩
    conv=>whnf
    refine ⟨rfl,ixo_c H (fun x73 h74 H=>?_)⟩;conv=>whnf
    refine ldo_c (f:=RosterGone.v) (es:=2) h74 (fun _=>rfl) 1 (by omega) (by decide) ?_;conv=>whnf
    refine lq_ ?_;conv=>whnf
    refine delO_c (f:=RosterGone.v) delR178_v H (fun _=>rfl) (fun _=>rfl) rfl rfl (fun v75 H=>?_);conv=>whnf
    refine lq_ ?_;conv=>whnf
    refine lq_ ?_;conv=>whnf
    refine finW_c (enc:=RosterState.v) [3] (.inr rfl) H rfl hR hO hX ?_;conv=>whnf
    refine ⟨Nat.zero_le _,?_⟩;conv=>whnf
    refine ⟨⟨rfl,rfl,rfl⟩,?_⟩;conv=>whnf
    exact ⟨_,_,_,rfl,rfl,.cons (.id rfl) (.cons (.id rfl) (.cons (.id rfl) (.cons (fzown (f:=RosterGone.v) (l:=v75) rfl rfl (fun _=>rfl) (fun _=>rfl)) (.nil)))),rfl⟩
   conv=>whnf
   iterate 2 (refine Tst.F ?_;conv=>whnf)
   refine tst_d H (fun b59 H=>?_) (fun b59 H=>?_)
   ·conv=>whnf
    iterate 4 (refine Tst.F ?_;conv=>whnf)
    refine tst_d H (fun b65 H=>?_) (fun b65 H=>?_)
    ·conv=>whnf
     refine lq_ ?_;conv=>whnf
     refine finW_c (enc:=RosterState.v) [2,3] (.inr rfl) H rfl hR hO hX ?_;conv=>whnf
     refine ⟨Nat.zero_le _,?_⟩;conv=>whnf
     refine ⟨Nat.zero_le _,?_⟩;conv=>whnf
     refine ⟨⟨rfl,rfl,rfl⟩,?_⟩;conv=>whnf
     exact ⟨_,_,_,rfl,rfl,.cons (.id rfl) (.cons (.id rfl) (.cons (fzown (f:=ItemItem.v) (l:=s_2) rfl rfl (fun _=>rfl) (fun _=>rfl)) (.cons (fzown (f:=RosterGone.v) (l:=s_3) rfl rfl (fun _=>rfl) (fun _=>rfl)) (.nil)))),rfl⟩
    conv=>whnf
    refine ⟨rfl,ixo_c H (fun x66 h67 H=>?_)⟩;conv=>whnf
    refine ldo_c (f:=RosterGone.v) (es:=2) h67 (fun _=>rfl) 1 (by omega) (by decide) ?_;conv=>whnf
    refine lq_ ?_;conv=>whnf
    refine delO_c (f:=RosterGone.v) delR178_v H (fun _=>rfl) (fun _=>rfl) rfl rfl (fun v68 H=>?_);conv=>whnf
    refine lq_ ?_;conv=>whnf
    refine lq_ ?_;conv=>whnf
    refine finW_c (enc:=RosterState.v) [2,3] (.inr rfl) H rfl hR hO hX ?_;conv=>whnf
    refine ⟨Nat.zero_le _,?_⟩;conv=>whnf
    refine ⟨Nat.zero_le _,?_⟩;conv=>whnf
    refine ⟨⟨rfl,rfl,rfl⟩,?_⟩;conv=>whnf
    exact ⟨_,_,_,rfl,rfl,.cons (.id rfl) (.cons (.id rfl) (.cons (fzown (f:=ItemItem.v) (l:=s_2) rfl rfl (fun _=>rfl) (fun _=>rfl)) (.cons (fzown (f:=RosterGone.v) (l:=v68) rfl rfl (fun _=>rfl) (fun _=>rfl)) (.nil)))),rfl⟩
   conv=>whnf
   refine ⟨Nat.zero_le _,?_⟩;conv=>whnf
   refine dfO_c (f:=RosterGone.v) delF176_v H (⟨⟨_,Tryz.func177,by kernel_rfl,by kernel_rfl⟩,rfl,fun x0=>p_roster_State_change_1_v _ _⟩) (.clo (.cons (.ptr rfl (Nat.le_of_ble_eq_true rfl) (.cons (.id rfl) (.cons (.id rfl) (.cons (.id rfl) (.cons (.id rfl) (.cons (.id rfl) (.nil))))))) (.nil))) (fun _=>rfl) (fun _=>rfl) rfl rfl (fun v60 H=>?_);conv=>whnf
   refine lq_ ?_;conv=>whnf
   iterate 4 (refine Tst.F ?_;conv=>whnf)
   refine tst_d H (fun b61 H=>?_) (fun b61 H=>?_)
   ·conv=>whnf
    refine lq_ ?_;conv=>whnf
    refine finW_c (enc:=RosterState.v) [2,3] (.inr rfl) H rfl hR hO hX ?_;conv=>whnf
    refine ⟨Nat.zero_le _,?_⟩;conv=>whnf
    refine ⟨Nat.zero_le _,?_⟩;conv=>whnf
    refine ⟨⟨rfl,rfl,rfl⟩,?_⟩;conv=>whnf
    exact ⟨_,_,_,rfl,rfl,.cons (.id rfl) (.cons (.id rfl) (.cons (fzown (f:=ItemItem.v) (l:=s_2) rfl rfl (fun _=>rfl) (fun _=>rfl)) (.cons (fzown (f:=RosterGone.v) (l:=v60) rfl rfl (fun _=>rfl) (fun _=>rfl)) (.nil)))),rfl⟩
   conv=>whnf
   refine ⟨rfl,ixo_c H (fun x62 h63 H=>?_)⟩;conv=>whnf
   refine ldo_c (f:=RosterGone.v) (es:=2) h63 (fun _=>rfl) 1 (by omega) (by decide) ?_;conv=>whnf
   refine lq_ ?_;conv=>whnf
   refine delO_c (f:=RosterGone.v) delR178_v H (fun _=>rfl) (fun _=>rfl) rfl rfl (fun v64 H=>?_);conv=>whnf
   refine lq_ ?_;conv=>whnf
   refine lq_ ?_;conv=>whnf
   refine finW_c (enc:=RosterState.v) [2,3] (.inr rfl) H rfl hR hO hX ?_;conv=>whnf
   refine ⟨Nat.zero_le _,?_⟩;conv=>whnf
   refine ⟨Nat.zero_le _,?_⟩;conv=>whnf
   refine ⟨⟨rfl,rfl,rfl⟩,?_⟩;conv=>whnf
   exact ⟨_,_,_,rfl,rfl,.cons (.id rfl) (.cons (.id rfl) (.cons (fzown (f:=ItemItem.v) (l:=s_2) rfl rfl (fun _=>rfl) (fun _=>rfl)) (.cons (fzown (f:=RosterGone.v) (l:=v64) rfl rfl (fun _=>rfl) (fun _=>rfl)) (.nil)))),rfl⟩
  conv=>whnf
  iterate 3 (refine Tst.T ?_;conv=>whnf)
  refine ⟨rfl,ixo_c H (fun x3 h4 H=>?_)⟩;conv=>whnf
  refine Tst.T ?_;conv=>whnf
  refine ldo_c (f:=ItemItem.v) (es:=5) h4 (fun _=>rfl) 0 (by omega) (by decide) ?_;conv=>whnf
  refine Tst.T ?_;conv=>whnf
  refine ask_c (p_item_Listed_v _) H rfl rfl (fun v5 H=>?_);conv=>whnf
  refine Tst.T ?_;conv=>whnf
  refine ask_c (p_item_Listed_v _) H rfl rfl (fun v6 H=>?_);conv=>whnf
  refine Ari.w ?_;conv=>whnf
  refine lq_ ?_;conv=>whnf
  refine lq_ ?_;conv=>whnf
  refine Tst.isT b2 ?_;conv=>whnf
  refine Tst.T ?_;conv=>whnf
  refine ask_c (p_item_Idle_v _) H rfl rfl (fun v7 H=>?_);conv=>whnf
  refine Tst.T ?_;conv=>whnf
  refine tst_c H (fun b8 H=>?_) (fun b8 H=>?_)
  ·conv=>whnf
   refine Ari.w ?_;conv=>whnf
   refine delO_c (f:=ItemItem.v) delR174_v H (fun _=>rfl) (fun _=>rfl) rfl rfl (fun v9 H=>?_);conv=>whnf
   refine lq_ ?_;conv=>whnf
   refine tst_d H (fun b10 H=>?_) (fun b10 H=>?_)
   ·conv=>whnf
    refine Tst.F ?_;conv=>whnf
    refine tst_d H (fun b22 H=>?_) (fun b22 H=>?_)
    ·conv=>whnf
     refine Tst.isF b10 ?_;conv=>whnf
     iterate 3 (refine Tst.F ?_;conv=>whnf)
     refine tst_d H (fun b28 H=>?_) (fun b28 H=>?_)
     ·conv=>whnf
      refine lq_ ?_;conv=>whnf
      refine finW_c (enc:=RosterState.v) [2,3] (.inr rfl) H rfl hR hO hX ?_;conv=>whnf
      refine ⟨Nat.zero_le _,?_⟩;conv=>whnf
      refine ⟨Nat.zero_le _,?_⟩;conv=>whnf
      refine ⟨⟨rfl,rfl,rfl⟩,?_⟩;conv=>whnf
      exact ⟨_,_,_,rfl,rfl,.cons (.id rfl) (.cons (.id rfl) (.cons (fzown (f:=ItemItem.v) (l:=v9) rfl rfl (fun _=>rfl) (fun _=>rfl)) (.cons (fzown (f:=RosterGone.v) (l:=s_3) rfl rfl (fun _=>rfl) (fun _=>rfl)) (.nil)))),rfl⟩
     conv=>whnf
     refine ⟨rfl,ixo_c H (fun x29 h30 H=>?_)⟩;conv=>whnf
     refine ldo_c (f:=RosterGone.v) (es:=2) h30 (fun _=>rfl) 1 (by omega) (by decide) ?_;conv=>whnf
     refine lq_ ?_;conv=>whnf
     refine delO_c (f:=RosterGone.v) delR178_v H (fun _=>rfl) (fun _=>rfl) rfl rfl (fun v31 H=>?_);conv=>whnf
     refine lq_ ?_;conv=>whnf
     refine lq_ ?_;conv=>whnf
     refine finW_c (enc:=RosterState.v) [2,3] (.inr rfl) H rfl hR hO hX ?_;conv=>whnf
     refine ⟨Nat.zero_le _,?_⟩;conv=>whnf
     refine ⟨Nat.zero_le _,?_⟩;conv=>whnf
     refine ⟨⟨rfl,rfl,rfl⟩,?_⟩;conv=>whnf
     exact ⟨_,_,_,rfl,rfl,.cons (.id rfl) (.cons (.id rfl) (.cons (fzown (f:=ItemItem.v) (l:=v9) rfl rfl (fun _=>rfl) (fun _=>rfl)) (.cons (fzown (f:=RosterGone.v) (l:=v31) rfl rfl (fun _=>rfl) (fun _=>rfl)) (.nil)))),rfl⟩
    conv=>whnf
    refine ⟨Nat.zero_le _,?_⟩;conv=>whnf
    refine dfO_c (f:=RosterGone.v) delF176_v H (⟨⟨_,Tryz.func177,by kernel_rfl,by kernel_rfl⟩,rfl,fun x0=>p_roster_State_change_1_v _ _⟩) (.clo (.cons (.ptr rfl (Nat.le_of_ble_eq_true rfl) (.cons (.id rfl) (.cons (.id rfl) (.cons (.id rfl) (.cons (.id rfl) (.cons (.id rfl) (.nil))))))) (.nil))) (fun _=>rfl) (fun _=>rfl) rfl rfl (fun v23 H=>?_);conv=>whnf
    refine lq_ ?_;conv=>whnf
    refine Tst.isF b10 ?_;conv=>whnf
    iterate 3 (refine Tst.F ?_;conv=>whnf)
    refine tst_d H (fun b24 H=>?_) (fun b24 H=>?_)
    ·conv=>whnf
     refine lq_ ?_;conv=>whnf
     refine finW_c (enc:=RosterState.v) [2,3] (.inr rfl) H rfl hR hO hX ?_;conv=>whnf
     refine ⟨Nat.zero_le _,?_⟩;conv=>whnf
     refine ⟨Nat.zero_le _,?_⟩;conv=>whnf
     refine ⟨⟨rfl,rfl,rfl⟩,?_⟩;conv=>whnf
     exact ⟨_,_,_,rfl,rfl,.cons (.id rfl) (.cons (.id rfl) (.cons (fzown (f:=ItemItem.v) (l:=v9) rfl rfl (fun _=>rfl) (fun _=>rfl)) (.cons (fzown (f:=RosterGone.v) (l:=v23) rfl rfl (fun _=>rfl) (fun _=>rfl)) (.nil)))),rfl⟩
    conv=>whnf
    refine ⟨rfl,ixo_c H (fun x25 h26 H=>?_)⟩;conv=>whnf
    refine ldo_c (f:=RosterGone.v) (es:=2) h26 (fun _=>rfl) 1 (by omega) (by decide) ?_;conv=>whnf
    refine lq_ ?_;conv=>whnf
    refine delO_c (f:=RosterGone.v) delR178_v H (fun _=>rfl) (fun _=>rfl) rfl rfl (fun v27 H=>?_);conv=>whnf
    refine lq_ ?_;conv=>whnf
    refine lq_ ?_;conv=>whnf
    refine finW_c (enc:=RosterState.v) [2,3] (.inr rfl) H rfl hR hO hX ?_;conv=>whnf
    refine ⟨Nat.zero_le _,?_⟩;conv=>whnf
    refine ⟨Nat.zero_le _,?_⟩;conv=>whnf
    refine ⟨⟨rfl,rfl,rfl⟩,?_⟩;conv=>whnf
    exact ⟨_,_,_,rfl,rfl,.cons (.id rfl) (.cons (.id rfl) (.cons (fzown (f:=ItemItem.v) (l:=v9) rfl rfl (fun _=>rfl) (fun _=>rfl)) (.cons (fzown (f:=RosterGone.v) (l:=v27) rfl rfl (fun _=>rfl) (fun _=>rfl)) (.nil)))),rfl⟩
   conv=>whnf
   iterate 2 (refine Tst.T ?_;conv=>whnf)
   refine ⟨Nat.zero_le _,?_⟩;conv=>whnf
   refine dfO_c (f:=RosterGone.v) delF176_v H (⟨⟨_,Tryz.func177,by kernel_rfl,by kernel_rfl⟩,rfl,fun x0=>p_roster_State_change_1_v _ _⟩) (.clo (.cons (.ptr rfl (Nat.le_of_ble_eq_true rfl) (.cons (.id rfl) (.cons (.id rfl) (.cons (.id rfl) (.cons (.id rfl) (.cons (.id rfl) (.nil))))))) (.nil))) (fun _=>rfl) (fun _=>rfl) rfl rfl (fun v11 H=>?_);conv=>whnf
   refine lq_ ?_;conv=>whnf
   refine Tst.isT b10 ?_;conv=>whnf
   iterate 2 (refine Tst.T ?_;conv=>whnf)
   refine Tst.not ?_
   refine tst_c H (fun b12 H=>?_) (fun b12 H=>?_)
   ·conv=>whnf
    refine tst_d H (fun b13 H=>?_) (fun b13 H=>?_)
    ·conv=>whnf
     refine lq_ ?_;conv=>whnf
     refine finW_c (enc:=RosterState.v) [2,3] (.inr rfl) H rfl hR hO hX ?_;conv=>whnf
     refine ⟨Nat.zero_le _,?_⟩;conv=>whnf
     refine ⟨Nat.zero_le _,?_⟩;conv=>whnf
     refine ⟨⟨rfl,rfl,rfl⟩,?_⟩;conv=>whnf
     exact ⟨_,_,_,rfl,rfl,.cons (.id rfl) (.cons (.id rfl) (.cons (fzown (f:=ItemItem.v) (l:=v9) rfl rfl (fun _=>rfl) (fun _=>rfl)) (.cons (fzown (f:=RosterGone.v) (l:=v11) rfl rfl (fun _=>rfl) (fun _=>rfl)) (.nil)))),rfl⟩
    conv=>whnf
    refine ⟨rfl,ixo_c H (fun x14 h15 H=>?_)⟩;conv=>whnf
    refine ldo_c (f:=RosterGone.v) (es:=2) h15 (fun _=>rfl) 1 (by omega) (by decide) ?_;conv=>whnf
    refine lq_ ?_;conv=>whnf
    refine delO_c (f:=RosterGone.v) delR178_v H (fun _=>rfl) (fun _=>rfl) rfl rfl (fun v16 H=>?_);conv=>whnf
    refine lq_ ?_;conv=>whnf
    refine lq_ ?_;conv=>whnf
    refine finW_c (enc:=RosterState.v) [2,3] (.inr rfl) H rfl hR hO hX ?_;conv=>whnf
    refine ⟨Nat.zero_le _,?_⟩;conv=>whnf
    refine ⟨Nat.zero_le _,?_⟩;conv=>whnf
    refine ⟨⟨rfl,rfl,rfl⟩,?_⟩;conv=>whnf
    exact ⟨_,_,_,rfl,rfl,.cons (.id rfl) (.cons (.id rfl) (.cons (fzown (f:=ItemItem.v) (l:=v9) rfl rfl (fun _=>rfl) (fun _=>rfl)) (.cons (fzown (f:=RosterGone.v) (l:=v16) rfl rfl (fun _=>rfl) (fun _=>rfl)) (.nil)))),rfl⟩
   conv=>whnf
   refine appOs_c (f:=RosterGone.v) H (fun _=>rfl) rfl (rfl) (.v (srcOwn (f:=RosterGone.v) (l:=[(RosterGone.mk a1.Contact (w64 (s_0 + (1:Int))))]) (fun _=>rfl) rfl rfl rfl)) (by decide) rfl (by simp) (fun l17 H=>?_);conv=>whnf
   refine lq_ ?_;conv=>whnf
   refine tst_d H (fun b18 H=>?_) (fun b18 H=>?_)
   ·conv=>whnf
    refine lq_ ?_;conv=>whnf
    refine finW_c (enc:=RosterState.v) [2,9] (.inr rfl) H rfl hR hO hX ?_;conv=>whnf
    refine ⟨Nat.zero_le _,?_⟩;conv=>whnf
    refine ⟨Nat.zero_le _,?_⟩;conv=>whnf
    refine ⟨⟨rfl,rfl,rfl⟩,?_⟩;conv=>whnf
    exact ⟨_,_,_,rfl,rfl,.cons (.id rfl) (.cons (.id rfl) (.cons (fzown (f:=ItemItem.v) (l:=v9) rfl rfl (fun _=>rfl) (fun _=>rfl)) (.cons (fzown (f:=RosterGone.v) (l:=l17) rfl rfl (fun _=>rfl) (fun _=>rfl)) (.nil)))),rfl⟩
   conv=>whnf
   refine ⟨rfl,ixo_c H (fun x19 h20 H=>?_)⟩;conv=>whnf
   refine ldo_c (f:=RosterGone.v) (es:=2) h20 (fun _=>rfl) 1 (by omega) (by decide) ?_;conv=>whnf
   refine lq_ ?_;conv=>whnf
   refine delO_c (f:=RosterGone.v) delR178_v H (fun _=>rfl) (fun _=>rfl) rfl rfl (fun v21 H=>?_);conv=>whnf
   refine lq_ ?_;conv=>whnf
   refine lq_ ?_;conv=>whnf
   refine finW_c (enc:=RosterState.v) [2,9] (.inr rfl) H rfl hR hO hX ?_;conv=>whnf
   refine ⟨Nat.zero_le _,?_⟩;conv=>whnf
   refine ⟨Nat.zero_le _,?_⟩;conv=>whnf
   refine ⟨⟨rfl,rfl,rfl⟩,?_⟩;conv=>whnf
   exact ⟨_,_,_,rfl,rfl,.cons (.id rfl) (.cons (.id rfl) (.cons (fzown (f:=ItemItem.v) (l:=v9) rfl rfl (fun _=>rfl) (fun _=>rfl)) (.cons (fzown (f:=RosterGone.v) (l:=v21) rfl rfl (fun _=>rfl) (fun _=>rfl)) (.nil)))),rfl⟩
  conv=>whnf
  refine Tst.isT b2 ?_;conv=>whnf
  refine ⟨rfl,ixo_c H (fun x32 h33 H=>?_)⟩;conv=>whnf
  refine ⟨Nat.zero_le _,sto_c (f:=ItemItem.v) (es:=5) h33 (x':=(ItemItem.mk a1.Contact a1.Name a1.Sub (w64 (s_0 + (1:Int))) a1.Own)) (fun _=>rfl) 0 (by omega) (Nat.le_of_ble_eq_true rfl) (by rfl) ?_⟩;conv=>whnf
  refine tst_d H (fun b34 H=>?_) (fun b34 H=>?_)
  ·conv=>whnf
   refine Tst.F ?_;conv=>whnf
   refine tst_d H (fun b46 H=>?_) (fun b46 H=>?_)
   ·conv=>whnf
    refine Tst.isF b34 ?_;conv=>whnf
    iterate 3 (refine Tst.F ?_;conv=>whnf)
    refine tst_d H (fun b52 H=>?_) (fun b52 H=>?_)
    ·conv=>whnf
     refine lq_ ?_;conv=>whnf
     refine finW_c (enc:=RosterState.v) [2,3] (.inr rfl) H rfl hR hO hX ?_;conv=>whnf
     refine ⟨Nat.zero_le _,?_⟩;conv=>whnf
     refine ⟨Nat.zero_le _,?_⟩;conv=>whnf
     refine ⟨⟨rfl,rfl,rfl⟩,?_⟩;conv=>whnf
     exact ⟨_,_,_,rfl,rfl,.cons (.id rfl) (.cons (.id rfl) (.cons (fzc_made (f:=ItemItem.v) (l:=(List.set s_2 (Int.toNat v1.1) (ItemItem.mk a1.Contact a1.Name a1.Sub (w64 (s_0 + (1:Int))) a1.Own))) rfl rfl rfl (by simp) (fun _=>rfl) (fun _=>rfl)) (.cons (fzown (f:=RosterGone.v) (l:=s_3) rfl rfl (fun _=>rfl) (fun _=>rfl)) (.nil)))),rfl⟩
    conv=>whnf
    refine ⟨rfl,ixo_c H (fun x53 h54 H=>?_)⟩;conv=>whnf
    refine ldo_c (f:=RosterGone.v) (es:=2) h54 (fun _=>rfl) 1 (by omega) (by decide) ?_;conv=>whnf
    refine lq_ ?_;conv=>whnf
    refine delO_c (f:=RosterGone.v) delR178_v H (fun _=>rfl) (fun _=>rfl) rfl rfl (fun v55 H=>?_);conv=>whnf
    refine lq_ ?_;conv=>whnf
    refine lq_ ?_;conv=>whnf
    refine finW_c (enc:=RosterState.v) [2,3] (.inr rfl) H rfl hR hO hX ?_;conv=>whnf
    refine ⟨Nat.zero_le _,?_⟩;conv=>whnf
    refine ⟨Nat.zero_le _,?_⟩;conv=>whnf
    refine ⟨⟨rfl,rfl,rfl⟩,?_⟩;conv=>whnf
    exact ⟨_,_,_,rfl,rfl,.cons (.id rfl) (.cons (.id rfl) (.cons (fzc_made (f:=ItemItem.v) (l:=(List.set s_2 (Int.toNat v1.1) (ItemItem.mk a1.Contact a1.Name a1.Sub (w64 (s_0 + (1:Int))) a1.Own))) rfl rfl rfl (by simp) (fun _=>rfl) (fun _=>rfl)) (.cons (fzown (f:=RosterGone.v) (l:=v55) rfl rfl (fun _=>rfl) (fun _=>rfl)) (.nil)))),rfl⟩
   conv=>whnf
   refine ⟨Nat.zero_le _,?_⟩;conv=>whnf
   refine dfO_c (f:=RosterGone.v) delF176_v H (⟨⟨_,Tryz.func177,by kernel_rfl,by kernel_rfl⟩,rfl,fun x0=>p_roster_State_change_1_v _ _⟩) (.clo (.cons (.ptr rfl (Nat.le_of_ble_eq_true rfl) (.cons (.id rfl) (.cons (.id rfl) (.cons (.id rfl) (.cons (.id rfl) (.cons (.id rfl) (.nil))))))) (.nil))) (fun _=>rfl) (fun _=>rfl) rfl rfl (fun v47 H=>?_);conv=>whnf
   refine lq_ ?_;conv=>whnf
   refine Tst.isF b34 ?_;conv=>whnf
   iterate 3 (refine Tst.F ?_;conv=>whnf)
   refine tst_d H (fun b48 H=>?_) (fun b48 H=>?_)
   ·conv=>whnf
    refine lq_ ?_;conv=>whnf
    refine finW_c (enc:=RosterState.v) [2,3] (.inr rfl) H rfl hR hO hX ?_;conv=>whnf
    refine ⟨Nat.zero_le _,?_⟩;conv=>whnf
    refine ⟨Nat.zero_le _,?_⟩;conv=>whnf
    refine ⟨⟨rfl,rfl,rfl⟩,?_⟩;conv=>whnf
    exact ⟨_,_,_,rfl,rfl,.cons (.id rfl) (.cons (.id rfl) (.cons (fzc_made (f:=ItemItem.v) (l:=(List.set s_2 (Int.toNat v1.1) (ItemItem.mk a1.Contact a1.Name a1.Sub (w64 (s_0 + (1:Int))) a1.Own))) rfl rfl rfl (by simp) (fun _=>rfl) (fun _=>rfl)) (.cons (fzown (f:=RosterGone.v) (l:=v47) rfl rfl (fun _=>rfl) (fun _=>rfl)) (.nil)))),rfl⟩
   conv=>whnf
   refine ⟨rfl,ixo_c H (fun x49 h50 H=>?_)⟩;conv=>whnf
   refine ldo_c (f:=RosterGone.v) (es:=2) h50 (fun _=>rfl) 1 (by omega) (by decide) ?_;conv=>whnf
   refine lq_ ?_;conv=>whnf
   refine delO_c (f:=RosterGone.v) delR178_v H (fun _=>rfl) (fun _=>rfl) rfl rfl (fun v51 H=>?_);conv=>whnf
   refine lq_ ?_;conv=>whnf
   refine lq_ ?_;conv=>whnf
   refine finW_c (enc:=RosterState.v) [2,3] (.inr rfl) H rfl hR hO hX ?_;conv=>whnf
   refine ⟨Nat.zero_le _,?_⟩;conv=>whnf
   refine ⟨Nat.zero_le _,?_⟩;conv=>whnf
   refine ⟨⟨rfl,rfl,rfl⟩,?_⟩;conv=>whnf
   exact ⟨_,_,_,rfl,rfl,.cons (.id rfl) (.cons (.id rfl) (.cons (fzc_made (f:=ItemItem.v) (l:=(List.set s_2 (Int.toNat v1.1) (ItemItem.mk a1.Contact a1.Name a1.Sub (w64 (s_0 + (1:Int))) a1.Own))) rfl rfl rfl (by simp) (fun _=>rfl) (fun _=>rfl)) (.cons (fzown (f:=RosterGone.v) (l:=v51) rfl rfl (fun _=>rfl) (fun _=>rfl)) (.nil)))),rfl⟩
  conv=>whnf
  iterate 2 (refine Tst.T ?_;conv=>whnf)
  refine ⟨Nat.zero_le _,?_⟩;conv=>whnf
  refine dfO_c (f:=RosterGone.v) delF176_v H (⟨⟨_,Tryz.func177,by kernel_rfl,by kernel_rfl⟩,rfl,fun x0=>p_roster_State_change_1_v _ _⟩) (.clo (.cons (.ptr rfl (Nat.le_of_ble_eq_true rfl) (.cons (.id rfl) (.cons (.id rfl) (.cons (.id rfl) (.cons (.id rfl) (.cons (.id rfl) (.nil))))))) (.nil))) (fun _=>rfl) (fun _=>rfl) rfl rfl (fun v35 H=>?_);conv=>whnf
  refine lq_ ?_;conv=>whnf
  refine Tst.isT b34 ?_;conv=>whnf
  iterate 2 (refine Tst.T ?_;conv=>whnf)
  refine Tst.not ?_
  refine tst_c H (fun b36 H=>?_) (fun b36 H=>?_)
  ·conv=>whnf
   refine tst_d H (fun b37 H=>?_) (fun b37 H=>?_)
   ·conv=>whnf
    refine lq_ ?_;conv=>whnf
    refine finW_c (enc:=RosterState.v) [2,3] (.inr rfl) H rfl hR hO hX ?_;conv=>whnf
    refine ⟨Nat.zero_le _,?_⟩;conv=>whnf
    refine ⟨Nat.zero_le _,?_⟩;conv=>whnf
    refine ⟨⟨rfl,rfl,rfl⟩,?_⟩;conv=>whnf
    exact ⟨_,_,_,rfl,rfl,.cons (.id rfl) (.cons (.id rfl) (.cons (fzc_made (f:=ItemItem.v) (l:=(List.set s_2 (Int.toNat v1.1) (ItemItem.mk a1.Contact a1.Name a1.Sub (w64 (s_0 + (1:Int))) a1.Own))) rfl rfl rfl (by simp) (fun _=>rfl) (fun _=>rfl)) (.cons (fzown (f:=RosterGone.v) (l:=v35) rfl rfl (fun _=>rfl) (fun _=>rfl)) (.nil)))),rfl⟩
   conv=>whnf
   refine ⟨rfl,ixo_c H (fun x38 h39 H=>?_)⟩;conv=>whnf
   refine ldo_c (f:=RosterGone.v) (es:=2) h39 (fun _=>rfl) 1 (by omega) (by decide) ?_;conv=>whnf
   refine lq_ ?_;conv=>whnf
   refine delO_c (f:=RosterGone.v) delR178_v H (fun _=>rfl) (fun _=>rfl) rfl rfl (fun v40 H=>?_);conv=>whnf
   refine lq_ ?_;conv=>whnf
   refine lq_ ?_;conv=>whnf
   refine finW_c (enc:=RosterState.v) [2,3] (.inr rfl) H rfl hR hO hX ?_;conv=>whnf
   refine ⟨Nat.zero_le _,?_⟩;conv=>whnf
   refine ⟨Nat.zero_le _,?_⟩;conv=>whnf
   refine ⟨⟨rfl,rfl,rfl⟩,?_⟩;conv=>whnf
   exact ⟨_,_,_,rfl,rfl,.cons (.id rfl) (.cons (.id rfl) (.cons (fzc_made (f:=ItemItem.v) (l:=(List.set s_2 (Int.toNat v1.1) (ItemItem.mk a1.Contact a1.Name a1.Sub (w64 (s_0 + (1:Int))) a1.Own))) rfl rfl rfl (by simp) (fun _=>rfl) (fun _=>rfl)) (.cons (fzown (f:=RosterGone.v) (l:=v40) rfl rfl (fun _=>rfl) (fun _=>rfl)) (.nil)))),rfl⟩
  conv=>whnf
  refine appOs_c (f:=RosterGone.v) H (fun _=>rfl) rfl (rfl) (.v (srcOwn (f:=RosterGone.v) (l:=[(RosterGone.mk a1.Contact (w64 (s_0 + (1:Int))))]) (fun _=>rfl) rfl rfl rfl)) (by decide) rfl (by simp) (fun l41 H=>?_);conv=>whnf
  refine lq_ ?_;conv=>whnf
  refine tst_d H (fun b42 H=>?_) (fun b42 H=>?_)
  ·conv=>whnf
   refine lq_ ?_;conv=>whnf
   refine finW_c (enc:=RosterState.v) [2,9] (.inr rfl) H rfl hR hO hX ?_;conv=>whnf
   refine ⟨Nat.zero_le _,?_⟩;conv=>whnf
   refine ⟨Nat.zero_le _,?_⟩;conv=>whnf
   refine ⟨⟨rfl,rfl,rfl⟩,?_⟩;conv=>whnf
   exact ⟨_,_,_,rfl,rfl,.cons (.id rfl) (.cons (.id rfl) (.cons (fzc_made (f:=ItemItem.v) (l:=(List.set s_2 (Int.toNat v1.1) (ItemItem.mk a1.Contact a1.Name a1.Sub (w64 (s_0 + (1:Int))) a1.Own))) rfl rfl rfl (by simp) (fun _=>rfl) (fun _=>rfl)) (.cons (fzown (f:=RosterGone.v) (l:=l41) rfl rfl (fun _=>rfl) (fun _=>rfl)) (.nil)))),rfl⟩
  conv=>whnf
  refine ⟨rfl,ixo_c H (fun x43 h44 H=>?_)⟩;conv=>whnf
  refine ldo_c (f:=RosterGone.v) (es:=2) h44 (fun _=>rfl) 1 (by omega) (by decide) ?_;conv=>whnf
  refine lq_ ?_;conv=>whnf
  refine delO_c (f:=RosterGone.v) delR178_v H (fun _=>rfl) (fun _=>rfl) rfl rfl (fun v45 H=>?_);conv=>whnf
  refine lq_ ?_;conv=>whnf
  refine lq_ ?_;conv=>whnf
  refine finW_c (enc:=RosterState.v) [2,9] (.inr rfl) H rfl hR hO hX ?_;conv=>whnf
  refine ⟨Nat.zero_le _,?_⟩;conv=>whnf
  refine ⟨Nat.zero_le _,?_⟩;conv=>whnf
  refine ⟨⟨rfl,rfl,rfl⟩,?_⟩;conv=>whnf
  exact ⟨_,_,_,rfl,rfl,.cons (.id rfl) (.cons (.id rfl) (.cons (fzc_made (f:=ItemItem.v) (l:=(List.set s_2 (Int.toNat v1.1) (ItemItem.mk a1.Contact a1.Name a1.Sub (w64 (s_0 + (1:Int))) a1.Own))) rfl rfl rfl (by simp) (fun _=>rfl) (fun _=>rfl)) (.cons (fzown (f:=RosterGone.v) (l:=v45) rfl rfl (fun _=>rfl) (fun _=>rfl)) (.nil)))),rfl⟩
theorem p_roster_State_change_on (s_0:Int) (s_1:Int) (s_2:List ItemItem) (a1:ItemItem) {R O:List V} {xs:Slot} (hR:V.idlt.belowL 5 R=true) (hO:V.idlt.belowL 5 O=true) (hX:xs.ok5=true) (s:RosterState) (H:p_roster_State_change (RosterState.mk s_0 s_1 s_2 []) a1=some s):CallsS Tryz.prog 126 [.agg [.i s_0,.i s_1,.osl 2 0 (List.length s_2) 5 false,.sl (List.map RosterGone.v []) true],.agg [.s a1.Contact,.s a1.Name,.i a1.Sub,.i a1.Ver,.b a1.Own]] [.live R 0,.live O 0,.live (cellsM ItemItem.v s_2) 0,.dead,xs] (RosterState.v s) [.live R 0,.live O 0,.dead,.dead,xs]:=by
 rcases xs with _ | _ | ⟨X,_ | fX⟩ <;> first | (cases hX;done) | skip
 all_goals
  refine callsR_c (n0:=5) mix Tryz.func126 gc126_ok rfl ?_
  rw [p_roster_State_change] at H
  conv=>whnf
  refine askT_c [2] (p_roster_State_find_v _ _) H (.cons (fzagg (.cons (.id rfl) (.cons (.id rfl) (.cons (fzown (f:=ItemItem.v) (l:=s_2) rfl rfl (fun _=>rfl) (fun _=>rfl)) (.cons (.slw) (.nil))))) rfl) (.cons (.c (.id rfl)) (.nil))) (fun _=>rfl) (fun v1 H=>?_);conv=>whnf
  refine tst_d H (fun b2 H=>?_) (fun b2 H=>?_)
  ·conv=>whnf
   iterate 6 (refine Tst.F ?_;conv=>whnf)
   refine ask_c (p_item_Listed_v _) H rfl rfl (fun v34 H=>?_);conv=>whnf
   refine Ari.w ?_;conv=>whnf
   refine lq_ ?_;conv=>whnf
   refine lq_ ?_;conv=>whnf
   refine Tst.isF b2 ?_;conv=>whnf
   iterate 3 (refine Tst.F ?_;conv=>whnf)
   refine Tst.isF b2 ?_;conv=>whnf
   refine ask_c (p_item_Idle_v _) H rfl rfl (fun v35 H=>?_);conv=>whnf
   refine Tst.not ?_
   refine tst_d H (fun b36 H=>?_) (fun b36 H=>?_)
   ·conv=>whnf
    refine insO_c (f:=ItemItem.v) insR175_v H (by decide) (fun _=>rfl) (fun _=>rfl) (fun _=>rfl) rfl rfl rfl (fun v40 H=>?_);conv=>whnf
    refine lq_ ?_;conv=>whnf
    iterate 2 (refine Tst.F ?_;conv=>whnf)
    refine tst_d H (fun b41 H=>?_) (fun b41 H=>?_)
    ·conv=>whnf
     iterate 4 (refine Tst.F ?_;conv=>whnf)
     refine LenQ.ok ?_;conv=>whnf
     refine tst_c H (fun b43 H=>?_) (fun b43 H=>?_)
     ·conv=>whnf
      exact nil_at H
     conv=>whnf
     refine lq_ ?_;conv=>whnf
     refine finW_c (enc:=RosterState.v) [] (.inr rfl) H rfl hR hO hX ?_;conv=>whnf
     refine ⟨⟨rfl,rfl,rfl⟩,?_⟩;conv=>whnf
     exact ⟨_,_,_,rfl,rfl,.cons (.id rfl) (.cons (.id rfl) (.cons (.id rfl) (.cons (.slw) (.nil)))),rfl⟩
    conv=>whnf
    refine ⟨Nat.zero_le _,?_⟩;conv=>whnf
    refine dfN_c (f:=RosterGone.v) delF176_n H (⟨⟨_,Tryz.func177,by kernel_rfl,by kernel_rfl⟩,rfl,fun x0=>p_roster_State_change_1_v _ _⟩) (.clo (.cons (.ptr rfl (Nat.le_of_ble_eq_true rfl) (.cons (.id rfl) (.cons (.id rfl) (.cons (.id rfl) (.cons (.id rfl) (.cons (.id rfl) (.nil))))))) (.nil))) (fun H=>?_);conv=>whnf
    refine lq_ ?_;conv=>whnf
    iterate 4 (refine Tst.F ?_;conv=>whnf)
    refine LenQ.ok ?_;conv=>whnf
    refine tst_c H (fun b42 H=>?_) (fun b42 H=>?_)
    ·conv=>whnf
     exact nil_at H
    conv=>whnf
    refine lq_ ?_;conv=>whnf
    refine finW_c (enc:=RosterState.v) [] (.inr rfl) H rfl hR hO hX ?_;conv=>whnf
    refine ⟨⟨rfl,rfl,rfl⟩,?_⟩;conv=>whnf
    exact ⟨_,_,_,rfl,rfl,.cons (.id rfl) (.cons (.id rfl) (.cons (.id rfl) (.cons (.slw) (.nil)))),rfl⟩
   conv=>whnf
   iterate 2 (refine Tst.F ?_;conv=>whnf)
   refine tst_d H (fun b37 H=>?_) (fun b37 H=>?_)
   ·conv=>whnf
    iterate 4 (refine Tst.F ?_;conv=>whnf)
    refine LenQ.ok ?_;conv=>whnf
    refine tst_c H (fun b39 H=>?_) (fun b39 H=>?_)
    ·conv=>whnf
     exact nil_at H
    conv=>whnf
    refine lq_ ?_;conv=>whnf
    refine finW_c (enc:=RosterState.v) [2] (.inr rfl) H rfl hR hO hX ?_;conv=>whnf
    refine ⟨Nat.zero_le _,?_⟩;conv=>whnf
    refine ⟨⟨rfl,rfl,rfl⟩,?_⟩;conv=>whnf
    exact ⟨_,_,_,rfl,rfl,.cons (.id rfl) (.cons (.id rfl) (.cons (fzown (f:=ItemItem.v) (l:=s_2) rfl rfl (fun _=>rfl) (fun _=>rfl)) (.cons (.slw) (.nil)))),rfl⟩
   conv=>whnf
   refine ⟨Nat.zero_le _,?_⟩;conv=>whnf
   refine dfN_c (f:=RosterGone.v) delF176_n H (⟨⟨_,Tryz.func177,by kernel_rfl,by kernel_rfl⟩,rfl,fun x0=>p_roster_State_change_1_v _ _⟩) (.clo (.cons (.ptr rfl (Nat.le_of_ble_eq_true rfl) (.cons (.id rfl) (.cons (.id rfl) (.cons (.id rfl) (.cons (.id rfl) (.cons (.id rfl) (.nil))))))) (.nil))) (fun H=>?_);conv=>whnf
   refine lq_ ?_;conv=>whnf
   iterate 4 (refine Tst.F ?_;conv=>whnf)
   refine LenQ.ok ?_;conv=>whnf
   refine tst_c H (fun b38 H=>?_) (fun b38 H=>?_)
   ·conv=>whnf
    exact nil_at H
   conv=>whnf
   refine lq_ ?_;conv=>whnf
   refine finW_c (enc:=RosterState.v) [2] (.inr rfl) H rfl hR hO hX ?_;conv=>whnf
   refine ⟨Nat.zero_le _,?_⟩;conv=>whnf
   refine ⟨⟨rfl,rfl,rfl⟩,?_⟩;conv=>whnf
   exact ⟨_,_,_,rfl,rfl,.cons (.id rfl) (.cons (.id rfl) (.cons (fzown (f:=ItemItem.v) (l:=s_2) rfl rfl (fun _=>rfl) (fun _=>rfl)) (.cons (.slw) (.nil)))),rfl⟩
  conv=>whnf
  iterate 3 (refine Tst.T ?_;conv=>whnf)
  refine ⟨rfl,ixo_c H (fun x3 h4 H=>?_)⟩;conv=>whnf
  refine Tst.T ?_;conv=>whnf
  refine ldo_c (f:=ItemItem.v) (es:=5) h4 (fun _=>rfl) 0 (by omega) (by decide) ?_;conv=>whnf
  refine Tst.T ?_;conv=>whnf
  refine ask_c (p_item_Listed_v _) H rfl rfl (fun v5 H=>?_);conv=>whnf
  refine Tst.T ?_;conv=>whnf
  refine ask_c (p_item_Listed_v _) H rfl rfl (fun v6 H=>?_);conv=>whnf
  refine Ari.w ?_;conv=>whnf
  refine lq_ ?_;conv=>whnf
  refine lq_ ?_;conv=>whnf
  refine Tst.isT b2 ?_;conv=>whnf
  refine Tst.T ?_;conv=>whnf
  refine ask_c (p_item_Idle_v _) H rfl rfl (fun v7 H=>?_);conv=>whnf
  refine Tst.T ?_;conv=>whnf
  refine tst_c H (fun b8 H=>?_) (fun b8 H=>?_)
  ·conv=>whnf
   refine Ari.w ?_;conv=>whnf
   refine delO_c (f:=ItemItem.v) delR174_v H (fun _=>rfl) (fun _=>rfl) rfl rfl (fun v9 H=>?_);conv=>whnf
   refine lq_ ?_;conv=>whnf
   refine tst_d H (fun b10 H=>?_) (fun b10 H=>?_)
   ·conv=>whnf
    refine Tst.F ?_;conv=>whnf
    refine tst_d H (fun b18 H=>?_) (fun b18 H=>?_)
    ·conv=>whnf
     refine Tst.isF b10 ?_;conv=>whnf
     iterate 3 (refine Tst.F ?_;conv=>whnf)
     refine LenQ.ok ?_;conv=>whnf
     refine tst_c H (fun b20 H=>?_) (fun b20 H=>?_)
     ·conv=>whnf
      exact nil_at H
     conv=>whnf
     refine lq_ ?_;conv=>whnf
     refine finW_c (enc:=RosterState.v) [2] (.inr rfl) H rfl hR hO hX ?_;conv=>whnf
     refine ⟨Nat.zero_le _,?_⟩;conv=>whnf
     refine ⟨⟨rfl,rfl,rfl⟩,?_⟩;conv=>whnf
     exact ⟨_,_,_,rfl,rfl,.cons (.id rfl) (.cons (.id rfl) (.cons (fzown (f:=ItemItem.v) (l:=v9) rfl rfl (fun _=>rfl) (fun _=>rfl)) (.cons (.slw) (.nil)))),rfl⟩
    conv=>whnf
    refine ⟨Nat.zero_le _,?_⟩;conv=>whnf
    refine dfN_c (f:=RosterGone.v) delF176_n H (⟨⟨_,Tryz.func177,by kernel_rfl,by kernel_rfl⟩,rfl,fun x0=>p_roster_State_change_1_v _ _⟩) (.clo (.cons (.ptr rfl (Nat.le_of_ble_eq_true rfl) (.cons (.id rfl) (.cons (.id rfl) (.cons (.id rfl) (.cons (.id rfl) (.cons (.id rfl) (.nil))))))) (.nil))) (fun H=>?_);conv=>whnf
    refine lq_ ?_;conv=>whnf
    refine Tst.isF b10 ?_;conv=>whnf
    iterate 3 (refine Tst.F ?_;conv=>whnf)
    refine LenQ.ok ?_;conv=>whnf
    refine tst_c H (fun b19 H=>?_) (fun b19 H=>?_)
    ·conv=>whnf
     exact nil_at H
    conv=>whnf
    refine lq_ ?_;conv=>whnf
    refine finW_c (enc:=RosterState.v) [2] (.inr rfl) H rfl hR hO hX ?_;conv=>whnf
    refine ⟨Nat.zero_le _,?_⟩;conv=>whnf
    refine ⟨⟨rfl,rfl,rfl⟩,?_⟩;conv=>whnf
    exact ⟨_,_,_,rfl,rfl,.cons (.id rfl) (.cons (.id rfl) (.cons (fzown (f:=ItemItem.v) (l:=v9) rfl rfl (fun _=>rfl) (fun _=>rfl)) (.cons (.slw) (.nil)))),rfl⟩
   conv=>whnf
   iterate 2 (refine Tst.T ?_;conv=>whnf)
   refine ⟨Nat.zero_le _,?_⟩;conv=>whnf
   refine dfN_c (f:=RosterGone.v) delF176_n H (⟨⟨_,Tryz.func177,by kernel_rfl,by kernel_rfl⟩,rfl,fun x0=>p_roster_State_change_1_v _ _⟩) (.clo (.cons (.ptr rfl (Nat.le_of_ble_eq_true rfl) (.cons (.id rfl) (.cons (.id rfl) (.cons (.id rfl) (.cons (.id rfl) (.cons (.id rfl) (.nil))))))) (.nil))) (fun H=>?_);conv=>whnf
   refine lq_ ?_;conv=>whnf
   refine Tst.isT b10 ?_;conv=>whnf
   iterate 2 (refine Tst.T ?_;conv=>whnf)
   refine Tst.not ?_
   refine tst_c H (fun b11 H=>?_) (fun b11 H=>?_)
   ·conv=>whnf
    refine LenQ.ok ?_;conv=>whnf
    refine tst_c H (fun b12 H=>?_) (fun b12 H=>?_)
    ·conv=>whnf
     exact nil_at H
    conv=>whnf
    refine lq_ ?_;conv=>whnf
    refine finW_c (enc:=RosterState.v) [2] (.inr rfl) H rfl hR hO hX ?_;conv=>whnf
    refine ⟨Nat.zero_le _,?_⟩;conv=>whnf
    refine ⟨⟨rfl,rfl,rfl⟩,?_⟩;conv=>whnf
    exact ⟨_,_,_,rfl,rfl,.cons (.id rfl) (.cons (.id rfl) (.cons (fzown (f:=ItemItem.v) (l:=v9) rfl rfl (fun _=>rfl) (fun _=>rfl)) (.cons (.slw) (.nil)))),rfl⟩
   conv=>whnf
   refine appNs_c (f:=RosterGone.v) H (fun _=>rfl) (srcM (f:=RosterGone.v) (fun _=>rfl) [] true) rfl (.v (srcOwn (f:=RosterGone.v) (l:=[(RosterGone.mk a1.Contact (w64 (s_0 + (1:Int))))]) (fun _=>rfl) rfl rfl rfl)) (by decide) rfl (by simp) (fun l13 H=>?_);conv=>whnf
   refine lq_ ?_;conv=>whnf
   refine tst_d H (fun b14 H=>?_) (fun b14 H=>?_)
   ·conv=>whnf
    refine lq_ ?_;conv=>whnf
    refine finW_c (enc:=RosterState.v) [2,9] (.inr rfl) H rfl hR hO hX ?_;conv=>whnf
    refine ⟨Nat.zero_le _,?_⟩;conv=>whnf
    refine ⟨Nat.zero_le _,?_⟩;conv=>whnf
    refine ⟨⟨rfl,rfl,rfl⟩,?_⟩;conv=>whnf
    exact ⟨_,_,_,rfl,rfl,.cons (.id rfl) (.cons (.id rfl) (.cons (fzown (f:=ItemItem.v) (l:=v9) rfl rfl (fun _=>rfl) (fun _=>rfl)) (.cons (fzown (f:=RosterGone.v) (l:=l13) rfl rfl (fun _=>rfl) (fun _=>rfl)) (.nil)))),rfl⟩
   conv=>whnf
   refine ⟨rfl,ixo_c H (fun x15 h16 H=>?_)⟩;conv=>whnf
   refine ldo_c (f:=RosterGone.v) (es:=2) h16 (fun _=>rfl) 1 (by omega) (by decide) ?_;conv=>whnf
   refine lq_ ?_;conv=>whnf
   refine delO_c (f:=RosterGone.v) delR178_v H (fun _=>rfl) (fun _=>rfl) rfl rfl (fun v17 H=>?_);conv=>whnf
   refine lq_ ?_;conv=>whnf
   refine lq_ ?_;conv=>whnf
   refine finW_c (enc:=RosterState.v) [2,9] (.inr rfl) H rfl hR hO hX ?_;conv=>whnf
   refine ⟨Nat.zero_le _,?_⟩;conv=>whnf
   refine ⟨Nat.zero_le _,?_⟩;conv=>whnf
   refine ⟨⟨rfl,rfl,rfl⟩,?_⟩;conv=>whnf
   exact ⟨_,_,_,rfl,rfl,.cons (.id rfl) (.cons (.id rfl) (.cons (fzown (f:=ItemItem.v) (l:=v9) rfl rfl (fun _=>rfl) (fun _=>rfl)) (.cons (fzown (f:=RosterGone.v) (l:=v17) rfl rfl (fun _=>rfl) (fun _=>rfl)) (.nil)))),rfl⟩
  conv=>whnf
  refine Tst.isT b2 ?_;conv=>whnf
  refine ⟨rfl,ixo_c H (fun x21 h22 H=>?_)⟩;conv=>whnf
  refine ⟨Nat.zero_le _,sto_c (f:=ItemItem.v) (es:=5) h22 (x':=(ItemItem.mk a1.Contact a1.Name a1.Sub (w64 (s_0 + (1:Int))) a1.Own)) (fun _=>rfl) 0 (by omega) (Nat.le_of_ble_eq_true rfl) (by rfl) ?_⟩;conv=>whnf
  refine tst_d H (fun b23 H=>?_) (fun b23 H=>?_)
  ·conv=>whnf
   refine Tst.F ?_;conv=>whnf
   refine tst_d H (fun b31 H=>?_) (fun b31 H=>?_)
   ·conv=>whnf
    refine Tst.isF b23 ?_;conv=>whnf
    iterate 3 (refine Tst.F ?_;conv=>whnf)
    refine LenQ.ok ?_;conv=>whnf
    refine tst_c H (fun b33 H=>?_) (fun b33 H=>?_)
    ·conv=>whnf
     exact nil_at H
    conv=>whnf
    refine lq_ ?_;conv=>whnf
    refine finW_c (enc:=RosterState.v) [2] (.inr rfl) H rfl hR hO hX ?_;conv=>whnf
    refine ⟨Nat.zero_le _,?_⟩;conv=>whnf
    refine ⟨⟨rfl,rfl,rfl⟩,?_⟩;conv=>whnf
    exact ⟨_,_,_,rfl,rfl,.cons (.id rfl) (.cons (.id rfl) (.cons (fzc_made (f:=ItemItem.v) (l:=(List.set s_2 (Int.toNat v1.1) (ItemItem.mk a1.Contact a1.Name a1.Sub (w64 (s_0 + (1:Int))) a1.Own))) rfl rfl rfl (by simp) (fun _=>rfl) (fun _=>rfl)) (.cons (.slw) (.nil)))),rfl⟩
   conv=>whnf
   refine ⟨Nat.zero_le _,?_⟩;conv=>whnf
   refine dfN_c (f:=RosterGone.v) delF176_n H (⟨⟨_,Tryz.func177,by kernel_rfl,by kernel_rfl⟩,rfl,fun x0=>p_roster_State_change_1_v _ _⟩) (.clo (.cons (.ptr rfl (Nat.le_of_ble_eq_true rfl) (.cons (.id rfl) (.cons (.id rfl) (.cons (.id rfl) (.cons (.id rfl) (.cons (.id rfl) (.nil))))))) (.nil))) (fun H=>?_);conv=>whnf
   refine lq_ ?_;conv=>whnf
   refine Tst.isF b23 ?_;conv=>whnf
   iterate 3 (refine Tst.F ?_;conv=>whnf)
   refine LenQ.ok ?_;conv=>whnf
   refine tst_c H (fun b32 H=>?_) (fun b32 H=>?_)
   ·conv=>whnf
    exact nil_at H
   conv=>whnf
   refine lq_ ?_;conv=>whnf
   refine finW_c (enc:=RosterState.v) [2] (.inr rfl) H rfl hR hO hX ?_;conv=>whnf
   refine ⟨Nat.zero_le _,?_⟩;conv=>whnf
   refine ⟨⟨rfl,rfl,rfl⟩,?_⟩;conv=>whnf
   exact ⟨_,_,_,rfl,rfl,.cons (.id rfl) (.cons (.id rfl) (.cons (fzc_made (f:=ItemItem.v) (l:=(List.set s_2 (Int.toNat v1.1) (ItemItem.mk a1.Contact a1.Name a1.Sub (w64 (s_0 + (1:Int))) a1.Own))) rfl rfl rfl (by simp) (fun _=>rfl) (fun _=>rfl)) (.cons (.slw) (.nil)))),rfl⟩
  conv=>whnf
  iterate 2 (refine Tst.T ?_;conv=>whnf)
  refine ⟨Nat.zero_le _,?_⟩;conv=>whnf
  refine dfN_c (f:=RosterGone.v) delF176_n H (⟨⟨_,Tryz.func177,by kernel_rfl,by kernel_rfl⟩,rfl,fun x0=>p_roster_State_change_1_v _ _⟩) (.clo (.cons (.ptr rfl (Nat.le_of_ble_eq_true rfl) (.cons (.id rfl) (.cons (.id rfl) (.cons (.id rfl) (.cons (.id rfl) (.cons (.id rfl) (.nil))))))) (.nil))) (fun H=>?_);conv=>whnf
  refine lq_ ?_;conv=>whnf
  refine Tst.isT b23 ?_;conv=>whnf
  iterate 2 (refine Tst.T ?_;conv=>whnf)
  refine Tst.not ?_
  refine tst_c H (fun b24 H=>?_) (fun b24 H=>?_)
  ·conv=>whnf
   refine LenQ.ok ?_;conv=>whnf
   refine tst_c H (fun b25 H=>?_) (fun b25 H=>?_)
   ·conv=>whnf
    exact nil_at H
   conv=>whnf
   refine lq_ ?_;conv=>whnf
   refine finW_c (enc:=RosterState.v) [2] (.inr rfl) H rfl hR hO hX ?_;conv=>whnf
   refine ⟨Nat.zero_le _,?_⟩;conv=>whnf
   refine ⟨⟨rfl,rfl,rfl⟩,?_⟩;conv=>whnf
   exact ⟨_,_,_,rfl,rfl,.cons (.id rfl) (.cons (.id rfl) (.cons (fzc_made (f:=ItemItem.v) (l:=(List.set s_2 (Int.toNat v1.1) (ItemItem.mk a1.Contact a1.Name a1.Sub (w64 (s_0 + (1:Int))) a1.Own))) rfl rfl rfl (by simp) (fun _=>rfl) (fun _=>rfl)) (.cons (.slw) (.nil)))),rfl⟩
  conv=>whnf
  refine appNs_c (f:=RosterGone.v) H (fun _=>rfl) (srcM (f:=RosterGone.v) (fun _=>rfl) [] true) rfl (.v (srcOwn (f:=RosterGone.v) (l:=[(RosterGone.mk a1.Contact (w64 (s_0 + (1:Int))))]) (fun _=>rfl) rfl rfl rfl)) (by decide) rfl (by simp) (fun l26 H=>?_);conv=>whnf
  refine lq_ ?_;conv=>whnf
  refine tst_d H (fun b27 H=>?_) (fun b27 H=>?_)
  ·conv=>whnf
   refine lq_ ?_;conv=>whnf
   refine finW_c (enc:=RosterState.v) [2,9] (.inr rfl) H rfl hR hO hX ?_;conv=>whnf
   refine ⟨Nat.zero_le _,?_⟩;conv=>whnf
   refine ⟨Nat.zero_le _,?_⟩;conv=>whnf
   refine ⟨⟨rfl,rfl,rfl⟩,?_⟩;conv=>whnf
   exact ⟨_,_,_,rfl,rfl,.cons (.id rfl) (.cons (.id rfl) (.cons (fzc_made (f:=ItemItem.v) (l:=(List.set s_2 (Int.toNat v1.1) (ItemItem.mk a1.Contact a1.Name a1.Sub (w64 (s_0 + (1:Int))) a1.Own))) rfl rfl rfl (by simp) (fun _=>rfl) (fun _=>rfl)) (.cons (fzown (f:=RosterGone.v) (l:=l26) rfl rfl (fun _=>rfl) (fun _=>rfl)) (.nil)))),rfl⟩
  conv=>whnf
  refine ⟨rfl,ixo_c H (fun x28 h29 H=>?_)⟩;conv=>whnf
  refine ldo_c (f:=RosterGone.v) (es:=2) h29 (fun _=>rfl) 1 (by omega) (by decide) ?_;conv=>whnf
  refine lq_ ?_;conv=>whnf
  refine delO_c (f:=RosterGone.v) delR178_v H (fun _=>rfl) (fun _=>rfl) rfl rfl (fun v30 H=>?_);conv=>whnf
  refine lq_ ?_;conv=>whnf
  refine lq_ ?_;conv=>whnf
  refine finW_c (enc:=RosterState.v) [2,9] (.inr rfl) H rfl hR hO hX ?_;conv=>whnf
  refine ⟨Nat.zero_le _,?_⟩;conv=>whnf
  refine ⟨Nat.zero_le _,?_⟩;conv=>whnf
  refine ⟨⟨rfl,rfl,rfl⟩,?_⟩;conv=>whnf
  exact ⟨_,_,_,rfl,rfl,.cons (.id rfl) (.cons (.id rfl) (.cons (fzc_made (f:=ItemItem.v) (l:=(List.set s_2 (Int.toNat v1.1) (ItemItem.mk a1.Contact a1.Name a1.Sub (w64 (s_0 + (1:Int))) a1.Own))) rfl rfl rfl (by simp) (fun _=>rfl) (fun _=>rfl)) (.cons (fzown (f:=RosterGone.v) (l:=v30) rfl rfl (fun _=>rfl) (fun _=>rfl)) (.nil)))),rfl⟩
theorem p_roster_State_change_no (s_0:Int) (s_1:Int) (s_3:List RosterGone) (a1:ItemItem) {R O:List V} {xs:Slot} (hR:V.idlt.belowL 5 R=true) (hO:V.idlt.belowL 5 O=true) (hX:xs.ok5=true) (s:RosterState) (H:p_roster_State_change (RosterState.mk s_0 s_1 [] s_3) a1=some s):CallsS Tryz.prog 126 [.agg [.i s_0,.i s_1,.sl (List.map ItemItem.v []) true,.osl 3 0 (List.length s_3) 2 false],.agg [.s a1.Contact,.s a1.Name,.i a1.Sub,.i a1.Ver,.b a1.Own]] [.live R 0,.live O 0,.dead,.live (cellsM RosterGone.v s_3) 0,xs] (RosterState.v s) [.live R 0,.live O 0,.dead,.dead,xs]:=by
 rcases xs with _ | _ | ⟨X,_ | fX⟩ <;> first | (cases hX;done) | skip
 all_goals
  refine callsR_c (n0:=5) mix Tryz.func126 gc126_ok rfl ?_
  rw [p_roster_State_change] at H
  conv=>whnf
  refine askT_c [3] (p_roster_State_find_v _ _) H (.cons (fzagg (.cons (.id rfl) (.cons (.id rfl) (.cons (.slw) (.cons (fzown (f:=RosterGone.v) (l:=s_3) rfl rfl (fun _=>rfl) (fun _=>rfl)) (.nil))))) rfl) (.cons (.c (.id rfl)) (.nil))) (fun _=>rfl) (fun v1 H=>?_);conv=>whnf
  refine tst_c H (fun b2 H=>?_) (fun b2 H=>?_)
  ·conv=>whnf
   iterate 3 (refine Tst.T ?_;conv=>whnf)
   exact nil_at H
  conv=>whnf
  iterate 6 (refine Tst.F ?_;conv=>whnf)
  refine ask_c (p_item_Listed_v _) H rfl rfl (fun v3 H=>?_);conv=>whnf
  refine Ari.w ?_;conv=>whnf
  refine lq_ ?_;conv=>whnf
  refine lq_ ?_;conv=>whnf
  refine Tst.isF b2 ?_;conv=>whnf
  iterate 3 (refine Tst.F ?_;conv=>whnf)
  refine Tst.isF b2 ?_;conv=>whnf
  refine ask_c (p_item_Idle_v _) H rfl rfl (fun v4 H=>?_);conv=>whnf
  refine Tst.not ?_
  refine tst_c H (fun b5 H=>?_) (fun b5 H=>?_)
  ·conv=>whnf
   iterate 2 (refine Tst.F ?_;conv=>whnf)
   refine tst_d H (fun b6 H=>?_) (fun b6 H=>?_)
   ·conv=>whnf
    iterate 4 (refine Tst.F ?_;conv=>whnf)
    refine tst_d H (fun b12 H=>?_) (fun b12 H=>?_)
    ·conv=>whnf
     refine lq_ ?_;conv=>whnf
     refine finW_c (enc:=RosterState.v) [3] (.inr rfl) H rfl hR hO hX ?_;conv=>whnf
     refine ⟨Nat.zero_le _,?_⟩;conv=>whnf
     refine ⟨⟨rfl,rfl,rfl⟩,?_⟩;conv=>whnf
     exact ⟨_,_,_,rfl,rfl,.cons (.id rfl) (.cons (.id rfl) (.cons (.slw) (.cons (fzown (f:=RosterGone.v) (l:=s_3) rfl rfl (fun _=>rfl) (fun _=>rfl)) (.nil)))),rfl⟩
    conv=>whnf
    refine ⟨rfl,ixo_c H (fun x13 h14 H=>?_)⟩;conv=>whnf
    refine ldo_c (f:=RosterGone.v) (es:=2) h14 (fun _=>rfl) 1 (by omega) (by decide) ?_;conv=>whnf
    refine lq_ ?_;conv=>whnf
    refine delO_c (f:=RosterGone.v) delR178_v H (fun _=>rfl) (fun _=>rfl) rfl rfl (fun v15 H=>?_);conv=>whnf
    refine lq_ ?_;conv=>whnf
    refine lq_ ?_;conv=>whnf
    refine finW_c (enc:=RosterState.v) [3] (.inr rfl) H rfl hR hO hX ?_;conv=>whnf
    refine ⟨Nat.zero_le _,?_⟩;conv=>whnf
    refine ⟨⟨rfl,rfl,rfl⟩,?_⟩;conv=>whnf
    exact ⟨_,_,_,rfl,rfl,.cons (.id rfl) (.cons (.id rfl) (.cons (.slw) (.cons (fzown (f:=RosterGone.v) (l:=v15) rfl rfl (fun _=>rfl) (fun _=>rfl)) (.nil)))),rfl⟩
   conv=>whnf
   refine ⟨Nat.zero_le _,?_⟩;conv=>whnf
   refine dfO_c (f:=RosterGone.v) delF176_v H (⟨⟨_,Tryz.func177,by kernel_rfl,by kernel_rfl⟩,rfl,fun x0=>p_roster_State_change_1_v _ _⟩) (.clo (.cons (.ptr rfl (Nat.le_of_ble_eq_true rfl) (.cons (.id rfl) (.cons (.id rfl) (.cons (.id rfl) (.cons (.id rfl) (.cons (.id rfl) (.nil))))))) (.nil))) (fun _=>rfl) (fun _=>rfl) rfl rfl (fun v7 H=>?_);conv=>whnf
   refine lq_ ?_;conv=>whnf
   iterate 4 (refine Tst.F ?_;conv=>whnf)
   refine tst_d H (fun b8 H=>?_) (fun b8 H=>?_)
   ·conv=>whnf
    refine lq_ ?_;conv=>whnf
    refine finW_c (enc:=RosterState.v) [3] (.inr rfl) H rfl hR hO hX ?_;conv=>whnf
    refine ⟨Nat.zero_le _,?_⟩;conv=>whnf
    refine ⟨⟨rfl,rfl,rfl⟩,?_⟩;conv=>whnf
    exact ⟨_,_,_,rfl,rfl,.cons (.id rfl) (.cons (.id rfl) (.cons (.slw) (.cons (fzown (f:=RosterGone.v) (l:=v7) rfl rfl (fun _=>rfl) (fun _=>rfl)) (.nil)))),rfl⟩
   conv=>whnf
   refine ⟨rfl,ixo_c H (fun x9 h10 H=>?_)⟩;conv=>whnf
   refine ldo_c (f:=RosterGone.v) (es:=2) h10 (fun _=>rfl) 1 (by omega) (by decide) ?_;conv=>whnf
   refine lq_ ?_;conv=>whnf
   refine delO_c (f:=RosterGone.v) delR178_v H (fun _=>rfl) (fun _=>rfl) rfl rfl (fun v11 H=>?_);conv=>whnf
   refine lq_ ?_;conv=>whnf
   refine lq_ ?_;conv=>whnf
   refine finW_c (enc:=RosterState.v) [3] (.inr rfl) H rfl hR hO hX ?_;conv=>whnf
   refine ⟨Nat.zero_le _,?_⟩;conv=>whnf
   refine ⟨⟨rfl,rfl,rfl⟩,?_⟩;conv=>whnf
   exact ⟨_,_,_,rfl,rfl,.cons (.id rfl) (.cons (.id rfl) (.cons (.slw) (.cons (fzown (f:=RosterGone.v) (l:=v11) rfl rfl (fun _=>rfl) (fun _=>rfl)) (.nil)))),rfl⟩
  conv=>whnf
  refine askF_c (insN_v (f:=ItemItem.v) insR175_v (by decide) (fun _=>rfl) (fun _=>rfl) (fun _=>rfl) _ _ _) H (.cons (.c (.id rfl)) (.cons (.c (.id rfl)) (.cons (.c (fzown (f:=ItemItem.v) (l:=[(ItemItem.mk a1.Contact a1.Name a1.Sub (w64 (s_0 + (1:Int))) a1.Own)]) rfl rfl (fun _=>rfl) (fun _=>rfl))) .nil))) (fun v16 H=>?_);conv=>whnf
  refine lq_ ?_;conv=>whnf
  iterate 2 (refine Tst.F ?_;conv=>whnf)
  refine tst_d H (fun b17 H=>?_) (fun b17 H=>?_)
  ·conv=>whnf
   iterate 4 (refine Tst.F ?_;conv=>whnf)
   refine tst_d H (fun b23 H=>?_) (fun b23 H=>?_)
   ·conv=>whnf
    refine lq_ ?_;conv=>whnf
    refine finW_c (enc:=RosterState.v) [3] (.inr rfl) H rfl hR hO hX ?_;conv=>whnf
    refine ⟨Nat.zero_le _,?_⟩;conv=>whnf
    refine ⟨⟨rfl,rfl,rfl⟩,?_⟩;conv=>whnf
    exact ⟨_,_,_,rfl,rfl,.cons (.id rfl) (.cons (.id rfl) (.cons (.id rfl) (.cons (fzown (f:=RosterGone.v) (l:=s_3) rfl rfl (fun _=>rfl) (fun _=>rfl)) (.nil)))),rfl⟩
   conv=>whnf
   refine ⟨rfl,ixo_c H (fun x24 h25 H=>?_)⟩;conv=>whnf
   refine ldo_c (f:=RosterGone.v) (es:=2) h25 (fun _=>rfl) 1 (by omega) (by decide) ?_;conv=>whnf
   refine lq_ ?_;conv=>whnf
   refine delO_c (f:=RosterGone.v) delR178_v H (fun _=>rfl) (fun _=>rfl) rfl rfl (fun v26 H=>?_);conv=>whnf
   refine lq_ ?_;conv=>whnf
   refine lq_ ?_;conv=>whnf
   refine finW_c (enc:=RosterState.v) [3] (.inr rfl) H rfl hR hO hX ?_;conv=>whnf
   refine ⟨Nat.zero_le _,?_⟩;conv=>whnf
   refine ⟨⟨rfl,rfl,rfl⟩,?_⟩;conv=>whnf
   exact ⟨_,_,_,rfl,rfl,.cons (.id rfl) (.cons (.id rfl) (.cons (.id rfl) (.cons (fzown (f:=RosterGone.v) (l:=v26) rfl rfl (fun _=>rfl) (fun _=>rfl)) (.nil)))),rfl⟩
  conv=>whnf
  refine ⟨Nat.zero_le _,?_⟩;conv=>whnf
  refine dfO_c (f:=RosterGone.v) delF176_v H (⟨⟨_,Tryz.func177,by kernel_rfl,by kernel_rfl⟩,rfl,fun x0=>p_roster_State_change_1_v _ _⟩) (.clo (.cons (.ptr rfl (Nat.le_of_ble_eq_true rfl) (.cons (.id rfl) (.cons (.id rfl) (.cons (.id rfl) (.cons (.id rfl) (.cons (.id rfl) (.nil))))))) (.nil))) (fun _=>rfl) (fun _=>rfl) rfl rfl (fun v18 H=>?_);conv=>whnf
  refine lq_ ?_;conv=>whnf
  iterate 4 (refine Tst.F ?_;conv=>whnf)
  refine tst_d H (fun b19 H=>?_) (fun b19 H=>?_)
  ·conv=>whnf
   refine lq_ ?_;conv=>whnf
   refine finW_c (enc:=RosterState.v) [3] (.inr rfl) H rfl hR hO hX ?_;conv=>whnf
   refine ⟨Nat.zero_le _,?_⟩;conv=>whnf
   refine ⟨⟨rfl,rfl,rfl⟩,?_⟩;conv=>whnf
   exact ⟨_,_,_,rfl,rfl,.cons (.id rfl) (.cons (.id rfl) (.cons (.id rfl) (.cons (fzown (f:=RosterGone.v) (l:=v18) rfl rfl (fun _=>rfl) (fun _=>rfl)) (.nil)))),rfl⟩
  conv=>whnf
  refine ⟨rfl,ixo_c H (fun x20 h21 H=>?_)⟩;conv=>whnf
  refine ldo_c (f:=RosterGone.v) (es:=2) h21 (fun _=>rfl) 1 (by omega) (by decide) ?_;conv=>whnf
  refine lq_ ?_;conv=>whnf
  refine delO_c (f:=RosterGone.v) delR178_v H (fun _=>rfl) (fun _=>rfl) rfl rfl (fun v22 H=>?_);conv=>whnf
  refine lq_ ?_;conv=>whnf
  refine lq_ ?_;conv=>whnf
  refine finW_c (enc:=RosterState.v) [3] (.inr rfl) H rfl hR hO hX ?_;conv=>whnf
  refine ⟨Nat.zero_le _,?_⟩;conv=>whnf
  refine ⟨⟨rfl,rfl,rfl⟩,?_⟩;conv=>whnf
  exact ⟨_,_,_,rfl,rfl,.cons (.id rfl) (.cons (.id rfl) (.cons (.id rfl) (.cons (fzown (f:=RosterGone.v) (l:=v22) rfl rfl (fun _=>rfl) (fun _=>rfl)) (.nil)))),rfl⟩
theorem p_roster_State_change_nn (s_0:Int) (s_1:Int) (a1:ItemItem) {R O:List V} {xs:Slot} (hR:V.idlt.belowL 5 R=true) (hO:V.idlt.belowL 5 O=true) (hX:xs.ok5=true) (s:RosterState) (H:p_roster_State_change (RosterState.mk s_0 s_1 [] []) a1=some s):CallsS Tryz.prog 126 [.agg [.i s_0,.i s_1,.sl (List.map ItemItem.v []) true,.sl (List.map RosterGone.v []) true],.agg [.s a1.Contact,.s a1.Name,.i a1.Sub,.i a1.Ver,.b a1.Own]] [.live R 0,.live O 0,.dead,.dead,xs] (RosterState.v s) [.live R 0,.live O 0,.dead,.dead,xs]:=by
 rcases xs with _ | _ | ⟨X,_ | fX⟩ <;> first | (cases hX;done) | skip
 all_goals
  refine callsR_c (n0:=5) mix Tryz.func126 gc126_ok rfl ?_
  rw [p_roster_State_change] at H
  conv=>whnf
  refine ask_c (p_roster_State_find_v _ _) H rfl rfl (fun v1 H=>?_);conv=>whnf
  refine tst_c H (fun b2 H=>?_) (fun b2 H=>?_)
  ·conv=>whnf
   iterate 3 (refine Tst.T ?_;conv=>whnf)
   exact nil_at H
  conv=>whnf
  iterate 6 (refine Tst.F ?_;conv=>whnf)
  refine ask_c (p_item_Listed_v _) H rfl rfl (fun v3 H=>?_);conv=>whnf
  refine Ari.w ?_;conv=>whnf
  refine lq_ ?_;conv=>whnf
  refine lq_ ?_;conv=>whnf
  refine Tst.isF b2 ?_;conv=>whnf
  iterate 3 (refine Tst.F ?_;conv=>whnf)
  refine Tst.isF b2 ?_;conv=>whnf
  refine ask_c (p_item_Idle_v _) H rfl rfl (fun v4 H=>?_);conv=>whnf
  refine Tst.not ?_
  refine tst_c H (fun b5 H=>?_) (fun b5 H=>?_)
  ·conv=>whnf
   iterate 2 (refine Tst.F ?_;conv=>whnf)
   refine tst_d H (fun b6 H=>?_) (fun b6 H=>?_)
   ·conv=>whnf
    iterate 4 (refine Tst.F ?_;conv=>whnf)
    refine LenQ.ok ?_;conv=>whnf
    refine tst_c H (fun b8 H=>?_) (fun b8 H=>?_)
    ·conv=>whnf
     exact nil_at H
    conv=>whnf
    refine lq_ ?_;conv=>whnf
    refine finW_c (enc:=RosterState.v) [] (.inr rfl) H rfl hR hO hX ?_;conv=>whnf
    refine ⟨⟨rfl,rfl,rfl⟩,?_⟩;conv=>whnf
    exact ⟨_,_,_,rfl,rfl,.cons (.id rfl) (.cons (.id rfl) (.cons (.slw) (.cons (.slw) (.nil)))),rfl⟩
   conv=>whnf
   refine ⟨Nat.zero_le _,?_⟩;conv=>whnf
   refine dfN_c (f:=RosterGone.v) delF176_n H (⟨⟨_,Tryz.func177,by kernel_rfl,by kernel_rfl⟩,rfl,fun x0=>p_roster_State_change_1_v _ _⟩) (.clo (.cons (.ptr rfl (Nat.le_of_ble_eq_true rfl) (.cons (.id rfl) (.cons (.id rfl) (.cons (.id rfl) (.cons (.id rfl) (.cons (.id rfl) (.nil))))))) (.nil))) (fun H=>?_);conv=>whnf
   refine lq_ ?_;conv=>whnf
   iterate 4 (refine Tst.F ?_;conv=>whnf)
   refine LenQ.ok ?_;conv=>whnf
   refine tst_c H (fun b7 H=>?_) (fun b7 H=>?_)
   ·conv=>whnf
    exact nil_at H
   conv=>whnf
   refine lq_ ?_;conv=>whnf
   refine finW_c (enc:=RosterState.v) [] (.inr rfl) H rfl hR hO hX ?_;conv=>whnf
   refine ⟨⟨rfl,rfl,rfl⟩,?_⟩;conv=>whnf
   exact ⟨_,_,_,rfl,rfl,.cons (.id rfl) (.cons (.id rfl) (.cons (.slw) (.cons (.slw) (.nil)))),rfl⟩
  conv=>whnf
  refine askF_c (insN_v (f:=ItemItem.v) insR175_v (by decide) (fun _=>rfl) (fun _=>rfl) (fun _=>rfl) _ _ _) H (.cons (.c (.id rfl)) (.cons (.c (.id rfl)) (.cons (.c (fzown (f:=ItemItem.v) (l:=[(ItemItem.mk a1.Contact a1.Name a1.Sub (w64 (s_0 + (1:Int))) a1.Own)]) rfl rfl (fun _=>rfl) (fun _=>rfl))) .nil))) (fun v9 H=>?_);conv=>whnf
  refine lq_ ?_;conv=>whnf
  iterate 2 (refine Tst.F ?_;conv=>whnf)
  refine tst_d H (fun b10 H=>?_) (fun b10 H=>?_)
  ·conv=>whnf
   iterate 4 (refine Tst.F ?_;conv=>whnf)
   refine LenQ.ok ?_;conv=>whnf
   refine tst_c H (fun b12 H=>?_) (fun b12 H=>?_)
   ·conv=>whnf
    exact nil_at H
   conv=>whnf
   refine lq_ ?_;conv=>whnf
   refine finW_c (enc:=RosterState.v) [] (.inr rfl) H rfl hR hO hX ?_;conv=>whnf
   refine ⟨⟨rfl,rfl,rfl⟩,?_⟩;conv=>whnf
   exact ⟨_,_,_,rfl,rfl,.cons (.id rfl) (.cons (.id rfl) (.cons (.id rfl) (.cons (.slw) (.nil)))),rfl⟩
  conv=>whnf
  refine ⟨Nat.zero_le _,?_⟩;conv=>whnf
  refine dfN_c (f:=RosterGone.v) delF176_n H (⟨⟨_,Tryz.func177,by kernel_rfl,by kernel_rfl⟩,rfl,fun x0=>p_roster_State_change_1_v _ _⟩) (.clo (.cons (.ptr rfl (Nat.le_of_ble_eq_true rfl) (.cons (.id rfl) (.cons (.id rfl) (.cons (.id rfl) (.cons (.id rfl) (.cons (.id rfl) (.nil))))))) (.nil))) (fun H=>?_);conv=>whnf
  refine lq_ ?_;conv=>whnf
  iterate 4 (refine Tst.F ?_;conv=>whnf)
  refine LenQ.ok ?_;conv=>whnf
  refine tst_c H (fun b11 H=>?_) (fun b11 H=>?_)
  ·conv=>whnf
   exact nil_at H
  conv=>whnf
  refine lq_ ?_;conv=>whnf
  refine finW_c (enc:=RosterState.v) [] (.inr rfl) H rfl hR hO hX ?_;conv=>whnf
  refine ⟨⟨rfl,rfl,rfl⟩,?_⟩;conv=>whnf
  exact ⟨_,_,_,rfl,rfl,.cons (.id rfl) (.cons (.id rfl) (.cons (.id rfl) (.cons (.slw) (.nil)))),rfl⟩
end Go.Proofs.YtmmmcpeickfolaaGreat

