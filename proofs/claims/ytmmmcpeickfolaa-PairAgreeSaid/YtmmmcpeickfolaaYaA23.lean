/- A part of the proof: 2 texts joined. -/
import Derived.Test.YtmmmcpeickfolaaYaA16
import Derived.Test.YtmmmcpeickfolaaYaA22
import Derived.Test.YtmmmcpeickfolaaYaA19
import Derived.Test.YtmmmcpeickfolaaYaA10
import Derived.KernelRfl
set_option linter.all false
namespace Go.Proofs.Ytmmmcpeickfolaa
open Go.RowKit
set_option maxRecDepth 1000000
set_option maxHeartbeats 4000000
def gc27:BCode:=(.seq (R_ 4 [O_ 2 (.bx (t_ 0)) 0,O_ 3 (.bx (t_ 1)) 1,O_ 4 (.al (.agg [(.lit (.int .i64 0)),(.lit (.int .i64 0)),(.sl [] true),(.sl [] true),(.lit (.int .i64 0)),(.lit (.int .i64 0)),(.sl [] true),(.sl [] true)])) 2,O_ 5 (.al (.agg [(.lit (.bool false)),(.lit (.bool false))])) 3,O_ 6 (.mv (i_ 0)) 4]) (.seq (R_ 1 [O_ 7 (.al (.agg [(.lit (.bool false)),(.lit (.bool false))])) 0]) (.seq (.seq (R_ 0 [O_ 21 (.ld 2 true (t_ 2)) 0,O_ 22 (.ld 8 true (t_ 3)) 0,O_ 23 (.cl 31 [(t_ 21),(t_ 22)]) 0,O_ 8 (.mv (t_ 23)) 0]) (.seq (R_ 0 [O_ 24 (.mv (t_ 8)) 0,O_ 25 (.bin .neq (t_ 24) (i_ 0)) 0]) (.cond (t_ 25) (.seq (.reg 0 [O_ 26 (.ld 8 true (t_ 3)) 0,O_ 27 (.ld 2 true (t_ 7)) 0,O_ 28 (.mv (t_ 8)) 0,U_ (.st 8 (t_ 4) (t_ 26)) 0,U_ (.st 2 (t_ 5) (t_ 27)) 0,O_ 6 (.mv (t_ 28)) 0] (some [[],[],[],[0],[0,3,1],[1,3,0,4,2]]) 0 []) .ret) .skip))) (.seq (.seq (R_ 1 [O_ 30 (.fa 0 (t_ 3)) 0,O_ 31 (.ld 4 true (t_ 30)) 0,O_ 32 (.fa 1 (t_ 2)) 0,O_ 33 (.ld 1 false (t_ 32)) 0,O_ 34 (.cl 22 [(t_ 31),(t_ 33)]) 0,O_ 29 (.mv (t_ 34)) 0,O_ 35 (.ex (t_ 29) 0) 0,O_ 36 (.ex (t_ 29) 1) 0,O_ 9 (.al (.agg [(.lit (.string ⟨#[]⟩)),(.lit (.string ⟨#[]⟩)),(.lit (.int .i64 0)),(.lit (.int .i64 0)),(.lit (.bool false))])) 0,U_ (.st 5 (t_ 9) (t_ 35)) 1,O_ 10 (.mv (t_ 36)) 1]) (.seq (R_ 0 [O_ 37 (.mv (t_ 10)) 0,O_ 38 (.un .not (t_ 37)) 0]) (.cond (t_ 38) (.seq (.reg 0 [O_ 39 (.ld 8 true (t_ 3)) 0,O_ 40 (.ld 2 true (t_ 7)) 0,U_ (.st 8 (t_ 4) (t_ 39)) 0,U_ (.st 2 (t_ 5) (t_ 40)) 0,O_ 6 (.mv (i_ 6)) 0] (some [[],[],[0],[0,2,1],[1,2,0,3]]) 0 []) .ret) .skip))) (.seq (R_ 1 [O_ 41 (.ld 8 true (t_ 3)) 0,O_ 11 (.al (.agg [(.lit (.int .i64 0)),(.lit (.int .i64 0)),(.sl [] true),(.sl [] true),(.lit (.int .i64 0)),(.lit (.int .i64 0)),(.sl [] true),(.sl [] true)])) 0,U_ (.st 8 (t_ 11) (t_ 41)) 1]) (.seq (.seq (R_ 0 [O_ 42 (.bd [(.lit (.int .u8 0)),(.lit (.int .u8 0))] [(0,1,(.const (.int .u8 10))),(1,1,(.const (.int .u8 9)))]) 0,O_ 43 (.mv (i_ 0)) 0]) (.block 0 (.loop (.seq (R_ 0 [O_ 44 (.bin .lss (t_ 43) (i_ 2)) 0]) (.seq (.cond (t_ 44) .skip (.exit 0)) (.seq (.block 1 (.seq (R_ 0 [O_ 45 (.mv (t_ 43)) 0,O_ 46 (.ixg 2 1 false (t_ 42) (t_ 43)) 0,O_ 12 (.mv (t_ 45)) 0,O_ 13 (.mv (t_ 46)) 0]) (.seq (R_ 2 [O_ 48 (.ld 2 true (t_ 2)) 0,O_ 49 (.ld 8 true (t_ 11)) 0,O_ 50 (.mv (t_ 13)) 0,O_ 51 (.cl 29 [(t_ 48),(t_ 49),(t_ 50)]) 0,O_ 47 (.mv (t_ 51)) 0,O_ 52 (.ex (t_ 47) 0) 0,O_ 53 (.ex (t_ 47) 1) 0,O_ 54 (.ex (t_ 47) 2) 0,O_ 14 (.al (.agg [(.lit (.int .i64 0)),(.lit (.int .i64 0)),(.sl [] true),(.sl [] true),(.lit (.int .i64 0)),(.lit (.int .i64 0)),(.sl [] true),(.sl [] true)])) 0,O_ 15 (.al (.agg [(.lit (.bool false)),(.lit (.bool false)),(.lit (.bool false)),(.lit (.bool false))])) 1,U_ (.st 8 (t_ 14) (t_ 52)) 2,U_ (.st 4 (t_ 15) (t_ 53)) 2,O_ 16 (.mv (t_ 54)) 2]) (.seq (.seq (R_ 0 [O_ 55 (.mv (t_ 16)) 0,O_ 56 (.bin .neq (t_ 55) (i_ 0)) 0]) (.cond (t_ 56) (.seq (R_ 0 [O_ 57 (.ld 8 true (t_ 3)) 0,O_ 58 (.bd [(.lit (.bool false)),(.lit (.bool false))] []) 0,O_ 59 (.mv (t_ 16)) 0,U_ (.st 8 (t_ 4) (t_ 57)) 0,U_ (.st 2 (t_ 5) (t_ 58)) 0,O_ 6 (.mv (t_ 59)) 0]) .ret) .skip)) (.reg 0 [O_ 60 (.mv (t_ 12)) 0,O_ 61 (.ld 8 true (t_ 14)) 0,O_ 62 (.fa 1 (t_ 15)) 0,O_ 63 (.ld 1 false (t_ 62)) 0,U_ (.st 8 (t_ 11) (t_ 61)) 0,O_ 64 (.ixa 2 1 (t_ 7) (t_ 60)) 0,U_ (.st 1 (t_ 64) (t_ 63)) 0] (some [[],[],[],[2],[1],[4,3,2,1,0],[0,1,2,3,4,5]]) 0 []))))) (R_ 0 [O_ 65 (.bin .add (t_ 43) (i_ 1)) 0,O_ 43 (.mv (t_ 65)) 0]))))))) (.seq (.seq (R_ 1 [O_ 67 (.fa 0 (t_ 11)) 0,O_ 68 (.ld 4 true (t_ 67)) 0,O_ 69 (.fa 1 (t_ 2)) 0,O_ 70 (.ld 1 false (t_ 69)) 0,O_ 71 (.cl 22 [(t_ 68),(t_ 70)]) 0,O_ 66 (.mv (t_ 71)) 0,O_ 72 (.ex (t_ 66) 0) 0,O_ 73 (.ex (t_ 66) 1) 0,O_ 17 (.al (.agg [(.lit (.string ⟨#[]⟩)),(.lit (.string ⟨#[]⟩)),(.lit (.int .i64 0)),(.lit (.int .i64 0)),(.lit (.bool false))])) 0,U_ (.st 5 (t_ 17) (t_ 72)) 1,O_ 18 (.mv (t_ 73)) 1]) (.seq (R_ 0 [O_ 74 (.mv (t_ 18)) 0,O_ 75 (.un .not (t_ 74)) 0]) (.cond (t_ 75) (.seq (.reg 0 [O_ 76 (.ld 8 true (t_ 11)) 0,O_ 77 (.ld 2 true (t_ 7)) 0,U_ (.st 8 (t_ 4) (t_ 76)) 0,U_ (.st 2 (t_ 5) (t_ 77)) 0,O_ 6 (.mv (i_ 0)) 0] (some [[],[],[0],[0,2,1],[1,2,0,3]]) 0 []) .ret) .skip))) (.seq (R_ 1 [O_ 79 (.fa 0 (t_ 11)) 0,O_ 80 (.ld 4 true (t_ 79)) 0,O_ 81 (.fa 1 (t_ 2)) 0,O_ 82 (.ld 1 false (t_ 81)) 0,O_ 83 (.cl 20 [(t_ 80),(t_ 82)]) 0,O_ 78 (.mv (t_ 83)) 0,O_ 84 (.ex (t_ 78) 0) 0,O_ 85 (.ex (t_ 78) 1) 0,O_ 19 (.al (.agg [(.lit (.int .i64 0)),(.lit (.int .i64 0)),(.sl [] true),(.sl [] true)])) 0,U_ (.st 4 (t_ 19) (t_ 84)) 1,O_ 20 (.mv (t_ 85)) 1]) (.seq (.seq (R_ 0 [O_ 86 (.mv (t_ 20)) 0,O_ 87 (.bin .neq (t_ 86) (i_ 0)) 0]) (.cond (t_ 87) (.seq (R_ 0 [O_ 88 (.ld 8 true (t_ 3)) 0,O_ 89 (.bd [(.lit (.bool false)),(.lit (.bool false))] []) 0,O_ 90 (.mv (t_ 20)) 0,U_ (.st 8 (t_ 4) (t_ 88)) 0,U_ (.st 2 (t_ 5) (t_ 89)) 0,O_ 6 (.mv (t_ 90)) 0]) .ret) .skip)) (.seq (R_ 0 [O_ 91 (.ld 4 true (t_ 19)) 0,O_ 92 (.fa 0 (t_ 11)) 0,U_ (.st 4 (t_ 92) (t_ 91)) 0]) (.seq (.reg 0 [O_ 93 (.ld 8 true (t_ 11)) 0,O_ 94 (.ld 2 true (t_ 7)) 0,U_ (.st 8 (t_ 4) (t_ 93)) 0,U_ (.st 2 (t_ 5) (t_ 94)) 0,O_ 6 (.mv (i_ 0)) 0] (some [[],[],[0],[0,2,1],[1,2,0,3]]) 0 []) .ret)))))))))))
theorem gc27_ok:compF Try.prog Try.f27=some (gc27.er,95,[.cell 4 8 true,.cell 5 2 true,.tmp 6]):=by unfold gc27;kernel_rfl
theorem p_pair_Remove_v {u1 u2 u3 u4:Bool} (a0:Ref22Names) (a1:Ref22State):CallsO Try.prog 27 [.agg [.s a0.A,.s a0.B],.agg [.i a1.A.Ver,.i a1.A.Floor,.sl (List.map ItemItem.v a1.A.Items) u1,.sl (List.map RosterGone.v a1.A.Gone) u2,.i a1.B.Ver,.i a1.B.Floor,.sl (List.map ItemItem.v a1.B.Items) u3,.sl (List.map RosterGone.v a1.B.Gone) u4]] (fun r:Ref22State × Ar2_Bool × Int=>.tup [Ref22State.v r.1,Ar2_Bool.v r.2.1,V.i r.2.2]) (p_pair_Remove a0 a1):=by
 refine callsO_comp mix Try.func27 gc27_ok fun r H=>?_
 rw [p_pair_Remove] at H
 conv=>whnf
 refine ask_c (p_pair_Check_v _ _) H rfl rfl (fun v1 H=>?_);conv=>whnf
 refine tst_c H (fun b2 H=>?_) (fun b2 H=>?_)
 ·conv=>whnf
  refine lq_ ?_;conv=>whnf
  refine lq_ ?_;conv=>whnf
  refine FootQ.mk ⟨rfl,?_⟩;conv=>whnf
  refine finR_c (enc:=(fun r:Ref22State × Ar2_Bool × Int=>.tup [Ref22State.v r.1,Ar2_Bool.v r.2.1,V.i r.2.2])) H ?_;conv=>whnf
  exact ⟨_,.tup (.cons (fzagg (.cons (.id rfl) (.cons (.id rfl) (.cons (.slw) (.cons (.slw) (.cons (.id rfl) (.cons (.id rfl) (.cons (.slw) (.cons (.slw) (.nil))))))))) rfl) (.cons (fzagg (.cons (.id rfl) (.cons (.id rfl) (.nil))) rfl) (.cons (.c (.id rfl)) (.nil))))⟩
 conv=>whnf
 refine ask_c (p_roster_Find_v _ _) H rfl rfl (fun v3 H=>?_);conv=>whnf
 refine lq_ ?_;conv=>whnf
 refine Tst.not ?_
 refine tst_d H (fun b4 H=>?_) (fun b4 H=>?_)
 ·conv=>whnf
  refine lq_ ?_;conv=>whnf
  refine lq_ ?_;conv=>whnf
  refine FootQ.mk ⟨rfl,?_⟩;conv=>whnf
  refine finR_c (enc:=(fun r:Ref22State × Ar2_Bool × Int=>.tup [Ref22State.v r.1,Ar2_Bool.v r.2.1,V.i r.2.2])) H ?_;conv=>whnf
  exact ⟨_,.tup (.cons (fzagg (.cons (.id rfl) (.cons (.id rfl) (.cons (.slw) (.cons (.slw) (.cons (.id rfl) (.cons (.id rfl) (.cons (.slw) (.cons (.slw) (.nil))))))))) rfl) (.cons (fzagg (.cons (.id rfl) (.cons (.id rfl) (.nil))) rfl) (.cons (.c (.id rfl)) (.nil))))⟩
 conv=>whnf
 refine lq_ ?_;conv=>whnf
 obtain ⟨o6,HL7,HQ8⟩:=bind_c H
 refine loop_c [6,43,11] [12,13,14,15,16,44,45,46,47,48,49,50,51,52,53,54,55,56,57,58,59,60,61,62,63,64,65,9,30,32] [12,13,14,15,16,44,45,46,47,48,49,50,51,52,53,54,55,56,57,58,59,60,61,62,63,64,65,9,30,32] (fun n vals st=>(∃ y10 y11 y12,p_pair_Remove_l1  (Ar2_Int.mk (10:Int) (9:Int)) a0 a1 n y10 y11 y12=some o6∧vals=[.i (0:Int),.i y10,.ptr 5 0]∧st=[.live [.s a0.A,.s a0.B] 0,.live [.i a1.A.Ver,.i a1.A.Floor,.sl (List.map ItemItem.v a1.A.Items) u1,.sl (List.map RosterGone.v a1.A.Gone) u2,.i a1.B.Ver,.i a1.B.Floor,.sl (List.map ItemItem.v a1.B.Items) u3,.sl (List.map RosterGone.v a1.B.Gone) u4] 0,.live [.i (0:Int),.i (0:Int),.sl (List.map ItemItem.v []) true,.sl (List.map RosterGone.v []) true,.i (0:Int),.i (0:Int),.sl (List.map ItemItem.v []) true,.sl (List.map RosterGone.v []) true] 0,.live [.b false,.b false] 0,.live [.b y12.a0,.b y12.a1] 0,.live [.i y11.A.Ver,.i y11.A.Floor,.sl (List.map ItemItem.v y11.A.Items) u1,.sl (List.map RosterGone.v y11.A.Gone) u2,.i y11.B.Ver,.i y11.B.Floor,.sl (List.map ItemItem.v y11.B.Items) u3,.sl (List.map RosterGone.v y11.B.Gone) u4] 0])∨(∃ y17 y18 y19,p_pair_Remove_l1  (Ar2_Int.mk (10:Int) (9:Int)) a0 a1 n y17 y18 y19=some o6∧vals=[.i (0:Int),.i y17,.ptr 5 0]∧st=[.live [.s a0.A,.s a0.B] 0,.live [.i a1.A.Ver,.i a1.A.Floor,.sl (List.map ItemItem.v a1.A.Items) u1,.sl (List.map RosterGone.v a1.A.Gone) u2,.i a1.B.Ver,.i a1.B.Floor,.sl (List.map ItemItem.v a1.B.Items) u3,.sl (List.map RosterGone.v a1.B.Gone) u4] 0,.live [.i (0:Int),.i (0:Int),.sl (List.map ItemItem.v []) true,.sl (List.map RosterGone.v []) true,.i (0:Int),.i (0:Int),.sl (List.map ItemItem.v []) true,.sl (List.map RosterGone.v []) true] 0,.live [.b false,.b false] 0,.live [.b y19.a0,.b y19.a1] 0,.live [.i y18.A.Ver,.i y18.A.Floor,.sl (List.map ItemItem.v y18.A.Items) false,.sl (List.map RosterGone.v y18.A.Gone) false,.i y18.B.Ver,.i y18.B.Floor,.sl (List.map ItemItem.v y18.B.Items) false,.sl (List.map RosterGone.v y18.B.Gone) false] 0])) fuel 6 [0,1,2,3,4,6] (.inl (⟨_,_,_,HL7,rfl,rfl⟩)) (Nat.zero_le _) rfl (by kernel_rfl) (by kernel_rfl) rfl ⟨⟨rfl,rfl,rfl⟩,⟨⟨rfl,rfl,rfl⟩,⟨⟨rfl,rfl,rfl⟩,⟨⟨rfl,rfl,rfl⟩,⟨⟨rfl,rfl,rfl⟩,⟨⟨rfl,rfl,rfl⟩,trivial⟩⟩⟩⟩⟩⟩ ?_
 rintro (_ | n9) _ _ (⟨y10,y11,y12,H,rfl,rfl⟩ | ⟨y17,y18,y19,H,rfl,rfl⟩)
 ·rw [p_pair_Remove_l1] at H;cases H
 ·rw [p_pair_Remove_l1] at H;cases H
 ·rw [p_pair_Remove_l1] at H
  conv=>whnf
  refine tst_c H (fun b13 H=>?_) (fun b13 H=>?_)
  ·conv=>whnf
   refine ixg_c (f:=V.y8) (T:=[(10:Int),(9:Int)]) H rfl rfl (fun x14 H=>?_);conv=>whnf
   refine ask_c (p_pair_Say_v _ _ _) H rfl rfl (fun v15 H=>?_);conv=>whnf
   refine lq_ ?_;conv=>whnf
   refine lq_ ?_;conv=>whnf
   refine tst_c H (fun b16 H=>?_) (fun b16 H=>?_)
   ·conv=>whnf
    refine lq_ ?_;conv=>whnf
    refine lq_ ?_;conv=>whnf
    obtain rfl:=Option.some.inj H
    have H:=HQ8
    try dsimp only at H
    refine finR_c (enc:=(fun r:Ref22State × Ar2_Bool × Int=>.tup [Ref22State.v r.1,Ar2_Bool.v r.2.1,V.i r.2.2])) H ?_;conv=>whnf
    exact ⟨_,.tup (.cons (fzagg (.cons (.id rfl) (.cons (.id rfl) (.cons (.slw) (.cons (.slw) (.cons (.id rfl) (.cons (.id rfl) (.cons (.slw) (.cons (.slw) (.nil))))))))) rfl) (.cons (fzagg (.cons (.id rfl) (.cons (.id rfl) (.nil))) rfl) (.cons (.c (.id rfl)) (.nil))))⟩
   conv=>whnf
   refine lq_ ?_;conv=>whnf
   refine ixd2_c H (fun H=>?_) (fun H=>?_)
   ·conv=>whnf
    refine lq_ ?_;conv=>whnf
    refine FootQ.mk ⟨rfl,?_⟩;conv=>whnf
    refine Ari.w ?_;conv=>whnf
    exact again_c [12,13,14,15,16,44,45,46,47,48,49,50,51,52,53,54,55,56,57,58,59,60,61,62,63,64,65,9,30,32] n9 6 [] (.inr (⟨_,_,_,H,rfl,rfl⟩)) (Nat.lt_succ_self _) (Nat.zero_le _) rfl (by kernel_rfl) (by kernel_rfl) rfl ⟨⟨rfl,rfl,rfl⟩,⟨⟨rfl,rfl,rfl⟩,⟨⟨rfl,rfl,rfl⟩,⟨⟨rfl,rfl,rfl⟩,⟨⟨rfl,rfl,rfl⟩,⟨⟨rfl,rfl,rfl⟩,trivial⟩⟩⟩⟩⟩⟩
   conv=>whnf
   refine lq_ ?_;conv=>whnf
   refine FootQ.mk ⟨rfl,?_⟩;conv=>whnf
   refine Ari.w ?_;conv=>whnf
   exact again_c [12,13,14,15,16,44,45,46,47,48,49,50,51,52,53,54,55,56,57,58,59,60,61,62,63,64,65,9,30,32] n9 6 [] (.inr (⟨_,_,_,H,rfl,rfl⟩)) (Nat.lt_succ_self _) (Nat.zero_le _) rfl (by kernel_rfl) (by kernel_rfl) rfl ⟨⟨rfl,rfl,rfl⟩,⟨⟨rfl,rfl,rfl⟩,⟨⟨rfl,rfl,rfl⟩,⟨⟨rfl,rfl,rfl⟩,⟨⟨rfl,rfl,rfl⟩,⟨⟨rfl,rfl,rfl⟩,trivial⟩⟩⟩⟩⟩⟩
  conv=>whnf
  obtain rfl:=Option.some.inj H
  have H:=HQ8
  try dsimp only at H
  refine ask_c (p_roster_Find_v _ _) H rfl rfl (fun v20 H=>?_);conv=>whnf
  refine lq_ ?_;conv=>whnf
  refine Tst.not ?_
  refine tst_d H (fun b21 H=>?_) (fun b21 H=>?_)
  ·conv=>whnf
   refine lq_ ?_;conv=>whnf
   refine lq_ ?_;conv=>whnf
   refine FootQ.mk ⟨rfl,?_⟩;conv=>whnf
   refine finR_c (enc:=(fun r:Ref22State × Ar2_Bool × Int=>.tup [Ref22State.v r.1,Ar2_Bool.v r.2.1,V.i r.2.2])) H ?_;conv=>whnf
   exact ⟨_,.tup (.cons (fzagg (.cons (.id rfl) (.cons (.id rfl) (.cons (.slw) (.cons (.slw) (.cons (.id rfl) (.cons (.id rfl) (.cons (.slw) (.cons (.slw) (.nil))))))))) rfl) (.cons (fzagg (.cons (.id rfl) (.cons (.id rfl) (.nil))) rfl) (.cons (.c (.id rfl)) (.nil))))⟩
  conv=>whnf
  refine ask_c (p_roster_Drop_v _ _) H rfl rfl (fun v22 H=>?_);conv=>whnf
  refine lq_ ?_;conv=>whnf
  refine tst_c H (fun b23 H=>?_) (fun b23 H=>?_)
  ·conv=>whnf
   refine lq_ ?_;conv=>whnf
   refine lq_ ?_;conv=>whnf
   refine finR_c (enc:=(fun r:Ref22State × Ar2_Bool × Int=>.tup [Ref22State.v r.1,Ar2_Bool.v r.2.1,V.i r.2.2])) H ?_;conv=>whnf
   exact ⟨_,.tup (.cons (fzagg (.cons (.id rfl) (.cons (.id rfl) (.cons (.slw) (.cons (.slw) (.cons (.id rfl) (.cons (.id rfl) (.cons (.slw) (.cons (.slw) (.nil))))))))) rfl) (.cons (fzagg (.cons (.id rfl) (.cons (.id rfl) (.nil))) rfl) (.cons (.c (.id rfl)) (.nil))))⟩
  conv=>whnf
  refine lq_ ?_;conv=>whnf
  refine lq_ ?_;conv=>whnf
  refine lq_ ?_;conv=>whnf
  refine FootQ.mk ⟨rfl,?_⟩;conv=>whnf
  refine finR_c (enc:=(fun r:Ref22State × Ar2_Bool × Int=>.tup [Ref22State.v r.1,Ar2_Bool.v r.2.1,V.i r.2.2])) H ?_;conv=>whnf
  exact ⟨_,.tup (.cons (fzagg (.cons (.id rfl) (.cons (.id rfl) (.cons (.id rfl) (.cons (.id rfl) (.cons (.id rfl) (.cons (.id rfl) (.cons (.slw) (.cons (.slw) (.nil))))))))) rfl) (.cons (fzagg (.cons (.id rfl) (.cons (.id rfl) (.nil))) rfl) (.cons (.c (.id rfl)) (.nil))))⟩
 rw [p_pair_Remove_l1] at H
 conv=>whnf
 refine tst_d H (fun b24 H=>?_) (fun b24 H=>?_)
 ·conv=>whnf
  obtain rfl:=Option.some.inj H
  have H:=HQ8
  try dsimp only at H
  refine ask_c (p_roster_Find_v _ _) H rfl rfl (fun v28 H=>?_);conv=>whnf
  refine lq_ ?_;conv=>whnf
  refine Tst.not ?_
  refine tst_d H (fun b29 H=>?_) (fun b29 H=>?_)
  ·conv=>whnf
   refine lq_ ?_;conv=>whnf
   refine lq_ ?_;conv=>whnf
   refine FootQ.mk ⟨rfl,?_⟩;conv=>whnf
   exact fin0_c (enc:=(fun r:Ref22State × Ar2_Bool × Int=>.tup [Ref22State.v r.1,Ar2_Bool.v r.2.1,V.i r.2.2])) H (.inr rfl) (.cons (.cell rfl rfl (Nat.le_of_ble_eq_true rfl)) (.cons (.cell rfl rfl (Nat.le_of_ble_eq_true rfl)) (.cons (.tmp rfl) (.nil)))) rfl rfl
  conv=>whnf
  refine ask_c (p_roster_Drop_v _ _) H rfl rfl (fun v30 H=>?_);conv=>whnf
  refine lq_ ?_;conv=>whnf
  refine tst_d H (fun b31 H=>?_) (fun b31 H=>?_)
  ·conv=>whnf
   refine lq_ ?_;conv=>whnf
   refine lq_ ?_;conv=>whnf
   refine lq_ ?_;conv=>whnf
   refine FootQ.mk ⟨rfl,?_⟩;conv=>whnf
   exact fin0_c (enc:=(fun r:Ref22State × Ar2_Bool × Int=>.tup [Ref22State.v r.1,Ar2_Bool.v r.2.1,V.i r.2.2])) H (.inr rfl) (.cons (.cell rfl rfl (Nat.le_of_ble_eq_true rfl)) (.cons (.cell rfl rfl (Nat.le_of_ble_eq_true rfl)) (.cons (.tmp rfl) (.nil)))) rfl rfl
  conv=>whnf
  refine lq_ ?_;conv=>whnf
  refine lq_ ?_;conv=>whnf
  refine finR_c (enc:=(fun r:Ref22State × Ar2_Bool × Int=>.tup [Ref22State.v r.1,Ar2_Bool.v r.2.1,V.i r.2.2])) H ?_;conv=>whnf
  exact ⟨_,.tup (.cons (fzagg (.cons (.id rfl) (.cons (.id rfl) (.cons (.slw) (.cons (.slw) (.cons (.id rfl) (.cons (.id rfl) (.cons (.slw) (.cons (.slw) (.nil))))))))) rfl) (.cons (fzagg (.cons (.id rfl) (.cons (.id rfl) (.nil))) rfl) (.cons (.c (.id rfl)) (.nil))))⟩
 conv=>whnf
 refine ixg_c (f:=V.y8) (T:=[(10:Int),(9:Int)]) H rfl rfl (fun x25 H=>?_);conv=>whnf
 refine ask_c (p_pair_Say_v _ _ _) H rfl rfl (fun v26 H=>?_);conv=>whnf
 refine lq_ ?_;conv=>whnf
 refine lq_ ?_;conv=>whnf
 refine tst_c H (fun b27 H=>?_) (fun b27 H=>?_)
 ·conv=>whnf
  refine lq_ ?_;conv=>whnf
  refine lq_ ?_;conv=>whnf
  obtain rfl:=Option.some.inj H
  have H:=HQ8
  try dsimp only at H
  refine finR_c (enc:=(fun r:Ref22State × Ar2_Bool × Int=>.tup [Ref22State.v r.1,Ar2_Bool.v r.2.1,V.i r.2.2])) H ?_;conv=>whnf
  exact ⟨_,.tup (.cons (fzagg (.cons (.id rfl) (.cons (.id rfl) (.cons (.slw) (.cons (.slw) (.cons (.id rfl) (.cons (.id rfl) (.cons (.slw) (.cons (.slw) (.nil))))))))) rfl) (.cons (fzagg (.cons (.id rfl) (.cons (.id rfl) (.nil))) rfl) (.cons (.c (.id rfl)) (.nil))))⟩
 conv=>whnf
 refine lq_ ?_;conv=>whnf
 refine ixd2_c H (fun H=>?_) (fun H=>?_)
 ·conv=>whnf
  refine lq_ ?_;conv=>whnf
  refine FootQ.mk ⟨rfl,?_⟩;conv=>whnf
  refine Ari.w ?_;conv=>whnf
  exact again_c [12,13,14,15,16,44,45,46,47,48,49,50,51,52,53,54,55,56,57,58,59,60,61,62,63,64,65,9,30,32] n9 6 [] (.inr (⟨_,_,_,H,rfl,rfl⟩)) (Nat.lt_succ_self _) (Nat.zero_le _) rfl (by kernel_rfl) (by kernel_rfl) rfl ⟨⟨rfl,rfl,rfl⟩,⟨⟨rfl,rfl,rfl⟩,⟨⟨rfl,rfl,rfl⟩,⟨⟨rfl,rfl,rfl⟩,⟨⟨rfl,rfl,rfl⟩,⟨⟨rfl,rfl,rfl⟩,trivial⟩⟩⟩⟩⟩⟩
 conv=>whnf
 refine lq_ ?_;conv=>whnf
 refine FootQ.mk ⟨rfl,?_⟩;conv=>whnf
 refine Ari.w ?_;conv=>whnf
 exact again_c [12,13,14,15,16,44,45,46,47,48,49,50,51,52,53,54,55,56,57,58,59,60,61,62,63,64,65,9,30,32] n9 6 [] (.inr (⟨_,_,_,H,rfl,rfl⟩)) (Nat.lt_succ_self _) (Nat.zero_le _) rfl (by kernel_rfl) (by kernel_rfl) rfl ⟨⟨rfl,rfl,rfl⟩,⟨⟨rfl,rfl,rfl⟩,⟨⟨rfl,rfl,rfl⟩,⟨⟨rfl,rfl,rfl⟩,⟨⟨rfl,rfl,rfl⟩,⟨⟨rfl,rfl,rfl⟩,trivial⟩⟩⟩⟩⟩⟩
def gc30:BCode:=(.seq (R_ 2 [O_ 2 (.bx (t_ 0)) 0,O_ 3 (.bx (t_ 1)) 1,O_ 4 (.mv (b_ false)) 2]) (.seq (.reg 0 [O_ 5 (.ld 2 true (t_ 2)) 0,O_ 6 (.ld 8 true (t_ 3)) 0,O_ 7 (.cl 31 [(t_ 5),(t_ 6)]) 0,O_ 8 (.bin .eql (t_ 7) (i_ 0)) 0,O_ 9 (.mv (t_ 8)) 0,⟨(some 10),.ld 8 true (t_ 3),(some (9,true)),0⟩,⟨(some 11),.ld 2 true (t_ 2),(some (9,true)),0⟩,⟨(some 12),.cl 64 [(t_ 10),(t_ 11)],(some (9,true)),0⟩,⟨(some 13),.ld 8 true (t_ 3),(some (9,true)),0⟩,⟨(some 14),.cl 63 [(t_ 13)],(some (9,true)),0⟩,⟨(some 15),.ld 2 true (t_ 2),(some (9,true)),0⟩,⟨(some 16),.cl 62 [(t_ 15)],(some (9,true)),0⟩,⟨(some 17),.cl 64 [(t_ 14),(t_ 16)],(some (9,true)),0⟩,⟨(some 18),.cl 69 [(t_ 12),(t_ 17)],(some (9,true)),0⟩,O_ 19 (.pick (t_ 9) (t_ 18) (b_ false)) 0,O_ 4 (.mv (t_ 19)) 0] (some [[],[],[1,0],[0,1,2],[2,1,0,3],[3,0,1,2,4],[3,0,1,2,4],[6,4,2,1,0,3,5],[3,0,1,2,4],[5,6,7,4,2,1,0,3,8],[3,0,1,2,4],[8,7,6,5,9,4,2,1,0,3,10],[10,11,8,3,0,1,2,4,7,6,5,9],[9,8,11,10,12,5,3,0,1,2,4,6,7],[7,6,5,12,10,11,8,9,13,3,0,1,2,4],[4,2,1,0,3,13,9,8,11,10,12,5,6,7,14]]) 0 []) .ret))
theorem gc30_ok:compF Try.prog Try.f30=some (gc30.er,20,[.tmp 4]):=by unfold gc30;kernel_rfl
theorem p_pair_Agree_v {u1 u2 u3 u4:Bool} (a0:Ref22Names) (a1:Ref22State):CallsO Try.prog 30 [.agg [.s a0.A,.s a0.B],.agg [.i a1.A.Ver,.i a1.A.Floor,.sl (List.map ItemItem.v a1.A.Items) u1,.sl (List.map RosterGone.v a1.A.Gone) u2,.i a1.B.Ver,.i a1.B.Floor,.sl (List.map ItemItem.v a1.B.Items) u3,.sl (List.map RosterGone.v a1.B.Gone) u4]] V.b (p_pair_Agree a0 a1):=by
 refine callsO_comp mix Try.func30 gc30_ok fun r H=>?_
 rw [p_pair_Agree] at H
 conv=>whnf
 refine ask_c (p_pair_Check_v _ _) H rfl rfl (fun v1 H=>?_);conv=>whnf
 refine tst_d H (fun b2 H=>?_) (fun b2 H=>?_)
 ·conv=>whnf
  iterate 9 (refine Tst.F ?_;conv=>whnf)
  refine FootQ.mk ⟨rfl,?_⟩;conv=>whnf
  exact fb_ H
 conv=>whnf
 iterate 2 (refine Tst.T ?_;conv=>whnf)
 refine ask_c (p_pair_State_has_v _ _) H rfl rfl (fun v3 H=>?_);conv=>whnf
 iterate 2 (refine Tst.T ?_;conv=>whnf)
 refine ask_c (p_pair_State_turn_v _) H rfl rfl (fun v4 H=>?_);conv=>whnf
 iterate 2 (refine Tst.T ?_;conv=>whnf)
 refine ask_c (p_pair_Names_turn_v _) H rfl rfl (fun v5 H=>?_);conv=>whnf
 refine Tst.T ?_;conv=>whnf
 refine ask_c (p_pair_State_has_v _ _) H rfl rfl (fun v6 H=>?_);conv=>whnf
 refine Tst.T ?_;conv=>whnf
 refine ask_c (p_subs_Agree_v _ _) H rfl rfl (fun v7 H=>?_);conv=>whnf
 refine Tst.T ?_;conv=>whnf
 refine FootQ.mk ⟨rfl,?_⟩;conv=>whnf
 exact fb_ H
def gc28:BCode:=(.seq (R_ 2 [O_ 2 (.bx (t_ 0)) 0,O_ 3 (.bx (t_ 1)) 1,O_ 4 (.mv (b_ false)) 2]) (.seq (R_ 0 [O_ 5 (.ld 2 true (t_ 2)) 0,O_ 6 (.ld 8 true (t_ 3)) 0,O_ 7 (.cl 31 [(t_ 5),(t_ 6)]) 0,O_ 8 (.bin .eql (t_ 7) (i_ 0)) 0,O_ 9 (.mv (t_ 8)) 0,⟨(some 10),.ld 8 true (t_ 3),(some (9,true)),0⟩,⟨(some 11),.ld 2 true (t_ 2),(some (9,true)),0⟩,⟨(some 12),.cl 64 [(t_ 10),(t_ 11)],(some (9,true)),0⟩,⟨(some 13),.bin .and (t_ 12) (i_ 1),(some (9,true)),0⟩,⟨(some 14),.bin .neq (t_ 13) (i_ 0),(some (9,true)),0⟩,O_ 15 (.pick (t_ 9) (t_ 14) (b_ false)) 0,O_ 4 (.mv (t_ 15)) 0]) .ret))
theorem gc28_ok:compF Try.prog Try.f28=some (gc28.er,16,[.tmp 4]):=by unfold gc28;kernel_rfl
theorem p_pair_Sees_v {u1 u2 u3 u4:Bool} (a0:Ref22Names) (a1:Ref22State):CallsO Try.prog 28 [.agg [.s a0.A,.s a0.B],.agg [.i a1.A.Ver,.i a1.A.Floor,.sl (List.map ItemItem.v a1.A.Items) u1,.sl (List.map RosterGone.v a1.A.Gone) u2,.i a1.B.Ver,.i a1.B.Floor,.sl (List.map ItemItem.v a1.B.Items) u3,.sl (List.map RosterGone.v a1.B.Gone) u4]] V.b (p_pair_Sees a0 a1):=by
 refine callsO_comp mix Try.func28 gc28_ok fun r H=>?_
 rw [p_pair_Sees] at H
 conv=>whnf
 refine ask_c (p_pair_Check_v _ _) H rfl rfl (fun v1 H=>?_);conv=>whnf
 refine tst_d H (fun b2 H=>?_) (fun b2 H=>?_)
 ·conv=>whnf
  iterate 5 (refine Tst.F ?_;conv=>whnf)
  exact fb_ H
 conv=>whnf
 iterate 2 (refine Tst.T ?_;conv=>whnf)
 refine ask_c (p_pair_State_has_v _ _) H rfl rfl (fun v3 H=>?_);conv=>whnf
 iterate 3 (refine Tst.T ?_;conv=>whnf)
 exact fb_ H
def gc26:BCode:=(.seq (R_ 4 [O_ 2 (.bx (t_ 0)) 0,O_ 3 (.bx (t_ 1)) 1,O_ 4 (.al (.agg [(.lit (.string ⟨#[]⟩)),(.lit (.string ⟨#[]⟩))])) 2,O_ 5 (.al (.agg [(.lit (.int .i64 0)),(.lit (.int .i64 0)),(.sl [] true),(.sl [] true),(.lit (.int .i64 0)),(.lit (.int .i64 0)),(.sl [] true),(.sl [] true)])) 3]) (.seq (.reg 0 [O_ 6 (.ld 2 true (t_ 2)) 0,O_ 7 (.cl 62 [(t_ 6)]) 0,O_ 8 (.ld 8 true (t_ 3)) 0,O_ 9 (.cl 63 [(t_ 8)]) 0,U_ (.st 2 (t_ 4) (t_ 7)) 0,U_ (.st 8 (t_ 5) (t_ 9)) 0] (some [[],[0],[],[0,1,2],[2,3,0,1],[4,2,1,0,3]]) 0 []) .ret))
theorem gc26_ok:compF Try.prog Try.f26=some (gc26.er,10,[.cell 4 2 true,.cell 5 8 true]):=by unfold gc26;kernel_rfl
theorem p_pair_Turn_v {u1 u2 u3 u4:Bool} (a0:Ref22Names) (a1:Ref22State):CallsO Try.prog 26 [.agg [.s a0.A,.s a0.B],.agg [.i a1.A.Ver,.i a1.A.Floor,.sl (List.map ItemItem.v a1.A.Items) u1,.sl (List.map RosterGone.v a1.A.Gone) u2,.i a1.B.Ver,.i a1.B.Floor,.sl (List.map ItemItem.v a1.B.Items) u3,.sl (List.map RosterGone.v a1.B.Gone) u4]] (fun r:Ref22Names × Ref22State=>.tup [Ref22Names.v r.1,Ref22State.v r.2]) (p_pair_Turn a0 a1):=by
 refine callsO_comp mix Try.func26 gc26_ok fun r H=>?_
 rw [p_pair_Turn] at H
 conv=>whnf
 refine ask_c (p_pair_Names_turn_v _) H rfl rfl (fun v1 H=>?_);conv=>whnf
 refine ask_c (p_pair_State_turn_v _) H rfl rfl (fun v2 H=>?_);conv=>whnf
 refine lq_ ?_;conv=>whnf
 refine lq_ ?_;conv=>whnf
 refine FootQ.mk ⟨rfl,?_⟩;conv=>whnf
 exact fin0_c (enc:=(fun r:Ref22Names × Ref22State=>.tup [Ref22Names.v r.1,Ref22State.v r.2])) H (.inr rfl) (.cons (.cell rfl rfl (Nat.le_of_ble_eq_true rfl)) (.cons (.cell rfl rfl (Nat.le_of_ble_eq_true rfl)) (.nil))) rfl rfl
end Go.Proofs.Ytmmmcpeickfolaa

namespace Go.Proofs.Ytmmmcpeickfolaa
open Go.RowKit
set_option maxRecDepth 100000
set_option maxHeartbeats 4000000
def gc59:BCode:=(.seq (R_ 3 [O_ 3 (.bx (t_ 0)) 0,O_ 4 (.bx (t_ 1)) 1,O_ 6 (.al (.agg [(.lit (.int .i64 0)),(.lit (.int .i64 0)),(.sl [] true),(.sl [] true),(.lit (.int .i64 0)),(.lit (.int .i64 0)),(.sl [] true),(.sl [] true)])) 2,O_ 7 (.mv (.const (.slice none 0 0))) 3]) (.seq (R_ 0 [O_ 14 (.ld 2 true (t_ 3)) 0,O_ 15 (.mf (.yield 62) [(t_ 14)]) 0,O_ 8 (.mv (t_ 15)) 0]) (.seq (R_ 0 [O_ 9 (.mv (.const (.slice none 0 0))) 0]) (.seq (.seq (R_ 0 [O_ 16 (.mv (t_ 2)) 0,O_ 17 (.lens (t_ 16)) 0,O_ 18 (.mv (i_ 0)) 0]) (.block 0 (.loop (.seq (R_ 0 [O_ 19 (.bin .lss (t_ 18) (t_ 17)) 0]) (.seq (.cond (t_ 19) .skip (.exit 0)) (.seq (.block 1 (.seq (R_ 1 [O_ 20 (.ixs 2 (t_ 16) (t_ 18)) 0,O_ 21 (.ld 2 true (t_ 20)) 0,O_ 11 (.al (.agg [(.lit (.int .u8 0)),(.lit (.bool false))])) 0,U_ (.st 2 (t_ 11) (t_ 21)) 1]) (.seq (R_ 1 [O_ 12 (.al (.agg [(.lit (.bool false)),(.lit (.bool false)),(.lit (.bool false)),(.lit (.bool false))])) 0]) (.seq (.seq (R_ 0 [O_ 22 (.fa 1 (t_ 11)) 0,O_ 23 (.ld 1 false (t_ 22)) 0]) (.cond (t_ 23) (.seq (R_ 1 [O_ 13 (.al (.agg [(.lit (.int .i64 0)),(.lit (.int .i64 0)),(.sl [] true),(.sl [] true),(.lit (.int .i64 0)),(.lit (.int .i64 0)),(.sl [] true),(.sl [] true)])) 0]) (.seq (.reg 0 [O_ 25 (.mv (t_ 8)) 0,O_ 26 (.cv (t_ 25) []) 0,O_ 27 (.ld 8 true (t_ 4)) 0,O_ 28 (.cl 63 [(t_ 27)]) 0,O_ 29 (.fa 0 (t_ 11)) 0,O_ 30 (.ld 1 false (t_ 29)) 0,O_ 31 (.cl 29 [(t_ 26),(t_ 28),(t_ 30)]) 0,O_ 24 (.mv (t_ 31)) 0,O_ 32 (.ex (t_ 24) 0) 0,O_ 33 (.ex (t_ 24) 1) 0,O_ 34 (.ex (t_ 24) 2) 0,U_ (.st 8 (t_ 13) (t_ 32)) 0,U_ (.st 4 (t_ 12) (t_ 33)) 0] (some [[],[0],[],[0,1,2],[],[4],[4,5,2,3,0,1],[1,0,3,2,5,4,6],[6,4,5,2,3,0,1,7],[6,4,5,2,3,0,1,7],[6,4,5,2,3,0,1,7],[7,1,0,3,2,5,4,6,8],[8,11,7,1,0,3,2,5,4,6,9]]) 0 []) (R_ 0 [O_ 35 (.ld 8 true (t_ 13)) 0,O_ 36 (.cl 63 [(t_ 35)]) 0,U_ (.st 8 (t_ 4) (t_ 36)) 0]))) (R_ 0 [O_ 38 (.ld 2 true (t_ 3)) 0,O_ 39 (.ld 8 true (t_ 4)) 0,O_ 40 (.fa 0 (t_ 11)) 0,O_ 41 (.ld 1 false (t_ 40)) 0,O_ 42 (.cl 29 [(t_ 38),(t_ 39),(t_ 41)]) 0,O_ 37 (.mv (t_ 42)) 0,O_ 43 (.ex (t_ 37) 0) 0,O_ 44 (.ex (t_ 37) 1) 0,O_ 45 (.ex (t_ 37) 2) 0,U_ (.st 8 (t_ 4) (t_ 43)) 0,U_ (.st 4 (t_ 12) (t_ 44)) 0]))) (R_ 2 [O_ 46 (.mv (t_ 9)) 0,O_ 47 (.ld 4 true (t_ 12)) 0,O_ 48 (.bs 4 1 [(.lit (.bool false)),(.lit (.bool false)),(.lit (.bool false)),(.lit (.bool false))] [(0,(t_ 47))]) 0,O_ 49 (.ap 4 4 (t_ 46) (t_ 48)) 1,O_ 9 (.mv (t_ 49)) 2]))))) (R_ 0 [O_ 50 (.bin .add (t_ 18) (i_ 1)) 0,O_ 18 (.mv (t_ 50)) 0]))))))) (.seq (R_ 0 [O_ 51 (.ld 8 true (t_ 4)) 0,O_ 52 (.mv (t_ 9)) 0,U_ (.st 8 (t_ 6) (t_ 51)) 0,O_ 7 (.mv (t_ 52)) 0]) .ret)))))
theorem gc59_ok:compF Try.prog Try.f59=some (gc59.er,53,[.cell 6 8 true,.tmp 7]):=by unfold gc59;kernel_rfl
theorem p_pair_Run_v {u1 u2 u3 u4 u5:Bool} (a0:Ref22Names) (a1:Ref22State) (a2:List PairAct):CallsO Try.prog 59 [.agg [.s a0.A,.s a0.B],.agg [.i a1.A.Ver,.i a1.A.Floor,.sl (List.map ItemItem.v a1.A.Items) u1,.sl (List.map RosterGone.v a1.A.Gone) u2,.i a1.B.Ver,.i a1.B.Floor,.sl (List.map ItemItem.v a1.B.Items) u3,.sl (List.map RosterGone.v a1.B.Gone) u4],.sl (List.map PairAct.v a2) u5] (fun r:Ref22State × (List PairDone)=>.tup [Ref22State.v r.1,(fun l:List PairDone=>V.sl (l.map PairDone.v) false) r.2]) (p_pair_Run a0 a1 a2):=by
 refine callsO_comp mix Try.func59 gc59_ok fun r H=>?_
 rw [p_pair_Run] at H
 conv=>whnf
 refine LenQ.M ?_;conv=>whnf
 obtain ⟨o2,HL3,HQ4⟩:=bind_c H
 refine loop_c [9,18] [11,12,13,19,20,21,22,23,24,25,26,27,28,29,30,31,32,33,34,35,36,37,38,39,40,41,42,43,44,45,46,47,48,49,50] [11,12,13,19,20,21,22,23,24,25,26,27,28,29,30,31,32,33,34,35,36,37,38,39,40,41,42,43,44,45,46,47,48,49,50] (fun n vals st=>(∃ y6 y7,p_pair_Run_l1  a0.A a0.B a2 (a2.length:Int) a0 n [] y6 y7=some o2∧vals=[.sl (List.map PairDone.v []) true,.i y6]∧st=[.live [.s a0.A,.s a0.B] 0,.live [.i y7.A.Ver,.i y7.A.Floor,.sl (List.map ItemItem.v y7.A.Items) u1,.sl (List.map RosterGone.v y7.A.Gone) u2,.i y7.B.Ver,.i y7.B.Floor,.sl (List.map ItemItem.v y7.B.Items) u3,.sl (List.map RosterGone.v y7.B.Gone) u4] 0,.live [.i (0:Int),.i (0:Int),.sl (List.map ItemItem.v []) true,.sl (List.map RosterGone.v []) true,.i (0:Int),.i (0:Int),.sl (List.map ItemItem.v []) true,.sl (List.map RosterGone.v []) true] 0])∨(∃ y16 y17 y18,p_pair_Run_l1  a0.A a0.B a2 (a2.length:Int) a0 n y16 y17 y18=some o2∧vals=[.osl 3 0 (List.length y16) 4 false,.i y17]∧st=[.live [.s a0.A,.s a0.B] 0,.live [.i y18.A.Ver,.i y18.A.Floor,.sl (List.map ItemItem.v y18.A.Items) false,.sl (List.map RosterGone.v y18.A.Gone) false,.i y18.B.Ver,.i y18.B.Floor,.sl (List.map ItemItem.v y18.B.Items) false,.sl (List.map RosterGone.v y18.B.Gone) false] 0,.live [.i (0:Int),.i (0:Int),.sl (List.map ItemItem.v []) true,.sl (List.map RosterGone.v []) true,.i (0:Int),.i (0:Int),.sl (List.map ItemItem.v []) true,.sl (List.map RosterGone.v []) true] 0,.live (cellsM PairDone.v y16) (cellsM PairDone.v y16).length])) fuel 3 [] (.inl (⟨_,_,HL3,rfl,rfl⟩)) (Nat.zero_le _) rfl (by kernel_rfl) (by kernel_rfl) rfl ⟨⟨rfl,rfl,rfl⟩,⟨⟨rfl,rfl,rfl⟩,⟨⟨rfl,rfl,rfl⟩,trivial⟩⟩⟩ ?_
 rintro (_ | n5) _ _ (⟨y6,y7,H,rfl,rfl⟩ | ⟨y16,y17,y18,H,rfl,rfl⟩)
 ·rw [p_pair_Run_l1] at H;cases H
 ·rw [p_pair_Run_l1] at H;cases H
 ·rw [p_pair_Run_l1] at H
  conv=>whnf
  refine tst_d H (fun b8 H=>?_) (fun b8 H=>?_)
  ·conv=>whnf
   obtain rfl:=Option.some.inj H
   have H:=HQ4
   try dsimp only at H
   refine lq_ ?_;conv=>whnf
   refine finR_c (enc:=(fun r:Ref22State × (List PairDone)=>.tup [Ref22State.v r.1,(fun l:List PairDone=>V.sl (l.map PairDone.v) false) r.2])) H ?_;conv=>whnf
   exact ⟨_,.tup (.cons (fzagg (.cons (.id rfl) (.cons (.id rfl) (.cons (.slw) (.cons (.slw) (.cons (.id rfl) (.cons (.id rfl) (.cons (.slw) (.cons (.slw) (.nil))))))))) rfl) (.cons (.c (.slw)) (.nil)))⟩
  conv=>whnf
  refine ixs_c (f:=PairAct.v) H (fun _=>rfl) (fun x9 H=>?_);conv=>whnf
  refine lq_ ?_;conv=>whnf
  refine tst_d H (fun b10 H=>?_) (fun b10 H=>?_)
  ·conv=>whnf
   refine ask_c (p_pair_Say_v _ _ _) H rfl rfl (fun v19 H=>?_);conv=>whnf
   refine lq_ ?_;conv=>whnf
   refine lq_ ?_;conv=>whnf
   refine appN_c (f:=PairDone.v) H (fun _=>rfl) (srcM (f:=PairDone.v) (fun _=>rfl) [] true) rfl (.v (srcOwn (f:=PairDone.v) (l:=[v19.2.1]) (fun _=>rfl) rfl rfl rfl)) (by decide) rfl (by simp) (fun l20 H=>?_);conv=>whnf
   refine Ari.w ?_;conv=>whnf
   exact again_c [11,12,13,19,20,21,22,23,24,25,26,27,28,29,30,31,32,33,34,35,36,37,38,39,40,41,42,43,44,45,46,47,48,49,50] n5 4 [0,1,2,6] (.inr (⟨_,_,_,H,rfl,rfl⟩)) (Nat.lt_succ_self _) (Nat.zero_le _) rfl (by kernel_rfl) (by kernel_rfl) rfl ⟨⟨rfl,rfl,rfl⟩,⟨⟨rfl,rfl,rfl⟩,⟨⟨rfl,rfl,rfl⟩,wkB_live0 rfl (cellsM_idlt (f:=PairDone.v) (fun _=>rfl) _) rfl trivial⟩⟩⟩
  conv=>whnf
  refine ⟨⟨_,Try.func62,by kernel_rfl,by kernel_rfl⟩,ask_c (p_pair_Names_turn_v _) H rfl rfl (fun v11 H=>?_)⟩;conv=>whnf
  refine ask_c (p_pair_State_turn_v _) H rfl rfl (fun v12 H=>?_);conv=>whnf
  refine ask_c (p_pair_Say_v _ _ _) H rfl rfl (fun v13 H=>?_);conv=>whnf
  refine lq_ ?_;conv=>whnf
  refine lq_ ?_;conv=>whnf
  refine FootQ.mk ⟨rfl,?_⟩;conv=>whnf
  refine ask_c (p_pair_State_turn_v _) H rfl rfl (fun v14 H=>?_);conv=>whnf
  refine lq_ ?_;conv=>whnf
  refine appN_c (f:=PairDone.v) H (fun _=>rfl) (srcM (f:=PairDone.v) (fun _=>rfl) [] true) rfl (.v (srcOwn (f:=PairDone.v) (l:=[v13.2.1]) (fun _=>rfl) rfl rfl rfl)) (by decide) rfl (by simp) (fun l15 H=>?_);conv=>whnf
  refine Ari.w ?_;conv=>whnf
  exact again_c [11,12,13,19,20,21,22,23,24,25,26,27,28,29,30,31,32,33,34,35,36,37,38,39,40,41,42,43,44,45,46,47,48,49,50] n5 4 [0,1,2,7] (.inr (⟨_,_,_,H,rfl,rfl⟩)) (Nat.lt_succ_self _) (Nat.zero_le _) rfl (by kernel_rfl) (by kernel_rfl) rfl ⟨⟨rfl,rfl,rfl⟩,⟨⟨rfl,rfl,rfl⟩,⟨⟨rfl,rfl,rfl⟩,wkB_live0 rfl (cellsM_idlt (f:=PairDone.v) (fun _=>rfl) _) rfl trivial⟩⟩⟩
 rw [p_pair_Run_l1] at H
 conv=>whnf
 refine tst_d H (fun b21 H=>?_) (fun b21 H=>?_)
 ·conv=>whnf
  obtain rfl:=Option.some.inj H
  have H:=HQ4
  try dsimp only at H
  refine lq_ ?_;conv=>whnf
  refine finR_c (enc:=(fun r:Ref22State × (List PairDone)=>.tup [Ref22State.v r.1,(fun l:List PairDone=>V.sl (l.map PairDone.v) false) r.2])) H ?_;conv=>whnf
  exact ⟨_,.tup (.cons (fzagg (.cons (.id rfl) (.cons (.id rfl) (.cons (.id rfl) (.cons (.id rfl) (.cons (.id rfl) (.cons (.id rfl) (.cons (.id rfl) (.cons (.id rfl) (.nil))))))))) rfl) (.cons (.c (fzown (f:=PairDone.v) (l:=y16) rfl rfl (fun _=>rfl) (fun _=>rfl))) (.nil)))⟩
 conv=>whnf
 refine ixs_c (f:=PairAct.v) H (fun _=>rfl) (fun x22 H=>?_);conv=>whnf
 refine lq_ ?_;conv=>whnf
 refine tst_d H (fun b23 H=>?_) (fun b23 H=>?_)
 ·conv=>whnf
  refine ask_c (p_pair_Say_v _ _ _) H rfl rfl (fun v29 H=>?_);conv=>whnf
  refine lq_ ?_;conv=>whnf
  refine lq_ ?_;conv=>whnf
  refine appO_c (f:=PairDone.v) H (fun _=>rfl) rfl (Nat.le_refl _) (.v (srcOwn (f:=PairDone.v) (l:=[v29.2.1]) (fun _=>rfl) rfl rfl rfl)) (by decide) rfl (by simp) (fun l30 H=>?_);conv=>whnf
  refine Ari.w ?_;conv=>whnf
  exact again_c [11,12,13,19,20,21,22,23,24,25,26,27,28,29,30,31,32,33,34,35,36,37,38,39,40,41,42,43,44,45,46,47,48,49,50] n5 4 [0,1,2,7] (.inr (⟨_,_,_,H,rfl,rfl⟩)) (Nat.lt_succ_self _) (Nat.zero_le _) rfl (by kernel_rfl) (by kernel_rfl) rfl ⟨⟨rfl,rfl,rfl⟩,⟨⟨rfl,rfl,rfl⟩,⟨⟨rfl,rfl,rfl⟩,wkB_live0 rfl (cellsM_idlt (f:=PairDone.v) (fun _=>rfl) _) rfl trivial⟩⟩⟩
 conv=>whnf
 refine ⟨⟨_,Try.func62,by kernel_rfl,by kernel_rfl⟩,ask_c (p_pair_Names_turn_v _) H rfl rfl (fun v24 H=>?_)⟩;conv=>whnf
 refine ask_c (p_pair_State_turn_v _) H rfl rfl (fun v25 H=>?_);conv=>whnf
 refine ask_c (p_pair_Say_v _ _ _) H rfl rfl (fun v26 H=>?_);conv=>whnf
 refine lq_ ?_;conv=>whnf
 refine lq_ ?_;conv=>whnf
 refine FootQ.mk ⟨rfl,?_⟩;conv=>whnf
 refine ask_c (p_pair_State_turn_v _) H rfl rfl (fun v27 H=>?_);conv=>whnf
 refine lq_ ?_;conv=>whnf
 refine appO_c (f:=PairDone.v) H (fun _=>rfl) rfl (Nat.le_refl _) (.v (srcOwn (f:=PairDone.v) (l:=[v26.2.1]) (fun _=>rfl) rfl rfl rfl)) (by decide) rfl (by simp) (fun l28 H=>?_);conv=>whnf
 refine Ari.w ?_;conv=>whnf
 exact again_c [11,12,13,19,20,21,22,23,24,25,26,27,28,29,30,31,32,33,34,35,36,37,38,39,40,41,42,43,44,45,46,47,48,49,50] n5 4 [0,1,2,8] (.inr (⟨_,_,_,H,rfl,rfl⟩)) (Nat.lt_succ_self _) (Nat.zero_le _) rfl (by kernel_rfl) (by kernel_rfl) rfl ⟨⟨rfl,rfl,rfl⟩,⟨⟨rfl,rfl,rfl⟩,⟨⟨rfl,rfl,rfl⟩,wkB_live0 rfl (cellsM_idlt (f:=PairDone.v) (fun _=>rfl) _) rfl trivial⟩⟩⟩
def gc60:BCode:=(.seq (R_ 0 [O_ 4 (.mv (b_ false)) 0]) (.seq (.seq (R_ 0 [O_ 6 (.mv (t_ 0)) 0,O_ 7 (.lens (t_ 6)) 0,O_ 8 (.mv (t_ 1)) 0,O_ 9 (.lens (t_ 8)) 0,O_ 10 (.bin .neq (t_ 7) (t_ 9)) 0]) (.cond (t_ 10) (.seq (R_ 0 [O_ 4 (.mv (b_ false)) 0]) .ret) .skip)) (.seq (.seq (R_ 0 [O_ 5 (.mv (i_ 0)) 0]) (.block 0 (.loop (.seq (.seq (R_ 0 [O_ 11 (.mv (t_ 5)) 0,O_ 12 (.mv (t_ 0)) 0,O_ 13 (.lens (t_ 12)) 0,O_ 14 (.bin .lss (t_ 11) (t_ 13)) 0]) (.cond (t_ 14) .skip (.exit 0))) (.seq (.block 1 (.seq (.reg 0 [O_ 17 (.mv (t_ 0)) 0,O_ 18 (.mv (t_ 5)) 0,O_ 19 (.ixs 4 (t_ 17) (t_ 18)) 0,O_ 20 (.ld 4 true (t_ 19)) 0,O_ 21 (.mv (t_ 1)) 0,O_ 22 (.mv (t_ 5)) 0,O_ 23 (.ixs 4 (t_ 21) (t_ 22)) 0,O_ 24 (.ld 4 true (t_ 23)) 0,O_ 25 (.eqa true [0,0,0,0] (t_ 20) (t_ 24)) 0] (some [[],[],[1,0],[0,1,2],[],[],[5,4],[4,5,6],[6,5,4,7,2,1,0,3]]) 0 []) (.cond (t_ 25) (.seq (R_ 0 [O_ 4 (.mv (b_ false)) 0]) .ret) .skip))) (R_ 0 [O_ 15 (.mv (t_ 5)) 0,O_ 16 (.bin .add (t_ 15) (i_ 1)) 0,O_ 5 (.mv (t_ 16)) 0])))))) (.seq (R_ 0 [O_ 4 (.mv (b_ true)) 0]) .ret))))
theorem gc60_ok:compF Try.prog Try.f60=some (gc60.er,26,[.tmp 4]):=by unfold gc60;kernel_rfl
theorem p_ref22_SameDone_v {u1 u2:Bool} (a0:List PairDone) (a1:List PairDone):CallsO Try.prog 60 [.sl (List.map PairDone.v a0) u1,.sl (List.map PairDone.v a1) u2] V.b (p_ref22_SameDone a0 a1):=by
 refine callsO_comp mix Try.func60 gc60_ok fun r H=>?_
 rw [p_ref22_SameDone] at H
 conv=>whnf
 iterate 2 (refine LenQ.M ?_;conv=>whnf)
 refine tst_c H (fun b1 H=>?_) (fun b1 H=>?_)
 ·conv=>whnf
  exact fb_ H
 conv=>whnf
 obtain ⟨o3,HL4,HQ5⟩:=bind_c H
 refine loop_c [4,5] [11,12,13,14,15,16,17,18,19,20,21,22,23,24,25] [11,12,13,14,15,16,17,18,19,20,21,22,23,24,25] (fun n vals st=>(∃ y7,p_ref22_SameDone_l1  a0 a1 n y7=some o3∧vals=[.b false,.i y7]∧st=[])) fuel 0 [] (⟨_,HL4,rfl,rfl⟩) (Nat.zero_le _) rfl (by kernel_rfl) (by kernel_rfl) rfl trivial ?_
 rintro (_ | n6) _ _ (⟨y7,H,rfl,rfl⟩)
 ·rw [p_ref22_SameDone_l1] at H;cases H
 rw [p_ref22_SameDone_l1] at H
 conv=>whnf
 refine LenQ.M ?_;conv=>whnf
 refine tst_d H (fun b8 H=>?_) (fun b8 H=>?_)
 ·conv=>whnf
  obtain rfl:=Option.some.inj H
  have H:=HQ5
  try dsimp only at H
  exact fb_ H
 conv=>whnf
 refine ixs_c (f:=PairDone.v) H (fun _=>rfl) (fun x9 H=>?_);conv=>whnf
 refine ixs_c (f:=PairDone.v) H (fun _=>rfl) (fun x10 H=>?_);conv=>whnf
 refine FootQ.mk ⟨rfl,?_⟩;conv=>whnf
 refine Tst.not ?_
 refine tst_d H (fun b11 H=>?_) (fun b11 H=>?_)
 ·conv=>whnf
  obtain rfl:=Option.some.inj H
  have H:=HQ5
  try dsimp only at H
  exact fb_ H
 conv=>whnf
 refine Ari.w ?_;conv=>whnf
 exact again_c [11,12,13,14,15,16,17,18,19,20,21,22,23,24,25] n6 0 [] (⟨_,H,rfl,rfl⟩) (Nat.lt_succ_self _) (Nat.zero_le _) rfl (by kernel_rfl) (by kernel_rfl) rfl trivial
def gc61:BCode:=(.seq (R_ 0 [O_ 2 (.mv (.const (.slice none 0 0))) 0]) (.seq (R_ 0 [O_ 3 (.mv (.const (.slice none 0 0))) 0]) (.seq (.seq (R_ 0 [O_ 4 (.mv (i_ 0)) 0]) (.block 0 (.loop (.seq (.seq (R_ 0 [O_ 5 (.mv (t_ 4)) 0,O_ 6 (.mv (t_ 0)) 0,O_ 7 (.lens (t_ 6)) 0,O_ 8 (.bin .lss (t_ 5) (t_ 7)) 0]) (.cond (t_ 8) .skip (.exit 0))) (.seq (.block 1 (R_ 2 [O_ 11 (.mv (t_ 3)) 0,O_ 12 (.mv (t_ 0)) 0,O_ 13 (.mv (t_ 4)) 0,O_ 14 (.ixs 4 (t_ 12) (t_ 13)) 0,O_ 15 (.ld 4 true (t_ 14)) 0,O_ 16 (.bs 4 1 [(.lit (.bool false)),(.lit (.bool false)),(.lit (.bool false)),(.lit (.bool false))] [(0,(t_ 15))]) 0,O_ 17 (.ap 4 4 (t_ 11) (t_ 16)) 1,O_ 3 (.mv (t_ 17)) 2])) (R_ 0 [O_ 9 (.mv (t_ 4)) 0,O_ 10 (.bin .add (t_ 9) (i_ 1)) 0,O_ 4 (.mv (t_ 10)) 0])))))) (.seq (R_ 0 [O_ 18 (.mv (t_ 3)) 0,O_ 2 (.mv (t_ 18)) 0]) .ret))))
theorem gc61_ok:compF Try.prog Try.f61=some (gc61.er,19,[.tmp 2]):=by unfold gc61;kernel_rfl
theorem p_law22_done_v {u1:Bool} (a0:List PairDone):CallsO Try.prog 61 [.sl (List.map PairDone.v a0) u1] (fun l:List PairDone=>V.sl (l.map PairDone.v) false) (p_law22_done a0):=by
 refine callsO_comp mix Try.func61 gc61_ok fun r H=>?_
 rw [p_law22_done] at H
 conv=>whnf
 obtain ⟨o2,HL3,HQ4⟩:=bind_c H
 refine loop_c [3,4] [5,6,7,8,9,10,11,12,13,14,15,16,17] [5,6,7,8,9,10,11,12,13,14,15,16,17] (fun n vals st=>(∃ y6,p_law22_done_l1  a0 n [] y6=some o2∧vals=[.sl (List.map PairDone.v []) true,.i y6]∧st=[])∨(∃ y10 y11,p_law22_done_l1  a0 n y10 y11=some o2∧vals=[.osl 0 0 (List.length y10) 4 false,.i y11]∧st=[.live (cellsM PairDone.v y10) (cellsM PairDone.v y10).length])) fuel 0 [] (.inl (⟨_,HL3,rfl,rfl⟩)) (Nat.zero_le _) rfl (by kernel_rfl) (by kernel_rfl) rfl trivial ?_
 rintro (_ | n5) _ _ (⟨y6,H,rfl,rfl⟩ | ⟨y10,y11,H,rfl,rfl⟩)
 ·rw [p_law22_done_l1] at H;cases H
 ·rw [p_law22_done_l1] at H;cases H
 ·rw [p_law22_done_l1] at H
  conv=>whnf
  refine LenQ.M ?_;conv=>whnf
  refine tst_d H (fun b7 H=>?_) (fun b7 H=>?_)
  ·conv=>whnf
   obtain rfl:=Option.some.inj H
   have H:=HQ4
   try dsimp only at H
   refine finR_c (enc:=(fun l:List PairDone=>V.sl (l.map PairDone.v) false)) H ?_;conv=>whnf
   exact ⟨_,.v (.c (.slw))⟩
  conv=>whnf
  refine ixs_c (f:=PairDone.v) H (fun _=>rfl) (fun x8 H=>?_);conv=>whnf
  refine appN_c (f:=PairDone.v) H (fun _=>rfl) (srcM (f:=PairDone.v) (fun _=>rfl) [] true) rfl (.v (srcOwn (f:=PairDone.v) (l:=[x8]) (fun _=>rfl) rfl rfl rfl)) (by decide) rfl (by simp) (fun l9 H=>?_);conv=>whnf
  refine Ari.w ?_;conv=>whnf
  exact again_c [5,6,7,8,9,10,11,12,13,14,15,16,17] n5 1 [1] (.inr (⟨_,_,H,rfl,rfl⟩)) (Nat.lt_succ_self _) (Nat.zero_le _) rfl (by kernel_rfl) (by kernel_rfl) rfl (wkB_live0 rfl (cellsM_idlt (f:=PairDone.v) (fun _=>rfl) _) rfl trivial)
 rw [p_law22_done_l1] at H
 conv=>whnf
 refine LenQ.M ?_;conv=>whnf
 refine tst_d H (fun b12 H=>?_) (fun b12 H=>?_)
 ·conv=>whnf
  obtain rfl:=Option.some.inj H
  have H:=HQ4
  try dsimp only at H
  refine finR_c (enc:=(fun l:List PairDone=>V.sl (l.map PairDone.v) false)) H ?_;conv=>whnf
  exact ⟨_,.v (.c (fzown (f:=PairDone.v) (l:=y10) rfl rfl (fun _=>rfl) (fun _=>rfl)))⟩
 conv=>whnf
 refine ixs_c (f:=PairDone.v) H (fun _=>rfl) (fun x13 H=>?_);conv=>whnf
 refine appO_c (f:=PairDone.v) H (fun _=>rfl) rfl (Nat.le_refl _) (.v (srcOwn (f:=PairDone.v) (l:=[x13]) (fun _=>rfl) rfl rfl rfl)) (by decide) rfl (by simp) (fun l14 H=>?_);conv=>whnf
 refine Ari.w ?_;conv=>whnf
 exact again_c [5,6,7,8,9,10,11,12,13,14,15,16,17] n5 1 [2] (.inr (⟨_,_,H,rfl,rfl⟩)) (Nat.lt_succ_self _) (Nat.zero_le _) rfl (by kernel_rfl) (by kernel_rfl) rfl (wkB_live0 rfl (cellsM_idlt (f:=PairDone.v) (fun _=>rfl) _) rfl trivial)
end Go.Proofs.Ytmmmcpeickfolaa

