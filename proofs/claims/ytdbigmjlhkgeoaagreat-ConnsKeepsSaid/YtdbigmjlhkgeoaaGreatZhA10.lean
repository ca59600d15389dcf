/- A part of the proof: 6 texts joined. -/
import Derived.Test.YtdbigmjlhkgeoaaGreatZhA6
import Derived.Test.YtdbigmjlhkgeoaaGreatZhA9
import Derived.Test.YtdbigmjlhkgeoaaGreatZeA11
import Derived.KernelRfl
import Derived.Test.YtdbigmjlhkgeoaaGreatZhA1
import Derived.Test.YtdbigmjlhkgeoaaGreatZhA8
set_option linter.all false
namespace Go.Proofs.YtdbigmjlhkgeoaaGreat
open Go.RowKit
set_option maxRecDepth 100000
set_option maxHeartbeats 4000000
def gc39:BCode:=(.seq (R_ 0 [O_ 4 (.mv (i_ 0)) 0,O_ 5 (.mv (b_ false)) 0]) (.seq (R_ 0 [O_ 6 (.mv (i_ 0)) 0]) (.seq (.block 0 (.loop (.seq (.seq (R_ 0 [O_ 7 (.mv (t_ 6)) 0,O_ 8 (.mv (t_ 0)) 0,O_ 9 (.lens (t_ 8)) 0,O_ 10 (.bin .lss (t_ 7) (t_ 9)) 0,O_ 11 (.mv (t_ 10)) 0,⟨(some 12),.mv (t_ 0),(some (11,true)),0⟩,⟨(some 13),.mv (t_ 6),(some (11,true)),0⟩,⟨(some 14),.ixs 8 (t_ 12) (t_ 13),(some (11,true)),0⟩,⟨(some 15),.fa 0 (t_ 14),(some (11,true)),0⟩,⟨(some 16),.ld 1 false (t_ 15),(some (11,true)),0⟩,⟨(some 17),.mv (t_ 1),(some (11,true)),0⟩,⟨(some 18),.bin .lss (t_ 16) (t_ 17),(some (11,true)),0⟩,O_ 19 (.pick (t_ 11) (t_ 18) (b_ false)) 0]) (.cond (t_ 19) .skip (.exit 0))) (.block 1 (R_ 0 [O_ 20 (.mv (t_ 6)) 0,O_ 21 (.bin .add (t_ 20) (i_ 1)) 0,O_ 6 (.mv (t_ 21)) 0]))))) (.seq (.reg 0 [O_ 22 (.mv (t_ 6)) 0,O_ 23 (.mv (t_ 6)) 0,O_ 24 (.mv (t_ 0)) 0,O_ 25 (.lens (t_ 24)) 0,O_ 26 (.bin .lss (t_ 23) (t_ 25)) 0,O_ 27 (.mv (t_ 26)) 0,⟨(some 28),.mv (t_ 0),(some (27,true)),0⟩,⟨(some 29),.mv (t_ 6),(some (27,true)),0⟩,⟨(some 30),.ixs 8 (t_ 28) (t_ 29),(some (27,true)),0⟩,⟨(some 31),.fa 0 (t_ 30),(some (27,true)),0⟩,⟨(some 32),.ld 1 false (t_ 31),(some (27,true)),0⟩,⟨(some 33),.mv (t_ 1),(some (27,true)),0⟩,⟨(some 34),.bin .eql (t_ 32) (t_ 33),(some (27,true)),0⟩,O_ 35 (.pick (t_ 27) (t_ 34) (b_ false)) 0,O_ 4 (.mv (t_ 22)) 0,O_ 5 (.mv (t_ 35)) 0] (some [[],[],[],[2],[2,3,1],[1,3,2,4],[4,2,3,1,5],[4,2,3,1,5],[7,5,1,3,2,4,6],[6,4,2,3,1,5,7,8],[8,7,5,1,3,2,4,6,9],[4,2,3,1,5],[11,9,6,4,2,3,1,5,7,8,10],[10,8,7,6,9,11,12,4,2,3,1,5],[4,2,3,1,5,0],[0,14,5,1,3,2,4,12,11,9,6,7,8,10,13]]) 0 []) .ret))))
theorem gc39_ok:compF Tryz.prog Tryz.f39=some (gc39.er,36,[.tmp 4,.tmp 5]):=by unfold gc39;kernel_rfl
theorem p_conns_State_find_v {u1:Bool} (a0:List ConnsConn) (a1:Int):CallsO Tryz.prog 39 [.sl (List.map ConnsConn.v a0) u1,.i a1] (fun r:Int × Bool=>.tup [V.i r.1,V.b r.2]) (p_conns_State_find a0 a1):=by
 refine callsO_comp mix Tryz.func39 gc39_ok fun r H=>?_
 rw [p_conns_State_find] at H
 conv=>whnf
 obtain ⟨o2,HL3,HQ4⟩:=bind_c H
 refine loop_c [6] [7,8,9,10,11,12,13,14,15,16,17,18,19,20,21] [7,8,9,10,11,12,13,14,15,16,17,18,19,20,21] (fun n vals st=>(∃ y6,p_conns_State_find_l1  a0 a1 n y6=some o2∧vals=[.i y6]∧st=[])) fuel 0 [] (⟨_,HL3,rfl,rfl⟩) (Nat.zero_le _) rfl (by kernel_rfl) (by kernel_rfl) rfl trivial ?_
 rintro (_ | n5) _ _ (⟨y6,H,rfl,rfl⟩)
 ·rw [p_conns_State_find_l1] at H;cases H
 rw [p_conns_State_find_l1] at H
 conv=>whnf
 refine LenQ.M ?_;conv=>whnf
 refine tst_d H (fun b7 H=>?_) (fun b7 H=>?_)
 ·conv=>whnf
  iterate 8 (refine Tst.F ?_;conv=>whnf)
  obtain rfl:=Option.some.inj H
  have H:=HQ4
  try dsimp only at H
  refine LenQ.M ?_;conv=>whnf
  refine tst_d H (fun b12 H=>?_) (fun b12 H=>?_)
  ·conv=>whnf
   iterate 7 (refine Tst.F ?_;conv=>whnf)
   refine FootQ.mk ⟨rfl,?_⟩;conv=>whnf
   exact fq_ H
  conv=>whnf
  iterate 2 (refine Tst.T ?_;conv=>whnf)
  refine ixs_c (f:=ConnsConn.v) H (fun _=>rfl) (fun x13 H=>?_);conv=>whnf
  refine Tst.T ?_;conv=>whnf
  refine lq_ ?_;conv=>whnf
  iterate 4 (refine Tst.T ?_;conv=>whnf)
  refine FootQ.mk ⟨rfl,?_⟩;conv=>whnf
  exact fq_ H
 conv=>whnf
 iterate 2 (refine Tst.T ?_;conv=>whnf)
 refine ixs_c (f:=ConnsConn.v) H (fun _=>rfl) (fun x8 H=>?_);conv=>whnf
 refine Tst.T ?_;conv=>whnf
 refine lq_ ?_;conv=>whnf
 iterate 4 (refine Tst.T ?_;conv=>whnf)
 refine tst_c H (fun b9 H=>?_) (fun b9 H=>?_)
 ·conv=>whnf
  refine Ari.w ?_;conv=>whnf
  exact again_c [7,8,9,10,11,12,13,14,15,16,17,18,19,20,21] n5 0 [] (⟨_,H,rfl,rfl⟩) (Nat.lt_succ_self _) (Nat.zero_le _) rfl (by kernel_rfl) (by kernel_rfl) rfl trivial
 conv=>whnf
 obtain rfl:=Option.some.inj H
 have H:=HQ4
 try dsimp only at H
 refine LenQ.M ?_;conv=>whnf
 refine tst_d H (fun b10 H=>?_) (fun b10 H=>?_)
 ·conv=>whnf
  iterate 7 (refine Tst.F ?_;conv=>whnf)
  refine FootQ.mk ⟨rfl,?_⟩;conv=>whnf
  exact fq_ H
 conv=>whnf
 iterate 2 (refine Tst.T ?_;conv=>whnf)
 refine ixs_c (f:=ConnsConn.v) H (fun _=>rfl) (fun x11 H=>?_);conv=>whnf
 refine Tst.T ?_;conv=>whnf
 refine lq_ ?_;conv=>whnf
 iterate 4 (refine Tst.T ?_;conv=>whnf)
 refine FootQ.mk ⟨rfl,?_⟩;conv=>whnf
 exact fq_ H
def gc10:BCode:=(.seq (R_ 0 [O_ 6 (.mv (.const (.slice none 0 0))) 0,O_ 7 (.mv (i_ 0)) 0]) (.seq (.seq (R_ 0 [O_ 12 (.mv (t_ 0)) 0,O_ 13 (.cl 30 [(t_ 12)]) 0,O_ 8 (.mv (t_ 13)) 0]) (.seq (R_ 0 [O_ 14 (.mv (t_ 8)) 0,O_ 15 (.bin .neq (t_ 14) (i_ 0)) 0]) (.cond (t_ 15) (.seq (R_ 0 [O_ 16 (.mv (t_ 0)) 0,O_ 17 (.mv (t_ 8)) 0,O_ 6 (.mv (t_ 16)) 0,O_ 7 (.mv (t_ 17)) 0]) .ret) .skip))) (.seq (R_ 1 [O_ 18 (.mv (t_ 1)) 0,O_ 19 (.mv (t_ 2)) 0,O_ 20 (.bd [(.lit (.int .i64 0)),(.lit (.int .i64 0)),(.lit (.string ⟨#[]⟩)),(.lit (.string ⟨#[]⟩)),(.lit (.int .i64 0)),(.lit (.string ⟨#[]⟩)),(.lit (.int .i64 0)),(.lit (.int .i64 0))] [(0,1,(t_ 18)),(1,1,(t_ 19))]) 0,O_ 9 (.al (.agg [(.lit (.int .i64 0)),(.lit (.int .i64 0)),(.lit (.string ⟨#[]⟩)),(.lit (.string ⟨#[]⟩)),(.lit (.int .i64 0)),(.lit (.string ⟨#[]⟩)),(.lit (.int .i64 0)),(.lit (.int .i64 0))])) 0,U_ (.st 8 (t_ 9) (t_ 20)) 1]) (.seq (R_ 0 [O_ 22 (.mv (t_ 0)) 0,O_ 23 (.mv (t_ 1)) 0,O_ 24 (.cl 39 [(t_ 22),(t_ 23)]) 0,O_ 21 (.mv (t_ 24)) 0,O_ 25 (.ex (t_ 21) 0) 0,O_ 26 (.ex (t_ 21) 1) 0,O_ 10 (.mv (t_ 25)) 0,O_ 11 (.mv (t_ 26)) 0]) (.seq (.block 0 (.seq (R_ 0 [O_ 28 (.ld 8 true (t_ 9)) 0,O_ 29 (.cl 40 [(t_ 28)]) 0,O_ 30 (.un .not (t_ 29)) 0,O_ 27 (.mv (t_ 30)) 0]) (.cond (t_ 27) (.seq (R_ 0 [O_ 31 (.mv (t_ 0)) 0,O_ 6 (.mv (t_ 31)) 0,O_ 7 (.mv (i_ 8)) 0]) .ret) (.seq (R_ 0 [O_ 33 (.mv (t_ 11)) 0,O_ 32 (.mv (t_ 33)) 0]) (.cond (t_ 32) (.seq (R_ 0 [O_ 34 (.mv (t_ 0)) 0,O_ 6 (.mv (t_ 34)) 0,O_ 7 (.mv (i_ 13)) 0]) .ret) (.seq (R_ 0 [O_ 36 (.mv (t_ 0)) 0,O_ 37 (.lens (t_ 36)) 0,O_ 38 (.bin .eql (t_ 37) (i_ 16)) 0,O_ 35 (.mv (t_ 38)) 0]) (.cond (t_ 35) (.seq (R_ 0 [O_ 39 (.mv (t_ 0)) 0,O_ 6 (.mv (t_ 39)) 0,O_ 7 (.mv (i_ 7)) 0]) .ret) .skip))))))) (.seq (.reg 1 [O_ 40 (.mv (t_ 0)) 0,O_ 41 (.cl 42 [(t_ 40)]) 0,O_ 42 (.mv (t_ 10)) 0,O_ 43 (.ld 8 true (t_ 9)) 0,O_ 44 (.bs 8 1 [(.lit (.int .i64 0)),(.lit (.int .i64 0)),(.lit (.string ⟨#[]⟩)),(.lit (.string ⟨#[]⟩)),(.lit (.int .i64 0)),(.lit (.string ⟨#[]⟩)),(.lit (.int .i64 0)),(.lit (.int .i64 0))] [(0,(t_ 43))]) 0,O_ 45 (.cl 41 [(t_ 41),(t_ 42),(t_ 44)]) 1,O_ 6 (.mv (t_ 45)) 1,O_ 7 (.mv (i_ 0)) 1] (some [[],[0],[],[],[3],[3,4,2,0,1],[1,0,2,4,3,5],[5,3,4,2,0,1,6]]) 1 []) .ret))))))
theorem gc10_ok:compF Tryz.prog Tryz.f10=some (gc10.er,46,[.tmp 6,.tmp 7]):=by unfold gc10;kernel_rfl
theorem p_conns_Open_v {u1:Bool} (a0:List ConnsConn) (a1:Int) (a2:Int):CallsO Tryz.prog 10 [.sl (List.map ConnsConn.v a0) u1,.i a1,.i a2] (fun r:(List ConnsConn) × Int=>.tup [(fun l:List ConnsConn=>V.sl (l.map ConnsConn.v) false) r.1,V.i r.2]) (p_conns_Open a0 a1 a2):=by
 refine callsO_comp mix Tryz.func10 gc10_ok fun r H=>?_
 rw [p_conns_Open] at H
 conv=>whnf
 refine ask_c (p_conns_Check_v _) H rfl rfl (fun v1 H=>?_);conv=>whnf
 refine tst_c H (fun b2 H=>?_) (fun b2 H=>?_)
 ·conv=>whnf
  refine finR_c (enc:=(fun r:(List ConnsConn) × Int=>.tup [(fun l:List ConnsConn=>V.sl (l.map ConnsConn.v) false) r.1,V.i r.2])) H ?_;conv=>whnf
  exact ⟨_,.tup (.cons (.c (.slw)) (.cons (.c (.id rfl)) (.nil)))⟩
 conv=>whnf
 refine lq_ ?_;conv=>whnf
 refine ask_c (p_conns_State_find_v _ _) H rfl rfl (fun v3 H=>?_);conv=>whnf
 refine ask_c (p_conns_Conn_numbered_v _) H rfl rfl (fun v4 H=>?_);conv=>whnf
 refine Tst.not ?_
 refine tst_d H (fun b5 H=>?_) (fun b5 H=>?_)
 ·conv=>whnf
  refine finR_c (enc:=(fun r:(List ConnsConn) × Int=>.tup [(fun l:List ConnsConn=>V.sl (l.map ConnsConn.v) false) r.1,V.i r.2])) H ?_;conv=>whnf
  exact ⟨_,.tup (.cons (.c (.slw)) (.cons (.c (.id rfl)) (.nil)))⟩
 conv=>whnf
 refine tst_c H (fun b6 H=>?_) (fun b6 H=>?_)
 ·conv=>whnf
  refine finR_c (enc:=(fun r:(List ConnsConn) × Int=>.tup [(fun l:List ConnsConn=>V.sl (l.map ConnsConn.v) false) r.1,V.i r.2])) H ?_;conv=>whnf
  exact ⟨_,.tup (.cons (.c (.slw)) (.cons (.c (.id rfl)) (.nil)))⟩
 conv=>whnf
 refine LenQ.M ?_;conv=>whnf
 refine tst_c H (fun b7 H=>?_) (fun b7 H=>?_)
 ·conv=>whnf
  refine finR_c (enc:=(fun r:(List ConnsConn) × Int=>.tup [(fun l:List ConnsConn=>V.sl (l.map ConnsConn.v) false) r.1,V.i r.2])) H ?_;conv=>whnf
  exact ⟨_,.tup (.cons (.c (.slw)) (.cons (.c (.id rfl)) (.nil)))⟩
 conv=>whnf
 refine clone_c (f:=ConnsConn.v) (id:=2) cloR42_v H (fun _=>rfl) (fun _=>rfl) rfl (fun H=>?_) (fun l8 H=>?_)
 ·conv=>whnf
  refine askF_c (insN_v (f:=ConnsConn.v) insR41_v (by decide) (fun _=>rfl) (fun _=>rfl) (fun _=>rfl) _ _ _) H (.cons (.c (.id rfl)) (.cons (.c (.id rfl)) (.cons (.c (fzown (f:=ConnsConn.v) (l:=[(ConnsConn.mk a1 a2 (⟨#[]⟩ : ByteArray) (⟨#[]⟩ : ByteArray) (0:Int) (DeframeState.mk (⟨#[]⟩ : ByteArray) (0:Int) (0:Int)))]) rfl rfl (fun _=>rfl) (fun _=>rfl))) .nil))) (fun v10 H=>?_);conv=>whnf
  refine FootQ.mk ⟨rfl,?_⟩;conv=>whnf
  exact fin0_c (enc:=(fun r:(List ConnsConn) × Int=>.tup [(fun l:List ConnsConn=>V.sl (l.map ConnsConn.v) false) r.1,V.i r.2])) H (.inr rfl) (.cons (.tmp rfl) (.cons (.tmp rfl) (.nil))) rfl rfl
 conv=>whnf
 refine insO_c (f:=ConnsConn.v) insR41_v H (by decide) (fun _=>rfl) (fun _=>rfl) (fun _=>rfl) rfl rfl rfl (fun v9 H=>?_);conv=>whnf
 refine FootQ.mk ⟨rfl,?_⟩;conv=>whnf
 exact fin0_c (enc:=(fun r:(List ConnsConn) × Int=>.tup [(fun l:List ConnsConn=>V.sl (l.map ConnsConn.v) false) r.1,V.i r.2])) H (.inr rfl) (.cons (.tmp rfl) (.cons (.tmp rfl) (.nil))) rfl rfl
def gc26:BCode:=(.seq (R_ 1 [O_ 4 (.al (.agg [(.lit (.int .i64 0)),(.lit (.int .i64 0)),(.lit (.string ⟨#[]⟩)),(.lit (.string ⟨#[]⟩)),(.lit (.int .i64 0)),(.lit (.string ⟨#[]⟩)),(.lit (.int .i64 0)),(.lit (.int .i64 0))])) 0,O_ 5 (.mv (b_ false)) 1]) (.seq (.seq (R_ 0 [O_ 8 (.mv (t_ 0)) 0,O_ 9 (.cl 30 [(t_ 8)]) 0,O_ 10 (.bin .neq (t_ 9) (i_ 0)) 0]) (.cond (t_ 10) (.seq (R_ 0 [O_ 11 (.bd [(.lit (.int .i64 0)),(.lit (.int .i64 0)),(.lit (.string ⟨#[]⟩)),(.lit (.string ⟨#[]⟩)),(.lit (.int .i64 0)),(.lit (.string ⟨#[]⟩)),(.lit (.int .i64 0)),(.lit (.int .i64 0))] []) 0,U_ (.st 8 (t_ 4) (t_ 11)) 0,O_ 5 (.mv (b_ false)) 0]) .ret) .skip)) (.seq (R_ 0 [O_ 13 (.mv (t_ 0)) 0,O_ 14 (.mv (t_ 1)) 0,O_ 15 (.cl 39 [(t_ 13),(t_ 14)]) 0,O_ 12 (.mv (t_ 15)) 0,O_ 16 (.ex (t_ 12) 0) 0,O_ 17 (.ex (t_ 12) 1) 0,O_ 6 (.mv (t_ 16)) 0,O_ 7 (.mv (t_ 17)) 0]) (.seq (.seq (R_ 0 [O_ 18 (.mv (t_ 7)) 0,O_ 19 (.un .not (t_ 18)) 0]) (.cond (t_ 19) (.seq (R_ 0 [O_ 20 (.bd [(.lit (.int .i64 0)),(.lit (.int .i64 0)),(.lit (.string ⟨#[]⟩)),(.lit (.string ⟨#[]⟩)),(.lit (.int .i64 0)),(.lit (.string ⟨#[]⟩)),(.lit (.int .i64 0)),(.lit (.int .i64 0))] []) 0,U_ (.st 8 (t_ 4) (t_ 20)) 0,O_ 5 (.mv (b_ false)) 0]) .ret) .skip)) (.seq (R_ 0 [O_ 21 (.mv (t_ 0)) 0,O_ 22 (.mv (t_ 6)) 0,O_ 23 (.ixs 8 (t_ 21) (t_ 22)) 0,O_ 24 (.ld 8 true (t_ 23)) 0,U_ (.st 8 (t_ 4) (t_ 24)) 0,O_ 5 (.mv (b_ true)) 0]) .ret)))))
theorem gc26_ok:compF Tryz.prog Tryz.f26=some (gc26.er,25,[.cell 4 8 true,.tmp 5]):=by unfold gc26;kernel_rfl
theorem p_conns_Find_v {u1:Bool} (a0:List ConnsConn) (a1:Int):CallsO Tryz.prog 26 [.sl (List.map ConnsConn.v a0) u1,.i a1] (fun r:ConnsConn × Bool=>.tup [ConnsConn.v r.1,V.b r.2]) (p_conns_Find a0 a1):=by
 refine callsO_comp mix Tryz.func26 gc26_ok fun r H=>?_
 rw [p_conns_Find] at H
 conv=>whnf
 refine ask_c (p_conns_Check_v _) H rfl rfl (fun v1 H=>?_);conv=>whnf
 refine tst_c H (fun b2 H=>?_) (fun b2 H=>?_)
 ·conv=>whnf
  refine lq_ ?_;conv=>whnf
  exact fin0_c (enc:=(fun r:ConnsConn × Bool=>.tup [ConnsConn.v r.1,V.b r.2])) H (.inr rfl) (.cons (.cell rfl rfl (Nat.le_of_ble_eq_true rfl)) (.cons (.tmp rfl) (.nil))) rfl rfl
 conv=>whnf
 refine ask_c (p_conns_State_find_v _ _) H rfl rfl (fun v3 H=>?_);conv=>whnf
 refine Tst.not ?_
 refine tst_d H (fun b4 H=>?_) (fun b4 H=>?_)
 ·conv=>whnf
  refine lq_ ?_;conv=>whnf
  exact fin0_c (enc:=(fun r:ConnsConn × Bool=>.tup [ConnsConn.v r.1,V.b r.2])) H (.inr rfl) (.cons (.cell rfl rfl (Nat.le_of_ble_eq_true rfl)) (.cons (.tmp rfl) (.nil))) rfl rfl
 conv=>whnf
 refine ixs_c (f:=ConnsConn.v) H (fun _=>rfl) (fun x5 H=>?_);conv=>whnf
 refine lq_ ?_;conv=>whnf
 exact fin0_c (enc:=(fun r:ConnsConn × Bool=>.tup [ConnsConn.v r.1,V.b r.2])) H (.inr rfl) (.cons (.cell rfl rfl (Nat.le_of_ble_eq_true rfl)) (.cons (.tmp rfl) (.nil))) rfl rfl
def gc46:BCode:=(.seq (R_ 1 [O_ 2 (.bx (t_ 0)) 0,O_ 3 (.mv (b_ false)) 1]) (.seq (R_ 0 [O_ 4 (.fa 0 (t_ 2)) 0,O_ 5 (.ld 1 false (t_ 4)) 0,O_ 6 (.ld 1 false (t_ 1)) 0,O_ 7 (.bin .eql (t_ 5) (t_ 6)) 0,O_ 3 (.mv (t_ 7)) 0]) .ret))
theorem gc46_ok:compF Tryz.prog Tryz.f46=some (gc46.er,8,[.tmp 3]):=by unfold gc46;kernel_rfl
theorem p_conns_Close_1_v (a0:ConnsConn) (c0:Int):CallsO Tryz.prog 46 [.agg [.i a0.ID,.i a0.Source,.s a0.User,.s a0.Res,.i a0.Credit,.s a0.In.Buf,.i a0.In.Bad,.i a0.In.Seen],.eptr [.i c0]] V.b (p_conns_Close_1 a0 c0):=by
 refine callsO_comp mix Tryz.func46 gc46_ok fun r H=>?_
 rw [p_conns_Close_1] at H
 conv=>whnf
 exact fb_ H
def gc12:BCode:=(.seq (R_ 2 [O_ 3 (.bx (t_ 1)) 0,O_ 4 (.mv (.const (.slice none 0 0))) 1,O_ 5 (.al (.agg [(.lit (.int .i64 0)),(.lit (.int .i64 0)),(.lit (.string ⟨#[]⟩)),(.lit (.string ⟨#[]⟩)),(.lit (.int .i64 0)),(.lit (.string ⟨#[]⟩)),(.lit (.int .i64 0)),(.lit (.int .i64 0))])) 1,O_ 6 (.mv (b_ false)) 2]) (.seq (R_ 1 [O_ 10 (.mv (t_ 0)) 0,O_ 11 (.ld 1 false (t_ 3)) 0,O_ 12 (.cl 26 [(t_ 10),(t_ 11)]) 0,O_ 9 (.mv (t_ 12)) 0,O_ 13 (.ex (t_ 9) 0) 0,O_ 14 (.ex (t_ 9) 1) 0,O_ 7 (.al (.agg [(.lit (.int .i64 0)),(.lit (.int .i64 0)),(.lit (.string ⟨#[]⟩)),(.lit (.string ⟨#[]⟩)),(.lit (.int .i64 0)),(.lit (.string ⟨#[]⟩)),(.lit (.int .i64 0)),(.lit (.int .i64 0))])) 0,U_ (.st 8 (t_ 7) (t_ 13)) 1,O_ 8 (.mv (t_ 14)) 1]) (.seq (.seq (R_ 0 [O_ 15 (.mv (t_ 8)) 0,O_ 16 (.un .not (t_ 15)) 0]) (.cond (t_ 16) (.seq (.reg 0 [O_ 17 (.mv (t_ 0)) 0,O_ 18 (.ld 8 true (t_ 7)) 0,O_ 4 (.mv (t_ 17)) 0,U_ (.st 8 (t_ 5) (t_ 18)) 0,O_ 6 (.mv (b_ false)) 0] (some [[],[],[0],[0,2,1],[1,2,0,3]]) 0 []) .ret) .skip)) (.seq (.reg 0 [O_ 19 (.mv (t_ 0)) 0,O_ 20 (.cl 42 [(t_ 19)]) 0,O_ 21 (.mf (.func 46) [(t_ 3)]) 0,O_ 22 (.cl 45 [(t_ 20),(t_ 21)]) 0,O_ 23 (.ld 8 true (t_ 7)) 0,O_ 4 (.mv (t_ 22)) 0,U_ (.st 8 (t_ 5) (t_ 23)) 0,O_ 6 (.mv (b_ true)) 0] (some [[],[0],[],[2,0,1],[],[1,0,2,3],[3,2,0,1,5,4],[4,5,1,0,2,3,6]]) 1 [3]) .ret))))
theorem gc12_ok:compF Tryz.prog Tryz.f12=some (gc12.er,24,[.tmp 4,.cell 5 8 true,.tmp 6]):=by unfold gc12;kernel_rfl
theorem p_conns_Close_v {u1:Bool} (a0:List ConnsConn) (a1:Int):CallsO Tryz.prog 12 [.sl (List.map ConnsConn.v a0) u1,.i a1] (fun r:(List ConnsConn) × ConnsConn × Bool=>.tup [(fun l:List ConnsConn=>V.sl (l.map ConnsConn.v) false) r.1,ConnsConn.v r.2.1,V.b r.2.2]) (p_conns_Close a0 a1):=by
 refine callsO_comp mix Tryz.func12 gc12_ok fun r H=>?_
 rw [p_conns_Close] at H
 conv=>whnf
 refine ask_c (p_conns_Find_v _ _) H rfl rfl (fun v1 H=>?_);conv=>whnf
 refine lq_ ?_;conv=>whnf
 refine Tst.not ?_
 refine tst_d H (fun b2 H=>?_) (fun b2 H=>?_)
 ·conv=>whnf
  refine lq_ ?_;conv=>whnf
  refine FootQ.mk ⟨rfl,?_⟩;conv=>whnf
  refine finR_c (enc:=(fun r:(List ConnsConn) × ConnsConn × Bool=>.tup [(fun l:List ConnsConn=>V.sl (l.map ConnsConn.v) false) r.1,ConnsConn.v r.2.1,V.b r.2.2])) H ?_;conv=>whnf
  exact ⟨_,.tup (.cons (.c (.slw)) (.cons (fzagg (.cons (.id rfl) (.cons (.id rfl) (.cons (.id rfl) (.cons (.id rfl) (.cons (.id rfl) (.cons (.id rfl) (.cons (.id rfl) (.cons (.id rfl) (.nil))))))))) rfl) (.cons (.c (.id rfl)) (.nil))))⟩
 conv=>whnf
 refine ⟨Nat.zero_le _,?_⟩;conv=>whnf
 refine clone_c (f:=ConnsConn.v) (id:=3) cloR42_v H (fun _=>rfl) (fun _=>rfl) rfl (fun H=>?_) (fun l3 H=>?_)
 ·conv=>whnf
  refine dfN_c (f:=ConnsConn.v) delF45_n H (⟨⟨_,Tryz.func46,by kernel_rfl,by kernel_rfl⟩,rfl,fun x0=>p_conns_Close_1_v _ _⟩) (.clo (.cons (.ptr rfl (Nat.le_of_ble_eq_true rfl) (.cons (.id rfl) (.nil))) (.nil))) (fun H=>?_);conv=>whnf
  refine lq_ ?_;conv=>whnf
  refine FootQ.mk ⟨rfl,?_⟩;conv=>whnf
  refine finR_c (enc:=(fun r:(List ConnsConn) × ConnsConn × Bool=>.tup [(fun l:List ConnsConn=>V.sl (l.map ConnsConn.v) false) r.1,ConnsConn.v r.2.1,V.b r.2.2])) H ?_;conv=>whnf
  exact ⟨_,.tup (.cons (.c (.slw)) (.cons (fzagg (.cons (.id rfl) (.cons (.id rfl) (.cons (.id rfl) (.cons (.id rfl) (.cons (.id rfl) (.cons (.id rfl) (.cons (.id rfl) (.cons (.id rfl) (.nil))))))))) rfl) (.cons (.c (.id rfl)) (.nil))))⟩
 conv=>whnf
 refine dfO_c (f:=ConnsConn.v) delF45_v H (⟨⟨_,Tryz.func46,by kernel_rfl,by kernel_rfl⟩,rfl,fun x0=>p_conns_Close_1_v _ _⟩) (.clo (.cons (.ptr rfl (Nat.le_of_ble_eq_true rfl) (.cons (.id rfl) (.nil))) (.nil))) (fun _=>rfl) (fun _=>rfl) rfl rfl (fun v4 H=>?_);conv=>whnf
 refine lq_ ?_;conv=>whnf
 refine FootQ.mk ⟨rfl,?_⟩;conv=>whnf
 refine finRz_c (enc:=(fun r:(List ConnsConn) × ConnsConn × Bool=>.tup [(fun l:List ConnsConn=>V.sl (l.map ConnsConn.v) false) r.1,ConnsConn.v r.2.1,V.b r.2.2])) [3] H ?_;conv=>whnf
 refine ⟨Nat.zero_le _,?_⟩;conv=>whnf
 exact ⟨_,.tup (.cons (.c (fzown (f:=ConnsConn.v) (l:=v4) rfl rfl (fun _=>rfl) (fun _=>rfl))) (.cons (fzagg (.cons (.id rfl) (.cons (.id rfl) (.cons (.id rfl) (.cons (.id rfl) (.cons (.id rfl) (.cons (.id rfl) (.cons (.id rfl) (.cons (.id rfl) (.nil))))))))) rfl) (.cons (.c (.id rfl)) (.nil))))⟩
def gc48:BCode:=(.seq (R_ 1 [O_ 3 (.bx (t_ 1)) 0,O_ 4 (.mv (.const (.slice none 0 0))) 1]) (.seq (.reg 0 [O_ 8 (.mv (t_ 0)) 0,O_ 9 (.cl 42 [(t_ 8)]) 0,O_ 5 (.mv (t_ 9)) 0] none 1 []) (.seq (R_ 0 [O_ 11 (.mv (t_ 5)) 0,O_ 12 (.fa 0 (t_ 3)) 0,O_ 13 (.ld 1 false (t_ 12)) 0,O_ 14 (.cl 39 [(t_ 11),(t_ 13)]) 0,O_ 10 (.mv (t_ 14)) 0,O_ 15 (.ex (t_ 10) 0) 0,O_ 16 (.ex (t_ 10) 1) 0,O_ 6 (.mv (t_ 15)) 0,O_ 7 (.mv (t_ 16)) 0]) (.seq (R_ 0 [O_ 17 (.mv (t_ 5)) 0,O_ 18 (.mv (t_ 6)) 0,O_ 19 (.ld 8 true (t_ 3)) 0,O_ 20 (.ixs 8 (t_ 17) (t_ 18)) 0,U_ (.st 8 (t_ 20) (t_ 19)) 0]) (.seq (R_ 0 [O_ 21 (.mv (t_ 5)) 0,O_ 4 (.mv (t_ 21)) 0]) .ret)))))
theorem gc48_ok:compF Tryz.prog Tryz.f48=some (gc48.er,22,[.tmp 4]):=by unfold gc48;kernel_rfl
theorem p_conns_State_with_v {u1:Bool} (a0:List ConnsConn) (a1:ConnsConn):CallsO Tryz.prog 48 [.sl (List.map ConnsConn.v a0) u1,.agg [.i a1.ID,.i a1.Source,.s a1.User,.s a1.Res,.i a1.Credit,.s a1.In.Buf,.i a1.In.Bad,.i a1.In.Seen]] (fun l:List ConnsConn=>V.sl (l.map ConnsConn.v) false) (p_conns_State_with a0 a1):=by
 refine callsO_comp mix Tryz.func48 gc48_ok fun r H=>?_
 rw [p_conns_State_with] at H
 conv=>whnf
 refine clone_c (f:=ConnsConn.v) (id:=1) cloR42_v H (fun _=>rfl) (fun _=>rfl) rfl (fun H=>?_) (fun l1 H=>?_)
 ·conv=>whnf
  refine ask_c (p_conns_State_find_v _ _) H rfl rfl (fun v5 H=>?_);conv=>whnf
  exact nil_at H
 conv=>whnf
 refine askT_c [1] (p_conns_State_find_v _ _) H (.cons (.c (fzown (f:=ConnsConn.v) (l:=l1) rfl rfl (fun _=>rfl) (fun _=>rfl))) (.cons (.c (.id rfl)) (.nil))) (fun _=>rfl) (fun v2 H=>?_);conv=>whnf
 refine ⟨rfl,ixo_c H (fun x3 h4 H=>?_)⟩;conv=>whnf
 refine ⟨Nat.zero_le _,sto_c (f:=ConnsConn.v) (es:=8) h4 (x':=a1) (fun _=>rfl) 0 (by omega) (Nat.le_of_ble_eq_true rfl) (by rfl) ?_⟩;conv=>whnf
 refine finRz_c (enc:=(fun l:List ConnsConn=>V.sl (l.map ConnsConn.v) false)) [1] H ?_;conv=>whnf
 refine ⟨Nat.zero_le _,?_⟩;conv=>whnf
 exact ⟨_,.v (.c (fzc_made (f:=ConnsConn.v) (l:=(List.set l1 (Int.toNat v2.1) a1)) rfl rfl rfl (by simp) (fun _=>rfl) (fun _=>rfl)))⟩
end Go.Proofs.YtdbigmjlhkgeoaaGreat

namespace Go.Proofs.YtdbigmjlhkgeoaaGreat
open Go.RowKit
set_option maxRecDepth 100000
set_option maxHeartbeats 4000000
def gc14:BCode:=(.seq (R_ 0 [O_ 8 (.mv (.const (.slice none 0 0))) 0,O_ 9 (.mv (i_ 0)) 0]) (.seq (.seq (R_ 0 [O_ 16 (.mv (t_ 0)) 0,O_ 17 (.cl 30 [(t_ 16)]) 0,O_ 10 (.mv (t_ 17)) 0]) (.seq (R_ 0 [O_ 18 (.mv (t_ 10)) 0,O_ 19 (.bin .neq (t_ 18) (i_ 0)) 0]) (.cond (t_ 19) (.seq (R_ 0 [O_ 20 (.mv (t_ 0)) 0,O_ 21 (.mv (t_ 10)) 0,O_ 8 (.mv (t_ 20)) 0,O_ 9 (.mv (t_ 21)) 0]) .ret) .skip))) (.seq (R_ 1 [O_ 23 (.mv (t_ 0)) 0,O_ 24 (.mv (t_ 1)) 0,O_ 25 (.cl 26 [(t_ 23),(t_ 24)]) 0,O_ 22 (.mv (t_ 25)) 0,O_ 26 (.ex (t_ 22) 0) 0,O_ 27 (.ex (t_ 22) 1) 0,O_ 11 (.al (.agg [(.lit (.int .i64 0)),(.lit (.int .i64 0)),(.lit (.string ⟨#[]⟩)),(.lit (.string ⟨#[]⟩)),(.lit (.int .i64 0)),(.lit (.string ⟨#[]⟩)),(.lit (.int .i64 0)),(.lit (.int .i64 0))])) 0,U_ (.st 8 (t_ 11) (t_ 26)) 1,O_ 12 (.mv (t_ 27)) 1]) (.seq (.block 0 (.seq (R_ 0 [O_ 29 (.mv (t_ 12)) 0,O_ 30 (.un .not (t_ 29)) 0,O_ 28 (.mv (t_ 30)) 0]) (.cond (t_ 28) (.seq (R_ 0 [O_ 31 (.mv (t_ 0)) 0,O_ 8 (.mv (t_ 31)) 0,O_ 9 (.mv (i_ 6)) 0]) .ret) (.seq (R_ 0 [O_ 33 (.fa 2 (t_ 11)) 0,O_ 34 (.ld 1 false (t_ 33)) 0,O_ 35 (.bin .neq (t_ 34) (.const (.string ⟨#[]⟩))) 0,O_ 32 (.mv (t_ 35)) 0]) (.cond (t_ 32) (.seq (R_ 0 [O_ 36 (.mv (t_ 0)) 0,O_ 8 (.mv (t_ 36)) 0,O_ 9 (.mv (i_ 9)) 0]) .ret) .skip))))) (.seq (R_ 0 [O_ 37 (.mv (t_ 2)) 0,O_ 38 (.mv (t_ 3)) 0,O_ 39 (.cl 38 [(t_ 37),(t_ 38)]) 0,O_ 13 (.mv (t_ 39)) 0]) (.seq (.seq (R_ 0 [O_ 40 (.mv (t_ 13)) 0,O_ 41 (.bin .eql (t_ 40) (.const (.string ⟨#[]⟩))) 0]) (.cond (t_ 41) (.seq (R_ 0 [O_ 42 (.mv (t_ 0)) 0,O_ 8 (.mv (t_ 42)) 0,O_ 9 (.mv (i_ 11)) 0]) .ret) .skip)) (.seq (.seq (R_ 0 [O_ 44 (.mv (t_ 0)) 0,O_ 45 (.mv (t_ 13)) 0,O_ 46 (.cl 47 [(t_ 44),(t_ 45)]) 0,O_ 43 (.mv (t_ 46)) 0,O_ 47 (.ex (t_ 43) 0) 0,O_ 48 (.ex (t_ 43) 1) 0,O_ 14 (.mv (t_ 47)) 0,O_ 15 (.mv (t_ 48)) 0]) (.seq (R_ 0 [O_ 49 (.mv (t_ 15)) 0]) (.cond (t_ 49) (.seq (R_ 0 [O_ 50 (.mv (t_ 0)) 0,O_ 8 (.mv (t_ 50)) 0,O_ 9 (.mv (i_ 13)) 0]) .ret) .skip))) (.seq (R_ 0 [O_ 51 (.mv (t_ 2)) 0,O_ 52 (.mv (t_ 3)) 0,O_ 53 (.fa 2 (t_ 11)) 0,U_ (.st 1 (t_ 53) (t_ 51)) 0,O_ 54 (.fa 3 (t_ 11)) 0,U_ (.st 1 (t_ 54) (t_ 52)) 0]) (.seq (R_ 0 [O_ 55 (.mv (t_ 0)) 0,O_ 56 (.ld 8 true (t_ 11)) 0,O_ 57 (.cl 48 [(t_ 55),(t_ 56)]) 0,O_ 8 (.mv (t_ 57)) 0,O_ 9 (.mv (i_ 0)) 0]) .ret)))))))))
theorem gc14_ok:compF Tryz.prog Tryz.f14=some (gc14.er,58,[.tmp 8,.tmp 9]):=by unfold gc14;kernel_rfl
theorem p_conns_Login_v {u1:Bool} (a0:List ConnsConn) (a1:Int) (a2:ByteArray) (a3:ByteArray):CallsO Tryz.prog 14 [.sl (List.map ConnsConn.v a0) u1,.i a1,.s a2,.s a3] (fun r:(List ConnsConn) × Int=>.tup [(fun l:List ConnsConn=>V.sl (l.map ConnsConn.v) false) r.1,V.i r.2]) (p_conns_Login a0 a1 a2 a3):=by
 refine callsO_comp mix Tryz.func14 gc14_ok fun r H=>?_
 rw [p_conns_Login] at H
 conv=>whnf
 refine ask_c (p_conns_Check_v _) H rfl rfl (fun v1 H=>?_);conv=>whnf
 refine tst_c H (fun b2 H=>?_) (fun b2 H=>?_)
 ·conv=>whnf
  refine finR_c (enc:=(fun r:(List ConnsConn) × Int=>.tup [(fun l:List ConnsConn=>V.sl (l.map ConnsConn.v) false) r.1,V.i r.2])) H ?_;conv=>whnf
  exact ⟨_,.tup (.cons (.c (.slw)) (.cons (.c (.id rfl)) (.nil)))⟩
 conv=>whnf
 refine ask_c (p_conns_Find_v _ _) H rfl rfl (fun v3 H=>?_);conv=>whnf
 refine lq_ ?_;conv=>whnf
 refine Tst.not ?_
 refine tst_d H (fun b4 H=>?_) (fun b4 H=>?_)
 ·conv=>whnf
  refine finR_c (enc:=(fun r:(List ConnsConn) × Int=>.tup [(fun l:List ConnsConn=>V.sl (l.map ConnsConn.v) false) r.1,V.i r.2])) H ?_;conv=>whnf
  exact ⟨_,.tup (.cons (.c (.slw)) (.cons (.c (.id rfl)) (.nil)))⟩
 conv=>whnf
 refine Tst.not ?_
 refine tst_d H (fun b5 H=>?_) (fun b5 H=>?_)
 ·conv=>whnf
  refine finR_c (enc:=(fun r:(List ConnsConn) × Int=>.tup [(fun l:List ConnsConn=>V.sl (l.map ConnsConn.v) false) r.1,V.i r.2])) H ?_;conv=>whnf
  exact ⟨_,.tup (.cons (.c (.slw)) (.cons (.c (.id rfl)) (.nil)))⟩
 conv=>whnf
 refine ask_c (p_pres_Key_v _ _) H rfl rfl (fun v6 H=>?_);conv=>whnf
 refine tst_c H (fun b7 H=>?_) (fun b7 H=>?_)
 ·conv=>whnf
  refine finR_c (enc:=(fun r:(List ConnsConn) × Int=>.tup [(fun l:List ConnsConn=>V.sl (l.map ConnsConn.v) false) r.1,V.i r.2])) H ?_;conv=>whnf
  exact ⟨_,.tup (.cons (.c (.slw)) (.cons (.c (.id rfl)) (.nil)))⟩
 conv=>whnf
 refine ask_c (p_conns_State_keyed_v _ _) H rfl rfl (fun v8 H=>?_);conv=>whnf
 refine tst_c H (fun b9 H=>?_) (fun b9 H=>?_)
 ·conv=>whnf
  refine finR_c (enc:=(fun r:(List ConnsConn) × Int=>.tup [(fun l:List ConnsConn=>V.sl (l.map ConnsConn.v) false) r.1,V.i r.2])) H ?_;conv=>whnf
  exact ⟨_,.tup (.cons (.c (.slw)) (.cons (.c (.id rfl)) (.nil)))⟩
 conv=>whnf
 refine lq_ ?_;conv=>whnf
 refine lq_ ?_;conv=>whnf
 refine ask_c (p_conns_State_with_v _ _) H rfl rfl (fun v10 H=>?_);conv=>whnf
 exact fin0_c (enc:=(fun r:(List ConnsConn) × Int=>.tup [(fun l:List ConnsConn=>V.sl (l.map ConnsConn.v) false) r.1,V.i r.2])) H (.inr rfl) (.cons (.tmp rfl) (.cons (.tmp rfl) (.nil))) rfl rfl
def gc18:BCode:=(.seq (R_ 0 [O_ 6 (.mv (.const (.slice none 0 0))) 0,O_ 7 (.mv (b_ false)) 0]) (.seq (R_ 1 [O_ 11 (.mv (t_ 0)) 0,O_ 12 (.mv (t_ 1)) 0,O_ 13 (.cl 26 [(t_ 11),(t_ 12)]) 0,O_ 10 (.mv (t_ 13)) 0,O_ 14 (.ex (t_ 10) 0) 0,O_ 15 (.ex (t_ 10) 1) 0,O_ 8 (.al (.agg [(.lit (.int .i64 0)),(.lit (.int .i64 0)),(.lit (.string ⟨#[]⟩)),(.lit (.string ⟨#[]⟩)),(.lit (.int .i64 0)),(.lit (.string ⟨#[]⟩)),(.lit (.int .i64 0)),(.lit (.int .i64 0))])) 0,U_ (.st 8 (t_ 8) (t_ 14)) 1,O_ 9 (.mv (t_ 15)) 1]) (.seq (.seq (R_ 0 [O_ 16 (.mv (t_ 9)) 0,O_ 17 (.un .not (t_ 16)) 0,O_ 18 (.mv (t_ 17)) 0,⟨(some 19),.mv (t_ 2),(some (18,false)),0⟩,⟨(some 20),.bin .lss (t_ 19) (i_ 0),(some (18,false)),0⟩,O_ 21 (.pick (t_ 18) (b_ true) (t_ 20)) 0]) (.cond (t_ 21) (.seq (R_ 0 [O_ 22 (.mv (t_ 0)) 0,O_ 6 (.mv (t_ 22)) 0,O_ 7 (.mv (b_ false)) 0]) .ret) .skip)) (.seq (R_ 0 [O_ 23 (.fa 4 (t_ 8)) 0,O_ 24 (.ld 1 false (t_ 23)) 0,O_ 25 (.mv (t_ 2)) 0,O_ 26 (.fa 4 (t_ 8)) 0,O_ 27 (.ld 1 false (t_ 26)) 0,O_ 28 (.bin .sub (i_ 1048576) (t_ 27)) 0,O_ 29 (.mn false (t_ 25) (t_ 28)) 0,O_ 30 (.bin .add (t_ 24) (t_ 29)) 0,O_ 31 (.fa 4 (t_ 8)) 0,U_ (.st 1 (t_ 31) (t_ 30)) 0]) (.seq (R_ 0 [O_ 32 (.mv (t_ 0)) 0,O_ 33 (.ld 8 true (t_ 8)) 0,O_ 34 (.cl 48 [(t_ 32),(t_ 33)]) 0,O_ 6 (.mv (t_ 34)) 0,O_ 7 (.mv (b_ true)) 0]) .ret)))))
theorem gc18_ok:compF Tryz.prog Tryz.f18=some (gc18.er,35,[.tmp 6,.tmp 7]):=by unfold gc18;kernel_rfl
theorem p_conns_Give_v {u1:Bool} (a0:List ConnsConn) (a1:Int) (a2:Int):CallsO Tryz.prog 18 [.sl (List.map ConnsConn.v a0) u1,.i a1,.i a2] (fun r:(List ConnsConn) × Bool=>.tup [(fun l:List ConnsConn=>V.sl (l.map ConnsConn.v) false) r.1,V.b r.2]) (p_conns_Give a0 a1 a2):=by
 refine callsO_comp mix Tryz.func18 gc18_ok fun r H=>?_
 rw [p_conns_Give] at H
 conv=>whnf
 refine ask_c (p_conns_Find_v _ _) H rfl rfl (fun v1 H=>?_);conv=>whnf
 refine lq_ ?_;conv=>whnf
 refine Tst.not ?_
 refine tst_d H (fun b2 H=>?_) (fun b2 H=>?_)
 ·conv=>whnf
  iterate 3 (refine Tst.T ?_;conv=>whnf)
  refine finR_c (enc:=(fun r:(List ConnsConn) × Bool=>.tup [(fun l:List ConnsConn=>V.sl (l.map ConnsConn.v) false) r.1,V.b r.2])) H ?_;conv=>whnf
  exact ⟨_,.tup (.cons (.c (.slw)) (.cons (.c (.id rfl)) (.nil)))⟩
 conv=>whnf
 iterate 2 (refine Tst.F ?_;conv=>whnf)
 refine tst_c H (fun b3 H=>?_) (fun b3 H=>?_)
 ·conv=>whnf
  refine finR_c (enc:=(fun r:(List ConnsConn) × Bool=>.tup [(fun l:List ConnsConn=>V.sl (l.map ConnsConn.v) false) r.1,V.b r.2])) H ?_;conv=>whnf
  exact ⟨_,.tup (.cons (.c (.slw)) (.cons (.c (.id rfl)) (.nil)))⟩
 conv=>whnf
 iterate 2 (refine Ari.w ?_;conv=>whnf)
 refine lq_ ?_;conv=>whnf
 refine ask_c (p_conns_State_with_v _ _) H rfl rfl (fun v4 H=>?_);conv=>whnf
 exact fin0_c (enc:=(fun r:(List ConnsConn) × Bool=>.tup [(fun l:List ConnsConn=>V.sl (l.map ConnsConn.v) false) r.1,V.b r.2])) H (.inr rfl) (.cons (.tmp rfl) (.cons (.tmp rfl) (.nil))) rfl rfl
def gc20:BCode:=(.seq (R_ 0 [O_ 6 (.mv (.const (.slice none 0 0))) 0,O_ 7 (.mv (b_ false)) 0]) (.seq (R_ 1 [O_ 11 (.mv (t_ 0)) 0,O_ 12 (.mv (t_ 1)) 0,O_ 13 (.cl 26 [(t_ 11),(t_ 12)]) 0,O_ 10 (.mv (t_ 13)) 0,O_ 14 (.ex (t_ 10) 0) 0,O_ 15 (.ex (t_ 10) 1) 0,O_ 8 (.al (.agg [(.lit (.int .i64 0)),(.lit (.int .i64 0)),(.lit (.string ⟨#[]⟩)),(.lit (.string ⟨#[]⟩)),(.lit (.int .i64 0)),(.lit (.string ⟨#[]⟩)),(.lit (.int .i64 0)),(.lit (.int .i64 0))])) 0,U_ (.st 8 (t_ 8) (t_ 14)) 1,O_ 9 (.mv (t_ 15)) 1]) (.seq (.seq (R_ 0 [O_ 16 (.mv (t_ 9)) 0,O_ 17 (.un .not (t_ 16)) 0,O_ 18 (.mv (t_ 17)) 0,⟨(some 19),.mv (t_ 2),(some (18,false)),0⟩,⟨(some 20),.fa 4 (t_ 8),(some (18,false)),0⟩,⟨(some 21),.ld 1 false (t_ 20),(some (18,false)),0⟩,⟨(some 22),.cl 52 [(t_ 19),(i_ 0),(t_ 21)],(some (18,false)),0⟩,⟨(some 23),.un .not (t_ 22),(some (18,false)),0⟩,O_ 24 (.pick (t_ 18) (b_ true) (t_ 23)) 0]) (.cond (t_ 24) (.seq (R_ 0 [O_ 25 (.mv (t_ 0)) 0,O_ 6 (.mv (t_ 25)) 0,O_ 7 (.mv (b_ false)) 0]) .ret) .skip)) (.seq (R_ 0 [O_ 26 (.fa 4 (t_ 8)) 0,O_ 27 (.ld 1 false (t_ 26)) 0,O_ 28 (.mv (t_ 2)) 0,O_ 29 (.bin .sub (t_ 27) (t_ 28)) 0,O_ 30 (.fa 4 (t_ 8)) 0,U_ (.st 1 (t_ 30) (t_ 29)) 0]) (.seq (R_ 0 [O_ 31 (.mv (t_ 0)) 0,O_ 32 (.ld 8 true (t_ 8)) 0,O_ 33 (.cl 48 [(t_ 31),(t_ 32)]) 0,O_ 6 (.mv (t_ 33)) 0,O_ 7 (.mv (b_ true)) 0]) .ret)))))
theorem gc20_ok:compF Tryz.prog Tryz.f20=some (gc20.er,34,[.tmp 6,.tmp 7]):=by unfold gc20;kernel_rfl
theorem p_conns_Spend_v {u1:Bool} (a0:List ConnsConn) (a1:Int) (a2:Int):CallsO Tryz.prog 20 [.sl (List.map ConnsConn.v a0) u1,.i a1,.i a2] (fun r:(List ConnsConn) × Bool=>.tup [(fun l:List ConnsConn=>V.sl (l.map ConnsConn.v) false) r.1,V.b r.2]) (p_conns_Spend a0 a1 a2):=by
 refine callsO_comp mix Tryz.func20 gc20_ok fun r H=>?_
 rw [p_conns_Spend] at H
 conv=>whnf
 refine ask_c (p_conns_Find_v _ _) H rfl rfl (fun v1 H=>?_);conv=>whnf
 refine lq_ ?_;conv=>whnf
 refine Tst.not ?_
 refine tst_d H (fun b2 H=>?_) (fun b2 H=>?_)
 ·conv=>whnf
  iterate 6 (refine Tst.T ?_;conv=>whnf)
  refine finR_c (enc:=(fun r:(List ConnsConn) × Bool=>.tup [(fun l:List ConnsConn=>V.sl (l.map ConnsConn.v) false) r.1,V.b r.2])) H ?_;conv=>whnf
  exact ⟨_,.tup (.cons (.c (.slw)) (.cons (.c (.id rfl)) (.nil)))⟩
 conv=>whnf
 iterate 3 (refine Tst.F ?_;conv=>whnf)
 refine ask_c (p_conns_in_v _ _ _) H rfl rfl (fun v3 H=>?_);conv=>whnf
 iterate 2 (refine Tst.F ?_;conv=>whnf)
 refine Tst.not ?_
 refine tst_d H (fun b4 H=>?_) (fun b4 H=>?_)
 ·conv=>whnf
  refine finR_c (enc:=(fun r:(List ConnsConn) × Bool=>.tup [(fun l:List ConnsConn=>V.sl (l.map ConnsConn.v) false) r.1,V.b r.2])) H ?_;conv=>whnf
  exact ⟨_,.tup (.cons (.c (.slw)) (.cons (.c (.id rfl)) (.nil)))⟩
 conv=>whnf
 refine Ari.w ?_;conv=>whnf
 refine lq_ ?_;conv=>whnf
 refine ask_c (p_conns_State_with_v _ _) H rfl rfl (fun v5 H=>?_);conv=>whnf
 exact fin0_c (enc:=(fun r:(List ConnsConn) × Bool=>.tup [(fun l:List ConnsConn=>V.sl (l.map ConnsConn.v) false) r.1,V.b r.2])) H (.inr rfl) (.cons (.tmp rfl) (.cons (.tmp rfl) (.nil))) rfl rfl
def gc22:BCode:=(.seq (R_ 0 [O_ 6 (.mv (.const (.slice none 0 0))) 0,O_ 7 (.mv (.const (.slice none 0 0))) 0,O_ 8 (.mv (i_ 0)) 0]) (.seq (.seq (R_ 0 [O_ 14 (.mv (t_ 0)) 0,O_ 15 (.cl 30 [(t_ 14)]) 0,O_ 9 (.mv (t_ 15)) 0]) (.seq (R_ 0 [O_ 16 (.mv (t_ 9)) 0,O_ 17 (.bin .neq (t_ 16) (i_ 0)) 0]) (.cond (t_ 17) (.seq (R_ 0 [O_ 18 (.mv (t_ 0)) 0,O_ 19 (.mv (t_ 9)) 0,O_ 6 (.mv (t_ 18)) 0,O_ 7 (.mv (.const (.slice none 0 0))) 0,O_ 8 (.mv (t_ 19)) 0]) .ret) .skip))) (.seq (R_ 1 [O_ 21 (.mv (t_ 0)) 0,O_ 22 (.mv (t_ 1)) 0,O_ 23 (.cl 26 [(t_ 21),(t_ 22)]) 0,O_ 20 (.mv (t_ 23)) 0,O_ 24 (.ex (t_ 20) 0) 0,O_ 25 (.ex (t_ 20) 1) 0,O_ 10 (.al (.agg [(.lit (.int .i64 0)),(.lit (.int .i64 0)),(.lit (.string ⟨#[]⟩)),(.lit (.string ⟨#[]⟩)),(.lit (.int .i64 0)),(.lit (.string ⟨#[]⟩)),(.lit (.int .i64 0)),(.lit (.int .i64 0))])) 0,U_ (.st 8 (t_ 10) (t_ 24)) 1,O_ 11 (.mv (t_ 25)) 1]) (.seq (.seq (R_ 0 [O_ 26 (.mv (t_ 11)) 0,O_ 27 (.un .not (t_ 26)) 0]) (.cond (t_ 27) (.seq (R_ 0 [O_ 28 (.mv (t_ 0)) 0,O_ 6 (.mv (t_ 28)) 0,O_ 7 (.mv (.const (.slice none 0 0))) 0,O_ 8 (.mv (i_ 6)) 0]) .ret) .skip)) (.seq (R_ 1 [O_ 30 (.fa 5 (t_ 10)) 0,O_ 31 (.ld 3 true (t_ 30)) 0,O_ 32 (.mv (t_ 2)) 0,O_ 33 (.cl 53 [(t_ 31),(t_ 32)]) 0,O_ 29 (.mv (t_ 33)) 0,O_ 34 (.ex (t_ 29) 0) 0,O_ 35 (.ex (t_ 29) 1) 0,O_ 12 (.al (.agg [(.lit (.string ⟨#[]⟩)),(.lit (.int .i64 0)),(.lit (.int .i64 0))])) 0,U_ (.st 3 (t_ 12) (t_ 34)) 1,O_ 13 (.mv (t_ 35)) 1]) (.seq (R_ 0 [O_ 36 (.ld 3 true (t_ 12)) 0,O_ 37 (.fa 5 (t_ 10)) 0,U_ (.st 3 (t_ 37) (t_ 36)) 0]) (.seq (.reg 0 [O_ 38 (.mv (t_ 0)) 0,O_ 39 (.ld 8 true (t_ 10)) 0,O_ 40 (.cl 48 [(t_ 38),(t_ 39)]) 0,O_ 41 (.mv (t_ 13)) 0,O_ 42 (.fa 1 (t_ 12)) 0,O_ 43 (.ld 1 false (t_ 42)) 0,O_ 6 (.mv (t_ 40)) 0,O_ 7 (.mv (t_ 41)) 0,O_ 8 (.mv (t_ 43)) 0] (some [[],[],[1,0],[],[],[4],[0,1,2],[2,1,0,6,3],[3,6,0,1,2,7,4,5]]) 0 []) .ret)))))))
theorem gc22_ok:compF Tryz.prog Tryz.f22=some (gc22.er,44,[.tmp 6,.tmp 7,.tmp 8]):=by unfold gc22;kernel_rfl
theorem p_conns_Feed_v {u1:Bool} (a0:List ConnsConn) (a1:Int) (a2:ByteArray):CallsO Tryz.prog 22 [.sl (List.map ConnsConn.v a0) u1,.i a1,.s a2] (fun r:(List ConnsConn) × (List DeframeItem) × Int=>.tup [(fun l:List ConnsConn=>V.sl (l.map ConnsConn.v) false) r.1,(fun l:List DeframeItem=>V.sl (l.map DeframeItem.v) false) r.2.1,V.i r.2.2]) (p_conns_Feed a0 a1 a2):=by
 refine callsO_comp mix Tryz.func22 gc22_ok fun r H=>?_
 rw [p_conns_Feed] at H
 conv=>whnf
 refine ask_c (p_conns_Check_v _) H rfl rfl (fun v1 H=>?_);conv=>whnf
 refine tst_c H (fun b2 H=>?_) (fun b2 H=>?_)
 ·conv=>whnf
  refine finR_c (enc:=(fun r:(List ConnsConn) × (List DeframeItem) × Int=>.tup [(fun l:List ConnsConn=>V.sl (l.map ConnsConn.v) false) r.1,(fun l:List DeframeItem=>V.sl (l.map DeframeItem.v) false) r.2.1,V.i r.2.2])) H ?_;conv=>whnf
  exact ⟨_,.tup (.cons (.c (.slw)) (.cons (.c (.slw)) (.cons (.c (.id rfl)) (.nil))))⟩
 conv=>whnf
 refine ask_c (p_conns_Find_v _ _) H rfl rfl (fun v3 H=>?_);conv=>whnf
 refine lq_ ?_;conv=>whnf
 refine Tst.not ?_
 refine tst_d H (fun b4 H=>?_) (fun b4 H=>?_)
 ·conv=>whnf
  refine finR_c (enc:=(fun r:(List ConnsConn) × (List DeframeItem) × Int=>.tup [(fun l:List ConnsConn=>V.sl (l.map ConnsConn.v) false) r.1,(fun l:List DeframeItem=>V.sl (l.map DeframeItem.v) false) r.2.1,V.i r.2.2])) H ?_;conv=>whnf
  exact ⟨_,.tup (.cons (.c (.slw)) (.cons (.c (.slw)) (.cons (.c (.id rfl)) (.nil))))⟩
 conv=>whnf
 refine ask_c (p_deframe_Feed_v _ _) H rfl rfl (fun v5 H=>?_);conv=>whnf
 refine lq_ ?_;conv=>whnf
 refine lq_ ?_;conv=>whnf
 refine ask_c (p_conns_State_with_v _ _) H rfl rfl (fun v6 H=>?_);conv=>whnf
 refine FootQ.mk ⟨rfl,?_⟩;conv=>whnf
 exact fin0_c (enc:=(fun r:(List ConnsConn) × (List DeframeItem) × Int=>.tup [(fun l:List ConnsConn=>V.sl (l.map ConnsConn.v) false) r.1,(fun l:List DeframeItem=>V.sl (l.map DeframeItem.v) false) r.2.1,V.i r.2.2])) H (.inr rfl) (.cons (.tmp rfl) (.cons (.tmp rfl) (.cons (.tmp rfl) (.nil)))) rfl rfl
def gc28:BCode:=(.seq (R_ 0 [O_ 4 (.mv (i_ 0)) 0,O_ 5 (.mv (b_ false)) 0]) (.seq (.seq (R_ 0 [O_ 8 (.mv (t_ 0)) 0,O_ 9 (.cl 30 [(t_ 8)]) 0,O_ 10 (.bin .neq (t_ 9) (i_ 0)) 0]) (.cond (t_ 10) (.seq (R_ 0 [O_ 4 (.mv (i_ 0)) 0,O_ 5 (.mv (b_ false)) 0]) .ret) .skip)) (.seq (R_ 0 [O_ 12 (.mv (t_ 0)) 0,O_ 13 (.mv (t_ 1)) 0,O_ 14 (.cl 47 [(t_ 12),(t_ 13)]) 0,O_ 11 (.mv (t_ 14)) 0,O_ 15 (.ex (t_ 11) 0) 0,O_ 16 (.ex (t_ 11) 1) 0,O_ 6 (.mv (t_ 15)) 0,O_ 7 (.mv (t_ 16)) 0]) (.seq (.seq (R_ 0 [O_ 17 (.mv (t_ 7)) 0,O_ 18 (.un .not (t_ 17)) 0]) (.cond (t_ 18) (.seq (R_ 0 [O_ 4 (.mv (i_ 0)) 0,O_ 5 (.mv (b_ false)) 0]) .ret) .skip)) (.seq (R_ 0 [O_ 19 (.mv (t_ 0)) 0,O_ 20 (.mv (t_ 6)) 0,O_ 21 (.ixs 8 (t_ 19) (t_ 20)) 0,O_ 22 (.fa 0 (t_ 21)) 0,O_ 23 (.ld 1 false (t_ 22)) 0,O_ 4 (.mv (t_ 23)) 0,O_ 5 (.mv (b_ true)) 0]) .ret)))))
theorem gc28_ok:compF Tryz.prog Tryz.f28=some (gc28.er,24,[.tmp 4,.tmp 5]):=by unfold gc28;kernel_rfl
theorem p_conns_ByKey_v {u1:Bool} (a0:List ConnsConn) (a1:ByteArray):CallsO Tryz.prog 28 [.sl (List.map ConnsConn.v a0) u1,.s a1] (fun r:Int × Bool=>.tup [V.i r.1,V.b r.2]) (p_conns_ByKey a0 a1):=by
 refine callsO_comp mix Tryz.func28 gc28_ok fun r H=>?_
 rw [p_conns_ByKey] at H
 conv=>whnf
 refine ask_c (p_conns_Check_v _) H rfl rfl (fun v1 H=>?_);conv=>whnf
 refine tst_c H (fun b2 H=>?_) (fun b2 H=>?_)
 ·conv=>whnf
  exact fq_ H
 conv=>whnf
 refine ask_c (p_conns_State_keyed_v _ _) H rfl rfl (fun v3 H=>?_);conv=>whnf
 refine Tst.not ?_
 refine tst_d H (fun b4 H=>?_) (fun b4 H=>?_)
 ·conv=>whnf
  exact fq_ H
 conv=>whnf
 refine ixs_c (f:=ConnsConn.v) H (fun _=>rfl) (fun x5 H=>?_);conv=>whnf
 refine lq_ ?_;conv=>whnf
 exact fq_ H
def gc33:BCode:=(.seq (R_ 0 [O_ 4 (.mv (.const (.slice none 0 0))) 0]) (.seq (.seq (R_ 0 [O_ 8 (.mv (t_ 1)) 0,O_ 9 (.bin .eql (t_ 8) (.const (.string ⟨#[]⟩))) 0,O_ 10 (.mv (t_ 9)) 0,⟨(some 11),.mv (t_ 0),(some (10,false)),0⟩,⟨(some 12),.cl 30 [(t_ 11)],(some (10,false)),0⟩,⟨(some 13),.bin .neq (t_ 12) (i_ 0),(some (10,false)),0⟩,O_ 14 (.pick (t_ 10) (b_ true) (t_ 13)) 0]) (.cond (t_ 14) (.seq (R_ 0 [O_ 4 (.mv (.const (.slice none 0 0))) 0]) .ret) .skip)) (.seq (R_ 0 [O_ 5 (.mv (.const (.slice none 0 0))) 0]) (.seq (.seq (R_ 0 [O_ 15 (.mv (t_ 0)) 0,O_ 16 (.lens (t_ 15)) 0,O_ 17 (.mv (i_ 0)) 0]) (.block 0 (.loop (.seq (R_ 0 [O_ 18 (.bin .lss (t_ 17) (t_ 16)) 0]) (.seq (.cond (t_ 18) .skip (.exit 0)) (.seq (.block 1 (.seq (R_ 1 [O_ 19 (.ixs 8 (t_ 15) (t_ 17)) 0,O_ 20 (.ld 8 true (t_ 19)) 0,O_ 7 (.al (.agg [(.lit (.int .i64 0)),(.lit (.int .i64 0)),(.lit (.string ⟨#[]⟩)),(.lit (.string ⟨#[]⟩)),(.lit (.int .i64 0)),(.lit (.string ⟨#[]⟩)),(.lit (.int .i64 0)),(.lit (.int .i64 0))])) 0,U_ (.st 8 (t_ 7) (t_ 20)) 1]) (.seq (R_ 0 [O_ 21 (.fa 2 (t_ 7)) 0,O_ 22 (.ld 1 false (t_ 21)) 0,O_ 23 (.mv (t_ 1)) 0,O_ 24 (.bin .eql (t_ 22) (t_ 23)) 0]) (.cond (t_ 24) (R_ 2 [O_ 25 (.mv (t_ 5)) 0,O_ 26 (.fa 0 (t_ 7)) 0,O_ 27 (.ld 1 false (t_ 26)) 0,O_ 28 (.bs 1 1 [(.lit (.int .i64 0))] [(0,(t_ 27))]) 0,O_ 29 (.ap 1 8 (t_ 25) (t_ 28)) 1,O_ 5 (.mv (t_ 29)) 2]) .skip)))) (R_ 0 [O_ 30 (.bin .add (t_ 17) (i_ 1)) 0,O_ 17 (.mv (t_ 30)) 0]))))))) (.seq (R_ 0 [O_ 31 (.mv (t_ 5)) 0,O_ 4 (.mv (t_ 31)) 0]) .ret)))))
theorem gc33_ok:compF Tryz.prog Tryz.f33=some (gc33.er,32,[.tmp 4]):=by unfold gc33;kernel_rfl
theorem p_conns_Sessions_v {u1:Bool} (a0:List ConnsConn) (a1:ByteArray):CallsO Tryz.prog 33 [.sl (List.map ConnsConn.v a0) u1,.s a1] (fun l:List Int=>V.sl (l.map V.i) false) (p_conns_Sessions a0 a1):=by
 refine callsO_comp mix Tryz.func33 gc33_ok fun r H=>?_
 rw [p_conns_Sessions] at H
 conv=>whnf
 refine tst_c H (fun b1 H=>?_) (fun b1 H=>?_)
 ·conv=>whnf
  iterate 4 (refine Tst.T ?_;conv=>whnf)
  refine finR_c (enc:=(fun l:List Int=>V.sl (l.map V.i) false)) H ?_;conv=>whnf
  exact ⟨_,.v (.c (.slw))⟩
 conv=>whnf
 refine Tst.F ?_;conv=>whnf
 refine ask_c (p_conns_Check_v _) H rfl rfl (fun v2 H=>?_);conv=>whnf
 iterate 2 (refine Tst.F ?_;conv=>whnf)
 refine tst_c H (fun b3 H=>?_) (fun b3 H=>?_)
 ·conv=>whnf
  refine finR_c (enc:=(fun l:List Int=>V.sl (l.map V.i) false)) H ?_;conv=>whnf
  exact ⟨_,.v (.c (.slw))⟩
 conv=>whnf
 refine LenQ.M ?_;conv=>whnf
 obtain ⟨o5,HL6,HQ7⟩:=bind_c H
 refine loop_c [5,17] [7,18,19,20,21,22,23,24,25,26,27,28,29,30] [7,18,19,20,21,22,23,24,25,26,27,28,29,30] (fun n vals st=>(∃ y9,p_conns_Sessions_l1  a1 a0 (a0.length:Int) n [] y9=some o5∧vals=[.sl (List.map V.i []) true,.i y9]∧st=[])∨(∃ y14 y15,p_conns_Sessions_l1  a1 a0 (a0.length:Int) n y14 y15=some o5∧vals=[.osl 0 0 (List.length y14) 1 false,.i y15]∧st=[.live (cellsM V.i y14) (cellsM V.i y14).length])) fuel 0 [] (.inl (⟨_,HL6,rfl,rfl⟩)) (Nat.zero_le _) rfl (by kernel_rfl) (by kernel_rfl) rfl trivial ?_
 rintro (_ | n8) _ _ (⟨y9,H,rfl,rfl⟩ | ⟨y14,y15,H,rfl,rfl⟩)
 ·rw [p_conns_Sessions_l1] at H;cases H
 ·rw [p_conns_Sessions_l1] at H;cases H
 ·rw [p_conns_Sessions_l1] at H
  conv=>whnf
  refine tst_d H (fun b10 H=>?_) (fun b10 H=>?_)
  ·conv=>whnf
   obtain rfl:=Option.some.inj H
   have H:=HQ7
   try dsimp only at H
   refine finR_c (enc:=(fun l:List Int=>V.sl (l.map V.i) false)) H ?_;conv=>whnf
   exact ⟨_,.v (.c (.slw))⟩
  conv=>whnf
  refine ixs_c (f:=ConnsConn.v) H (fun _=>rfl) (fun x11 H=>?_);conv=>whnf
  refine lq_ ?_;conv=>whnf
  refine tst_d H (fun b12 H=>?_) (fun b12 H=>?_)
  ·conv=>whnf
   refine Ari.w ?_;conv=>whnf
   exact again_c [7,18,19,20,21,22,23,24,25,26,27,28,29,30] n8 0 [] (.inl (⟨_,H,rfl,rfl⟩)) (Nat.lt_succ_self _) (Nat.zero_le _) rfl (by kernel_rfl) (by kernel_rfl) rfl trivial
  conv=>whnf
  refine appN_c (f:=V.i) H (fun _=>rfl) (srcM (f:=V.i) (fun _=>rfl) [] true) rfl (.v (srcOwn (f:=V.i) (l:=[x11.ID]) (fun _=>rfl) rfl rfl rfl)) (by decide) rfl (by simp) (fun l13 H=>?_);conv=>whnf
  refine Ari.w ?_;conv=>whnf
  exact again_c [7,18,19,20,21,22,23,24,25,26,27,28,29,30] n8 1 [2] (.inr (⟨_,_,H,rfl,rfl⟩)) (Nat.lt_succ_self _) (Nat.zero_le _) rfl (by kernel_rfl) (by kernel_rfl) rfl (wkB_live0 rfl (cellsM_idlt (f:=V.i) (fun _=>rfl) _) rfl trivial)
 rw [p_conns_Sessions_l1] at H
 conv=>whnf
 refine tst_d H (fun b16 H=>?_) (fun b16 H=>?_)
 ·conv=>whnf
  obtain rfl:=Option.some.inj H
  have H:=HQ7
  try dsimp only at H
  refine finR_c (enc:=(fun l:List Int=>V.sl (l.map V.i) false)) H ?_;conv=>whnf
  exact ⟨_,.v (.c (fzown (f:=V.i) (l:=y14) rfl rfl (fun _=>rfl) (fun _=>rfl)))⟩
 conv=>whnf
 refine ixs_c (f:=ConnsConn.v) H (fun _=>rfl) (fun x17 H=>?_);conv=>whnf
 refine lq_ ?_;conv=>whnf
 refine tst_d H (fun b18 H=>?_) (fun b18 H=>?_)
 ·conv=>whnf
  refine Ari.w ?_;conv=>whnf
  exact again_c [7,18,19,20,21,22,23,24,25,26,27,28,29,30] n8 1 [] (.inr (⟨_,_,H,rfl,rfl⟩)) (Nat.lt_succ_self _) (Nat.zero_le _) rfl (by kernel_rfl) (by kernel_rfl) rfl (wkB_live0 rfl (cellsM_idlt (f:=V.i) (fun _=>rfl) _) rfl trivial)
 conv=>whnf
 refine appO_c (f:=V.i) H (fun _=>rfl) rfl (Nat.le_refl _) (.v (srcOwn (f:=V.i) (l:=[x17.ID]) (fun _=>rfl) rfl rfl rfl)) (by decide) rfl (by simp) (fun l19 H=>?_);conv=>whnf
 refine Ari.w ?_;conv=>whnf
 exact again_c [7,18,19,20,21,22,23,24,25,26,27,28,29,30] n8 1 [3] (.inr (⟨_,_,H,rfl,rfl⟩)) (Nat.lt_succ_self _) (Nat.zero_le _) rfl (by kernel_rfl) (by kernel_rfl) rfl (wkB_live0 rfl (cellsM_idlt (f:=V.i) (fun _=>rfl) _) rfl trivial)
end Go.Proofs.YtdbigmjlhkgeoaaGreat

namespace Go.Proofs.YtdbigmjlhkgeoaaGreat
open Go.RowKit
set_option maxRecDepth 100000
set_option maxHeartbeats 4000000
def gc62:BCode:=(.seq (R_ 0 [O_ 4 (.mv (b_ false)) 0]) (.seq (.seq (R_ 0 [O_ 6 (.mv (t_ 0)) 0,O_ 7 (.lens (t_ 6)) 0,O_ 8 (.mv (t_ 1)) 0,O_ 9 (.lens (t_ 8)) 0,O_ 10 (.bin .neq (t_ 7) (t_ 9)) 0]) (.cond (t_ 10) (.seq (R_ 0 [O_ 4 (.mv (b_ false)) 0]) .ret) .skip)) (.seq (.seq (R_ 0 [O_ 11 (.mv (t_ 0)) 0,O_ 12 (.lens (t_ 11)) 0,O_ 13 (.mv (i_ 0)) 0]) (.block 0 (.loop (.seq (R_ 0 [O_ 14 (.bin .lss (t_ 13) (t_ 12)) 0]) (.seq (.cond (t_ 14) .skip (.exit 0)) (.seq (.block 1 (.seq (R_ 0 [O_ 15 (.mv (t_ 13)) 0,O_ 5 (.mv (t_ 15)) 0]) (.seq (.reg 0 [O_ 16 (.mv (t_ 0)) 0,O_ 17 (.mv (t_ 5)) 0,O_ 18 (.ixs 8 (t_ 16) (t_ 17)) 0,O_ 19 (.ld 8 true (t_ 18)) 0,O_ 20 (.mv (t_ 1)) 0,O_ 21 (.mv (t_ 5)) 0,O_ 22 (.ixs 8 (t_ 20) (t_ 21)) 0,O_ 23 (.ld 8 true (t_ 22)) 0,O_ 24 (.eqa true [1,1,2,2,1,2,1,1] (t_ 19) (t_ 23)) 0] (some [[],[],[1,0],[0,1,2],[],[],[5,4],[4,5,6],[6,5,4,7,2,1,0,3]]) 0 []) (.cond (t_ 24) (.seq (R_ 0 [O_ 4 (.mv (b_ false)) 0]) .ret) .skip)))) (R_ 0 [O_ 25 (.bin .add (t_ 13) (i_ 1)) 0,O_ 13 (.mv (t_ 25)) 0]))))))) (.seq (R_ 0 [O_ 4 (.mv (b_ true)) 0]) .ret))))
theorem gc62_ok:compF Tryz.prog Tryz.f62=some (gc62.er,26,[.tmp 4]):=by unfold gc62;kernel_rfl
theorem p_slices_Equal_conns_State_conns_Conn__v {u1 u2:Bool} (a0:List ConnsConn) (a1:List ConnsConn):CallsO Tryz.prog 62 [.sl (List.map ConnsConn.v a0) u1,.sl (List.map ConnsConn.v a1) u2] V.b (p_slices_Equal_conns_State_conns_Conn_ a0 a1):=by
 refine callsO_comp mix Tryz.func62 gc62_ok fun r H=>?_
 rw [p_slices_Equal_conns_State_conns_Conn_] at H
 conv=>whnf
 iterate 2 (refine LenQ.M ?_;conv=>whnf)
 refine tst_c H (fun b1 H=>?_) (fun b1 H=>?_)
 ·conv=>whnf
  exact fb_ H
 conv=>whnf
 refine LenQ.M ?_;conv=>whnf
 obtain ⟨o3,HL4,HQ5⟩:=bind_c H
 refine loop_c [4,13] [5,14,15,16,17,18,19,20,21,22,23,24,25] [5,14,15,16,17,18,19,20,21,22,23,24,25] (fun n vals st=>(∃ y7,p_slices_Equal_conns_State_conns_Conn__l1  a0 a1 (a0.length:Int) n y7=some o3∧vals=[.b false,.i y7]∧st=[])) fuel 0 [] (⟨_,HL4,rfl,rfl⟩) (Nat.zero_le _) rfl (by kernel_rfl) (by kernel_rfl) rfl trivial ?_
 rintro (_ | n6) _ _ (⟨y7,H,rfl,rfl⟩)
 ·rw [p_slices_Equal_conns_State_conns_Conn__l1] at H;cases H
 rw [p_slices_Equal_conns_State_conns_Conn__l1] at H
 conv=>whnf
 refine tst_d H (fun b8 H=>?_) (fun b8 H=>?_)
 ·conv=>whnf
  obtain rfl:=Option.some.inj H
  have H:=HQ5
  try dsimp only at H
  exact fb_ H
 conv=>whnf
 refine ixs_c (f:=ConnsConn.v) H (fun _=>rfl) (fun x9 H=>?_);conv=>whnf
 refine ixs_c (f:=ConnsConn.v) H (fun _=>rfl) (fun x10 H=>?_);conv=>whnf
 refine FootQ.mk ⟨rfl,?_⟩;conv=>whnf
 refine Tst.not ?_
 refine tst_d H (fun b11 H=>?_) (fun b11 H=>?_)
 ·conv=>whnf
  obtain rfl:=Option.some.inj H
  have H:=HQ5
  try dsimp only at H
  exact fb_ H
 conv=>whnf
 refine Ari.w ?_;conv=>whnf
 exact again_c [5,14,15,16,17,18,19,20,21,22,23,24,25] n6 0 [] (⟨_,H,rfl,rfl⟩) (Nat.lt_succ_self _) (Nat.zero_le _) rfl (by kernel_rfl) (by kernel_rfl) rfl trivial
def gc37:BCode:=(.seq (R_ 0 [O_ 4 (.mv (b_ false)) 0]) (.seq (R_ 0 [O_ 5 (.mv (t_ 0)) 0,O_ 6 (.mv (t_ 1)) 0,O_ 7 (.cl 62 [(t_ 5),(t_ 6)]) 0,O_ 4 (.mv (t_ 7)) 0]) .ret))
theorem gc37_ok:compF Tryz.prog Tryz.f37=some (gc37.er,8,[.tmp 4]):=by unfold gc37;kernel_rfl
theorem p_conns_Same_v {u1 u2:Bool} (a0:List ConnsConn) (a1:List ConnsConn):CallsO Tryz.prog 37 [.sl (List.map ConnsConn.v a0) u1,.sl (List.map ConnsConn.v a1) u2] V.b (p_conns_Same a0 a1):=by
 refine callsO_comp mix Tryz.func37 gc37_ok fun r H=>?_
 rw [p_conns_Same] at H
 conv=>whnf
 refine ask_c (p_slices_Equal_conns_State_conns_Conn__v _ _) H rfl rfl (fun v1 H=>?_);conv=>whnf
 exact fb_ H
end Go.Proofs.YtdbigmjlhkgeoaaGreat

namespace Go.Proofs.YtdbigmjlhkgeoaaGreat
open Go.RowKit
set_option maxRecDepth 100000
set_option maxHeartbeats 4000000
def gc32:BCode:=(.seq (R_ 0 [O_ 4 (.mv (b_ false)) 0]) (.seq (.seq (R_ 0 [O_ 6 (.mv (t_ 0)) 0,O_ 7 (.lens (t_ 6)) 0,O_ 8 (.mv (t_ 1)) 0,O_ 9 (.lens (t_ 8)) 0,O_ 10 (.bin .neq (t_ 7) (t_ 9)) 0]) (.cond (t_ 10) (.seq (R_ 0 [O_ 4 (.mv (b_ false)) 0]) .ret) .skip)) (.seq (.seq (R_ 0 [O_ 5 (.mv (i_ 0)) 0]) (.block 0 (.loop (.seq (.seq (R_ 0 [O_ 11 (.mv (t_ 5)) 0,O_ 12 (.mv (t_ 0)) 0,O_ 13 (.lens (t_ 12)) 0,O_ 14 (.bin .lss (t_ 11) (t_ 13)) 0]) (.cond (t_ 14) .skip (.exit 0))) (.seq (.block 1 (.seq (.reg 0 [O_ 17 (.mv (t_ 0)) 0,O_ 18 (.mv (t_ 5)) 0,O_ 19 (.ixs 1 (t_ 17) (t_ 18)) 0,O_ 20 (.ld 1 false (t_ 19)) 0,O_ 21 (.mv (t_ 1)) 0,O_ 22 (.mv (t_ 5)) 0,O_ 23 (.ixs 1 (t_ 21) (t_ 22)) 0,O_ 24 (.ld 1 false (t_ 23)) 0,O_ 25 (.bin .neq (t_ 20) (t_ 24)) 0] (some [[],[],[1,0],[0,1,2],[],[],[5,4],[4,5,6],[6,5,4,7,2,1,0,3]]) 0 []) (.cond (t_ 25) (.seq (R_ 0 [O_ 4 (.mv (b_ false)) 0]) .ret) .skip))) (R_ 0 [O_ 15 (.mv (t_ 5)) 0,O_ 16 (.bin .add (t_ 15) (i_ 1)) 0,O_ 5 (.mv (t_ 16)) 0])))))) (.seq (R_ 0 [O_ 4 (.mv (b_ true)) 0]) .ret))))
theorem gc32_ok:compF Tryz.prog Tryz.f32=some (gc32.er,26,[.tmp 4]):=by unfold gc32;kernel_rfl
theorem p_ref01_SameInts_v {u1 u2:Bool} (a0:List Int) (a1:List Int):CallsO Tryz.prog 32 [.sl (List.map V.i a0) u1,.sl (List.map V.i a1) u2] V.b (p_ref01_SameInts a0 a1):=by
 refine callsO_comp mix Tryz.func32 gc32_ok fun r H=>?_
 rw [p_ref01_SameInts] at H
 conv=>whnf
 iterate 2 (refine LenQ.M ?_;conv=>whnf)
 refine tst_c H (fun b1 H=>?_) (fun b1 H=>?_)
 ·conv=>whnf
  exact fb_ H
 conv=>whnf
 obtain ⟨o3,HL4,HQ5⟩:=bind_c H
 refine loop_c [4,5] [11,12,13,14,15,16,17,18,19,20,21,22,23,24,25] [11,12,13,14,15,16,17,18,19,20,21,22,23,24,25] (fun n vals st=>(∃ y7,p_ref01_SameInts_l1  a0 a1 n y7=some o3∧vals=[.b false,.i y7]∧st=[])) fuel 0 [] (⟨_,HL4,rfl,rfl⟩) (Nat.zero_le _) rfl (by kernel_rfl) (by kernel_rfl) rfl trivial ?_
 rintro (_ | n6) _ _ (⟨y7,H,rfl,rfl⟩)
 ·rw [p_ref01_SameInts_l1] at H;cases H
 rw [p_ref01_SameInts_l1] at H
 conv=>whnf
 refine LenQ.M ?_;conv=>whnf
 refine tst_d H (fun b8 H=>?_) (fun b8 H=>?_)
 ·conv=>whnf
  obtain rfl:=Option.some.inj H
  have H:=HQ5
  try dsimp only at H
  exact fb_ H
 conv=>whnf
 refine ixs_c (f:=V.i) H (fun _=>rfl) (fun x9 H=>?_);conv=>whnf
 refine ixs_c (f:=V.i) H (fun _=>rfl) (fun x10 H=>?_);conv=>whnf
 refine FootQ.mk ⟨rfl,?_⟩;conv=>whnf
 refine tst_c H (fun b11 H=>?_) (fun b11 H=>?_)
 ·conv=>whnf
  obtain rfl:=Option.some.inj H
  have H:=HQ5
  try dsimp only at H
  exact fb_ H
 conv=>whnf
 refine Ari.w ?_;conv=>whnf
 exact again_c [11,12,13,14,15,16,17,18,19,20,21,22,23,24,25] n6 0 [] (⟨_,H,rfl,rfl⟩) (Nat.lt_succ_self _) (Nat.zero_le _) rfl (by kernel_rfl) (by kernel_rfl) rfl trivial
end Go.Proofs.YtdbigmjlhkgeoaaGreat

namespace Go.Proofs.YtdbigmjlhkgeoaaGreat
open Go.RowKit
set_option maxRecDepth 1000000
set_option maxHeartbeats 4000000
def gc8:BCode:=(.seq (R_ 0 [O_ 0 (.mv (b_ false)) 0]) (.seq (R_ 0 [O_ 24 (.cl 10 [(.const (.slice none 0 0)),(i_ 3),(i_ 9)]) 0,O_ 23 (.mv (t_ 24)) 0,O_ 25 (.ex (t_ 23) 0) 0,O_ 26 (.ex (t_ 23) 1) 0,O_ 1 (.mv (t_ 25)) 0,O_ 2 (.mv (t_ 26)) 0]) (.seq (R_ 0 [O_ 28 (.mv (t_ 1)) 0,O_ 29 (.cl 10 [(t_ 28),(i_ 1),(i_ 9)]) 0,O_ 27 (.mv (t_ 29)) 0,O_ 30 (.ex (t_ 27) 0) 0,O_ 31 (.ex (t_ 27) 1) 0,O_ 1 (.mv (t_ 30)) 0,O_ 3 (.mv (t_ 31)) 0]) (.seq (R_ 0 [O_ 33 (.mv (t_ 1)) 0,O_ 34 (.cl 14 [(t_ 33),(i_ 3),(.const (.string ⟨#[97,64,98]⟩)),(.const (.string ⟨#[120]⟩))]) 0,O_ 32 (.mv (t_ 34)) 0,O_ 35 (.ex (t_ 32) 0) 0,O_ 36 (.ex (t_ 32) 1) 0,O_ 4 (.mv (t_ 35)) 0,O_ 5 (.mv (t_ 36)) 0]) (.seq (R_ 0 [O_ 38 (.mv (t_ 4)) 0,O_ 39 (.cl 14 [(t_ 38),(i_ 1),(.const (.string ⟨#[97,64,98]⟩)),(.const (.string ⟨#[120]⟩))]) 0,O_ 37 (.mv (t_ 39)) 0,O_ 40 (.ex (t_ 37) 0) 0,O_ 41 (.ex (t_ 37) 1) 0,O_ 6 (.mv (t_ 40)) 0,O_ 7 (.mv (t_ 41)) 0]) (.seq (R_ 0 [O_ 43 (.mv (t_ 4)) 0,O_ 44 (.cl 18 [(t_ 43),(i_ 1),(i_ 50)]) 0,O_ 42 (.mv (t_ 44)) 0,O_ 45 (.ex (t_ 42) 0) 0,O_ 46 (.ex (t_ 42) 1) 0,O_ 8 (.mv (t_ 45)) 0,O_ 9 (.mv (t_ 46)) 0]) (.seq (R_ 0 [O_ 48 (.mv (t_ 8)) 0,O_ 49 (.cl 20 [(t_ 48),(i_ 1),(i_ 20)]) 0,O_ 47 (.mv (t_ 49)) 0,O_ 50 (.ex (t_ 47) 0) 0,O_ 51 (.ex (t_ 47) 1) 0,O_ 8 (.mv (t_ 50)) 0,O_ 10 (.mv (t_ 51)) 0]) (.seq (R_ 0 [O_ 53 (.mv (t_ 8)) 0,O_ 54 (.cl 20 [(t_ 53),(i_ 1),(i_ 31)]) 0,O_ 52 (.mv (t_ 54)) 0,O_ 55 (.ex (t_ 52) 0) 0,O_ 56 (.ex (t_ 52) 1) 0,O_ 11 (.mv (t_ 55)) 0,O_ 12 (.mv (t_ 56)) 0]) (.seq (R_ 0 [O_ 58 (.mv (t_ 8)) 0,O_ 59 (.cl 22 [(t_ 58),(i_ 1),(.const (.string ⟨#[0,1,2,0,0]⟩))]) 0,O_ 57 (.mv (t_ 59)) 0,O_ 60 (.ex (t_ 57) 0) 0,O_ 61 (.ex (t_ 57) 1) 0,O_ 62 (.ex (t_ 57) 2) 0,O_ 13 (.mv (t_ 60)) 0,O_ 14 (.mv (t_ 61)) 0,O_ 15 (.mv (t_ 62)) 0]) (.seq (R_ 1 [O_ 64 (.mv (t_ 13)) 0,O_ 65 (.cl 12 [(t_ 64),(i_ 3)]) 0,O_ 63 (.mv (t_ 65)) 0,O_ 66 (.ex (t_ 63) 0) 0,O_ 67 (.ex (t_ 63) 1) 0,O_ 68 (.ex (t_ 63) 2) 0,O_ 17 (.al (.agg [(.lit (.int .i64 0)),(.lit (.int .i64 0)),(.lit (.string ⟨#[]⟩)),(.lit (.string ⟨#[]⟩)),(.lit (.int .i64 0)),(.lit (.string ⟨#[]⟩)),(.lit (.int .i64 0)),(.lit (.int .i64 0))])) 0,O_ 16 (.mv (t_ 66)) 1,U_ (.st 8 (t_ 17) (t_ 67)) 1,O_ 18 (.mv (t_ 68)) 1]) (.seq (R_ 0 [O_ 70 (.mv (t_ 13)) 0,O_ 71 (.cl 28 [(t_ 70),(.const (.string ⟨#[97,64,98,32,120]⟩))]) 0,O_ 69 (.mv (t_ 71)) 0,O_ 72 (.ex (t_ 69) 0) 0,O_ 73 (.ex (t_ 69) 1) 0,O_ 19 (.mv (t_ 72)) 0,O_ 20 (.mv (t_ 73)) 0]) (.seq (R_ 1 [O_ 75 (.mv (t_ 8)) 0,O_ 76 (.cl 26 [(t_ 75),(i_ 1)]) 0,O_ 74 (.mv (t_ 76)) 0,O_ 77 (.ex (t_ 74) 0) 0,O_ 78 (.ex (t_ 74) 1) 0,O_ 21 (.al (.agg [(.lit (.int .i64 0)),(.lit (.int .i64 0)),(.lit (.string ⟨#[]⟩)),(.lit (.string ⟨#[]⟩)),(.lit (.int .i64 0)),(.lit (.string ⟨#[]⟩)),(.lit (.int .i64 0)),(.lit (.int .i64 0))])) 0,U_ (.st 8 (t_ 21) (t_ 77)) 1,O_ 22 (.mv (t_ 78)) 1]) (.seq (R_ 2 [O_ 79 (.mv (t_ 2)) 0,O_ 80 (.bin .eql (t_ 79) (i_ 0)) 0,O_ 81 (.mv (t_ 80)) 0,⟨(some 82),.mv (t_ 3),(some (81,true)),0⟩,⟨(some 83),.bin .eql (t_ 82) (i_ 0),(some (81,true)),0⟩,O_ 84 (.pick (t_ 81) (t_ 83) (b_ false)) 0,O_ 85 (.mv (t_ 84)) 0,⟨(some 86),.mv (t_ 5),(some (85,true)),0⟩,⟨(some 87),.bin .eql (t_ 86) (i_ 0),(some (85,true)),0⟩,O_ 88 (.pick (t_ 85) (t_ 87) (b_ false)) 0,O_ 89 (.mv (t_ 88)) 0,⟨(some 90),.mv (t_ 7),(some (89,true)),0⟩,⟨(some 91),.bin .eql (t_ 90) (i_ 13),(some (89,true)),0⟩,O_ 92 (.pick (t_ 89) (t_ 91) (b_ false)) 0,O_ 93 (.mv (t_ 92)) 0,⟨(some 94),.mv (t_ 9),(some (93,true)),0⟩,O_ 95 (.pick (t_ 93) (t_ 94) (b_ false)) 0,O_ 96 (.mv (t_ 95)) 0,⟨(some 97),.mv (t_ 10),(some (96,true)),0⟩,O_ 98 (.pick (t_ 96) (t_ 97) (b_ false)) 0,O_ 99 (.mv (t_ 98)) 0,⟨(some 100),.mv (t_ 12),(some (99,true)),0⟩,⟨(some 101),.un .not (t_ 100),(some (99,true)),0⟩,O_ 102 (.pick (t_ 99) (t_ 101) (b_ false)) 0,O_ 103 (.mv (t_ 102)) 0,⟨(some 104),.fa 4 (t_ 21),(some (103,true)),0⟩,⟨(some 105),.ld 1 false (t_ 104),(some (103,true)),0⟩,⟨(some 106),.bin .eql (t_ 105) (i_ 30),(some (103,true)),0⟩,O_ 107 (.pick (t_ 103) (t_ 106) (b_ false)) 0,O_ 108 (.mv (t_ 107)) 0,⟨(some 109),.mv (t_ 22),(some (108,true)),0⟩,O_ 110 (.pick (t_ 108) (t_ 109) (b_ false)) 0,O_ 111 (.mv (t_ 110)) 0,⟨(some 112),.mv (t_ 14),(some (111,true)),0⟩,⟨(some 113),.lens (t_ 112),(some (111,true)),0⟩,⟨(some 114),.bin .eql (t_ 113) (i_ 1),(some (111,true)),0⟩,O_ 115 (.pick (t_ 111) (t_ 114) (b_ false)) 0,O_ 116 (.mv (t_ 115)) 0,⟨(some 117),.mv (t_ 15),(some (116,true)),0⟩,⟨(some 118),.bin .eql (t_ 117) (i_ 4),(some (116,true)),0⟩,O_ 119 (.pick (t_ 116) (t_ 118) (b_ false)) 0,O_ 120 (.mv (t_ 119)) 0,⟨(some 121),.mv (t_ 16),(some (120,true)),0⟩,⟨(some 122),.lens (t_ 121),(some (120,true)),0⟩,⟨(some 123),.bin .eql (t_ 122) (i_ 1),(some (120,true)),0⟩,O_ 124 (.pick (t_ 120) (t_ 123) (b_ false)) 0,O_ 125 (.mv (t_ 124)) 0,⟨(some 126),.mv (t_ 18),(some (125,true)),0⟩,O_ 127 (.pick (t_ 125) (t_ 126) (b_ false)) 0,O_ 128 (.mv (t_ 127)) 0,⟨(some 129),.ld 8 true (t_ 17),(some (128,true)),0⟩,⟨(some 130),.cl 35 [(t_ 129)],(some (128,true)),0⟩,⟨(some 131),.bin .eql (t_ 130) (.const (.string ⟨#[97,64,98,32,120]⟩)),(some (128,true)),0⟩,O_ 132 (.pick (t_ 128) (t_ 131) (b_ false)) 0,O_ 133 (.mv (t_ 132)) 0,⟨(some 134),.mv (t_ 19),(some (133,true)),0⟩,⟨(some 135),.bin .eql (t_ 134) (i_ 3),(some (133,true)),0⟩,O_ 136 (.pick (t_ 133) (t_ 135) (b_ false)) 0,O_ 137 (.mv (t_ 136)) 0,⟨(some 138),.mv (t_ 20),(some (137,true)),0⟩,O_ 139 (.pick (t_ 137) (t_ 138) (b_ false)) 0,O_ 140 (.mv (t_ 139)) 0,⟨(some 141),.mv (t_ 13),(some (140,true)),0⟩,⟨(some 142),.cl 33 [(t_ 141),(.const (.string ⟨#[97,64,98]⟩))],(some (140,true)),0⟩,⟨(some 143),.bs 1 1 [(.lit (.int .i64 0))] [(0,(i_ 3))],(some (140,true)),0⟩,⟨(some 144),.cl 32 [(t_ 142),(t_ 143)],(some (140,true)),1⟩,O_ 145 (.pick (t_ 140) (t_ 144) (b_ false)) 1,O_ 146 (.mv (t_ 145)) 1,⟨(some 147),.mv (t_ 13),(some (146,true)),1⟩,⟨(some 148),.cl 30 [(t_ 147)],(some (146,true)),1⟩,⟨(some 149),.bin .eql (t_ 148) (i_ 0),(some (146,true)),1⟩,O_ 150 (.pick (t_ 146) (t_ 149) (b_ false)) 1,O_ 151 (.mv (t_ 150)) 1,⟨(some 152),.bd [(.lit (.int .i64 0)),(.lit (.int .i64 0)),(.lit (.string ⟨#[]⟩)),(.lit (.string ⟨#[]⟩)),(.lit (.int .i64 0)),(.lit (.string ⟨#[]⟩)),(.lit (.int .i64 0)),(.lit (.int .i64 0))] [(0,1,(.const (.int .i64 (-1))))],(some (151,true)),1⟩,⟨(some 153),.bs 8 1 [(.lit (.int .i64 0)),(.lit (.int .i64 0)),(.lit (.string ⟨#[]⟩)),(.lit (.string ⟨#[]⟩)),(.lit (.int .i64 0)),(.lit (.string ⟨#[]⟩)),(.lit (.int .i64 0)),(.lit (.int .i64 0))] [(0,(t_ 152))],(some (151,true)),1⟩,⟨(some 154),.cl 30 [(t_ 153)],(some (151,true)),2⟩,⟨(some 155),.bin .eql (t_ 154) (i_ 8),(some (151,true)),2⟩,O_ 156 (.pick (t_ 151) (t_ 155) (b_ false)) 2,O_ 157 (.mv (t_ 156)) 2,⟨(some 158),.mv (t_ 16),(some (157,true)),2⟩,⟨(some 159),.mv (t_ 13),(some (157,true)),2⟩,⟨(some 160),.cl 37 [(t_ 158),(t_ 159)],(some (157,true)),2⟩,⟨(some 161),.un .not (t_ 160),(some (157,true)),2⟩,O_ 162 (.pick (t_ 157) (t_ 161) (b_ false)) 2,O_ 163 (.mv (t_ 162)) 2,⟨(some 164),.mv (t_ 13),(some (163,true)),2⟩,⟨(some 165),.mv (t_ 13),(some (163,true)),2⟩,⟨(some 166),.cl 37 [(t_ 164),(t_ 165)],(some (163,true)),2⟩,O_ 167 (.pick (t_ 163) (t_ 166) (b_ false)) 2,O_ 168 (.mv (t_ 167)) 2,O_ 169 (.pick (t_ 168) (b_ true) (b_ false)) 2,O_ 170 (.mv (t_ 169)) 2,O_ 171 (.pick (t_ 170) (b_ true) (b_ false)) 2,O_ 0 (.mv (t_ 171)) 2]) .ret)))))))))))))
theorem gc8_ok:compF Tryz.prog Tryz.f8=some (gc8.er,172,[.tmp 0]):=by unfold gc8;kernel_rfl
theorem p_law31_awake_t:CallsO Tryz.prog 8 [] V.b (tru? (p_law31_awake)):=by
 refine callsO_comp mix Tryz.func8 gc8_ok fun r H=>?_
 have H1:=tru_of H
 clear H
 obtain ⟨rfl,H⟩:=H1
 rw [p_law31_awake] at H
 conv=>whnf
 refine ask_c (p_conns_Open_v _ _ _) H rfl rfl (fun v1 H=>?_);conv=>whnf
 refine ask_c (p_conns_Open_v _ _ _) H rfl rfl (fun v2 H=>?_);conv=>whnf
 refine ask_c (p_conns_Login_v _ _ _ _) H rfl rfl (fun v3 H=>?_);conv=>whnf
 refine ask_c (p_conns_Login_v _ _ _ _) H rfl rfl (fun v4 H=>?_);conv=>whnf
 refine ask_c (p_conns_Give_v _ _ _) H rfl rfl (fun v5 H=>?_);conv=>whnf
 refine ask_c (p_conns_Spend_v _ _ _) H rfl rfl (fun v6 H=>?_);conv=>whnf
 refine ask_c (p_conns_Spend_v _ _ _) H rfl rfl (fun v7 H=>?_);conv=>whnf
 refine ask_c (p_conns_Feed_v _ _ _) H rfl rfl (fun v8 H=>?_);conv=>whnf
 refine ask_c (p_conns_Close_v _ _) H rfl rfl (fun v9 H=>?_);conv=>whnf
 refine lq_ ?_;conv=>whnf
 refine ask_c (p_conns_ByKey_v _ _) H rfl rfl (fun v10 H=>?_);conv=>whnf
 refine ask_c (p_conns_Find_v _ _) H rfl rfl (fun v11 H=>?_);conv=>whnf
 refine lq_ ?_;conv=>whnf
 refine tstT_c H (fun b12 H=>?_);conv=>whnf
 iterate 2 (refine Tst.T ?_;conv=>whnf)
 refine tstT_c H (fun b13 H=>?_);conv=>whnf
 iterate 2 (refine Tst.T ?_;conv=>whnf)
 refine tstT_c H (fun b14 H=>?_);conv=>whnf
 iterate 2 (refine Tst.T ?_;conv=>whnf)
 refine tstT_c H (fun b15 H=>?_);conv=>whnf
 refine Tst.T ?_;conv=>whnf
 refine tstT_c H (fun b16 H=>?_);conv=>whnf
 refine Tst.T ?_;conv=>whnf
 refine tstT_c H (fun b17 H=>?_);conv=>whnf
 iterate 2 (refine Tst.T ?_;conv=>whnf)
 refine Tst.not ?_
 refine tstF_c H (fun b18 H=>?_);conv=>whnf
 iterate 3 (refine Tst.T ?_;conv=>whnf)
 refine tstT_c H (fun b19 H=>?_);conv=>whnf
 refine Tst.T ?_;conv=>whnf
 refine tstT_c H (fun b20 H=>?_);conv=>whnf
 refine Tst.T ?_;conv=>whnf
 refine LenQ.M ?_;conv=>whnf
 iterate 2 (refine Tst.T ?_;conv=>whnf)
 refine tstT_c H (fun b21 H=>?_);conv=>whnf
 iterate 2 (refine Tst.T ?_;conv=>whnf)
 refine tstT_c H (fun b22 H=>?_);conv=>whnf
 refine Tst.T ?_;conv=>whnf
 refine LenQ.M ?_;conv=>whnf
 iterate 2 (refine Tst.T ?_;conv=>whnf)
 refine tstT_c H (fun b23 H=>?_);conv=>whnf
 refine Tst.T ?_;conv=>whnf
 refine tstT_c H (fun b24 H=>?_);conv=>whnf
 refine Tst.T ?_;conv=>whnf
 refine ask_c (p_conns_Key_v _) H rfl rfl (fun v25 H=>?_);conv=>whnf
 iterate 2 (refine Tst.T ?_;conv=>whnf)
 refine tstT_c H (fun b26 H=>?_);conv=>whnf
 iterate 2 (refine Tst.T ?_;conv=>whnf)
 refine tstT_c H (fun b27 H=>?_);conv=>whnf
 refine Tst.T ?_;conv=>whnf
 refine tstT_c H (fun b28 H=>?_);conv=>whnf
 refine Tst.T ?_;conv=>whnf
 refine ask_c (p_conns_Sessions_v _ _) H rfl rfl (fun v29 H=>?_);conv=>whnf
 iterate 2 (refine Tst.T ?_;conv=>whnf)
 refine askF_c (p_ref01_SameInts_v _ _) H (.cons (.c (.id rfl)) (.cons (.c (fzown (f:=V.i) (l:=[(3:Int)]) rfl rfl (fun _=>rfl) (fun _=>rfl))) (.nil))) (fun v30 H=>?_);conv=>whnf
 refine Tst.T ?_;conv=>whnf
 refine tstT_c H (fun b31 H=>?_);conv=>whnf
 refine Tst.T ?_;conv=>whnf
 refine ask_c (p_conns_Check_v _) H rfl rfl (fun v32 H=>?_);conv=>whnf
 iterate 2 (refine Tst.T ?_;conv=>whnf)
 refine tstT_c H (fun b33 H=>?_);conv=>whnf
 iterate 2 (refine Tst.T ?_;conv=>whnf)
 refine askF_c (p_conns_Check_v _) H (.cons (.c (fzown (f:=ConnsConn.v) (l:=[(ConnsConn.mk (-1:Int) (0:Int) (⟨#[]⟩ : ByteArray) (⟨#[]⟩ : ByteArray) (0:Int) (DeframeState.mk (⟨#[]⟩ : ByteArray) (0:Int) (0:Int)))]) rfl rfl (fun _=>rfl) (fun _=>rfl))) (.nil)) (fun v34 H=>?_);conv=>whnf
 iterate 2 (refine Tst.T ?_;conv=>whnf)
 refine tstT_c H (fun b35 H=>?_);conv=>whnf
 iterate 2 (refine Tst.T ?_;conv=>whnf)
 refine ask_c (p_conns_Same_v _ _) H rfl rfl (fun v36 H=>?_);conv=>whnf
 iterate 2 (refine Tst.T ?_;conv=>whnf)
 refine Tst.not ?_
 refine tstF_c H (fun b37 H=>?_);conv=>whnf
 iterate 2 (refine Tst.T ?_;conv=>whnf)
 refine ask_c (p_conns_Same_v _ _) H rfl rfl (fun v38 H=>?_);conv=>whnf
 refine Tst.T ?_;conv=>whnf
 refine tstT_c H (fun b39 H=>?_);conv=>whnf
 refine Tst.T ?_;conv=>whnf
 exact fb_ H
theorem p_law31_awake_true:p_law31_awake=some true:=by kernel_rfl
theorem p_law31_awake_v:CallsO Tryz.prog 8 [] V.b p_law31_awake:=tru_closed p_law31_awake_t p_law31_awake_true
end Go.Proofs.YtdbigmjlhkgeoaaGreat

namespace Go.Proofs.YtdbigmjlhkgeoaaGreat
open Go.RowKit Go.Deep
theorem bounds_u16 {n:Int} (h:(Lit.int .u16 n).wf=true):0≤n∧n≤65535:=by
 simp [Lit.wf,IntKind.min,IntKind.max,IntKind.signed,IntKind.bits] at h
 omega
theorem connsKeeps_all (l:List Law31Deed) (h:∀ x ∈ l,Law31Deed.Wf x):p_law31_ConnsKeeps l=some true:=connsKeeps_pure p_law31_awake_true l fun x hx=>⟨(bounds_u8 (h x hx).ID).1,bounds_u8 (h x hx).Who,bounds_u16 (h x hx).N⟩
end Go.Proofs.YtdbigmjlhkgeoaaGreat

