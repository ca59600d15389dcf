/- A part of the proof: 5 texts joined. -/
import Derived.Test.YtpkodpcfafipdaaGreatQtD1
import Derived.Test.YtpkodpcfafipdaaGreatQtA12
import Derived.KernelRfl
import Derived.Test.YtpkodpcfafipdaaGreatQtA14
import Derived.Test.YtpkodpcfafipdaaGreatQtA18
set_option linter.all false
namespace Go.Proofs.YtpkodpcfafipdaaGreat
open Go.RowKit
set_option maxRecDepth 100000
set_option maxHeartbeats 4000000
def gc29:BCode:=(.seq (R_ 2 [O_ 3 (.bx (t_ 0)) 0,O_ 6 (.al (.agg [(.lit (.int .i64 0)),(.lit (.int .i64 0)),(.lit (.int .i64 0)),(.lit (.int .i64 0)),(.lit (.int .i64 0)),(.lit (.int .i64 0)),(.lit (.int .i64 0)),(.lit (.int .i64 0)),(.lit (.int .i64 0)),(.lit (.int .i64 0)),(.lit (.int .i64 0)),(.lit (.int .i64 0))])) 1]) (.seq (.seq (R_ 0 [O_ 7 (.mv (t_ 2)) 0,O_ 8 (.mv (t_ 1)) 0,O_ 9 (.ixa 12 1 (t_ 3) (t_ 8)) 0,O_ 10 (.ld 1 false (t_ 9)) 0,O_ 11 (.bin .sub (i_ 4611686018427387904) (t_ 10)) 0,O_ 12 (.bin .gtr (t_ 7) (t_ 11)) 0]) (.cond (t_ 12) (R_ 0 [O_ 13 (.mv (t_ 1)) 0,O_ 14 (.ixa 12 1 (t_ 3) (t_ 13)) 0,U_ (.st 1 (t_ 14) (i_ 4611686018427387904)) 0]) (R_ 0 [O_ 15 (.mv (t_ 1)) 0,O_ 16 (.ixa 12 1 (t_ 3) (t_ 15)) 0,O_ 17 (.ld 1 false (t_ 16)) 0,O_ 18 (.mv (t_ 2)) 0,O_ 19 (.bin .add (t_ 17) (t_ 18)) 0,O_ 20 (.ixa 12 1 (t_ 3) (t_ 15)) 0,U_ (.st 1 (t_ 20) (t_ 19)) 0]))) (.seq (R_ 0 [O_ 21 (.ld 12 true (t_ 3)) 0,U_ (.st 12 (t_ 6) (t_ 21)) 0]) .ret)))
theorem gc29_ok:compF Tryz.prog Tryz.f29=some (gc29.er,22,[.cell 6 12 true]):=by unfold gc29;kernel_rfl
theorem p_ref36_Tally_more_v (a0:Ar12_Int) (a1:Int) (a2:Int):CallsO Tryz.prog 29 [.agg [.i a0.a0,.i a0.a1,.i a0.a2,.i a0.a3,.i a0.a4,.i a0.a5,.i a0.a6,.i a0.a7,.i a0.a8,.i a0.a9,.i a0.a10,.i a0.a11],.i a1,.i a2] Ar12_Int.v (p_ref36_Tally_more a0 a1 a2):=by
 refine callsO_comp mix Tryz.func29 gc29_ok fun r H=>?_
 rw [p_ref36_Tally_more] at H
 conv=>whnf
 refine ixa_c (l:=[a0.a0,a0.a1,a0.a2,a0.a3,a0.a4,a0.a5,a0.a6,a0.a7,a0.a8,a0.a9,a0.a10,a0.a11]) H (fun x1 h2 H=>?_);conv=>whnf
 refine ldmo_c (p:=[]) (f:=V.i) (seg:=[a0.a0,a0.a1,a0.a2,a0.a3,a0.a4,a0.a5,a0.a6,a0.a7,a0.a8,a0.a9,a0.a10,a0.a11]) (m:=[]) (es:=1) rfl h2 (fun _=>rfl) 0 (by show _=0 + _;omega) (by decide) ?_;conv=>whnf
 refine Ari.w ?_;conv=>whnf
 refine tst_c H (fun b3 H=>?_) (fun b3 H=>?_)
 ·conv=>whnf
  refine ixa_c (l:=[a0.a0,a0.a1,a0.a2,a0.a3,a0.a4,a0.a5,a0.a6,a0.a7,a0.a8,a0.a9,a0.a10,a0.a11]) H (fun x4 h5 H=>?_);conv=>whnf
  refine ⟨Nat.zero_le _,stmo_c (p:=[]) (f:=V.i) (seg:=[a0.a0,a0.a1,a0.a2,a0.a3,a0.a4,a0.a5,a0.a6,a0.a7,a0.a8,a0.a9,a0.a10,a0.a11]) (m:=[]) (es:=1) (x':=(4611686018427387904:Int)) (cs':=[.i ((Ar12_Int.put a0 (Int.toNat a1) (4611686018427387904:Int)).a0),.i ((Ar12_Int.put a0 (Int.toNat a1) (4611686018427387904:Int)).a1),.i ((Ar12_Int.put a0 (Int.toNat a1) (4611686018427387904:Int)).a2),.i ((Ar12_Int.put a0 (Int.toNat a1) (4611686018427387904:Int)).a3),.i ((Ar12_Int.put a0 (Int.toNat a1) (4611686018427387904:Int)).a4),.i ((Ar12_Int.put a0 (Int.toNat a1) (4611686018427387904:Int)).a5),.i ((Ar12_Int.put a0 (Int.toNat a1) (4611686018427387904:Int)).a6),.i ((Ar12_Int.put a0 (Int.toNat a1) (4611686018427387904:Int)).a7),.i ((Ar12_Int.put a0 (Int.toNat a1) (4611686018427387904:Int)).a8),.i ((Ar12_Int.put a0 (Int.toNat a1) (4611686018427387904:Int)).a9),.i ((Ar12_Int.put a0 (Int.toNat a1) (4611686018427387904:Int)).a10),.i ((Ar12_Int.put a0 (Int.toNat a1) (4611686018427387904:Int)).a11)]) rfl h5 (fun _=>rfl) 0 (by show _=0 + _;omega) (Nat.le_of_ble_eq_true rfl) (by rfl) ((congrArg (fun l=>[]++cellsM V.i l++[]) (Ar12_Int.put_l a0 (Int.toNat a1) (4611686018427387904:Int)).symm).trans rfl) ?_⟩;conv=>whnf
  refine lq_ ?_;conv=>whnf
  exact fin0_c (enc:=Ar12_Int.v) H (.inr rfl) (.cons (.cell rfl rfl (Nat.le_of_ble_eq_true rfl)) (.nil)) rfl rfl
 conv=>whnf
 refine ixa_c (l:=[a0.a0,a0.a1,a0.a2,a0.a3,a0.a4,a0.a5,a0.a6,a0.a7,a0.a8,a0.a9,a0.a10,a0.a11]) H (fun x6 h7 H=>?_);conv=>whnf
 refine ldmo_c (p:=[]) (f:=V.i) (seg:=[a0.a0,a0.a1,a0.a2,a0.a3,a0.a4,a0.a5,a0.a6,a0.a7,a0.a8,a0.a9,a0.a10,a0.a11]) (m:=[]) (es:=1) rfl h7 (fun _=>rfl) 0 (by show _=0 + _;omega) (by decide) ?_;conv=>whnf
 refine Ari.w ?_;conv=>whnf
 refine ixa_c (l:=[a0.a0,a0.a1,a0.a2,a0.a3,a0.a4,a0.a5,a0.a6,a0.a7,a0.a8,a0.a9,a0.a10,a0.a11]) H (fun x8 h9 H=>?_);conv=>whnf
 refine ⟨Nat.zero_le _,stmo_c (p:=[]) (f:=V.i) (seg:=[a0.a0,a0.a1,a0.a2,a0.a3,a0.a4,a0.a5,a0.a6,a0.a7,a0.a8,a0.a9,a0.a10,a0.a11]) (m:=[]) (es:=1) (x':=w64 (x6 + a2)) (cs':=[.i ((Ar12_Int.put a0 (Int.toNat a1) (w64 (x6 + a2))).a0),.i ((Ar12_Int.put a0 (Int.toNat a1) (w64 (x6 + a2))).a1),.i ((Ar12_Int.put a0 (Int.toNat a1) (w64 (x6 + a2))).a2),.i ((Ar12_Int.put a0 (Int.toNat a1) (w64 (x6 + a2))).a3),.i ((Ar12_Int.put a0 (Int.toNat a1) (w64 (x6 + a2))).a4),.i ((Ar12_Int.put a0 (Int.toNat a1) (w64 (x6 + a2))).a5),.i ((Ar12_Int.put a0 (Int.toNat a1) (w64 (x6 + a2))).a6),.i ((Ar12_Int.put a0 (Int.toNat a1) (w64 (x6 + a2))).a7),.i ((Ar12_Int.put a0 (Int.toNat a1) (w64 (x6 + a2))).a8),.i ((Ar12_Int.put a0 (Int.toNat a1) (w64 (x6 + a2))).a9),.i ((Ar12_Int.put a0 (Int.toNat a1) (w64 (x6 + a2))).a10),.i ((Ar12_Int.put a0 (Int.toNat a1) (w64 (x6 + a2))).a11)]) rfl h9 (fun _=>rfl) 0 (by show _=0 + _;omega) (Nat.le_of_ble_eq_true rfl) (by rfl) ((congrArg (fun l=>[]++cellsM V.i l++[]) (Ar12_Int.put_l a0 (Int.toNat a1) (w64 (x6 + a2))).symm).trans rfl) ?_⟩;conv=>whnf
 refine lq_ ?_;conv=>whnf
 exact fin0_c (enc:=Ar12_Int.v) H (.inr rfl) (.cons (.cell rfl rfl (Nat.le_of_ble_eq_true rfl)) (.nil)) rfl rfl
def gc51:BCode:=(.seq (R_ 0 [O_ 2 (.mv (.const (.string ⟨#[]⟩))) 0]) (.seq (.seq (R_ 0 [O_ 3 (.mv (t_ 0)) 0]) (.block 0 (.seq (R_ 0 [O_ 5 (.bin .eql (t_ 3) (.const (.int .u8 1))) 0,O_ 4 (.mv (t_ 5)) 0]) (.cond (t_ 4) (.seq (R_ 0 [O_ 2 (.mv (.const (.string ⟨#[117,114]⟩))) 0]) .ret) (.seq (R_ 0 [O_ 7 (.bin .eql (t_ 3) (.const (.int .u8 3))) 0,O_ 6 (.mv (t_ 7)) 0]) (.cond (t_ 6) (.seq (R_ 0 [O_ 2 (.mv (.const (.string ⟨#[115,112]⟩))) 0]) .ret) (.seq (R_ 0 [O_ 9 (.bin .eql (t_ 3) (.const (.int .u8 5))) 0,O_ 8 (.mv (t_ 9)) 0]) (.cond (t_ 8) (.seq (R_ 0 [O_ 2 (.mv (.const (.string ⟨#[117,115,112]⟩))) 0]) .ret) (.seq (.seq (R_ 0 [O_ 11 (.bin .eql (t_ 3) (.const (.int .u8 6))) 0,O_ 10 (.mv (t_ 11)) 0]) (.cond (t_ 10) .skip (.seq (R_ 0 [O_ 12 (.bin .eql (t_ 3) (.const (.int .u8 7))) 0,O_ 10 (.mv (t_ 12)) 0]) (.cond (t_ 10) .skip (.seq (R_ 0 [O_ 13 (.bin .eql (t_ 3) (.const (.int .u8 8))) 0,O_ 10 (.mv (t_ 13)) 0]) (.cond (t_ 10) .skip (.seq (R_ 0 [O_ 14 (.bin .eql (t_ 3) (.const (.int .u8 9))) 0,O_ 10 (.mv (t_ 14)) 0]) (.cond (t_ 10) .skip (.seq (R_ 0 [O_ 15 (.bin .eql (t_ 3) (.const (.int .u8 10))) 0,O_ 10 (.mv (t_ 15)) 0]) (.cond (t_ 10) .skip (.seq (R_ 0 [O_ 16 (.bin .eql (t_ 3) (.const (.int .u8 11))) 0,O_ 10 (.mv (t_ 16)) 0]) (.cond (t_ 10) .skip (R_ 0 [O_ 17 (.bin .eql (t_ 3) (.const (.int .u8 14))) 0,O_ 10 (.mv (t_ 17)) 0]))))))))))))) (.cond (t_ 10) (.seq (R_ 0 [O_ 2 (.mv (.const (.string ⟨#[117]⟩))) 0]) .ret) (.seq (.seq (R_ 0 [O_ 19 (.bin .eql (t_ 3) (.const (.int .u8 12))) 0,O_ 18 (.mv (t_ 19)) 0]) (.cond (t_ 18) .skip (.seq (R_ 0 [O_ 20 (.bin .eql (t_ 3) (.const (.int .u8 15))) 0,O_ 18 (.mv (t_ 20)) 0]) (.cond (t_ 18) .skip (.seq (R_ 0 [O_ 21 (.bin .eql (t_ 3) (.const (.int .u8 36))) 0,O_ 18 (.mv (t_ 21)) 0]) (.cond (t_ 18) .skip (R_ 0 [O_ 22 (.bin .eql (t_ 3) (.const (.int .u8 41))) 0,O_ 18 (.mv (t_ 22)) 0]))))))) (.cond (t_ 18) (.seq (R_ 0 [O_ 2 (.mv (.const (.string ⟨#[110]⟩))) 0]) .ret) (.seq (R_ 0 [O_ 24 (.bin .eql (t_ 3) (.const (.int .u8 13))) 0,O_ 23 (.mv (t_ 24)) 0]) (.cond (t_ 23) (.seq (R_ 0 [O_ 2 (.mv (.const (.string ⟨#[117,109]⟩))) 0]) .ret) (.seq (R_ 0 [O_ 26 (.bin .eql (t_ 3) (.const (.int .u8 32))) 0,O_ 25 (.mv (t_ 26)) 0]) (.cond (t_ 25) (.seq (R_ 0 [O_ 2 (.mv (.const (.string ⟨#[99,110]⟩))) 0]) .ret) (.seq (R_ 0 [O_ 28 (.bin .eql (t_ 3) (.const (.int .u8 33))) 0,O_ 27 (.mv (t_ 28)) 0]) (.cond (t_ 27) (.seq (R_ 0 [O_ 2 (.mv (.const (.string ⟨#[99,115,110]⟩))) 0]) .ret) (.seq (R_ 0 [O_ 30 (.bin .eql (t_ 3) (.const (.int .u8 34))) 0,O_ 29 (.mv (t_ 30)) 0]) (.cond (t_ 29) (.seq (R_ 0 [O_ 2 (.mv (.const (.string ⟨#[117,114,115,112,110]⟩))) 0]) .ret) (.seq (R_ 0 [O_ 32 (.bin .eql (t_ 3) (.const (.int .u8 35))) 0,O_ 31 (.mv (t_ 32)) 0]) (.cond (t_ 31) (.seq (R_ 0 [O_ 2 (.mv (.const (.string ⟨#[117,114,110]⟩))) 0]) .ret) (.seq (R_ 0 [O_ 34 (.bin .eql (t_ 3) (.const (.int .u8 38))) 0,O_ 33 (.mv (t_ 34)) 0]) (.cond (t_ 33) (.seq (R_ 0 [O_ 2 (.mv (.const (.string ⟨#[117,109,115,110]⟩))) 0]) .ret) (.seq (R_ 0 [O_ 36 (.bin .eql (t_ 3) (.const (.int .u8 39))) 0,O_ 35 (.mv (t_ 36)) 0]) (.cond (t_ 35) (.seq (R_ 0 [O_ 2 (.mv (.const (.string ⟨#[117,110]⟩))) 0]) .ret) (.seq (R_ 0 [O_ 38 (.bin .eql (t_ 3) (.const (.int .u8 40))) 0,O_ 37 (.mv (t_ 38)) 0]) (.cond (t_ 37) (.seq (R_ 0 [O_ 2 (.mv (.const (.string ⟨#[117,99]⟩))) 0]) .ret) .skip)))))))))))))))))))))))))))) (.seq (R_ 0 [O_ 2 (.mv (.const (.string ⟨#[]⟩))) 0]) .ret)))
theorem gc51_ok:compF Tryz.prog Tryz.f51=some (gc51.er,39,[.tmp 2]):=by unfold gc51;kernel_rfl
theorem p_ref10_Has_v (a0:Int):CallsO Tryz.prog 51 [.y8 a0] V.s (p_ref10_Has a0):=by
 refine callsO_comp mix Tryz.func51 gc51_ok fun r H=>?_
 rw [p_ref10_Has] at H
 conv=>whnf
 refine tst_c H (fun b1 H=>?_) (fun b1 H=>?_)
 ·conv=>whnf
  exact fin0_c (enc:=V.s) H (.inr rfl) (.cons (.tmp rfl) (.nil)) rfl rfl
 conv=>whnf
 refine tst_c H (fun b2 H=>?_) (fun b2 H=>?_)
 ·conv=>whnf
  exact fin0_c (enc:=V.s) H (.inr rfl) (.cons (.tmp rfl) (.nil)) rfl rfl
 conv=>whnf
 refine tst_c H (fun b3 H=>?_) (fun b3 H=>?_)
 ·conv=>whnf
  exact fin0_c (enc:=V.s) H (.inr rfl) (.cons (.tmp rfl) (.nil)) rfl rfl
 conv=>whnf
 refine tst_c H (fun b4 H=>?_) (fun b4 H=>?_)
 ·conv=>whnf
  refine Tst.T ?_;conv=>whnf
  exact fin0_c (enc:=V.s) H (.inr rfl) (.cons (.tmp rfl) (.nil)) rfl rfl
 conv=>whnf
 refine tst_c H (fun b5 H=>?_) (fun b5 H=>?_)
 ·conv=>whnf
  refine Tst.T ?_;conv=>whnf
  exact fin0_c (enc:=V.s) H (.inr rfl) (.cons (.tmp rfl) (.nil)) rfl rfl
 conv=>whnf
 refine tst_c H (fun b6 H=>?_) (fun b6 H=>?_)
 ·conv=>whnf
  refine Tst.T ?_;conv=>whnf
  exact fin0_c (enc:=V.s) H (.inr rfl) (.cons (.tmp rfl) (.nil)) rfl rfl
 conv=>whnf
 refine tst_c H (fun b7 H=>?_) (fun b7 H=>?_)
 ·conv=>whnf
  refine Tst.T ?_;conv=>whnf
  exact fin0_c (enc:=V.s) H (.inr rfl) (.cons (.tmp rfl) (.nil)) rfl rfl
 conv=>whnf
 refine tst_c H (fun b8 H=>?_) (fun b8 H=>?_)
 ·conv=>whnf
  refine Tst.T ?_;conv=>whnf
  exact fin0_c (enc:=V.s) H (.inr rfl) (.cons (.tmp rfl) (.nil)) rfl rfl
 conv=>whnf
 refine tst_c H (fun b9 H=>?_) (fun b9 H=>?_)
 ·conv=>whnf
  refine Tst.T ?_;conv=>whnf
  exact fin0_c (enc:=V.s) H (.inr rfl) (.cons (.tmp rfl) (.nil)) rfl rfl
 conv=>whnf
 refine tst_c H (fun b10 H=>?_) (fun b10 H=>?_)
 ·conv=>whnf
  exact fin0_c (enc:=V.s) H (.inr rfl) (.cons (.tmp rfl) (.nil)) rfl rfl
 conv=>whnf
 refine tst_c H (fun b11 H=>?_) (fun b11 H=>?_)
 ·conv=>whnf
  refine Tst.T ?_;conv=>whnf
  exact fin0_c (enc:=V.s) H (.inr rfl) (.cons (.tmp rfl) (.nil)) rfl rfl
 conv=>whnf
 refine tst_c H (fun b12 H=>?_) (fun b12 H=>?_)
 ·conv=>whnf
  refine Tst.T ?_;conv=>whnf
  exact fin0_c (enc:=V.s) H (.inr rfl) (.cons (.tmp rfl) (.nil)) rfl rfl
 conv=>whnf
 refine tst_c H (fun b13 H=>?_) (fun b13 H=>?_)
 ·conv=>whnf
  refine Tst.T ?_;conv=>whnf
  exact fin0_c (enc:=V.s) H (.inr rfl) (.cons (.tmp rfl) (.nil)) rfl rfl
 conv=>whnf
 refine tst_c H (fun b14 H=>?_) (fun b14 H=>?_)
 ·conv=>whnf
  exact fin0_c (enc:=V.s) H (.inr rfl) (.cons (.tmp rfl) (.nil)) rfl rfl
 conv=>whnf
 refine tst_c H (fun b15 H=>?_) (fun b15 H=>?_)
 ·conv=>whnf
  exact fin0_c (enc:=V.s) H (.inr rfl) (.cons (.tmp rfl) (.nil)) rfl rfl
 conv=>whnf
 refine tst_c H (fun b16 H=>?_) (fun b16 H=>?_)
 ·conv=>whnf
  exact fin0_c (enc:=V.s) H (.inr rfl) (.cons (.tmp rfl) (.nil)) rfl rfl
 conv=>whnf
 refine tst_c H (fun b17 H=>?_) (fun b17 H=>?_)
 ·conv=>whnf
  exact fin0_c (enc:=V.s) H (.inr rfl) (.cons (.tmp rfl) (.nil)) rfl rfl
 conv=>whnf
 refine tst_c H (fun b18 H=>?_) (fun b18 H=>?_)
 ·conv=>whnf
  exact fin0_c (enc:=V.s) H (.inr rfl) (.cons (.tmp rfl) (.nil)) rfl rfl
 conv=>whnf
 refine tst_c H (fun b19 H=>?_) (fun b19 H=>?_)
 ·conv=>whnf
  exact fin0_c (enc:=V.s) H (.inr rfl) (.cons (.tmp rfl) (.nil)) rfl rfl
 conv=>whnf
 refine tst_c H (fun b20 H=>?_) (fun b20 H=>?_)
 ·conv=>whnf
  exact fin0_c (enc:=V.s) H (.inr rfl) (.cons (.tmp rfl) (.nil)) rfl rfl
 conv=>whnf
 refine tst_c H (fun b21 H=>?_) (fun b21 H=>?_)
 ·conv=>whnf
  exact fin0_c (enc:=V.s) H (.inr rfl) (.cons (.tmp rfl) (.nil)) rfl rfl
 conv=>whnf
 refine tst_c H (fun b22 H=>?_) (fun b22 H=>?_)
 ·conv=>whnf
  exact fin0_c (enc:=V.s) H (.inr rfl) (.cons (.tmp rfl) (.nil)) rfl rfl
 conv=>whnf
 exact fin0_c (enc:=V.s) H (.inr rfl) (.cons (.tmp rfl) (.nil)) rfl rfl
def gc78:BCode:=(.seq (R_ 0 [O_ 4 (.mv (.const (.slice none 0 0))) 0,O_ 5 (.mv (i_ 0)) 0]) (.seq (.seq (R_ 0 [O_ 6 (.mv (t_ 0)) 0,O_ 7 (.lent (t_ 6)) 0,O_ 8 (.mv (t_ 1)) 0,O_ 9 (.bin .gtr (t_ 7) (t_ 8)) 0,O_ 10 (.mv (t_ 9)) 0,⟨(some 11),.mv (t_ 0),(some (10,false)),0⟩,⟨(some 12),.lent (t_ 11),(some (10,false)),0⟩,⟨(some 13),.bin .gtr (t_ 12) (i_ 255),(some (10,false)),0⟩,O_ 14 (.pick (t_ 10) (b_ true) (t_ 13)) 0]) (.cond (t_ 14) (.seq (R_ 0 [O_ 4 (.mv (.const (.slice none 0 0))) 0,O_ 5 (.mv (i_ 5)) 0]) .ret) .skip)) (.seq (R_ 2 [O_ 15 (.mv (t_ 0)) 0,O_ 16 (.lent (t_ 15)) 0,O_ 17 (.cvi .u8 (t_ 16)) 0,O_ 18 (.bs 1 1 [(.lit (.int .u8 0))] [(0,(t_ 17))]) 0,O_ 19 (.mv (t_ 0)) 1,O_ 20 (.ap 1 1 (t_ 18) (t_ 19)) 1,O_ 4 (.mv (t_ 20)) 2,O_ 5 (.mv (i_ 0)) 2]) .ret)))
theorem gc78_ok:compF Tryz.prog Tryz.f78=some (gc78.er,21,[.tmp 4,.tmp 5]):=by unfold gc78;kernel_rfl
theorem p_ref01_Say_v (a0:ByteArray) (a1:Int):CallsO Tryz.prog 78 [.s a0,.i a1] (fun r:(List Int) × Int=>.tup [(fun l:List Int=>V.sl (l.map V.y8) false) r.1,V.i r.2]) (p_ref01_Say a0 a1):=by
 refine callsO_comp mix Tryz.func78 gc78_ok fun r H=>?_
 rw [p_ref01_Say] at H
 conv=>whnf
 refine tst_c H (fun b1 H=>?_) (fun b1 H=>?_)
 ·conv=>whnf
  iterate 4 (refine Tst.T ?_;conv=>whnf)
  refine finR_c (enc:=(fun r:(List Int) × Int=>.tup [(fun l:List Int=>V.sl (l.map V.y8) false) r.1,V.i r.2])) H ?_;conv=>whnf
  exact ⟨_,.tup (.cons (.c (.slw)) (.cons (.c (.id rfl)) (.nil)))⟩
 conv=>whnf
 iterate 3 (refine Tst.F ?_;conv=>whnf)
 refine tst_c H (fun b2 H=>?_) (fun b2 H=>?_)
 ·conv=>whnf
  refine finR_c (enc:=(fun r:(List Int) × Int=>.tup [(fun l:List Int=>V.sl (l.map V.y8) false) r.1,V.i r.2])) H ?_;conv=>whnf
  exact ⟨_,.tup (.cons (.c (.slw)) (.cons (.c (.id rfl)) (.nil)))⟩
 conv=>whnf
 refine Ari.w ?_;conv=>whnf
 refine appD_c (f:=V.y8) H (fun _=>rfl) rfl rfl rfl rfl (srcText _) (by decide) rfl (fun l3 H=>?_) (fun l3 H=>?_)
 ·conv=>whnf
  refine finR_c (enc:=(fun r:(List Int) × Int=>.tup [(fun l:List Int=>V.sl (l.map V.y8) false) r.1,V.i r.2])) H ?_;conv=>whnf
  exact ⟨_,.tup (.cons (.c (fzown (f:=V.y8) (l:=l3) rfl rfl (fun _=>rfl) (fun _=>rfl))) (.cons (.c (.id rfl)) (.nil)))⟩
 conv=>whnf
 refine finR_c (enc:=(fun r:(List Int) × Int=>.tup [(fun l:List Int=>V.sl (l.map V.y8) false) r.1,V.i r.2])) H ?_;conv=>whnf
 exact ⟨_,.tup (.cons (.c (fzown (f:=V.y8) (l:=l3) rfl rfl (fun _=>rfl) (fun _=>rfl))) (.cons (.c (.id rfl)) (.nil)))⟩
def gc89:BCode:=(.seq (R_ 0 [O_ 2 (.mv (b_ false)) 0]) (.seq (R_ 0 [O_ 3 (.mv (t_ 0)) 0,O_ 4 (.bin .eql (t_ 3) (i_ 1)) 0,O_ 5 (.mv (t_ 4)) 0,⟨(some 6),.mv (t_ 0),(some (5,false)),0⟩,⟨(some 7),.bin .eql (t_ 6) (i_ 2),(some (5,false)),0⟩,O_ 8 (.pick (t_ 5) (b_ true) (t_ 7)) 0,O_ 9 (.mv (t_ 8)) 0,⟨(some 10),.mv (t_ 0),(some (9,false)),0⟩,⟨(some 11),.bin .eql (t_ 10) (i_ 4),(some (9,false)),0⟩,O_ 12 (.pick (t_ 9) (b_ true) (t_ 11)) 0,O_ 13 (.mv (t_ 12)) 0,⟨(some 14),.mv (t_ 0),(some (13,false)),0⟩,⟨(some 15),.bin .eql (t_ 14) (i_ 6),(some (13,false)),0⟩,O_ 16 (.pick (t_ 13) (b_ true) (t_ 15)) 0,O_ 2 (.mv (t_ 16)) 0]) .ret))
theorem gc89_ok:compF Tryz.prog Tryz.f89=some (gc89.er,17,[.tmp 2]):=by unfold gc89;kernel_rfl
theorem p_ref01_wide_v (a0:Int):CallsO Tryz.prog 89 [.i a0] V.b (p_ref01_wide a0):=by
 refine callsO_comp mix Tryz.func89 gc89_ok fun r H=>?_
 rw [p_ref01_wide] at H
 conv=>whnf
 refine tst_c H (fun b1 H=>?_) (fun b1 H=>?_)
 ·conv=>whnf
  iterate 8 (refine Tst.T ?_;conv=>whnf)
  exact fb_ H
 conv=>whnf
 iterate 2 (refine Tst.F ?_;conv=>whnf)
 refine tst_c H (fun b2 H=>?_) (fun b2 H=>?_)
 ·conv=>whnf
  iterate 5 (refine Tst.T ?_;conv=>whnf)
  exact fb_ H
 conv=>whnf
 iterate 2 (refine Tst.F ?_;conv=>whnf)
 refine tst_c H (fun b3 H=>?_) (fun b3 H=>?_)
 ·conv=>whnf
  iterate 2 (refine Tst.T ?_;conv=>whnf)
  exact fb_ H
 conv=>whnf
 iterate 2 (refine Tst.F ?_;conv=>whnf)
 exact fb_ H
def gc79:BCode:=(.seq (R_ 0 [O_ 4 (.mv (.const (.slice none 0 0))) 0,O_ 5 (.mv (i_ 0)) 0]) (.seq (.seq (R_ 0 [O_ 8 (.mv (t_ 1)) 0,O_ 9 (.cl 89 [(t_ 8)]) 0,O_ 10 (.un .not (t_ 9)) 0]) (.cond (t_ 10) (.seq (R_ 0 [O_ 4 (.mv (.const (.slice none 0 0))) 0,O_ 5 (.mv (i_ 2)) 0]) .ret) .skip)) (.seq (.seq (R_ 0 [O_ 11 (.mv (t_ 0)) 0,O_ 12 (.bin .lss (t_ 11) (i_ 0)) 0]) (.cond (t_ 12) (.seq (R_ 0 [O_ 4 (.mv (.const (.slice none 0 0))) 0,O_ 5 (.mv (i_ 8)) 0]) .ret) .skip)) (.seq (R_ 0 [O_ 6 (.mv (.const (.slice none 0 0))) 0]) (.seq (.seq (R_ 0 [O_ 7 (.mv (i_ 0)) 0]) (.block 0 (.loop (.seq (.seq (R_ 0 [O_ 13 (.mv (t_ 7)) 0,O_ 14 (.mv (t_ 1)) 0,O_ 15 (.bin .lss (t_ 13) (t_ 14)) 0]) (.cond (t_ 15) .skip (.exit 0))) (.seq (.block 1 (.seq (R_ 2 [O_ 18 (.mv (t_ 0)) 0,O_ 19 (.bin .rem (t_ 18) (i_ 256)) 0,O_ 20 (.cvi .u8 (t_ 19)) 0,O_ 21 (.bs 1 1 [(.lit (.int .u8 0))] [(0,(t_ 20))]) 0,O_ 22 (.mv (t_ 6)) 1,O_ 23 (.ap 1 1 (t_ 21) (t_ 22)) 1,O_ 6 (.mv (t_ 23)) 2]) (R_ 0 [O_ 24 (.mv (t_ 0)) 0,O_ 25 (.bin .quo (t_ 24) (i_ 256)) 0,O_ 0 (.mv (t_ 25)) 0]))) (R_ 0 [O_ 16 (.mv (t_ 7)) 0,O_ 17 (.bin .add (t_ 16) (i_ 1)) 0,O_ 7 (.mv (t_ 17)) 0])))))) (.seq (.seq (R_ 0 [O_ 26 (.mv (t_ 0)) 0,O_ 27 (.bin .gtr (t_ 26) (i_ 0)) 0]) (.cond (t_ 27) (.seq (R_ 0 [O_ 4 (.mv (.const (.slice none 0 0))) 0,O_ 5 (.mv (i_ 8)) 0]) .ret) .skip)) (.seq (R_ 0 [O_ 28 (.mv (t_ 6)) 0,O_ 4 (.mv (t_ 28)) 0,O_ 5 (.mv (i_ 0)) 0]) .ret)))))))
theorem gc79_ok:compF Tryz.prog Tryz.f79=some (gc79.er,29,[.tmp 4,.tmp 5]):=by unfold gc79;kernel_rfl
theorem p_ref01_Lay_v (a0:Int) (a1:Int):CallsO Tryz.prog 79 [.i a0,.i a1] (fun r:(List Int) × Int=>.tup [(fun l:List Int=>V.sl (l.map V.y8) false) r.1,V.i r.2]) (p_ref01_Lay a0 a1):=by
 refine callsO_comp mix Tryz.func79 gc79_ok fun r H=>?_
 rw [p_ref01_Lay] at H
 conv=>whnf
 refine ask_c (p_ref01_wide_v _) H rfl rfl (fun v1 H=>?_);conv=>whnf
 refine Tst.not ?_
 refine tst_d H (fun b2 H=>?_) (fun b2 H=>?_)
 ·conv=>whnf
  refine finR_c (enc:=(fun r:(List Int) × Int=>.tup [(fun l:List Int=>V.sl (l.map V.y8) false) r.1,V.i r.2])) H ?_;conv=>whnf
  exact ⟨_,.tup (.cons (.c (.slw)) (.cons (.c (.id rfl)) (.nil)))⟩
 conv=>whnf
 refine tst_c H (fun b3 H=>?_) (fun b3 H=>?_)
 ·conv=>whnf
  refine finR_c (enc:=(fun r:(List Int) × Int=>.tup [(fun l:List Int=>V.sl (l.map V.y8) false) r.1,V.i r.2])) H ?_;conv=>whnf
  exact ⟨_,.tup (.cons (.c (.slw)) (.cons (.c (.id rfl)) (.nil)))⟩
 conv=>whnf
 obtain ⟨o5,HL6,HQ7⟩:=bind_c H
 refine loop_c [0,6,7] [13,14,15,16,17,18,19,20,21,22,23,24,25] [13,14,15,16,17,18,19,20,21,22,23,24,25] (fun n vals st=>(∃ y9 y10,p_ref01_Lay_l1  a1 n y9 [] y10=some o5∧vals=[.i y9,.sl (List.map V.y8 []) true,.i y10]∧st=[])∨(∃ y13 y14 y15,p_ref01_Lay_l1  a1 n y13 y14 y15=some o5∧vals=[.i y13,.osl 0 0 (List.length y14) 1 false,.i y15]∧st=[.live (cellsM V.y8 y14) (cellsM V.y8 y14).length])∨(∃ y16 y17 y18,p_ref01_Lay_l1  a1 n y16 y17 y18=some o5∧vals=[.i y16,.osl 0 0 (List.length y17) 1 true,.i y18]∧st=[.live (cellsM V.y8 y17) (cellsM V.y8 y17).length])) fuel 0 [] (.inl (⟨_,_,HL6,rfl,rfl⟩)) (Nat.zero_le _) rfl (by kernel_rfl) (by kernel_rfl) rfl trivial ?_
 rintro (_ | n8) _ _ (⟨y9,y10,H,rfl,rfl⟩ | ⟨y13,y14,y15,H,rfl,rfl⟩ | ⟨y16,y17,y18,H,rfl,rfl⟩)
 ·rw [p_ref01_Lay_l1] at H;cases H
 ·rw [p_ref01_Lay_l1] at H;cases H
 ·rw [p_ref01_Lay_l1] at H;cases H
 ·rw [p_ref01_Lay_l1] at H
  conv=>whnf
  refine tst_d H (fun b11 H=>?_) (fun b11 H=>?_)
  ·conv=>whnf
   obtain rfl:=Option.some.inj H
   have H:=HQ7
   try dsimp only at H
   refine tst_c H (fun b19 H=>?_) (fun b19 H=>?_)
   ·conv=>whnf
    refine finR_c (enc:=(fun r:(List Int) × Int=>.tup [(fun l:List Int=>V.sl (l.map V.y8) false) r.1,V.i r.2])) H ?_;conv=>whnf
    exact ⟨_,.tup (.cons (.c (.slw)) (.cons (.c (.id rfl)) (.nil)))⟩
   conv=>whnf
   refine finR_c (enc:=(fun r:(List Int) × Int=>.tup [(fun l:List Int=>V.sl (l.map V.y8) false) r.1,V.i r.2])) H ?_;conv=>whnf
   exact ⟨_,.tup (.cons (.c (.slw)) (.cons (.c (.id rfl)) (.nil)))⟩
  conv=>whnf
  refine ⟨by decide,?_⟩;conv=>whnf
  refine Ari.w ?_;conv=>whnf
  refine appD_c (f:=V.y8) H (fun _=>rfl) rfl rfl rfl rfl (.v (srcM (f:=V.y8) (fun _=>rfl) [] true)) (by decide) rfl (fun l12 H=>?_) (fun l12 H=>?_)
  ·conv=>whnf
   refine ⟨by decide,Ari.w ?_⟩;conv=>whnf
   refine Ari.w ?_;conv=>whnf
   exact again_c [13,14,15,16,17,18,19,20,21,22,23,24,25] n8 1 [] (.inr (.inr (⟨_,_,_,H,rfl,rfl⟩))) (Nat.lt_succ_self _) (Nat.zero_le _) rfl (by kernel_rfl) (by kernel_rfl) rfl (wkB_live0 rfl (cellsM_idlt (f:=V.y8) (fun _=>rfl) _) rfl trivial)
  conv=>whnf
  refine ⟨by decide,Ari.w ?_⟩;conv=>whnf
  refine Ari.w ?_;conv=>whnf
  exact again_c [13,14,15,16,17,18,19,20,21,22,23,24,25] n8 1 [1] (.inr (.inl (⟨_,_,_,H,rfl,rfl⟩))) (Nat.lt_succ_self _) (Nat.zero_le _) rfl (by kernel_rfl) (by kernel_rfl) rfl (wkB_live0 rfl (cellsM_idlt (f:=V.y8) (fun _=>rfl) _) rfl trivial)
 ·rw [p_ref01_Lay_l1] at H
  conv=>whnf
  refine tst_d H (fun b20 H=>?_) (fun b20 H=>?_)
  ·conv=>whnf
   obtain rfl:=Option.some.inj H
   have H:=HQ7
   try dsimp only at H
   refine tst_c H (fun b22 H=>?_) (fun b22 H=>?_)
   ·conv=>whnf
    refine finR_c (enc:=(fun r:(List Int) × Int=>.tup [(fun l:List Int=>V.sl (l.map V.y8) false) r.1,V.i r.2])) H ?_;conv=>whnf
    exact ⟨_,.tup (.cons (.c (.slw)) (.cons (.c (.id rfl)) (.nil)))⟩
   conv=>whnf
   refine finR_c (enc:=(fun r:(List Int) × Int=>.tup [(fun l:List Int=>V.sl (l.map V.y8) false) r.1,V.i r.2])) H ?_;conv=>whnf
   exact ⟨_,.tup (.cons (.c (fzown (f:=V.y8) (l:=y14) rfl rfl (fun _=>rfl) (fun _=>rfl))) (.cons (.c (.id rfl)) (.nil)))⟩
  conv=>whnf
  refine ⟨by decide,?_⟩;conv=>whnf
  refine Ari.w ?_;conv=>whnf
  refine appD_c (f:=V.y8) H (fun _=>rfl) rfl rfl rfl rfl (.v (srcOwn (f:=V.y8) (l:=y14) (fun _=>rfl) rfl rfl rfl)) (by decide) rfl (fun l21 H=>?_) (fun l21 H=>?_)
  ·conv=>whnf
   refine ⟨by decide,Ari.w ?_⟩;conv=>whnf
   refine Ari.w ?_;conv=>whnf
   exact again_c [13,14,15,16,17,18,19,20,21,22,23,24,25] n8 1 [1] (.inr (.inr (⟨_,_,_,H,rfl,rfl⟩))) (Nat.lt_succ_self _) (Nat.zero_le _) rfl (by kernel_rfl) (by kernel_rfl) rfl (wkB_live0 rfl (cellsM_idlt (f:=V.y8) (fun _=>rfl) _) rfl trivial)
  conv=>whnf
  refine ⟨by decide,Ari.w ?_⟩;conv=>whnf
  refine Ari.w ?_;conv=>whnf
  exact again_c [13,14,15,16,17,18,19,20,21,22,23,24,25] n8 1 [2] (.inr (.inl (⟨_,_,_,H,rfl,rfl⟩))) (Nat.lt_succ_self _) (Nat.zero_le _) rfl (by kernel_rfl) (by kernel_rfl) rfl (wkB_live0 rfl (cellsM_idlt (f:=V.y8) (fun _=>rfl) _) rfl trivial)
 rw [p_ref01_Lay_l1] at H
 conv=>whnf
 refine tst_d H (fun b23 H=>?_) (fun b23 H=>?_)
 ·conv=>whnf
  obtain rfl:=Option.some.inj H
  have H:=HQ7
  try dsimp only at H
  refine tst_c H (fun b25 H=>?_) (fun b25 H=>?_)
  ·conv=>whnf
   refine finR_c (enc:=(fun r:(List Int) × Int=>.tup [(fun l:List Int=>V.sl (l.map V.y8) false) r.1,V.i r.2])) H ?_;conv=>whnf
   exact ⟨_,.tup (.cons (.c (.slw)) (.cons (.c (.id rfl)) (.nil)))⟩
  conv=>whnf
  refine finR_c (enc:=(fun r:(List Int) × Int=>.tup [(fun l:List Int=>V.sl (l.map V.y8) false) r.1,V.i r.2])) H ?_;conv=>whnf
  exact ⟨_,.tup (.cons (.c (fzown (f:=V.y8) (l:=y17) rfl rfl (fun _=>rfl) (fun _=>rfl))) (.cons (.c (.id rfl)) (.nil)))⟩
 conv=>whnf
 refine ⟨by decide,?_⟩;conv=>whnf
 refine Ari.w ?_;conv=>whnf
 refine appD_c (f:=V.y8) H (fun _=>rfl) rfl rfl rfl rfl (.v (srcOwn (f:=V.y8) (l:=y17) (fun _=>rfl) rfl rfl rfl)) (by decide) rfl (fun l24 H=>?_) (fun l24 H=>?_)
 ·conv=>whnf
  refine ⟨by decide,Ari.w ?_⟩;conv=>whnf
  refine Ari.w ?_;conv=>whnf
  exact again_c [13,14,15,16,17,18,19,20,21,22,23,24,25] n8 1 [1] (.inr (.inr (⟨_,_,_,H,rfl,rfl⟩))) (Nat.lt_succ_self _) (Nat.zero_le _) rfl (by kernel_rfl) (by kernel_rfl) rfl (wkB_live0 rfl (cellsM_idlt (f:=V.y8) (fun _=>rfl) _) rfl trivial)
 conv=>whnf
 refine ⟨by decide,Ari.w ?_⟩;conv=>whnf
 refine Ari.w ?_;conv=>whnf
 exact again_c [13,14,15,16,17,18,19,20,21,22,23,24,25] n8 1 [2] (.inr (.inl (⟨_,_,_,H,rfl,rfl⟩))) (Nat.lt_succ_self _) (Nat.zero_le _) rfl (by kernel_rfl) (by kernel_rfl) rfl (wkB_live0 rfl (cellsM_idlt (f:=V.y8) (fun _=>rfl) _) rfl trivial)
end Go.Proofs.YtpkodpcfafipdaaGreat

namespace Go.Proofs.YtpkodpcfafipdaaGreat
open Go.RowKit
set_option maxRecDepth 100000
set_option maxHeartbeats 4000000
def gc52:BCode:=(.seq (R_ 1 [O_ 2 (.bx (t_ 0)) 0,O_ 4 (.mv (.const (.slice none 0 0))) 1]) (.seq (R_ 0 [O_ 5 (.mv (.const (.slice none 0 0))) 0]) (.seq (.seq (R_ 0 [O_ 6 (.mv (t_ 1)) 0]) (.block 0 (.seq (R_ 0 [O_ 14 (.bin .eql (t_ 6) (.const (.int .u8 117))) 0,O_ 13 (.mv (t_ 14)) 0]) (.cond (t_ 13) (R_ 0 [O_ 16 (.fa 1 (t_ 2)) 0,O_ 17 (.ld 1 false (t_ 16)) 0,O_ 18 (.cl 78 [(t_ 17),(i_ 33)]) 0,O_ 15 (.mv (t_ 18)) 0,O_ 19 (.ex (t_ 15) 0) 0,O_ 20 (.ex (t_ 15) 1) 0,O_ 5 (.mv (t_ 19)) 0]) (.seq (R_ 0 [O_ 22 (.bin .eql (t_ 6) (.const (.int .u8 114))) 0,O_ 21 (.mv (t_ 22)) 0]) (.cond (t_ 21) (R_ 0 [O_ 24 (.fa 2 (t_ 2)) 0,O_ 25 (.ld 1 false (t_ 24)) 0,O_ 26 (.cl 78 [(t_ 25),(i_ 12)]) 0,O_ 23 (.mv (t_ 26)) 0,O_ 27 (.ex (t_ 23) 0) 0,O_ 28 (.ex (t_ 23) 1) 0,O_ 5 (.mv (t_ 27)) 0]) (.seq (R_ 0 [O_ 30 (.bin .eql (t_ 6) (.const (.int .u8 109))) 0,O_ 29 (.mv (t_ 30)) 0]) (.cond (t_ 29) (R_ 0 [O_ 32 (.fa 3 (t_ 2)) 0,O_ 33 (.ld 1 false (t_ 32)) 0,O_ 34 (.cl 78 [(t_ 33),(i_ 24)]) 0,O_ 31 (.mv (t_ 34)) 0,O_ 35 (.ex (t_ 31) 0) 0,O_ 36 (.ex (t_ 31) 1) 0,O_ 5 (.mv (t_ 35)) 0]) (.seq (R_ 0 [O_ 38 (.bin .eql (t_ 6) (.const (.int .u8 115))) 0,O_ 37 (.mv (t_ 38)) 0]) (.cond (t_ 37) (R_ 0 [O_ 40 (.fa 4 (t_ 2)) 0,O_ 41 (.ld 1 false (t_ 40)) 0,O_ 42 (.cl 79 [(t_ 41),(i_ 1)]) 0,O_ 39 (.mv (t_ 42)) 0,O_ 43 (.ex (t_ 39) 0) 0,O_ 44 (.ex (t_ 39) 1) 0,O_ 5 (.mv (t_ 43)) 0]) (.seq (R_ 0 [O_ 46 (.bin .eql (t_ 6) (.const (.int .u8 112))) 0,O_ 45 (.mv (t_ 46)) 0]) (.cond (t_ 45) (R_ 0 [O_ 48 (.fa 5 (t_ 2)) 0,O_ 49 (.ld 1 false (t_ 48)) 0,O_ 50 (.bin .add (t_ 49) (i_ 128)) 0,O_ 51 (.cl 79 [(t_ 50),(i_ 1)]) 0,O_ 47 (.mv (t_ 51)) 0,O_ 52 (.ex (t_ 47) 0) 0,O_ 53 (.ex (t_ 47) 1) 0,O_ 5 (.mv (t_ 52)) 0]) (.seq (R_ 0 [O_ 55 (.bin .eql (t_ 6) (.const (.int .u8 99))) 0,O_ 54 (.mv (t_ 55)) 0]) (.cond (t_ 54) (R_ 0 [O_ 57 (.fa 6 (t_ 2)) 0,O_ 58 (.ld 1 false (t_ 57)) 0,O_ 59 (.cl 79 [(t_ 58),(i_ 1)]) 0,O_ 56 (.mv (t_ 59)) 0,O_ 60 (.ex (t_ 56) 0) 0,O_ 61 (.ex (t_ 56) 1) 0,O_ 5 (.mv (t_ 60)) 0]) (R_ 0 [O_ 8 (.fa 7 (t_ 2)) 0,O_ 9 (.ld 1 false (t_ 8)) 0,O_ 10 (.cl 79 [(t_ 9),(i_ 6)]) 0,O_ 7 (.mv (t_ 10)) 0,O_ 11 (.ex (t_ 7) 0) 0,O_ 12 (.ex (t_ 7) 1) 0,O_ 5 (.mv (t_ 11)) 0]))))))))))))))) (.seq (R_ 0 [O_ 62 (.mv (t_ 5)) 0,O_ 4 (.mv (t_ 62)) 0]) .ret))))
theorem gc52_ok:compF Tryz.prog Tryz.f52=some (gc52.er,63,[.tmp 4]):=by unfold gc52;kernel_rfl
theorem p_ref10_field_v (a0:StanzaStanza) (a1:Int):CallsO Tryz.prog 52 [.agg [.y8 a0.Kind,.s a0.User,.s a0.Res,.s a0.Name,.i a0.Show,.i a0.Prio,.i a0.Code,.i a0.N],.y8 a1] (fun l:List Int=>V.sl (l.map V.y8) false) (p_ref10_field a0 a1):=by
 refine callsO_comp mix Tryz.func52 gc52_ok fun r H=>?_
 rw [p_ref10_field] at H
 conv=>whnf
 refine tst_c H (fun b1 H=>?_) (fun b1 H=>?_)
 ·conv=>whnf
  refine ask_c (p_ref01_Say_v _ _) H rfl rfl (fun v2 H=>?_);conv=>whnf
  exact fin0_c (enc:=(fun l:List Int=>V.sl (l.map V.y8) false)) H (.inr rfl) (.cons (.tmp rfl) (.nil)) rfl rfl
 conv=>whnf
 refine tst_c H (fun b3 H=>?_) (fun b3 H=>?_)
 ·conv=>whnf
  refine ask_c (p_ref01_Say_v _ _) H rfl rfl (fun v4 H=>?_);conv=>whnf
  exact fin0_c (enc:=(fun l:List Int=>V.sl (l.map V.y8) false)) H (.inr rfl) (.cons (.tmp rfl) (.nil)) rfl rfl
 conv=>whnf
 refine tst_c H (fun b5 H=>?_) (fun b5 H=>?_)
 ·conv=>whnf
  refine ask_c (p_ref01_Say_v _ _) H rfl rfl (fun v6 H=>?_);conv=>whnf
  exact fin0_c (enc:=(fun l:List Int=>V.sl (l.map V.y8) false)) H (.inr rfl) (.cons (.tmp rfl) (.nil)) rfl rfl
 conv=>whnf
 refine tst_c H (fun b7 H=>?_) (fun b7 H=>?_)
 ·conv=>whnf
  refine ask_c (p_ref01_Lay_v _ _) H rfl rfl (fun v8 H=>?_);conv=>whnf
  exact fin0_c (enc:=(fun l:List Int=>V.sl (l.map V.y8) false)) H (.inr rfl) (.cons (.tmp rfl) (.nil)) rfl rfl
 conv=>whnf
 refine tst_c H (fun b9 H=>?_) (fun b9 H=>?_)
 ·conv=>whnf
  refine Ari.w ?_;conv=>whnf
  refine ask_c (p_ref01_Lay_v _ _) H rfl rfl (fun v10 H=>?_);conv=>whnf
  exact fin0_c (enc:=(fun l:List Int=>V.sl (l.map V.y8) false)) H (.inr rfl) (.cons (.tmp rfl) (.nil)) rfl rfl
 conv=>whnf
 refine tst_c H (fun b11 H=>?_) (fun b11 H=>?_)
 ·conv=>whnf
  refine ask_c (p_ref01_Lay_v _ _) H rfl rfl (fun v12 H=>?_);conv=>whnf
  exact fin0_c (enc:=(fun l:List Int=>V.sl (l.map V.y8) false)) H (.inr rfl) (.cons (.tmp rfl) (.nil)) rfl rfl
 conv=>whnf
 refine ask_c (p_ref01_Lay_v _ _) H rfl rfl (fun v13 H=>?_);conv=>whnf
 exact fin0_c (enc:=(fun l:List Int=>V.sl (l.map V.y8) false)) H (.inr rfl) (.cons (.tmp rfl) (.nil)) rfl rfl
def gc30:BCode:=(.seq (R_ 1 [O_ 1 (.bx (t_ 0)) 0,O_ 2 (.mv (.const (.string ⟨#[]⟩))) 1,O_ 3 (.mv (i_ 0)) 1]) (.seq (R_ 0 [O_ 8 (.ld 8 true (t_ 1)) 0,O_ 9 (.cl 50 [(t_ 8)]) 0,O_ 4 (.mv (t_ 9)) 0]) (.seq (.seq (R_ 0 [O_ 10 (.mv (t_ 4)) 0,O_ 11 (.bin .neq (t_ 10) (i_ 0)) 0]) (.cond (t_ 11) (.seq (R_ 0 [O_ 12 (.mv (t_ 4)) 0,O_ 2 (.mv (.const (.string ⟨#[]⟩))) 0,O_ 3 (.mv (t_ 12)) 0]) .ret) .skip)) (.seq (R_ 1 [O_ 13 (.fa 0 (t_ 1)) 0,O_ 14 (.ld 1 false (t_ 13)) 0,O_ 15 (.bs 1 1 [(.lit (.int .u8 0))] [(0,(t_ 14))]) 0,O_ 5 (.mv (t_ 15)) 1]) (.seq (R_ 0 [O_ 16 (.fa 0 (t_ 1)) 0,O_ 17 (.ld 1 false (t_ 16)) 0,O_ 18 (.cl 51 [(t_ 17)]) 0,O_ 6 (.mv (t_ 18)) 0]) (.seq (.seq (R_ 0 [O_ 7 (.mv (i_ 0)) 0]) (.block 0 (.loop (.seq (.seq (R_ 0 [O_ 19 (.mv (t_ 7)) 0,O_ 20 (.mv (t_ 6)) 0,O_ 21 (.lent (t_ 20)) 0,O_ 22 (.bin .lss (t_ 19) (t_ 21)) 0]) (.cond (t_ 22) .skip (.exit 0))) (.seq (.block 1 (.reg 1 [O_ 25 (.mv (t_ 5)) 0,O_ 26 (.ld 8 true (t_ 1)) 0,O_ 27 (.mv (t_ 6)) 0,O_ 28 (.mv (t_ 7)) 0,O_ 29 (.ixt (t_ 27) (t_ 28)) 0,O_ 30 (.cl 52 [(t_ 26),(t_ 29)]) 0,O_ 31 (.ap 1 1 (t_ 25) (t_ 30)) 0,O_ 5 (.mv (t_ 31)) 1] (some [[],[],[],[],[3,2],[2,3,4,1],[1,4,3,2,5,0],[0,5,2,3,4,1,6]]) 0 [])) (R_ 0 [O_ 23 (.mv (t_ 7)) 0,O_ 24 (.bin .add (t_ 23) (i_ 1)) 0,O_ 7 (.mv (t_ 24)) 0])))))) (.seq (R_ 0 [O_ 32 (.mv (t_ 5)) 0,O_ 33 (.b2s (t_ 32)) 0,O_ 2 (.mv (t_ 33)) 0,O_ 3 (.mv (i_ 0)) 0]) .ret)))))))
theorem gc30_ok:compF Tryz.prog Tryz.f30=some (gc30.er,34,[.tmp 2,.tmp 3]):=by unfold gc30;kernel_rfl
theorem p_ref10_Put_v (a0:StanzaStanza):CallsO Tryz.prog 30 [.agg [.y8 a0.Kind,.s a0.User,.s a0.Res,.s a0.Name,.i a0.Show,.i a0.Prio,.i a0.Code,.i a0.N]] (fun r:ByteArray × Int=>.tup [V.s r.1,V.i r.2]) (p_ref10_Put a0):=by
 refine callsO_comp mix Tryz.func30 gc30_ok fun r H=>?_
 rw [p_ref10_Put] at H
 conv=>whnf
 refine ask_c (p_ref10_Check_v _) H rfl rfl (fun v1 H=>?_);conv=>whnf
 refine tst_c H (fun b2 H=>?_) (fun b2 H=>?_)
 ·conv=>whnf
  exact fin0_c (enc:=(fun r:ByteArray × Int=>.tup [V.s r.1,V.i r.2])) H (.inr rfl) (.cons (.tmp rfl) (.cons (.tmp rfl) (.nil))) rfl rfl
 conv=>whnf
 refine ask_c (p_ref10_Has_v _) H rfl rfl (fun v3 H=>?_);conv=>whnf
 obtain ⟨o5,HL6,HQ7⟩:=bind_c H
 refine loop_c [5,7] [19,20,21,22,23,24,25,26,27,28,29,30,31,13,15,16] [19,20,21,22,23,24,25,26,27,28,29,30,31,13,15,16] (fun n vals st=>(∃ y9 y10,p_ref10_Put_l1  v3 a0 n y9 y10=some o5∧vals=[.osl 1 0 (List.length y9) 1 true,.i y10]∧st=[.live [.y8 a0.Kind,.s a0.User,.s a0.Res,.s a0.Name,.i a0.Show,.i a0.Prio,.i a0.Code,.i a0.N] 0,.live (cellsM V.y8 y9) (cellsM V.y8 y9).length])∨(∃ y15 y16,p_ref10_Put_l1  v3 a0 n y15 y16=some o5∧vals=[.osl 1 0 (List.length y15) 1 false,.i y16]∧st=[.live [.y8 a0.Kind,.s a0.User,.s a0.Res,.s a0.Name,.i a0.Show,.i a0.Prio,.i a0.Code,.i a0.N] 0,.live (cellsM V.y8 y15) (cellsM V.y8 y15).length])) fuel 2 [] (.inl (⟨_,_,HL6,rfl,rfl⟩)) (Nat.zero_le _) rfl (by kernel_rfl) (by kernel_rfl) rfl ⟨⟨rfl,rfl,rfl⟩,wkB_live0 rfl (cellsM_idlt (f:=V.y8) (fun _=>rfl) _) rfl trivial⟩ ?_
 rintro (_ | n8) _ _ (⟨y9,y10,H,rfl,rfl⟩ | ⟨y15,y16,H,rfl,rfl⟩)
 ·rw [p_ref10_Put_l1] at H;cases H
 ·rw [p_ref10_Put_l1] at H;cases H
 ·rw [p_ref10_Put_l1] at H
  conv=>whnf
  refine tst_d H (fun b11 H=>?_) (fun b11 H=>?_)
  ·conv=>whnf
   obtain rfl:=Option.some.inj H
   have H:=HQ7
   try dsimp only at H
   refine b2sO_c H rfl rfl rfl (fun s17 H=>?_);conv=>whnf
   exact fin0_c (enc:=(fun r:ByteArray × Int=>.tup [V.s r.1,V.i r.2])) H (.inr rfl) (.cons (.tmp rfl) (.cons (.tmp rfl) (.nil))) rfl rfl
  conv=>whnf
  refine ixt_c H (fun c12 H=>?_);conv=>whnf
  refine ask_c (p_ref10_field_v _ _) H rfl rfl (fun v13 H=>?_);conv=>whnf
  refine appD_c (f:=V.y8) H (fun _=>rfl) rfl rfl rfl rfl (.v (srcM (f:=V.y8) (fun _=>rfl) _ _)) (by decide) rfl (fun l14 H=>?_) (fun l14 H=>?_)
  ·conv=>whnf
   refine FootQ.mk ⟨rfl,?_⟩;conv=>whnf
   refine Ari.w ?_;conv=>whnf
   exact again_c [19,20,21,22,23,24,25,26,27,28,29,30,31,13,15,16] n8 2 [] (.inl (⟨_,_,H,rfl,rfl⟩)) (Nat.lt_succ_self _) (Nat.zero_le _) rfl (by kernel_rfl) (by kernel_rfl) rfl ⟨⟨rfl,rfl,rfl⟩,wkB_live0 rfl (cellsM_idlt (f:=V.y8) (fun _=>rfl) _) rfl trivial⟩
  conv=>whnf
  refine FootQ.mk ⟨rfl,?_⟩;conv=>whnf
  refine Ari.w ?_;conv=>whnf
  exact again_c [19,20,21,22,23,24,25,26,27,28,29,30,31,13,15,16] n8 2 [0,2] (.inr (⟨_,_,H,rfl,rfl⟩)) (Nat.lt_succ_self _) (Nat.zero_le _) rfl (by kernel_rfl) (by kernel_rfl) rfl ⟨⟨rfl,rfl,rfl⟩,wkB_live0 rfl (cellsM_idlt (f:=V.y8) (fun _=>rfl) _) rfl trivial⟩
 rw [p_ref10_Put_l1] at H
 conv=>whnf
 refine tst_d H (fun b18 H=>?_) (fun b18 H=>?_)
 ·conv=>whnf
  obtain rfl:=Option.some.inj H
  have H:=HQ7
  try dsimp only at H
  refine b2sO_c H rfl rfl rfl (fun s22 H=>?_);conv=>whnf
  exact fin0_c (enc:=(fun r:ByteArray × Int=>.tup [V.s r.1,V.i r.2])) H (.inr rfl) (.cons (.tmp rfl) (.cons (.tmp rfl) (.nil))) rfl rfl
 conv=>whnf
 refine ixt_c H (fun c19 H=>?_);conv=>whnf
 refine ask_c (p_ref10_field_v _ _) H rfl rfl (fun v20 H=>?_);conv=>whnf
 refine appP_c (f:=V.y8) H (fun _=>rfl) rfl rfl (.v (srcM (f:=V.y8) (fun _=>rfl) _ _)) (by decide) rfl (fun l21 H=>?_) (fun l21 H=>?_)
 ·conv=>whnf
  refine FootQ.mk ⟨rfl,?_⟩;conv=>whnf
  refine Ari.w ?_;conv=>whnf
  exact again_c [19,20,21,22,23,24,25,26,27,28,29,30,31,13,15,16] n8 2 [] (.inr (⟨_,_,H,rfl,rfl⟩)) (Nat.lt_succ_self _) (Nat.zero_le _) rfl (by kernel_rfl) (by kernel_rfl) rfl ⟨⟨rfl,rfl,rfl⟩,wkB_live0 rfl (cellsM_idlt (f:=V.y8) (fun _=>rfl) _) rfl trivial⟩
 conv=>whnf
 refine FootQ.mk ⟨rfl,?_⟩;conv=>whnf
 refine Ari.w ?_;conv=>whnf
 exact again_c [19,20,21,22,23,24,25,26,27,28,29,30,31,13,15,16] n8 2 [0,2] (.inr (⟨_,_,H,rfl,rfl⟩)) (Nat.lt_succ_self _) (Nat.zero_le _) rfl (by kernel_rfl) (by kernel_rfl) rfl ⟨⟨rfl,rfl,rfl⟩,wkB_live0 rfl (cellsM_idlt (f:=V.y8) (fun _=>rfl) _) rfl trivial⟩
def gc53:BCode:=(.seq (R_ 0 [O_ 2 (.mv (.const (.string ⟨#[]⟩))) 0,O_ 3 (.mv (i_ 0)) 0]) (.seq (.block 0 (.seq (R_ 0 [O_ 5 (.mv (t_ 0)) 0,O_ 6 (.bin .eql (t_ 5) (.const (.string ⟨#[]⟩))) 0,O_ 4 (.mv (t_ 6)) 0]) (.cond (t_ 4) (.seq (R_ 0 [O_ 2 (.mv (.const (.string ⟨#[]⟩))) 0,O_ 3 (.mv (i_ 4)) 0]) .ret) (.seq (R_ 0 [O_ 8 (.mv (t_ 0)) 0,O_ 9 (.lent (t_ 8)) 0,O_ 10 (.bin .gtr (t_ 9) (i_ 128)) 0,O_ 7 (.mv (t_ 10)) 0]) (.cond (t_ 7) (.seq (R_ 0 [O_ 2 (.mv (.const (.string ⟨#[]⟩))) 0,O_ 3 (.mv (i_ 5)) 0]) .ret) .skip))))) (.seq (R_ 1 [O_ 11 (.mv (t_ 0)) 0,O_ 12 (.lent (t_ 11)) 0,O_ 13 (.bin .quo (t_ 12) (i_ 256)) 0,O_ 14 (.cvi .u8 (t_ 13)) 0,O_ 15 (.mv (t_ 0)) 0,O_ 16 (.lent (t_ 15)) 0,O_ 17 (.bin .rem (t_ 16) (i_ 256)) 0,O_ 18 (.cvi .u8 (t_ 17)) 0,O_ 19 (.bs 1 2 [(.lit (.int .u8 0)),(.lit (.int .u8 0))] [(0,(t_ 14)),(1,(t_ 18))]) 0,O_ 20 (.b2s (t_ 19)) 1,O_ 21 (.mv (t_ 0)) 1,O_ 22 (.bin .add (t_ 20) (t_ 21)) 1,O_ 2 (.mv (t_ 22)) 1,O_ 3 (.mv (i_ 0)) 1]) .ret)))
theorem gc53_ok:compF Tryz.prog Tryz.f53=some (gc53.er,23,[.tmp 2,.tmp 3]):=by unfold gc53;kernel_rfl
theorem p_ref11_Put_v (a0:ByteArray):CallsO Tryz.prog 53 [.s a0] (fun r:ByteArray × Int=>.tup [V.s r.1,V.i r.2]) (p_ref11_Put a0):=by
 refine callsO_comp mix Tryz.func53 gc53_ok fun r H=>?_
 rw [p_ref11_Put] at H
 conv=>whnf
 refine tst_c H (fun b1 H=>?_) (fun b1 H=>?_)
 ·conv=>whnf
  exact fin0_c (enc:=(fun r:ByteArray × Int=>.tup [V.s r.1,V.i r.2])) H (.inr rfl) (.cons (.tmp rfl) (.cons (.tmp rfl) (.nil))) rfl rfl
 conv=>whnf
 refine tst_c H (fun b2 H=>?_) (fun b2 H=>?_)
 ·conv=>whnf
  exact fin0_c (enc:=(fun r:ByteArray × Int=>.tup [V.s r.1,V.i r.2])) H (.inr rfl) (.cons (.tmp rfl) (.cons (.tmp rfl) (.nil))) rfl rfl
 conv=>whnf
 refine ⟨by decide,Ari.w ?_⟩;conv=>whnf
 refine Ari.w ?_;conv=>whnf
 refine ⟨by decide,?_⟩;conv=>whnf
 refine Ari.w ?_;conv=>whnf
 refine b2sO_c H rfl rfl rfl (fun s3 H=>?_);conv=>whnf
 refine cat_c H (fun s4 H=>?_);conv=>whnf
 exact fin0_c (enc:=(fun r:ByteArray × Int=>.tup [V.s r.1,V.i r.2])) H (.inr rfl) (.cons (.tmp rfl) (.cons (.tmp rfl) (.nil))) rfl rfl
def gc31:BCode:=(.seq (R_ 0 [O_ 2 (.mv (i_ 0)) 0]) (.seq (R_ 0 [O_ 6 (.mv (t_ 0)) 0,O_ 7 (.cl 53 [(t_ 6)]) 0,O_ 5 (.mv (t_ 7)) 0,O_ 8 (.ex (t_ 5) 0) 0,O_ 9 (.ex (t_ 5) 1) 0,O_ 3 (.mv (t_ 8)) 0,O_ 4 (.mv (t_ 9)) 0]) (.seq (R_ 0 [O_ 10 (.mv (t_ 3)) 0,O_ 11 (.lent (t_ 10)) 0,O_ 2 (.mv (t_ 11)) 0]) .ret)))
theorem gc31_ok:compF Tryz.prog Tryz.f31=some (gc31.er,12,[.tmp 2]):=by unfold gc31;kernel_rfl
theorem p_ref11_Size_v (a0:ByteArray):CallsO Tryz.prog 31 [.s a0] V.i (p_ref11_Size a0):=by
 refine callsO_comp mix Tryz.func31 gc31_ok fun r H=>?_
 rw [p_ref11_Size] at H
 conv=>whnf
 refine ask_c (p_ref11_Put_v _) H rfl rfl (fun v1 H=>?_);conv=>whnf
 exact fi_ H
def gc32:BCode:=(.seq (R_ 0 [O_ 2 (.mv (i_ 0)) 0]) (.seq (.seq (R_ 0 [O_ 3 (.mv (t_ 0)) 0]) (.block 0 (.seq (R_ 0 [O_ 5 (.bin .eql (t_ 3) (.const (.int .u8 32))) 0,O_ 4 (.mv (t_ 5)) 0]) (.cond (t_ 4) (.seq (R_ 0 [O_ 2 (.mv (i_ 4)) 0]) .ret) (.seq (R_ 0 [O_ 7 (.bin .eql (t_ 3) (.const (.int .u8 33))) 0,O_ 6 (.mv (t_ 7)) 0]) (.cond (t_ 6) (.seq (R_ 0 [O_ 2 (.mv (i_ 5)) 0]) .ret) (.seq (R_ 0 [O_ 9 (.bin .eql (t_ 3) (.const (.int .u8 34))) 0,O_ 8 (.mv (t_ 9)) 0]) (.cond (t_ 8) (.seq (R_ 0 [O_ 2 (.mv (i_ 6)) 0]) .ret) (.seq (R_ 0 [O_ 11 (.bin .eql (t_ 3) (.const (.int .u8 35))) 0,O_ 10 (.mv (t_ 11)) 0]) (.cond (t_ 10) (.seq (R_ 0 [O_ 2 (.mv (i_ 7)) 0]) .ret) (.seq (R_ 0 [O_ 13 (.bin .eql (t_ 3) (.const (.int .u8 36))) 0,O_ 12 (.mv (t_ 13)) 0]) (.cond (t_ 12) (.seq (R_ 0 [O_ 2 (.mv (i_ 8)) 0]) .ret) (.seq (.seq (R_ 0 [O_ 15 (.bin .eql (t_ 3) (.const (.int .u8 38))) 0,O_ 14 (.mv (t_ 15)) 0]) (.cond (t_ 14) .skip (R_ 0 [O_ 16 (.bin .eql (t_ 3) (.const (.int .u8 39))) 0,O_ 14 (.mv (t_ 16)) 0]))) (.cond (t_ 14) (.seq (R_ 0 [O_ 2 (.mv (i_ 9)) 0]) .ret) (.seq (R_ 0 [O_ 18 (.bin .eql (t_ 3) (.const (.int .u8 40))) 0,O_ 17 (.mv (t_ 18)) 0]) (.cond (t_ 17) (.seq (R_ 0 [O_ 2 (.mv (i_ 10)) 0]) .ret) .skip)))))))))))))))) (.seq (R_ 0 [O_ 2 (.mv (.const (.int .i64 (-1)))) 0]) .ret)))
theorem gc32_ok:compF Tryz.prog Tryz.f32=some (gc32.er,19,[.tmp 2]):=by unfold gc32;kernel_rfl
theorem p_ref36_kind_v (a0:Int):CallsO Tryz.prog 32 [.y8 a0] V.i (p_ref36_kind a0):=by
 refine callsO_comp mix Tryz.func32 gc32_ok fun r H=>?_
 rw [p_ref36_kind] at H
 conv=>whnf
 refine tst_c H (fun b1 H=>?_) (fun b1 H=>?_)
 ·conv=>whnf
  exact fi_ H
 conv=>whnf
 refine tst_c H (fun b2 H=>?_) (fun b2 H=>?_)
 ·conv=>whnf
  exact fi_ H
 conv=>whnf
 refine tst_c H (fun b3 H=>?_) (fun b3 H=>?_)
 ·conv=>whnf
  exact fi_ H
 conv=>whnf
 refine tst_c H (fun b4 H=>?_) (fun b4 H=>?_)
 ·conv=>whnf
  exact fi_ H
 conv=>whnf
 refine tst_c H (fun b5 H=>?_) (fun b5 H=>?_)
 ·conv=>whnf
  exact fi_ H
 conv=>whnf
 refine tst_c H (fun b6 H=>?_) (fun b6 H=>?_)
 ·conv=>whnf
  refine Tst.T ?_;conv=>whnf
  exact fi_ H
 conv=>whnf
 refine tst_c H (fun b7 H=>?_) (fun b7 H=>?_)
 ·conv=>whnf
  exact fi_ H
 conv=>whnf
 refine tst_c H (fun b8 H=>?_) (fun b8 H=>?_)
 ·conv=>whnf
  exact fi_ H
 conv=>whnf
 exact fi_ H
end Go.Proofs.YtpkodpcfafipdaaGreat

namespace Go.Proofs.YtpkodpcfafipdaaGreat
open Go.RowKit
set_option maxRecDepth 100000
set_option maxHeartbeats 4000000
def gc18:BCode:=(.seq (R_ 0 [O_ 2 (.mv (.const (.string ⟨#[]⟩))) 0]) (.seq (.seq (R_ 0 [O_ 3 (.mv (t_ 0)) 0]) (.block 0 (.seq (R_ 0 [O_ 5 (.bin .eql (t_ 3) (i_ 0)) 0,O_ 4 (.mv (t_ 5)) 0]) (.cond (t_ 4) (.seq (R_ 0 [O_ 2 (.mv (.const (.string ⟨#[115,116,101,112,115]⟩))) 0]) .ret) (.seq (R_ 0 [O_ 7 (.bin .eql (t_ 3) (i_ 1)) 0,O_ 6 (.mv (t_ 7)) 0]) (.cond (t_ 6) (.seq (R_ 0 [O_ 2 (.mv (.const (.string ⟨#[119,114,111,110,103]⟩))) 0]) .ret) (.seq (R_ 0 [O_ 9 (.bin .eql (t_ 3) (i_ 2)) 0,O_ 8 (.mv (t_ 9)) 0]) (.cond (t_ 8) (.seq (R_ 0 [O_ 2 (.mv (.const (.string ⟨#[115,97,105,100]⟩))) 0]) .ret) (.seq (R_ 0 [O_ 11 (.bin .eql (t_ 3) (i_ 3)) 0,O_ 10 (.mv (t_ 11)) 0]) (.cond (t_ 10) (.seq (R_ 0 [O_ 2 (.mv (.const (.string ⟨#[98,121,116,101,115]⟩))) 0]) .ret) (.seq (R_ 0 [O_ 13 (.bin .eql (t_ 3) (i_ 4)) 0,O_ 12 (.mv (t_ 13)) 0]) (.cond (t_ 12) (.seq (R_ 0 [O_ 2 (.mv (.const (.string ⟨#[103,114,97,110,116,101,100]⟩))) 0]) .ret) (.seq (R_ 0 [O_ 15 (.bin .eql (t_ 3) (i_ 5)) 0,O_ 14 (.mv (t_ 15)) 0]) (.cond (t_ 14) (.seq (R_ 0 [O_ 2 (.mv (.const (.string ⟨#[114,101,102,117,115,101,100]⟩))) 0]) .ret) (.seq (R_ 0 [O_ 17 (.bin .eql (t_ 3) (i_ 6)) 0,O_ 16 (.mv (t_ 17)) 0]) (.cond (t_ 16) (.seq (R_ 0 [O_ 2 (.mv (.const (.string ⟨#[115,101,101,110]⟩))) 0]) .ret) (.seq (R_ 0 [O_ 19 (.bin .eql (t_ 3) (i_ 7)) 0,O_ 18 (.mv (t_ 19)) 0]) (.cond (t_ 18) (.seq (R_ 0 [O_ 2 (.mv (.const (.string ⟨#[103,111,110,101]⟩))) 0]) .ret) (.seq (R_ 0 [O_ 21 (.bin .eql (t_ 3) (i_ 8)) 0,O_ 20 (.mv (t_ 21)) 0]) (.cond (t_ 20) (.seq (R_ 0 [O_ 2 (.mv (.const (.string ⟨#[115,110,97,112,115]⟩))) 0]) .ret) (.seq (R_ 0 [O_ 23 (.bin .eql (t_ 3) (i_ 9)) 0,O_ 22 (.mv (t_ 23)) 0]) (.cond (t_ 22) (.seq (R_ 0 [O_ 2 (.mv (.const (.string ⟨#[114,111,115,116,101,114,115]⟩))) 0]) .ret) (.seq (R_ 0 [O_ 25 (.bin .eql (t_ 3) (i_ 10)) 0,O_ 24 (.mv (t_ 25)) 0]) (.cond (t_ 24) (.seq (R_ 0 [O_ 2 (.mv (.const (.string ⟨#[110,111,116,101,115]⟩))) 0]) .ret) .skip)))))))))))))))))))))))) (.seq (R_ 0 [O_ 2 (.mv (.const (.string ⟨#[115,104,117,116]⟩))) 0]) .ret)))
theorem gc18_ok:compF Tryz.prog Tryz.f18=some (gc18.er,26,[.tmp 2]):=by unfold gc18;kernel_rfl
theorem p_ref36_Name_v (a0:Int):CallsO Tryz.prog 18 [.i a0] V.s (p_ref36_Name a0):=by
 refine callsO_comp mix Tryz.func18 gc18_ok fun r H=>?_
 rw [p_ref36_Name] at H
 conv=>whnf
 refine tst_c H (fun b1 H=>?_) (fun b1 H=>?_)
 ·conv=>whnf
  exact fin0_c (enc:=V.s) H (.inr rfl) (.cons (.tmp rfl) (.nil)) rfl rfl
 conv=>whnf
 refine tst_c H (fun b2 H=>?_) (fun b2 H=>?_)
 ·conv=>whnf
  exact fin0_c (enc:=V.s) H (.inr rfl) (.cons (.tmp rfl) (.nil)) rfl rfl
 conv=>whnf
 refine tst_c H (fun b3 H=>?_) (fun b3 H=>?_)
 ·conv=>whnf
  exact fin0_c (enc:=V.s) H (.inr rfl) (.cons (.tmp rfl) (.nil)) rfl rfl
 conv=>whnf
 refine tst_c H (fun b4 H=>?_) (fun b4 H=>?_)
 ·conv=>whnf
  exact fin0_c (enc:=V.s) H (.inr rfl) (.cons (.tmp rfl) (.nil)) rfl rfl
 conv=>whnf
 refine tst_c H (fun b5 H=>?_) (fun b5 H=>?_)
 ·conv=>whnf
  exact fin0_c (enc:=V.s) H (.inr rfl) (.cons (.tmp rfl) (.nil)) rfl rfl
 conv=>whnf
 refine tst_c H (fun b6 H=>?_) (fun b6 H=>?_)
 ·conv=>whnf
  exact fin0_c (enc:=V.s) H (.inr rfl) (.cons (.tmp rfl) (.nil)) rfl rfl
 conv=>whnf
 refine tst_c H (fun b7 H=>?_) (fun b7 H=>?_)
 ·conv=>whnf
  exact fin0_c (enc:=V.s) H (.inr rfl) (.cons (.tmp rfl) (.nil)) rfl rfl
 conv=>whnf
 refine tst_c H (fun b8 H=>?_) (fun b8 H=>?_)
 ·conv=>whnf
  exact fin0_c (enc:=V.s) H (.inr rfl) (.cons (.tmp rfl) (.nil)) rfl rfl
 conv=>whnf
 refine tst_c H (fun b9 H=>?_) (fun b9 H=>?_)
 ·conv=>whnf
  exact fin0_c (enc:=V.s) H (.inr rfl) (.cons (.tmp rfl) (.nil)) rfl rfl
 conv=>whnf
 refine tst_c H (fun b10 H=>?_) (fun b10 H=>?_)
 ·conv=>whnf
  exact fin0_c (enc:=V.s) H (.inr rfl) (.cons (.tmp rfl) (.nil)) rfl rfl
 conv=>whnf
 refine tst_c H (fun b11 H=>?_) (fun b11 H=>?_)
 ·conv=>whnf
  exact fin0_c (enc:=V.s) H (.inr rfl) (.cons (.tmp rfl) (.nil)) rfl rfl
 conv=>whnf
 exact fin0_c (enc:=V.s) H (.inr rfl) (.cons (.tmp rfl) (.nil)) rfl rfl
end Go.Proofs.YtpkodpcfafipdaaGreat

namespace Go.Proofs.YtpkodpcfafipdaaGreat
open Go.RowKit
set_option maxRecDepth 100000
set_option maxHeartbeats 4000000
def gc12:BCode:=(.seq (R_ 3 [O_ 2 (.bx (t_ 0)) 0,O_ 3 (.bx (t_ 1)) 1,O_ 4 (.al (.agg [(.lit (.int .i64 0)),(.lit (.int .i64 0)),(.lit (.int .i64 0)),(.lit (.int .i64 0)),(.lit (.int .i64 0)),(.lit (.int .i64 0)),(.lit (.int .i64 0)),(.lit (.int .i64 0)),(.lit (.int .i64 0)),(.lit (.int .i64 0)),(.lit (.int .i64 0)),(.lit (.int .i64 0))])) 2]) (.seq (.reg 0 [O_ 9 (.ld 12 true (t_ 2)) 0,O_ 10 (.cl 29 [(t_ 9),(i_ 0),(i_ 1)]) 0,O_ 11 (.fa 1 (t_ 3)) 0,O_ 12 (.ld 1 false (t_ 11)) 0,O_ 13 (.lens (t_ 12)) 0,O_ 14 (.cl 29 [(t_ 10),(i_ 2),(t_ 13)]) 0,O_ 15 (.fa 2 (t_ 3)) 0,O_ 16 (.ld 1 false (t_ 15)) 0,O_ 17 (.lens (t_ 16)) 0,O_ 18 (.cl 29 [(t_ 14),(i_ 11),(t_ 17)]) 0,U_ (.st 12 (t_ 2) (t_ 18)) 0] (some [[],[0],[],[2],[2,3],[3,2,4,0,1],[],[6],[6,7],[7,6,8,1,0,4,2,3,5],[5,3,2,4,0,1,8,6,7,9]]) 0 []) (.seq (.seq (R_ 0 [O_ 19 (.fa 0 (t_ 3)) 0,O_ 20 (.ld 1 false (t_ 19)) 0,O_ 21 (.bin .neq (t_ 20) (i_ 0)) 0]) (.cond (t_ 21) (R_ 0 [O_ 22 (.ld 12 true (t_ 2)) 0,O_ 23 (.cl 29 [(t_ 22),(i_ 1),(i_ 1)]) 0,U_ (.st 12 (t_ 2) (t_ 23)) 0]) .skip)) (.seq (.seq (R_ 0 [O_ 5 (.mv (i_ 0)) 0]) (.block 0 (.loop (.seq (.seq (R_ 0 [O_ 24 (.mv (t_ 5)) 0,O_ 25 (.fa 1 (t_ 3)) 0,O_ 26 (.ld 1 false (t_ 25)) 0,O_ 27 (.lens (t_ 26)) 0,O_ 28 (.bin .lss (t_ 24) (t_ 27)) 0]) (.cond (t_ 28) .skip (.exit 0))) (.seq (.block 1 (.seq (R_ 1 [O_ 31 (.fa 1 (t_ 3)) 0,O_ 32 (.ld 1 false (t_ 31)) 0,O_ 33 (.mv (t_ 5)) 0,O_ 34 (.ixs 9 (t_ 32) (t_ 33)) 0,O_ 35 (.fa 1 (t_ 34)) 0,O_ 36 (.ld 8 true (t_ 35)) 0,O_ 6 (.al (.agg [(.lit (.int .u8 0)),(.lit (.string ⟨#[]⟩)),(.lit (.string ⟨#[]⟩)),(.lit (.string ⟨#[]⟩)),(.lit (.int .i64 0)),(.lit (.int .i64 0)),(.lit (.int .i64 0)),(.lit (.int .i64 0))])) 0,U_ (.st 8 (t_ 6) (t_ 36)) 1]) (.seq (R_ 0 [O_ 38 (.ld 8 true (t_ 6)) 0,O_ 39 (.cl 30 [(t_ 38)]) 0,O_ 37 (.mv (t_ 39)) 0,O_ 40 (.ex (t_ 37) 0) 0,O_ 41 (.ex (t_ 37) 1) 0,O_ 7 (.mv (t_ 40)) 0,O_ 8 (.mv (t_ 41)) 0]) (.seq (.reg 0 [O_ 42 (.ld 12 true (t_ 2)) 0,O_ 43 (.mv (t_ 7)) 0,O_ 44 (.cl 31 [(t_ 43)]) 0,O_ 45 (.cl 29 [(t_ 42),(i_ 3),(t_ 44)]) 0,U_ (.st 12 (t_ 2) (t_ 45)) 0] (some [[],[],[1],[1,2,0],[0,2,1,3]]) 0 []) (.seq (R_ 0 [O_ 46 (.fa 0 (t_ 6)) 0,O_ 47 (.ld 1 false (t_ 46)) 0,O_ 48 (.cl 32 [(t_ 47)]) 0,O_ 49 (.bin .geq (t_ 48) (i_ 0)) 0]) (.cond (t_ 49) (.reg 0 [O_ 50 (.ld 12 true (t_ 2)) 0,O_ 51 (.fa 0 (t_ 6)) 0,O_ 52 (.ld 1 false (t_ 51)) 0,O_ 53 (.cl 32 [(t_ 52)]) 0,O_ 54 (.cl 29 [(t_ 50),(t_ 53),(i_ 1)]) 0,U_ (.st 12 (t_ 2) (t_ 54)) 0] (some [[],[],[1],[1,2],[2,1,3,0],[0,3,1,2,4]]) 0 []) .skip)))))) (R_ 0 [O_ 29 (.mv (t_ 5)) 0,O_ 30 (.bin .add (t_ 29) (i_ 1)) 0,O_ 5 (.mv (t_ 30)) 0])))))) (.seq (R_ 0 [O_ 55 (.ld 12 true (t_ 2)) 0,U_ (.st 12 (t_ 4) (t_ 55)) 0]) .ret)))))
theorem gc12_ok:compF Tryz.prog Tryz.f12=some (gc12.er,56,[.cell 4 12 true]):=by unfold gc12;kernel_rfl
theorem p_ref36_Tally_Note_v {u1 u2:Bool} (a0:Ar12_Int) (a1:Ref33Result):CallsO Tryz.prog 12 [.agg [.i a0.a0,.i a0.a1,.i a0.a2,.i a0.a3,.i a0.a4,.i a0.a5,.i a0.a6,.i a0.a7,.i a0.a8,.i a0.a9,.i a0.a10,.i a0.a11],.agg [.i a1.E,.sl (List.map Ref33Said.v a1.Said) u1,.sl (List.map V.i a1.Shut) u2]] Ar12_Int.v (p_ref36_Tally_Note a0 a1):=by
 refine callsO_comp mix Tryz.func12 gc12_ok fun r H=>?_
 rw [p_ref36_Tally_Note] at H
 conv=>whnf
 refine ask_c (p_ref36_Tally_more_v _ _ _) H rfl rfl (fun v1 H=>?_);conv=>whnf
 refine LenQ.M ?_;conv=>whnf
 refine ask_c (p_ref36_Tally_more_v _ _ _) H rfl rfl (fun v2 H=>?_);conv=>whnf
 refine LenQ.M ?_;conv=>whnf
 refine ask_c (p_ref36_Tally_more_v _ _ _) H rfl rfl (fun v3 H=>?_);conv=>whnf
 refine lq_ ?_;conv=>whnf
 refine FootQ.mk ⟨rfl,?_⟩;conv=>whnf
 refine tst_d H (fun b4 H=>?_) (fun b4 H=>?_)
 ·conv=>whnf
  obtain ⟨o23,HL24,HQ25⟩:=bind_c H
  refine loop_c [5] [6,7,8,24,25,26,27,28,29,30,31,32,33,34,35,36,37,38,39,40,41,42,43,44,45,46,47,48,49,50,51,52,53,54,11,15,19] [6,7,8,24,25,26,27,28,29,30,31,32,33,34,35,36,37,38,39,40,41,42,43,44,45,46,47,48,49,50,51,52,53,54,11,15,19] (fun n vals st=>(∃ y27 y28,p_ref36_Tally_Note_l1  a1 n y27 y28=some o23∧vals=[.i y27]∧st=[.live [.i y28.a0,.i y28.a1,.i y28.a2,.i y28.a3,.i y28.a4,.i y28.a5,.i y28.a6,.i y28.a7,.i y28.a8,.i y28.a9,.i y28.a10,.i y28.a11] 0,.live [.i a1.E,.sl (List.map Ref33Said.v a1.Said) u1,.sl (List.map V.i a1.Shut) u2] 0,.live [.i (0:Int),.i (0:Int),.i (0:Int),.i (0:Int),.i (0:Int),.i (0:Int),.i (0:Int),.i (0:Int),.i (0:Int),.i (0:Int),.i (0:Int),.i (0:Int)] 0])) fuel 3 [] (⟨_,_,HL24,rfl,rfl⟩) (Nat.zero_le _) rfl (by kernel_rfl) (by kernel_rfl) rfl ⟨⟨rfl,rfl,rfl⟩,⟨⟨rfl,rfl,rfl⟩,⟨⟨rfl,rfl,rfl⟩,trivial⟩⟩⟩ ?_
  rintro (_ | n26) _ _ (⟨y27,y28,H,rfl,rfl⟩)
  ·rw [p_ref36_Tally_Note_l1] at H;cases H
  rw [p_ref36_Tally_Note_l1] at H
  conv=>whnf
  refine LenQ.M ?_;conv=>whnf
  refine tst_d H (fun b29 H=>?_) (fun b29 H=>?_)
  ·conv=>whnf
   obtain rfl:=Option.some.inj H
   have H:=HQ25
   try dsimp only at H
   refine lq_ ?_;conv=>whnf
   exact fin0_c (enc:=Ar12_Int.v) H (.inr rfl) (.cons (.cell rfl rfl (Nat.le_of_ble_eq_true rfl)) (.nil)) rfl rfl
  conv=>whnf
  refine ixs_c (f:=Ref33Said.v) H (fun _=>rfl) (fun x30 H=>?_);conv=>whnf
  refine lq_ ?_;conv=>whnf
  refine lq_ ?_;conv=>whnf
  refine ask_c (p_ref10_Put_v _) H rfl rfl (fun v31 H=>?_);conv=>whnf
  refine ask_c (p_ref11_Size_v _) H rfl rfl (fun v32 H=>?_);conv=>whnf
  refine ask_c (p_ref36_Tally_more_v _ _ _) H rfl rfl (fun v33 H=>?_);conv=>whnf
  refine lq_ ?_;conv=>whnf
  refine FootQ.mk ⟨rfl,?_⟩;conv=>whnf
  refine ask_c (p_ref36_kind_v _) H rfl rfl (fun v34 H=>?_);conv=>whnf
  refine tst_d H (fun b35 H=>?_) (fun b35 H=>?_)
  ·conv=>whnf
   refine Ari.w ?_;conv=>whnf
   exact again_c [6,7,8,24,25,26,27,28,29,30,31,32,33,34,35,36,37,38,39,40,41,42,43,44,45,46,47,48,49,50,51,52,53,54,11,15,19] n26 3 [] (⟨_,_,H,rfl,rfl⟩) (Nat.lt_succ_self _) (Nat.zero_le _) rfl (by kernel_rfl) (by kernel_rfl) rfl ⟨⟨rfl,rfl,rfl⟩,⟨⟨rfl,rfl,rfl⟩,⟨⟨rfl,rfl,rfl⟩,trivial⟩⟩⟩
  conv=>whnf
  refine ask_c (p_ref36_kind_v _) H rfl rfl (fun v36 H=>?_);conv=>whnf
  refine ask_c (p_ref36_Tally_more_v _ _ _) H rfl rfl (fun v37 H=>?_);conv=>whnf
  refine lq_ ?_;conv=>whnf
  refine FootQ.mk ⟨rfl,?_⟩;conv=>whnf
  refine Ari.w ?_;conv=>whnf
  exact again_c [6,7,8,24,25,26,27,28,29,30,31,32,33,34,35,36,37,38,39,40,41,42,43,44,45,46,47,48,49,50,51,52,53,54,11,15,19] n26 3 [] (⟨_,_,H,rfl,rfl⟩) (Nat.lt_succ_self _) (Nat.zero_le _) rfl (by kernel_rfl) (by kernel_rfl) rfl ⟨⟨rfl,rfl,rfl⟩,⟨⟨rfl,rfl,rfl⟩,⟨⟨rfl,rfl,rfl⟩,trivial⟩⟩⟩
 conv=>whnf
 refine ask_c (p_ref36_Tally_more_v _ _ _) H rfl rfl (fun v5 H=>?_);conv=>whnf
 refine lq_ ?_;conv=>whnf
 obtain ⟨o7,HL8,HQ9⟩:=bind_c H
 refine loop_c [5] [6,7,8,24,25,26,27,28,29,30,31,32,33,34,35,36,37,38,39,40,41,42,43,44,45,46,47,48,49,50,51,52,53,54,11,15,19] [6,7,8,24,25,26,27,28,29,30,31,32,33,34,35,36,37,38,39,40,41,42,43,44,45,46,47,48,49,50,51,52,53,54,11,15,19] (fun n vals st=>(∃ y11 y12,p_ref36_Tally_Note_l1  a1 n y11 y12=some o7∧vals=[.i y11]∧st=[.live [.i y12.a0,.i y12.a1,.i y12.a2,.i y12.a3,.i y12.a4,.i y12.a5,.i y12.a6,.i y12.a7,.i y12.a8,.i y12.a9,.i y12.a10,.i y12.a11] 0,.live [.i a1.E,.sl (List.map Ref33Said.v a1.Said) u1,.sl (List.map V.i a1.Shut) u2] 0,.live [.i (0:Int),.i (0:Int),.i (0:Int),.i (0:Int),.i (0:Int),.i (0:Int),.i (0:Int),.i (0:Int),.i (0:Int),.i (0:Int),.i (0:Int),.i (0:Int)] 0])) fuel 3 [] (⟨_,_,HL8,rfl,rfl⟩) (Nat.zero_le _) rfl (by kernel_rfl) (by kernel_rfl) rfl ⟨⟨rfl,rfl,rfl⟩,⟨⟨rfl,rfl,rfl⟩,⟨⟨rfl,rfl,rfl⟩,trivial⟩⟩⟩ ?_
 rintro (_ | n10) _ _ (⟨y11,y12,H,rfl,rfl⟩)
 ·rw [p_ref36_Tally_Note_l1] at H;cases H
 rw [p_ref36_Tally_Note_l1] at H
 conv=>whnf
 refine LenQ.M ?_;conv=>whnf
 refine tst_d H (fun b13 H=>?_) (fun b13 H=>?_)
 ·conv=>whnf
  obtain rfl:=Option.some.inj H
  have H:=HQ9
  try dsimp only at H
  refine lq_ ?_;conv=>whnf
  exact fin0_c (enc:=Ar12_Int.v) H (.inr rfl) (.cons (.cell rfl rfl (Nat.le_of_ble_eq_true rfl)) (.nil)) rfl rfl
 conv=>whnf
 refine ixs_c (f:=Ref33Said.v) H (fun _=>rfl) (fun x14 H=>?_);conv=>whnf
 refine lq_ ?_;conv=>whnf
 refine lq_ ?_;conv=>whnf
 refine ask_c (p_ref10_Put_v _) H rfl rfl (fun v15 H=>?_);conv=>whnf
 refine ask_c (p_ref11_Size_v _) H rfl rfl (fun v16 H=>?_);conv=>whnf
 refine ask_c (p_ref36_Tally_more_v _ _ _) H rfl rfl (fun v17 H=>?_);conv=>whnf
 refine lq_ ?_;conv=>whnf
 refine FootQ.mk ⟨rfl,?_⟩;conv=>whnf
 refine ask_c (p_ref36_kind_v _) H rfl rfl (fun v18 H=>?_);conv=>whnf
 refine tst_d H (fun b19 H=>?_) (fun b19 H=>?_)
 ·conv=>whnf
  refine Ari.w ?_;conv=>whnf
  exact again_c [6,7,8,24,25,26,27,28,29,30,31,32,33,34,35,36,37,38,39,40,41,42,43,44,45,46,47,48,49,50,51,52,53,54,11,15,19] n10 3 [] (⟨_,_,H,rfl,rfl⟩) (Nat.lt_succ_self _) (Nat.zero_le _) rfl (by kernel_rfl) (by kernel_rfl) rfl ⟨⟨rfl,rfl,rfl⟩,⟨⟨rfl,rfl,rfl⟩,⟨⟨rfl,rfl,rfl⟩,trivial⟩⟩⟩
 conv=>whnf
 refine ask_c (p_ref36_kind_v _) H rfl rfl (fun v20 H=>?_);conv=>whnf
 refine ask_c (p_ref36_Tally_more_v _ _ _) H rfl rfl (fun v21 H=>?_);conv=>whnf
 refine lq_ ?_;conv=>whnf
 refine FootQ.mk ⟨rfl,?_⟩;conv=>whnf
 refine Ari.w ?_;conv=>whnf
 exact again_c [6,7,8,24,25,26,27,28,29,30,31,32,33,34,35,36,37,38,39,40,41,42,43,44,45,46,47,48,49,50,51,52,53,54,11,15,19] n10 3 [] (⟨_,_,H,rfl,rfl⟩) (Nat.lt_succ_self _) (Nat.zero_le _) rfl (by kernel_rfl) (by kernel_rfl) rfl ⟨⟨rfl,rfl,rfl⟩,⟨⟨rfl,rfl,rfl⟩,⟨⟨rfl,rfl,rfl⟩,trivial⟩⟩⟩
def gc15:BCode:=(.seq (R_ 0 [O_ 2 (.mv (i_ 0)) 0]) (.seq (.seq (R_ 0 [O_ 3 (.mv (i_ 0)) 0]) (.block 0 (.loop (.seq (.seq (R_ 0 [O_ 4 (.mv (t_ 3)) 0,O_ 5 (.bin .lss (t_ 4) (i_ 12)) 0]) (.cond (t_ 5) .skip (.exit 0))) (.seq (.block 1 (.seq (R_ 0 [O_ 8 (.mv (t_ 3)) 0,O_ 9 (.cl 18 [(t_ 8)]) 0,O_ 10 (.mv (t_ 0)) 0,O_ 11 (.bin .eql (t_ 9) (t_ 10)) 0]) (.cond (t_ 11) (.seq (R_ 0 [O_ 12 (.mv (t_ 3)) 0,O_ 2 (.mv (t_ 12)) 0]) .ret) .skip))) (R_ 0 [O_ 6 (.mv (t_ 3)) 0,O_ 7 (.bin .add (t_ 6) (i_ 1)) 0,O_ 3 (.mv (t_ 7)) 0])))))) (.seq (R_ 0 [O_ 2 (.mv (.const (.int .i64 (-1)))) 0]) .ret)))
theorem gc15_ok:compF Tryz.prog Tryz.f15=some (gc15.er,13,[.tmp 2]):=by unfold gc15;kernel_rfl
theorem p_ref36_Place_v (a0:ByteArray):CallsO Tryz.prog 15 [.s a0] V.i (p_ref36_Place a0):=by
 refine callsO_comp mix Tryz.func15 gc15_ok fun r H=>?_
 rw [p_ref36_Place] at H
 conv=>whnf
 obtain ⟨o2,HL3,HQ4⟩:=bind_c H
 refine loop_c [2,3] [4,5,6,7,8,9,10,11,12] [4,5,6,7,8,9,10,11,12] (fun n vals st=>(∃ y6,p_ref36_Place_l1  a0 n y6=some o2∧vals=[.i (0:Int),.i y6]∧st=[])) fuel 0 [] (⟨_,HL3,rfl,rfl⟩) (Nat.zero_le _) rfl (by kernel_rfl) (by kernel_rfl) rfl trivial ?_
 rintro (_ | n5) _ _ (⟨y6,H,rfl,rfl⟩)
 ·rw [p_ref36_Place_l1] at H;cases H
 rw [p_ref36_Place_l1] at H
 conv=>whnf
 refine tst_d H (fun b7 H=>?_) (fun b7 H=>?_)
 ·conv=>whnf
  obtain rfl:=Option.some.inj H
  have H:=HQ4
  try dsimp only at H
  exact fi_ H
 conv=>whnf
 refine ask_c (p_ref36_Name_v _) H rfl rfl (fun v8 H=>?_);conv=>whnf
 refine tst_c H (fun b9 H=>?_) (fun b9 H=>?_)
 ·conv=>whnf
  obtain rfl:=Option.some.inj H
  have H:=HQ4
  try dsimp only at H
  exact fi_ H
 conv=>whnf
 refine Ari.w ?_;conv=>whnf
 exact again_c [4,5,6,7,8,9,10,11,12] n5 0 [] (⟨_,H,rfl,rfl⟩) (Nat.lt_succ_self _) (Nat.zero_le _) rfl (by kernel_rfl) (by kernel_rfl) rfl trivial
def gc14:BCode:=(.seq (R_ 2 [O_ 3 (.bx (t_ 0)) 0,O_ 6 (.al (.agg [(.lit (.int .i64 0)),(.lit (.int .i64 0)),(.lit (.int .i64 0)),(.lit (.int .i64 0)),(.lit (.int .i64 0)),(.lit (.int .i64 0)),(.lit (.int .i64 0)),(.lit (.int .i64 0)),(.lit (.int .i64 0)),(.lit (.int .i64 0)),(.lit (.int .i64 0)),(.lit (.int .i64 0))])) 1,O_ 7 (.mv (b_ false)) 2]) (.seq (R_ 0 [O_ 9 (.mv (t_ 1)) 0,O_ 10 (.cl 15 [(t_ 9)]) 0,O_ 8 (.mv (t_ 10)) 0]) (.seq (.seq (R_ 0 [O_ 11 (.mv (t_ 8)) 0,O_ 12 (.bin .lss (t_ 11) (i_ 0)) 0,O_ 13 (.mv (t_ 12)) 0,⟨(some 14),.mv (t_ 2),(some (13,false)),0⟩,⟨(some 15),.bin .lss (t_ 14) (i_ 0),(some (13,false)),0⟩,O_ 16 (.pick (t_ 13) (b_ true) (t_ 15)) 0]) (.cond (t_ 16) (.seq (R_ 0 [O_ 17 (.ld 12 true (t_ 3)) 0,U_ (.st 12 (t_ 6) (t_ 17)) 0,O_ 7 (.mv (b_ false)) 0]) .ret) .skip)) (.seq (R_ 0 [O_ 18 (.ld 12 true (t_ 3)) 0,O_ 19 (.mv (t_ 8)) 0,O_ 20 (.mv (t_ 2)) 0,O_ 21 (.cl 29 [(t_ 18),(t_ 19),(t_ 20)]) 0,U_ (.st 12 (t_ 6) (t_ 21)) 0,O_ 7 (.mv (b_ true)) 0]) .ret))))
theorem gc14_ok:compF Tryz.prog Tryz.f14=some (gc14.er,22,[.cell 6 12 true,.tmp 7]):=by unfold gc14;kernel_rfl
theorem p_ref36_Tally_Add_v (a0:Ar12_Int) (a1:ByteArray) (a2:Int):CallsO Tryz.prog 14 [.agg [.i a0.a0,.i a0.a1,.i a0.a2,.i a0.a3,.i a0.a4,.i a0.a5,.i a0.a6,.i a0.a7,.i a0.a8,.i a0.a9,.i a0.a10,.i a0.a11],.s a1,.i a2] (fun r:Ar12_Int × Bool=>.tup [Ar12_Int.v r.1,V.b r.2]) (p_ref36_Tally_Add a0 a1 a2):=by
 refine callsO_comp mix Tryz.func14 gc14_ok fun r H=>?_
 rw [p_ref36_Tally_Add] at H
 conv=>whnf
 refine ask_c (p_ref36_Place_v _) H rfl rfl (fun v1 H=>?_);conv=>whnf
 refine tst_c H (fun b2 H=>?_) (fun b2 H=>?_)
 ·conv=>whnf
  iterate 3 (refine Tst.T ?_;conv=>whnf)
  refine lq_ ?_;conv=>whnf
  exact fin0_c (enc:=(fun r:Ar12_Int × Bool=>.tup [Ar12_Int.v r.1,V.b r.2])) H (.inr rfl) (.cons (.cell rfl rfl (Nat.le_of_ble_eq_true rfl)) (.cons (.tmp rfl) (.nil))) rfl rfl
 conv=>whnf
 iterate 2 (refine Tst.F ?_;conv=>whnf)
 refine tst_c H (fun b3 H=>?_) (fun b3 H=>?_)
 ·conv=>whnf
  refine lq_ ?_;conv=>whnf
  exact fin0_c (enc:=(fun r:Ar12_Int × Bool=>.tup [Ar12_Int.v r.1,V.b r.2])) H (.inr rfl) (.cons (.cell rfl rfl (Nat.le_of_ble_eq_true rfl)) (.cons (.tmp rfl) (.nil))) rfl rfl
 conv=>whnf
 refine ask_c (p_ref36_Tally_more_v _ _ _) H rfl rfl (fun v4 H=>?_);conv=>whnf
 refine lq_ ?_;conv=>whnf
 exact fin0_c (enc:=(fun r:Ar12_Int × Bool=>.tup [Ar12_Int.v r.1,V.b r.2])) H (.inr rfl) (.cons (.cell rfl rfl (Nat.le_of_ble_eq_true rfl)) (.cons (.tmp rfl) (.nil))) rfl rfl
end Go.Proofs.YtpkodpcfafipdaaGreat

namespace Go.Proofs.YtpkodpcfafipdaaGreat
open Go.RowKit
set_option maxRecDepth 1000000
set_option maxHeartbeats 4000000
def gc16:BCode:=(.seq (R_ 0 [O_ 2 (.mv (.const (.slice none 0 0))) 0]) (.seq (.seq (R_ 0 [O_ 6 (.mv (t_ 0)) 0,O_ 7 (.eqp false (t_ 6) (.const (.pointer none))) 0]) (.cond (t_ 7) (.seq (R_ 0 [O_ 2 (.mv (.const (.slice none 0 0))) 0]) .ret) .skip)) (.seq (R_ 0 [O_ 3 (.mv (.const (.slice none 0 0))) 0]) (.seq (.seq (R_ 0 [O_ 8 (.cl 17 []) 0,O_ 9 (.lens (t_ 8)) 0,O_ 10 (.mv (i_ 0)) 0]) (.block 0 (.loop (.seq (R_ 0 [O_ 11 (.bin .lss (t_ 10) (t_ 9)) 0]) (.seq (.cond (t_ 11) .skip (.exit 0)) (.seq (.block 1 (.seq (R_ 0 [O_ 12 (.mv (t_ 10)) 0,O_ 13 (.ixs 1 (t_ 8) (t_ 10)) 0,O_ 14 (.ld 1 false (t_ 13)) 0,O_ 4 (.mv (t_ 12)) 0,O_ 5 (.mv (t_ 14)) 0]) (R_ 2 [O_ 15 (.mv (t_ 3)) 0,O_ 16 (.mv (t_ 5)) 0,O_ 17 (.mv (t_ 0)) 0,O_ 18 (.mv (t_ 4)) 0,O_ 19 (.nc (t_ 17)) 0,O_ 20 (.fa 0 (t_ 19)) 0,O_ 21 (.ixa 12 1 (t_ 20) (t_ 18)) 0,O_ 22 (.cl 34 [(t_ 21)]) 0,O_ 23 (.bd [(.lit (.string ⟨#[]⟩)),(.lit (.int .i64 0))] [(0,1,(t_ 16)),(1,1,(t_ 22))]) 0,O_ 24 (.bs 2 1 [(.lit (.string ⟨#[]⟩)),(.lit (.int .i64 0))] [(0,(t_ 23))]) 0,O_ 25 (.ap 2 24 (t_ 15) (t_ 24)) 1,O_ 3 (.mv (t_ 25)) 2]))) (R_ 0 [O_ 26 (.bin .add (t_ 10) (i_ 1)) 0,O_ 10 (.mv (t_ 26)) 0]))))))) (.seq (R_ 0 [O_ 27 (.mv (t_ 3)) 0,O_ 2 (.mv (t_ 27)) 0]) .ret)))))
theorem gc16_ok:compF Tryz.prog Tryz.f16=some (gc16.er,28,[.tmp 2]):=by unfold gc16;kernel_rfl
theorem p_tally_Tally_List_p1_0 {u1:Bool}  (a0:TallyTally) (r:TallyTally × (List TallyCount)) (H:p_tally_Tally_List a0=some r):CallsS Tryz.prog 16 [.ptr 0 0] [.live (cellsM SyncatomicInt64.v a0.counts++([.lit (.int .u32 a0.once.done.v_),.lit (.int .i32 a0.once.m.mu.state),.lit (.int .u32 a0.once.m.mu.sema),.sl (List.map V.s a0.names) u1])) 0] ((fun r:TallyTally × (List TallyCount)=>(fun l:List TallyCount=>V.sl (l.map TallyCount.v) false) r.2) r) [.live ((fun r:TallyTally × (List TallyCount)=>(cellsM SyncatomicInt64.v r.1.counts++([.lit (.int .u32 r.1.once.done.v_),.lit (.int .i32 r.1.once.m.mu.state),.lit (.int .u32 r.1.once.m.mu.sema),.sl (List.map V.s r.1.names) false]))) r) 0]:=by
 refine callsR_c (n0:=1) mix Tryz.func16 gc16_ok rfl ?_
 rw [p_tally_Tally_List] at H
 conv=>whnf
 refine Tst.F ?_;conv=>whnf
 refine ask_c (p_tally_Names_v) H rfl rfl (fun v1 H=>?_);conv=>whnf
 refine LenQ.M ?_;conv=>whnf
 obtain ⟨o3,HL4,HQ5⟩:=bind_c H
 refine loop_c [3,10] [4,5,11,12,13,14,15,16,17,18,19,20,21,22,23,24,25,26,6] [4,5,11,12,13,14,15,16,17,18,19,20,21,22,23,24,25,26,6] (fun n vals st=>(∃ y7,p_tally_Tally_List_l1  v1 (v1.length:Int) a0 n [] y7=some o3∧vals=[.sl (List.map TallyCount.v []) true,.i y7]∧st=[.live (cellsM SyncatomicInt64.v a0.counts++([.lit (.int .u32 a0.once.done.v_),.lit (.int .i32 a0.once.m.mu.state),.lit (.int .u32 a0.once.m.mu.sema),.sl (List.map V.s a0.names) u1])) 0])∨(∃ y13 y14,p_tally_Tally_List_l1  v1 (v1.length:Int) a0 n y13 y14=some o3∧vals=[.osl 1 0 (List.length y13) 2 false,.i y14]∧st=[.live (cellsM SyncatomicInt64.v a0.counts++([.lit (.int .u32 a0.once.done.v_),.lit (.int .i32 a0.once.m.mu.state),.lit (.int .u32 a0.once.m.mu.sema),.sl (List.map V.s a0.names) u1])) 0,.live (cellsM TallyCount.v y13) (cellsM TallyCount.v y13).length])) fuel 1 [] (.inl (⟨_,HL4,rfl,rfl⟩)) (Nat.le_of_ble_eq_true rfl) rfl (by kernel_rfl) (by kernel_rfl) rfl (wkB_live0 rfl (belowL_app (cellsM_idlt (f:=SyncatomicInt64.v) (fun _=>rfl) _) rfl) rfl wkB_nil) ?_
 rintro (_ | n6) _ _ (⟨y7,H,rfl,rfl⟩ | ⟨y13,y14,H,rfl,rfl⟩)
 ·rw [p_tally_Tally_List_l1] at H;cases H
 ·rw [p_tally_Tally_List_l1] at H;cases H
 ·rw [p_tally_Tally_List_l1] at H
  conv=>whnf
  refine tst_d H (fun b8 H=>?_) (fun b8 H=>?_)
  ·conv=>whnf
   obtain rfl:=Option.some.inj H
   have H:=HQ5
   try dsimp only at H
   refine finPs_c (y:=r) (st0:=[.live (cellsM SyncatomicInt64.v a0.counts++([.lit (.int .u32 a0.once.done.v_),.lit (.int .i32 a0.once.m.mu.state),.lit (.int .u32 a0.once.m.mu.sema),.sl (List.map V.s a0.names) u1])) 0]) (enc:=(fun r:TallyTally × (List TallyCount)=>(fun l:List TallyCount=>V.sl (l.map TallyCount.v) false) r.2)) (T:=(fun r:TallyTally × (List TallyCount)=>(cellsM SyncatomicInt64.v r.1.counts++([.lit (.int .u32 r.1.once.done.v_),.lit (.int .i32 r.1.once.m.mu.state),.lit (.int .u32 r.1.once.m.mu.sema),.sl (List.map V.s r.1.names) false])))) (i:=0) [] (.inr rfl) H (Nat.le_of_ble_eq_true rfl) ?_;conv=>whnf
   exact ⟨trivial,⟨_,_,rfl,(fzl_app (.cons (.id rfl) (.cons (.id rfl) (.cons (.id rfl) (.cons (.slw) (.nil))))) (fzl_lit (cellsM_idlt (f:=SyncatomicInt64.v) (fun _=>rfl) _))),(one_app (one_M (f:=SyncatomicInt64.v) (fun _=>rfl) _) rfl)⟩,⟨_,.slw⟩⟩
  conv=>whnf
  refine ixs_c (f:=V.s) H (fun _=>rfl) (fun x9 H=>?_);conv=>whnf
  refine ixa_c H (fun x10 h11 H=>?_);conv=>whnf
  refine Ask_S (callsS_loadM (p:=([]:List V)) (f:=SyncatomicInt64.v) (seg:=a0.counts) (m:=[.lit (.int .u32 a0.once.done.v_),.lit (.int .i32 a0.once.m.mu.state),.lit (.int .u32 a0.once.m.mu.sema),.sl (List.map V.s a0.names) u1]) (es:=1) rfl (by first | rfl | (simp only [List.append_assoc,List.cons_append,List.nil_append,List.append_nil];done) | simp) h11 (fun _=>rfl) (by simp) rfl) rfl ?_;conv=>whnf
  refine appN_c (f:=TallyCount.v) H (fun _=>rfl) (srcM (f:=TallyCount.v) (fun _=>rfl) [] true) rfl (.v (srcOwn (f:=TallyCount.v) (l:=[(TallyCount.mk x9 x10.v_)]) (fun _=>rfl) rfl rfl rfl)) (by decide) rfl (by simp) (fun l12 H=>?_);conv=>whnf
  refine Ari.w ?_;conv=>whnf
  exact again_c [4,5,11,12,13,14,15,16,17,18,19,20,21,22,23,24,25,26,6] n6 2 [0,2] (.inr (⟨_,_,H,rfl,rfl⟩)) (Nat.lt_succ_self _) (Nat.le_of_ble_eq_true rfl) rfl (by kernel_rfl) (by kernel_rfl) rfl (wkB_live0 rfl (belowL_app (cellsM_idlt (f:=SyncatomicInt64.v) (fun _=>rfl) _) rfl) rfl (wkB_live0 rfl (cellsM_idlt (f:=TallyCount.v) (fun _=>rfl) _) rfl wkB_nil))
 rw [p_tally_Tally_List_l1] at H
 conv=>whnf
 refine tst_d H (fun b15 H=>?_) (fun b15 H=>?_)
 ·conv=>whnf
  obtain rfl:=Option.some.inj H
  have H:=HQ5
  try dsimp only at H
  refine finPs_c (y:=r) (st0:=[.live (cellsM SyncatomicInt64.v a0.counts++([.lit (.int .u32 a0.once.done.v_),.lit (.int .i32 a0.once.m.mu.state),.lit (.int .u32 a0.once.m.mu.sema),.sl (List.map V.s a0.names) u1])) 0]) (enc:=(fun r:TallyTally × (List TallyCount)=>(fun l:List TallyCount=>V.sl (l.map TallyCount.v) false) r.2)) (T:=(fun r:TallyTally × (List TallyCount)=>(cellsM SyncatomicInt64.v r.1.counts++([.lit (.int .u32 r.1.once.done.v_),.lit (.int .i32 r.1.once.m.mu.state),.lit (.int .u32 r.1.once.m.mu.sema),.sl (List.map V.s r.1.names) false])))) (i:=0) [] (.inr rfl) H (Nat.le_of_ble_eq_true rfl) ?_;conv=>whnf
  exact ⟨trivial,⟨_,_,rfl,(fzl_app (.cons (.id rfl) (.cons (.id rfl) (.cons (.id rfl) (.cons (.slw) (.nil))))) (fzl_lit (cellsM_idlt (f:=SyncatomicInt64.v) (fun _=>rfl) _))),(one_app (one_M (f:=SyncatomicInt64.v) (fun _=>rfl) _) rfl)⟩,⟨_,fzown (f:=TallyCount.v) (l:=y13) rfl rfl (fun _=>rfl) (fun _=>rfl)⟩⟩
 conv=>whnf
 refine ixs_c (f:=V.s) H (fun _=>rfl) (fun x16 H=>?_);conv=>whnf
 refine ixa_c H (fun x17 h18 H=>?_);conv=>whnf
 refine Ask_S (callsS_loadM (p:=([]:List V)) (f:=SyncatomicInt64.v) (seg:=a0.counts) (m:=[.lit (.int .u32 a0.once.done.v_),.lit (.int .i32 a0.once.m.mu.state),.lit (.int .u32 a0.once.m.mu.sema),.sl (List.map V.s a0.names) u1]) (es:=1) rfl (by first | rfl | (simp only [List.append_assoc,List.cons_append,List.nil_append,List.append_nil];done) | simp) h18 (fun _=>rfl) (by simp) rfl) rfl ?_;conv=>whnf
 refine appO_c (f:=TallyCount.v) H (fun _=>rfl) rfl (Nat.le_refl _) (.v (srcOwn (f:=TallyCount.v) (l:=[(TallyCount.mk x16 x17.v_)]) (fun _=>rfl) rfl rfl rfl)) (by decide) rfl (by simp) (fun l19 H=>?_);conv=>whnf
 refine Ari.w ?_;conv=>whnf
 exact again_c [4,5,11,12,13,14,15,16,17,18,19,20,21,22,23,24,25,26,6] n6 2 [0,3] (.inr (⟨_,_,H,rfl,rfl⟩)) (Nat.lt_succ_self _) (Nat.le_of_ble_eq_true rfl) rfl (by kernel_rfl) (by kernel_rfl) rfl (wkB_live0 rfl (belowL_app (cellsM_idlt (f:=SyncatomicInt64.v) (fun _=>rfl) _) rfl) rfl (wkB_live0 rfl (cellsM_idlt (f:=TallyCount.v) (fun _=>rfl) _) rfl wkB_nil))
def gc8:BCode:=(.seq (R_ 0 [O_ 0 (.mv (b_ false)) 0]) (.seq (.reg 0 [O_ 5 (.cl 9 []) 0,O_ 1 (.mv (t_ 5)) 0] none 2 []) (.seq (.seq (R_ 0 [O_ 6 (.mv (t_ 1)) 0,O_ 7 (.eqp false (t_ 6) (.const (.pointer none))) 0]) (.cond (t_ 7) (.seq (R_ 0 [O_ 0 (.mv (b_ false)) 0]) .ret) .skip)) (.seq (R_ 1 [O_ 8 (.mv (t_ 1)) 0,O_ 9 (.bs 1 1 [(.lit (.int .i64 0))] [(0,(i_ 4))]) 0,O_ 10 (.bd [(.lit (.int .i64 0)),(.sl [] true),(.sl [] true)] [(0,1,(i_ 6)),(2,1,(t_ 9))]) 1,O_ 11 (.cl 10 [(t_ 8),(t_ 10)]) 1]) (.seq (R_ 1 [O_ 12 (.mv (t_ 1)) 0,O_ 13 (.bd [(.lit (.int .u8 0)),(.lit (.string ⟨#[]⟩)),(.lit (.string ⟨#[]⟩)),(.lit (.string ⟨#[]⟩)),(.lit (.int .i64 0)),(.lit (.int .i64 0)),(.lit (.int .i64 0)),(.lit (.int .i64 0))] [(0,1,(.const (.int .u8 32)))]) 0,O_ 14 (.bd [(.lit (.int .i64 0)),(.lit (.int .u8 0)),(.lit (.string ⟨#[]⟩)),(.lit (.string ⟨#[]⟩)),(.lit (.string ⟨#[]⟩)),(.lit (.int .i64 0)),(.lit (.int .i64 0)),(.lit (.int .i64 0)),(.lit (.int .i64 0))] [(1,8,(t_ 13))]) 0,O_ 15 (.bd [(.lit (.int .u8 0)),(.lit (.string ⟨#[]⟩)),(.lit (.string ⟨#[]⟩)),(.lit (.string ⟨#[]⟩)),(.lit (.int .i64 0)),(.lit (.int .i64 0)),(.lit (.int .i64 0)),(.lit (.int .i64 0))] [(0,1,(.const (.int .u8 37)))]) 0,O_ 16 (.bd [(.lit (.int .i64 0)),(.lit (.int .u8 0)),(.lit (.string ⟨#[]⟩)),(.lit (.string ⟨#[]⟩)),(.lit (.string ⟨#[]⟩)),(.lit (.int .i64 0)),(.lit (.int .i64 0)),(.lit (.int .i64 0)),(.lit (.int .i64 0))] [(1,8,(t_ 15))]) 0,O_ 17 (.bd [(.lit (.int .u8 0)),(.lit (.string ⟨#[]⟩)),(.lit (.string ⟨#[]⟩)),(.lit (.string ⟨#[]⟩)),(.lit (.int .i64 0)),(.lit (.int .i64 0)),(.lit (.int .i64 0)),(.lit (.int .i64 0))] [(0,1,(.const (.int .u8 39))),(1,1,(.const (.string ⟨#[97,64,98]⟩)))]) 0,O_ 18 (.bd [(.lit (.int .i64 0)),(.lit (.int .u8 0)),(.lit (.string ⟨#[]⟩)),(.lit (.string ⟨#[]⟩)),(.lit (.string ⟨#[]⟩)),(.lit (.int .i64 0)),(.lit (.int .i64 0)),(.lit (.int .i64 0)),(.lit (.int .i64 0))] [(1,8,(t_ 17))]) 0,O_ 19 (.bs 9 3 [(.lit (.int .i64 0)),(.lit (.int .u8 0)),(.lit (.string ⟨#[]⟩)),(.lit (.string ⟨#[]⟩)),(.lit (.string ⟨#[]⟩)),(.lit (.int .i64 0)),(.lit (.int .i64 0)),(.lit (.int .i64 0)),(.lit (.int .i64 0)),(.lit (.int .i64 0)),(.lit (.int .u8 0)),(.lit (.string ⟨#[]⟩)),(.lit (.string ⟨#[]⟩)),(.lit (.string ⟨#[]⟩)),(.lit (.int .i64 0)),(.lit (.int .i64 0)),(.lit (.int .i64 0)),(.lit (.int .i64 0)),(.lit (.int .i64 0)),(.lit (.int .u8 0)),(.lit (.string ⟨#[]⟩)),(.lit (.string ⟨#[]⟩)),(.lit (.string ⟨#[]⟩)),(.lit (.int .i64 0)),(.lit (.int .i64 0)),(.lit (.int .i64 0)),(.lit (.int .i64 0))] [(0,(t_ 14)),(1,(t_ 16)),(2,(t_ 18))]) 0,O_ 20 (.bd [(.lit (.int .i64 0)),(.sl [] true),(.sl [] true)] [(1,1,(t_ 19))]) 1,O_ 21 (.cl 10 [(t_ 12),(t_ 20)]) 1]) (.seq (R_ 0 [O_ 22 (.mv (t_ 1)) 0,O_ 23 (.cl 13 [(t_ 22),(.const (.string ⟨#[115,101,101,110]⟩)),(i_ 5)]) 0,O_ 24 (.mv (t_ 1)) 0,O_ 25 (.cl 13 [(t_ 24),(.const (.string ⟨#[110,111,110,101]⟩)),(i_ 5)]) 0,O_ 2 (.mv (t_ 23)) 0,O_ 3 (.mv (t_ 25)) 0]) (.seq (R_ 0 [O_ 26 (.cl 17 []) 0,O_ 4 (.mv (t_ 26)) 0]) (.seq (R_ 0 [O_ 27 (.mv (t_ 1)) 0,O_ 28 (.cl 19 [(t_ 27),(.const (.string ⟨#[115,116,101,112,115]⟩))]) 0,O_ 29 (.bin .eql (t_ 28) (i_ 2)) 0,O_ 30 (.mv (t_ 29)) 0,⟨(some 31),.mv (t_ 1),(some (30,true)),0⟩,⟨(some 32),.cl 19 [(t_ 31),(.const (.string ⟨#[119,114,111,110,103]⟩))],(some (30,true)),0⟩,⟨(some 33),.bin .eql (t_ 32) (i_ 1),(some (30,true)),0⟩,O_ 34 (.pick (t_ 30) (t_ 33) (b_ false)) 0,O_ 35 (.mv (t_ 34)) 0,⟨(some 36),.mv (t_ 1),(some (35,true)),0⟩,⟨(some 37),.cl 19 [(t_ 36),(.const (.string ⟨#[115,104,117,116]⟩))],(some (35,true)),0⟩,⟨(some 38),.bin .eql (t_ 37) (i_ 1),(some (35,true)),0⟩,O_ 39 (.pick (t_ 35) (t_ 38) (b_ false)) 0,O_ 40 (.mv (t_ 39)) 0,⟨(some 41),.mv (t_ 1),(some (40,true)),0⟩,⟨(some 42),.cl 19 [(t_ 41),(.const (.string ⟨#[115,97,105,100]⟩))],(some (40,true)),0⟩,⟨(some 43),.bin .eql (t_ 42) (i_ 3),(some (40,true)),0⟩,O_ 44 (.pick (t_ 40) (t_ 43) (b_ false)) 0,O_ 45 (.mv (t_ 44)) 0,⟨(some 46),.mv (t_ 1),(some (45,true)),0⟩,⟨(some 47),.cl 19 [(t_ 46),(.const (.string ⟨#[103,114,97,110,116,101,100]⟩))],(some (45,true)),0⟩,⟨(some 48),.bin .eql (t_ 47) (i_ 1),(some (45,true)),0⟩,O_ 49 (.pick (t_ 45) (t_ 48) (b_ false)) 0,O_ 50 (.mv (t_ 49)) 0,⟨(some 51),.mv (t_ 1),(some (50,true)),0⟩,⟨(some 52),.cl 19 [(t_ 51),(.const (.string ⟨#[114,111,115,116,101,114,115]⟩))],(some (50,true)),0⟩,⟨(some 53),.bin .eql (t_ 52) (i_ 1),(some (50,true)),0⟩,O_ 54 (.pick (t_ 50) (t_ 53) (b_ false)) 0,O_ 55 (.mv (t_ 54)) 0,⟨(some 56),.mv (t_ 1),(some (55,true)),0⟩,⟨(some 57),.cl 19 [(t_ 56),(.const (.string ⟨#[98,121,116,101,115]⟩))],(some (55,true)),0⟩,⟨(some 58),.bin .eql (t_ 57) (i_ 26),(some (55,true)),0⟩,O_ 59 (.pick (t_ 55) (t_ 58) (b_ false)) 0,O_ 60 (.mv (t_ 59)) 0,⟨(some 61),.mv (t_ 2),(some (60,true)),0⟩,O_ 62 (.pick (t_ 60) (t_ 61) (b_ false)) 0,O_ 63 (.mv (t_ 62)) 0,⟨(some 64),.mv (t_ 3),(some (63,true)),0⟩,⟨(some 65),.un .not (t_ 64),(some (63,true)),0⟩,O_ 66 (.pick (t_ 63) (t_ 65) (b_ false)) 0,O_ 67 (.mv (t_ 66)) 0,⟨(some 68),.mv (t_ 1),(some (67,true)),0⟩,⟨(some 69),.cl 19 [(t_ 68),(.const (.string ⟨#[115,101,101,110]⟩))],(some (67,true)),0⟩,⟨(some 70),.bin .eql (t_ 69) (i_ 5),(some (67,true)),0⟩,O_ 71 (.pick (t_ 67) (t_ 70) (b_ false)) 0,O_ 72 (.mv (t_ 71)) 0,⟨(some 73),.mv (t_ 4),(some (72,true)),0⟩,⟨(some 74),.lens (t_ 73),(some (72,true)),0⟩,⟨(some 75),.bin .eql (t_ 74) (i_ 12),(some (72,true)),0⟩,O_ 76 (.pick (t_ 72) (t_ 75) (b_ false)) 0,O_ 77 (.mv (t_ 76)) 0,⟨(some 78),.mv (t_ 4),(some (77,true)),0⟩,⟨(some 79),.ixs 1 (t_ 78) (i_ 11),(some (77,true)),0⟩,⟨(some 80),.ld 1 false (t_ 79),(some (77,true)),0⟩,⟨(some 81),.bin .eql (t_ 80) (.const (.string ⟨#[115,104,117,116]⟩)),(some (77,true)),0⟩,O_ 82 (.pick (t_ 77) (t_ 81) (b_ false)) 0,O_ 83 (.mv (t_ 82)) 0,⟨(some 84),.mv (t_ 1),(some (83,true)),0⟩,⟨(some 85),.cl 16 [(t_ 84)],(some (83,true)),0⟩,⟨(some 86),.lens (t_ 85),(some (83,true)),0⟩,⟨(some 87),.bin .eql (t_ 86) (i_ 12),(some (83,true)),0⟩,O_ 88 (.pick (t_ 83) (t_ 87) (b_ false)) 0,O_ 89 (.mv (t_ 88)) 0,⟨(some 90),.mv (t_ 1),(some (89,true)),0⟩,⟨(some 91),.mv (t_ 1),(some (89,true)),0⟩,⟨(some 92),.cl 21 [(t_ 90),(t_ 91)],(some (89,true)),0⟩,⟨(some 93),.un .not (t_ 92),(some (89,true)),0⟩,O_ 94 (.pick (t_ 89) (t_ 93) (b_ false)) 0,O_ 0 (.mv (t_ 94)) 0]) .ret))))))))
theorem gc8_ok:compF Tryz.prog Tryz.f8=some (gc8.er,95,[.tmp 0]):=by unfold gc8;kernel_rfl
theorem p_law36_awake_t:CallsO Tryz.prog 8 [] V.b (tru? (p_law36_awake)):=by
 refine callsO_comp mix Tryz.func8 gc8_ok fun r H=>?_
 have H1:=tru_of H
 clear H
 obtain ⟨rfl,H⟩:=H1
 rw [p_law36_awake] at H
 conv=>whnf
 refine askN_c 0 1 (fun s hs=>p_tally_New_o  s hs) H rfl rfl rfl rfl (fun s=>(belowL_app (cellsM_idlt (f:=SyncatomicInt64.v) (fun _=>rfl) _) rfl)) (.nil) (fun y1 H=>?_);conv=>whnf
 refine Tst.F ?_;conv=>whnf
 refine askCo_c [0] (fun s hs=>p_tally_Tally_Note_p1_0 _ _ s hs) H (fun _=>rfl) rfl ⟨rfl,trivial⟩ rfl (closed_cons (belowL_app (cellsM_idlt (f:=SyncatomicInt64.v) (fun _=>rfl) _) rfl) closed_nil) (fun s=>(closed_cons (belowL_app (cellsM_idlt (f:=SyncatomicInt64.v) (fun _=>rfl) _) rfl) closed_nil)) (fun _=>rfl) (.kp rfl (.fz (fzagg (.cons (.id rfl) (.cons (.slw) (.cons (fzown (f:=V.i) (l:=[(4:Int)]) rfl rfl (fun _=>rfl) (fun _=>rfl)) (.nil)))) rfl) rfl (.nil))) (fun v2 H=>?_);conv=>whnf
 refine askCo_c [0] (fun s hs=>p_tally_Tally_Note_p1_0 _ _ s hs) H (fun _=>rfl) rfl ⟨rfl,trivial⟩ rfl (closed_cons (belowL_app (cellsM_idlt (f:=SyncatomicInt64.v) (fun _=>rfl) _) rfl) closed_nil) (fun s=>(closed_cons (belowL_app (cellsM_idlt (f:=SyncatomicInt64.v) (fun _=>rfl) _) rfl) closed_nil)) (fun _=>rfl) (.kp rfl (.fz (fzagg (.cons (.id rfl) (.cons (fzown (f:=Ref33Said.v) (l:=[(Ref33Said.mk (0:Int) (StanzaStanza.mk (32:Int) (⟨#[]⟩ : ByteArray) (⟨#[]⟩ : ByteArray) (⟨#[]⟩ : ByteArray) (0:Int) (0:Int) (0:Int) (0:Int))),(Ref33Said.mk (0:Int) (StanzaStanza.mk (37:Int) (⟨#[]⟩ : ByteArray) (⟨#[]⟩ : ByteArray) (⟨#[]⟩ : ByteArray) (0:Int) (0:Int) (0:Int) (0:Int))),(Ref33Said.mk (0:Int) (StanzaStanza.mk (39:Int) (⟨#[97,64,98]⟩ : ByteArray) (⟨#[]⟩ : ByteArray) (⟨#[]⟩ : ByteArray) (0:Int) (0:Int) (0:Int) (0:Int)))]) rfl rfl (fun _=>rfl) (fun _=>rfl)) (.cons (.slw) (.nil)))) rfl) rfl (.nil))) (fun v3 H=>?_);conv=>whnf
 refine askCo_c [0] (fun s hs=>p_tally_Tally_Add_p1_0 _ _ _ s hs) H (fun _=>rfl) rfl ⟨rfl,trivial⟩ rfl (closed_cons (belowL_app (cellsM_idlt (f:=SyncatomicInt64.v) (fun _=>rfl) _) rfl) closed_nil) (fun s=>(closed_cons (belowL_app (cellsM_idlt (f:=SyncatomicInt64.v) (fun _=>rfl) _) rfl) closed_nil)) (fun _=>rfl) (.kp rfl (.kp rfl (.kp rfl (.nil)))) (fun v4 H=>?_);conv=>whnf
 refine askCo_c [0] (fun s hs=>p_tally_Tally_Add_p1_0 _ _ _ s hs) H (fun _=>rfl) rfl ⟨rfl,trivial⟩ rfl (closed_cons (belowL_app (cellsM_idlt (f:=SyncatomicInt64.v) (fun _=>rfl) _) rfl) closed_nil) (fun s=>(closed_cons (belowL_app (cellsM_idlt (f:=SyncatomicInt64.v) (fun _=>rfl) _) rfl) closed_nil)) (fun _=>rfl) (.kp rfl (.kp rfl (.kp rfl (.nil)))) (fun v5 H=>?_);conv=>whnf
 refine ask_c (p_tally_Names_v) H rfl rfl (fun v6 H=>?_);conv=>whnf
 refine askCo_c [0] (fun s hs=>p_tally_Tally_Get_p1_0 _ _ s hs) H (fun _=>rfl) rfl ⟨rfl,trivial⟩ rfl (closed_cons (belowL_app (cellsM_idlt (f:=SyncatomicInt64.v) (fun _=>rfl) _) rfl) closed_nil) (fun s=>(closed_cons (belowL_app (cellsM_idlt (f:=SyncatomicInt64.v) (fun _=>rfl) _) rfl) closed_nil)) (fun _=>rfl) (.kp rfl (.kp rfl (.nil))) (fun v7 H=>?_);conv=>whnf
 refine tstT_c H (fun b8 H=>?_);conv=>whnf
 refine Tst.T ?_;conv=>whnf
 refine askCo_c [0] (fun s hs=>p_tally_Tally_Get_p1_0 _ _ s hs) H (fun _=>rfl) rfl ⟨rfl,trivial⟩ rfl (closed_cons (belowL_app (cellsM_idlt (f:=SyncatomicInt64.v) (fun _=>rfl) _) rfl) closed_nil) (fun s=>(closed_cons (belowL_app (cellsM_idlt (f:=SyncatomicInt64.v) (fun _=>rfl) _) rfl) closed_nil)) (fun _=>rfl) (.kp rfl (.kp rfl (.nil))) (fun v9 H=>?_);conv=>whnf
 iterate 2 (refine Tst.T ?_;conv=>whnf)
 refine tstT_c H (fun b10 H=>?_);conv=>whnf
 refine Tst.T ?_;conv=>whnf
 refine askCo_c [0] (fun s hs=>p_tally_Tally_Get_p1_0 _ _ s hs) H (fun _=>rfl) rfl ⟨rfl,trivial⟩ rfl (closed_cons (belowL_app (cellsM_idlt (f:=SyncatomicInt64.v) (fun _=>rfl) _) rfl) closed_nil) (fun s=>(closed_cons (belowL_app (cellsM_idlt (f:=SyncatomicInt64.v) (fun _=>rfl) _) rfl) closed_nil)) (fun _=>rfl) (.kp rfl (.kp rfl (.nil))) (fun v11 H=>?_);conv=>whnf
 iterate 2 (refine Tst.T ?_;conv=>whnf)
 refine tstT_c H (fun b12 H=>?_);conv=>whnf
 refine Tst.T ?_;conv=>whnf
 refine askCo_c [0] (fun s hs=>p_tally_Tally_Get_p1_0 _ _ s hs) H (fun _=>rfl) rfl ⟨rfl,trivial⟩ rfl (closed_cons (belowL_app (cellsM_idlt (f:=SyncatomicInt64.v) (fun _=>rfl) _) rfl) closed_nil) (fun s=>(closed_cons (belowL_app (cellsM_idlt (f:=SyncatomicInt64.v) (fun _=>rfl) _) rfl) closed_nil)) (fun _=>rfl) (.kp rfl (.kp rfl (.nil))) (fun v13 H=>?_);conv=>whnf
 iterate 2 (refine Tst.T ?_;conv=>whnf)
 refine tstT_c H (fun b14 H=>?_);conv=>whnf
 refine Tst.T ?_;conv=>whnf
 refine askCo_c [0] (fun s hs=>p_tally_Tally_Get_p1_0 _ _ s hs) H (fun _=>rfl) rfl ⟨rfl,trivial⟩ rfl (closed_cons (belowL_app (cellsM_idlt (f:=SyncatomicInt64.v) (fun _=>rfl) _) rfl) closed_nil) (fun s=>(closed_cons (belowL_app (cellsM_idlt (f:=SyncatomicInt64.v) (fun _=>rfl) _) rfl) closed_nil)) (fun _=>rfl) (.kp rfl (.kp rfl (.nil))) (fun v15 H=>?_);conv=>whnf
 iterate 2 (refine Tst.T ?_;conv=>whnf)
 refine tstT_c H (fun b16 H=>?_);conv=>whnf
 refine Tst.T ?_;conv=>whnf
 refine askCo_c [0] (fun s hs=>p_tally_Tally_Get_p1_0 _ _ s hs) H (fun _=>rfl) rfl ⟨rfl,trivial⟩ rfl (closed_cons (belowL_app (cellsM_idlt (f:=SyncatomicInt64.v) (fun _=>rfl) _) rfl) closed_nil) (fun s=>(closed_cons (belowL_app (cellsM_idlt (f:=SyncatomicInt64.v) (fun _=>rfl) _) rfl) closed_nil)) (fun _=>rfl) (.kp rfl (.kp rfl (.nil))) (fun v17 H=>?_);conv=>whnf
 iterate 2 (refine Tst.T ?_;conv=>whnf)
 refine tstT_c H (fun b18 H=>?_);conv=>whnf
 refine Tst.T ?_;conv=>whnf
 refine askCo_c [0] (fun s hs=>p_tally_Tally_Get_p1_0 _ _ s hs) H (fun _=>rfl) rfl ⟨rfl,trivial⟩ rfl (closed_cons (belowL_app (cellsM_idlt (f:=SyncatomicInt64.v) (fun _=>rfl) _) rfl) closed_nil) (fun s=>(closed_cons (belowL_app (cellsM_idlt (f:=SyncatomicInt64.v) (fun _=>rfl) _) rfl) closed_nil)) (fun _=>rfl) (.kp rfl (.kp rfl (.nil))) (fun v19 H=>?_);conv=>whnf
 iterate 2 (refine Tst.T ?_;conv=>whnf)
 refine tstT_c H (fun b20 H=>?_);conv=>whnf
 refine Tst.T ?_;conv=>whnf
 refine tstT_c H (fun b21 H=>?_);conv=>whnf
 iterate 2 (refine Tst.T ?_;conv=>whnf)
 refine Tst.not ?_
 refine tstF_c H (fun b22 H=>?_);conv=>whnf
 refine Tst.T ?_;conv=>whnf
 refine askCo_c [0] (fun s hs=>p_tally_Tally_Get_p1_0 _ _ s hs) H (fun _=>rfl) rfl ⟨rfl,trivial⟩ rfl (closed_cons (belowL_app (cellsM_idlt (f:=SyncatomicInt64.v) (fun _=>rfl) _) rfl) closed_nil) (fun s=>(closed_cons (belowL_app (cellsM_idlt (f:=SyncatomicInt64.v) (fun _=>rfl) _) rfl) closed_nil)) (fun _=>rfl) (.kp rfl (.kp rfl (.nil))) (fun v23 H=>?_);conv=>whnf
 iterate 2 (refine Tst.T ?_;conv=>whnf)
 refine tstT_c H (fun b24 H=>?_);conv=>whnf
 refine Tst.T ?_;conv=>whnf
 refine LenQ.M ?_;conv=>whnf
 iterate 2 (refine Tst.T ?_;conv=>whnf)
 refine tstT_c H (fun b25 H=>?_);conv=>whnf
 refine Tst.T ?_;conv=>whnf
 refine ixs_c (f:=V.s) H (fun _=>rfl) (fun x26 H=>?_);conv=>whnf
 iterate 3 (refine Tst.T ?_;conv=>whnf)
 refine tstT_c H (fun b27 H=>?_);conv=>whnf
 refine Tst.T ?_;conv=>whnf
 refine askCo_c [0] (fun s hs=>p_tally_Tally_List_p1_0 _ s hs) H (fun _=>rfl) rfl ⟨rfl,trivial⟩ rfl (closed_cons (belowL_app (cellsM_idlt (f:=SyncatomicInt64.v) (fun _=>rfl) _) rfl) closed_nil) (fun s=>(closed_cons (belowL_app (cellsM_idlt (f:=SyncatomicInt64.v) (fun _=>rfl) _) rfl) closed_nil)) (fun _=>rfl) (.kp rfl (.nil)) (fun v28 H=>?_);conv=>whnf
 refine Tst.T ?_;conv=>whnf
 refine LenQ.M ?_;conv=>whnf
 iterate 2 (refine Tst.T ?_;conv=>whnf)
 refine tstT_c H (fun b29 H=>?_);conv=>whnf
 iterate 2 (refine Tst.T ?_;conv=>whnf)
 refine Ask_S callsS_join_same rfl ?_;conv=>whnf
 iterate 2 (refine Tst.T ?_;conv=>whnf)
 exact fb_ H
theorem p_law36_awake_true:p_law36_awake=some true:=by kernel_rfl
theorem p_law36_awake_v:CallsO Tryz.prog 8 [] V.b p_law36_awake:=tru_closed p_law36_awake_t p_law36_awake_true
def gc22:BCode:=(.seq (R_ 1 [O_ 1 (.bx (t_ 0)) 0,O_ 2 (.mv (b_ false)) 1]) (.seq (R_ 0 [O_ 3 (.fa 1 (t_ 1)) 0,O_ 4 (.ld 1 false (t_ 3)) 0,O_ 5 (.lent (t_ 4)) 0,O_ 6 (.bin .leq (t_ 5) (i_ 100)) 0,O_ 7 (.mv (t_ 6)) 0,⟨(some 8),.fa 2 (t_ 1),(some (7,true)),0⟩,⟨(some 9),.ld 1 false (t_ 8),(some (7,true)),0⟩,⟨(some 10),.lent (t_ 9),(some (7,true)),0⟩,⟨(some 11),.bin .leq (t_ 10) (i_ 100),(some (7,true)),0⟩,O_ 12 (.pick (t_ 7) (t_ 11) (b_ false)) 0,O_ 13 (.mv (t_ 12)) 0,⟨(some 14),.fa 3 (t_ 1),(some (13,true)),0⟩,⟨(some 15),.ld 1 false (t_ 14),(some (13,true)),0⟩,⟨(some 16),.lent (t_ 15),(some (13,true)),0⟩,⟨(some 17),.bin .leq (t_ 16) (i_ 100),(some (13,true)),0⟩,O_ 18 (.pick (t_ 13) (t_ 17) (b_ false)) 0,O_ 2 (.mv (t_ 18)) 0]) .ret))
theorem gc22_ok:compF Tryz.prog Tryz.f22=some (gc22.er,19,[.tmp 2]):=by unfold gc22;kernel_rfl
theorem p_ref10_Light_v (a0:StanzaStanza):CallsO Tryz.prog 22 [.agg [.y8 a0.Kind,.s a0.User,.s a0.Res,.s a0.Name,.i a0.Show,.i a0.Prio,.i a0.Code,.i a0.N]] V.b (p_ref10_Light a0):=by
 refine callsO_comp mix Tryz.func22 gc22_ok fun r H=>?_
 rw [p_ref10_Light] at H
 conv=>whnf
 refine tst_d H (fun b1 H=>?_) (fun b1 H=>?_)
 ·conv=>whnf
  iterate 9 (refine Tst.F ?_;conv=>whnf)
  exact fb_ H
 conv=>whnf
 iterate 4 (refine Tst.T ?_;conv=>whnf)
 refine tst_c H (fun b2 H=>?_) (fun b2 H=>?_)
 ·conv=>whnf
  iterate 4 (refine Tst.T ?_;conv=>whnf)
  exact fb_ H
 conv=>whnf
 iterate 4 (refine Tst.F ?_;conv=>whnf)
 exact fb_ H
end Go.Proofs.YtpkodpcfafipdaaGreat

