/- A part of the proof: 3 texts joined. -/
import Derived.Test.YtpkodpcfafipdaaGreatQtA18
import Derived.Test.YtpkodpcfafipdaaGreatQtC1
import Derived.Test.YtpkodpcfafipdaaGreatQtA12
import Derived.KernelRfl
set_option linter.all false
namespace Go.Proofs.YtpkodpcfafipdaaGreat
open Go.RowKit
set_option maxRecDepth 100000
set_option maxHeartbeats 4000000
def gc17:BCode:=(.seq (R_ 0 [O_ 0 (.mv (.const (.slice none 0 0))) 0]) (.seq (R_ 1 [O_ 1 (.bs 1 12 [(.lit (.string ⟨#[]⟩)),(.lit (.string ⟨#[]⟩)),(.lit (.string ⟨#[]⟩)),(.lit (.string ⟨#[]⟩)),(.lit (.string ⟨#[]⟩)),(.lit (.string ⟨#[]⟩)),(.lit (.string ⟨#[]⟩)),(.lit (.string ⟨#[]⟩)),(.lit (.string ⟨#[]⟩)),(.lit (.string ⟨#[]⟩)),(.lit (.string ⟨#[]⟩)),(.lit (.string ⟨#[]⟩))] [(0,(.const (.string ⟨#[115,116,101,112,115]⟩))),(1,(.const (.string ⟨#[119,114,111,110,103]⟩))),(2,(.const (.string ⟨#[115,97,105,100]⟩))),(3,(.const (.string ⟨#[98,121,116,101,115]⟩))),(4,(.const (.string ⟨#[103,114,97,110,116,101,100]⟩))),(5,(.const (.string ⟨#[114,101,102,117,115,101,100]⟩))),(6,(.const (.string ⟨#[115,101,101,110]⟩))),(7,(.const (.string ⟨#[103,111,110,101]⟩))),(8,(.const (.string ⟨#[115,110,97,112,115]⟩))),(9,(.const (.string ⟨#[114,111,115,116,101,114,115]⟩))),(10,(.const (.string ⟨#[110,111,116,101,115]⟩))),(11,(.const (.string ⟨#[115,104,117,116]⟩)))]) 0,O_ 0 (.mv (t_ 1)) 1]) .ret))
theorem gc17_ok:compF Tryz.prog Tryz.f17=some (gc17.er,2,[.tmp 0]):=by unfold gc17;kernel_rfl
theorem p_tally_Names_v:CallsO Tryz.prog 17 [] (fun l:List ByteArray=>V.sl (l.map V.s) false) (p_tally_Names):=by
 refine callsO_comp mix Tryz.func17 gc17_ok fun r H=>?_
 rw [p_tally_Names] at H
 conv=>whnf
 refine finR_c (enc:=(fun l:List ByteArray=>V.sl (l.map V.s) false)) H ?_;conv=>whnf
 exact ⟨_,.v (.c (fzown (f:=V.s) (l:=[(⟨#[115,116,101,112,115]⟩ : ByteArray),(⟨#[119,114,111,110,103]⟩ : ByteArray),(⟨#[115,97,105,100]⟩ : ByteArray),(⟨#[98,121,116,101,115]⟩ : ByteArray),(⟨#[103,114,97,110,116,101,100]⟩ : ByteArray),(⟨#[114,101,102,117,115,101,100]⟩ : ByteArray),(⟨#[115,101,101,110]⟩ : ByteArray),(⟨#[103,111,110,101]⟩ : ByteArray),(⟨#[115,110,97,112,115]⟩ : ByteArray),(⟨#[114,111,115,116,101,114,115]⟩ : ByteArray),(⟨#[110,111,116,101,115]⟩ : ByteArray),(⟨#[115,104,117,116]⟩ : ByteArray)]) rfl rfl (fun _=>rfl) (fun _=>rfl)))⟩
def gc55:BCode:=(.reg 0 [O_ 1 (.ld 1 false (t_ 0)) 0,O_ 2 (.cl 17 []) 0,O_ 3 (.nc (t_ 1)) 0,O_ 4 (.fa 15 (t_ 3)) 0,U_ (.st 1 (t_ 4) (t_ 2)) 0] (some [[],[],[1,0],[0,1,2],[2,1,0,3]]) 0 [])
theorem gc55_ok:compF Tryz.prog Tryz.f55=some (gc55.er,5,[]):=by unfold gc55;kernel_rfl
theorem p_tally_Tally_place_1_p1_0 {u1:Bool}  (a0:TallyTally) (r:TallyTally) (H:p_tally_Tally_place_1 a0=some r):CallsS Tryz.prog 55 [.ptr 1 0] [.live (cellsM SyncatomicInt64.v a0.counts++([.lit (.int .u32 a0.once.done.v_),.lit (.int .i32 a0.once.m.mu.state),.lit (.int .u32 a0.once.m.mu.sema),.sl (List.map V.s a0.names) u1])) 0,.live [.ptr 0 0] 0] ((fun _:TallyTally=>V.tup []) r) [.live ((fun r:TallyTally=>(cellsM SyncatomicInt64.v r.counts++([.lit (.int .u32 r.once.done.v_),.lit (.int .i32 r.once.m.mu.state),.lit (.int .u32 r.once.m.mu.sema),.sl (List.map V.s r.names) false]))) r) 0,.live [.ptr 0 0] 0]:=by
 refine callsR_c (n0:=2) mix Tryz.func55 gc55_ok rfl ?_
 rw [p_tally_Tally_place_1] at H
 conv=>whnf
 refine ask_c (p_tally_Names_v) H rfl rfl (fun v1 H=>?_);conv=>whnf
 obtain ⟨_,h2,H⟩:=lenG_c H
 refine ⟨Nat.zero_le _,stm1_c (c:=.sl (List.map V.s a0.names) u1) (p:=(cellsM SyncatomicInt64.v a0.counts++([.lit (.int .u32 a0.once.done.v_),.lit (.int .i32 a0.once.m.mu.state),.lit (.int .u32 a0.once.m.mu.sema)]))) (m:=([]:List V)) (cs':=(cellsM SyncatomicInt64.v a0.counts++([.lit (.int .u32 a0.once.done.v_),.lit (.int .i32 a0.once.m.mu.state),.lit (.int .u32 a0.once.m.mu.sema),.sl (List.map V.s v1) false]))) (by first | rfl | (simp only [List.append_assoc,List.cons_append,List.nil_append,List.append_nil];done) | simp) (by simp only [List.length_append,List.length_cons,List.length_nil,lm_len (f:=SyncatomicInt64.v) (es:=1) (fun _=>rfl) h2] <;> omega) (by first | rfl | (simp only [List.append_assoc,List.cons_append,List.nil_append,List.append_nil];done) | simp) ?_⟩;conv=>whnf
 refine FootQ.mk ⟨rfl,?_⟩;conv=>whnf
 refine finP_c (y:=r) (st0:=[.live (cellsM SyncatomicInt64.v a0.counts++([.lit (.int .u32 a0.once.done.v_),.lit (.int .i32 a0.once.m.mu.state),.lit (.int .u32 a0.once.m.mu.sema),.sl (List.map V.s a0.names) u1])) 0,.live [.ptr 0 0] 0]) (enc:=(fun _:TallyTally=>V.tup [])) (T:=(fun r:TallyTally=>(cellsM SyncatomicInt64.v r.counts++([.lit (.int .u32 r.once.done.v_),.lit (.int .i32 r.once.m.mu.state),.lit (.int .u32 r.once.m.mu.sema),.sl (List.map V.s r.names) false])))) (i:=0) [] (.inl rfl) H (Nat.le_of_ble_eq_true rfl) ?_;conv=>whnf
 exact ⟨⟨⟨rfl,rfl⟩,trivial⟩,⟨_,_,rfl,(fzl_app (.cons (.id rfl) (.cons (.id rfl) (.cons (.id rfl) (.cons (.id rfl) (.nil))))) (fzl_lit (cellsM_idlt (f:=SyncatomicInt64.v) (fun _=>rfl) _))),(one_app (one_M (f:=SyncatomicInt64.v) (fun _=>rfl) _) rfl)⟩,⟨rfl,rfl⟩⟩
def gc56:BCode:=(.seq (R_ 0 [O_ 4 (.mv (i_ 0)) 0]) (.seq (.seq (R_ 0 [O_ 6 (.mv (t_ 0)) 0,O_ 7 (.lens (t_ 6)) 0,O_ 8 (.mv (i_ 0)) 0]) (.block 0 (.loop (.seq (R_ 0 [O_ 9 (.bin .lss (t_ 8) (t_ 7)) 0]) (.seq (.cond (t_ 9) .skip (.exit 0)) (.seq (.block 1 (.seq (R_ 0 [O_ 10 (.mv (t_ 8)) 0,O_ 5 (.mv (t_ 10)) 0]) (.seq (R_ 0 [O_ 11 (.mv (t_ 1)) 0,O_ 12 (.mv (t_ 0)) 0,O_ 13 (.mv (t_ 5)) 0,O_ 14 (.ixs 1 (t_ 12) (t_ 13)) 0,O_ 15 (.ld 1 false (t_ 14)) 0,O_ 16 (.bin .eql (t_ 11) (t_ 15)) 0]) (.cond (t_ 16) (.seq (R_ 0 [O_ 17 (.mv (t_ 5)) 0,O_ 4 (.mv (t_ 17)) 0]) .ret) .skip)))) (R_ 0 [O_ 18 (.bin .add (t_ 8) (i_ 1)) 0,O_ 8 (.mv (t_ 18)) 0]))))))) (.seq (R_ 0 [O_ 4 (.mv (.const (.int .i64 (-1)))) 0]) .ret)))
theorem gc56_ok:compF Tryz.prog Tryz.f56=some (gc56.er,19,[.tmp 4]):=by unfold gc56;kernel_rfl
theorem p_slices_Index_string_v {u1:Bool} (a0:List ByteArray) (a1:ByteArray):CallsO Tryz.prog 56 [.sl (List.map V.s a0) u1,.s a1] V.i (p_slices_Index_string a0 a1):=by
 refine callsO_comp mix Tryz.func56 gc56_ok fun r H=>?_
 rw [p_slices_Index_string] at H
 conv=>whnf
 refine LenQ.M ?_;conv=>whnf
 obtain ⟨o2,HL3,HQ4⟩:=bind_c H
 refine loop_c [4,8] [5,9,10,11,12,13,14,15,16,17,18] [5,9,10,11,12,13,14,15,16,17,18] (fun n vals st=>(∃ y6,p_slices_Index_string_l1  a0 a1 (a0.length:Int) n y6=some o2∧vals=[.i (0:Int),.i y6]∧st=[])) fuel 0 [] (⟨_,HL3,rfl,rfl⟩) (Nat.zero_le _) rfl (by kernel_rfl) (by kernel_rfl) rfl trivial ?_
 rintro (_ | n5) _ _ (⟨y6,H,rfl,rfl⟩)
 ·rw [p_slices_Index_string_l1] at H;cases H
 rw [p_slices_Index_string_l1] at H
 conv=>whnf
 refine tst_d H (fun b7 H=>?_) (fun b7 H=>?_)
 ·conv=>whnf
  obtain rfl:=Option.some.inj H
  have H:=HQ4
  try dsimp only at H
  exact fi_ H
 conv=>whnf
 refine ixs_c (f:=V.s) H (fun _=>rfl) (fun x8 H=>?_);conv=>whnf
 refine tst_c H (fun b9 H=>?_) (fun b9 H=>?_)
 ·conv=>whnf
  obtain rfl:=Option.some.inj H
  have H:=HQ4
  try dsimp only at H
  exact fi_ H
 conv=>whnf
 refine Ari.w ?_;conv=>whnf
 exact again_c [5,9,10,11,12,13,14,15,16,17,18] n5 0 [] (⟨_,H,rfl,rfl⟩) (Nat.lt_succ_self _) (Nat.zero_le _) rfl (by kernel_rfl) (by kernel_rfl) rfl trivial
def gc33:BCode:=(.seq (R_ 1 [O_ 2 (.bx (t_ 0)) 0,O_ 4 (.mv (i_ 0)) 1]) (.seq (R_ 0 [O_ 5 (.ld 1 false (t_ 2)) 0,O_ 6 (.nc (t_ 5)) 0,O_ 7 (.fa 12 (t_ 6)) 0,O_ 8 (.mf (.func 55) [(t_ 2)]) 0,O_ 9 (.cl 54 [(t_ 7),(t_ 8)]) 0]) (.seq (R_ 0 [O_ 10 (.ld 1 false (t_ 2)) 0,O_ 11 (.nc (t_ 10)) 0,O_ 12 (.fa 15 (t_ 11)) 0,O_ 13 (.ld 1 false (t_ 12)) 0,O_ 14 (.mv (t_ 1)) 0,O_ 15 (.cl 56 [(t_ 13),(t_ 14)]) 0,O_ 4 (.mv (t_ 15)) 0]) .ret)))
theorem gc33_ok:compF Tryz.prog Tryz.f33=some (gc33.er,16,[.tmp 4]):=by unfold gc33;kernel_rfl
theorem p_tally_Tally_place_p1_0 {u1:Bool}  (a0:TallyTally) (a1:ByteArray) (r:TallyTally × Int) (H:p_tally_Tally_place a0 a1=some r):CallsS Tryz.prog 33 [.ptr 0 0,.s a1] [.live (cellsM SyncatomicInt64.v a0.counts++([.lit (.int .u32 a0.once.done.v_),.lit (.int .i32 a0.once.m.mu.state),.lit (.int .u32 a0.once.m.mu.sema),.sl (List.map V.s a0.names) u1])) 0] ((fun r:TallyTally × Int=>V.i r.2) r) [.live ((fun r:TallyTally × Int=>(cellsM SyncatomicInt64.v r.1.counts++([.lit (.int .u32 r.1.once.done.v_),.lit (.int .i32 r.1.once.m.mu.state),.lit (.int .u32 r.1.once.m.mu.sema),.sl (List.map V.s r.1.names) false]))) r) 0]:=by
 refine callsR_c (n0:=1) mix Tryz.func33 gc33_ok rfl ?_
 rw [p_tally_Tally_place] at H
 conv=>whnf
 obtain ⟨_,h1,H⟩:=lenG_c H
 refine askOnce_c (p:=(cellsM SyncatomicInt64.v a0.counts)) (c3':=fun v=>.sl (List.map V.s v) false) rfl (by simp only [List.length_append,List.length_cons,List.length_nil,lm_len (f:=SyncatomicInt64.v) (es:=1) (fun _=>rfl) h1] <;> omega) H (fun H=>?_) (fun v2 hn=>p_tally_Tally_place_1_p1_0  (TallyTally.mk a0.counts (SyncOnce.mk (SyncatomicNoCopy.mk ) (SyncatomicBool.mk (SyncatomicNoCopy.mk ) (0:Int)) (SyncMutex.mk (SyncatomicNoCopy.mk ) (InternalsyncMutex.mk (1:Int) a0.once.m.mu.sema))) a0.names) (TallyTally.mk a0.counts (SyncOnce.mk (SyncatomicNoCopy.mk ) (SyncatomicBool.mk (SyncatomicNoCopy.mk ) (0:Int)) (SyncMutex.mk (SyncatomicNoCopy.mk ) (InternalsyncMutex.mk (1:Int) a0.once.m.mu.sema))) v2) (by rw [p_tally_Tally_place_1,hn,Option.bind_some,show lenG? 12 a0.counts=some () from if_pos h1];rfl)) (fun v2 hn H=>?_)
 ·conv=>whnf
  refine ldm1_c (c:=.sl (List.map V.s a0.names) u1) (p:=(cellsM SyncatomicInt64.v a0.counts++([.lit (.int .u32 a0.once.done.v_),.lit (.int .i32 a0.once.m.mu.state),.lit (.int .u32 a0.once.m.mu.sema)]))) (m:=([]:List V)) (by first | rfl | (simp only [List.append_assoc,List.cons_append,List.nil_append,List.append_nil];done) | simp) (by simp only [List.length_append,List.length_cons,List.length_nil,lm_len (f:=SyncatomicInt64.v) (es:=1) (fun _=>rfl) h1] <;> omega) ?_;conv=>whnf
  refine ask_c (p_slices_Index_string_v _ _) H rfl rfl (fun v3 H=>?_);conv=>whnf
  refine finP_c (y:=r) (st0:=[.live (cellsM SyncatomicInt64.v a0.counts++([.lit (.int .u32 a0.once.done.v_),.lit (.int .i32 a0.once.m.mu.state),.lit (.int .u32 a0.once.m.mu.sema),.sl (List.map V.s a0.names) u1])) 0]) (enc:=(fun r:TallyTally × Int=>V.i r.2)) (T:=(fun r:TallyTally × Int=>(cellsM SyncatomicInt64.v r.1.counts++([.lit (.int .u32 r.1.once.done.v_),.lit (.int .i32 r.1.once.m.mu.state),.lit (.int .u32 r.1.once.m.mu.sema),.sl (List.map V.s r.1.names) false])))) (i:=0) [] (.inr rfl) H (Nat.le_of_ble_eq_true rfl) ?_;conv=>whnf
  exact ⟨trivial,⟨_,_,rfl,(fzl_app (.cons (.id rfl) (.cons (.id rfl) (.cons (.id rfl) (.cons (.slw) (.nil))))) (fzl_lit (cellsM_idlt (f:=SyncatomicInt64.v) (fun _=>rfl) _))),(one_app (one_M (f:=SyncatomicInt64.v) (fun _=>rfl) _) rfl)⟩,⟨rfl,rfl⟩⟩
 conv=>whnf
 refine ldm1_c (c:=.sl (List.map V.s v2) false) (p:=(cellsM SyncatomicInt64.v a0.counts++([.lit (.int .u32 (1:Int)),.lit (.int .i32 (0:Int)),.lit (.int .u32 a0.once.m.mu.sema)]))) (m:=([]:List V)) (by first | rfl | (simp only [List.append_assoc,List.cons_append,List.nil_append,List.append_nil];done) | simp) (by simp only [List.length_append,List.length_cons,List.length_nil,lm_len (f:=SyncatomicInt64.v) (es:=1) (fun _=>rfl) h1] <;> omega) ?_;conv=>whnf
 refine ask_c (p_slices_Index_string_v _ _) H rfl rfl (fun v4 H=>?_);conv=>whnf
 refine finP_c (y:=r) (st0:=[.live (cellsM SyncatomicInt64.v a0.counts++([.lit (.int .u32 a0.once.done.v_),.lit (.int .i32 a0.once.m.mu.state),.lit (.int .u32 a0.once.m.mu.sema),.sl (List.map V.s a0.names) u1])) 0]) (enc:=(fun r:TallyTally × Int=>V.i r.2)) (T:=(fun r:TallyTally × Int=>(cellsM SyncatomicInt64.v r.1.counts++([.lit (.int .u32 r.1.once.done.v_),.lit (.int .i32 r.1.once.m.mu.state),.lit (.int .u32 r.1.once.m.mu.sema),.sl (List.map V.s r.1.names) false])))) (i:=0) [] (.inr rfl) H (Nat.le_of_ble_eq_true rfl) ?_;conv=>whnf
 exact ⟨trivial,⟨_,_,rfl,(fzl_app (.cons (.id rfl) (.cons (.id rfl) (.cons (.id rfl) (.cons (.id rfl) (.nil))))) (fzl_lit (cellsM_idlt (f:=SyncatomicInt64.v) (fun _=>rfl) _))),(one_app (one_M (f:=SyncatomicInt64.v) (fun _=>rfl) _) rfl)⟩,⟨rfl,rfl⟩⟩
def gc13:BCode:=(.seq (R_ 0 [O_ 6 (.mv (b_ false)) 0]) (.seq (.seq (R_ 0 [O_ 8 (.mv (t_ 0)) 0,O_ 9 (.eqp false (t_ 8) (.const (.pointer none))) 0,O_ 10 (.mv (t_ 9)) 0,⟨(some 11),.mv (t_ 2),(some (10,false)),0⟩,⟨(some 12),.bin .lss (t_ 11) (i_ 0),(some (10,false)),0⟩,O_ 13 (.pick (t_ 10) (b_ true) (t_ 12)) 0]) (.cond (t_ 13) (.seq (R_ 0 [O_ 6 (.mv (b_ false)) 0]) .ret) .skip)) (.seq (R_ 0 [O_ 14 (.mv (t_ 0)) 0,O_ 15 (.mv (t_ 1)) 0,O_ 16 (.cl 33 [(t_ 14),(t_ 15)]) 0,O_ 7 (.mv (t_ 16)) 0]) (.seq (.seq (R_ 0 [O_ 17 (.mv (t_ 7)) 0,O_ 18 (.bin .eql (t_ 17) (.const (.int .i64 (-1)))) 0]) (.cond (t_ 18) (.seq (R_ 0 [O_ 6 (.mv (b_ false)) 0]) .ret) .skip)) (.seq (R_ 0 [O_ 19 (.mv (t_ 0)) 0,O_ 20 (.mv (t_ 7)) 0,O_ 21 (.mv (t_ 2)) 0,O_ 22 (.cl 25 [(t_ 19),(t_ 20),(t_ 21)]) 0]) (.seq (R_ 0 [O_ 6 (.mv (b_ true)) 0]) .ret))))))
theorem gc13_ok:compF Tryz.prog Tryz.f13=some (gc13.er,23,[.tmp 6]):=by unfold gc13;kernel_rfl
theorem p_tally_Tally_Add_p1_0 {u1:Bool}  (a0:TallyTally) (a1:ByteArray) (a2:Int) (r:TallyTally × Bool) (H:p_tally_Tally_Add a0 a1 a2=some r):CallsS Tryz.prog 13 [.ptr 0 0,.s a1,.i a2] [.live (cellsM SyncatomicInt64.v a0.counts++([.lit (.int .u32 a0.once.done.v_),.lit (.int .i32 a0.once.m.mu.state),.lit (.int .u32 a0.once.m.mu.sema),.sl (List.map V.s a0.names) u1])) 0] ((fun r:TallyTally × Bool=>V.b r.2) r) [.live ((fun r:TallyTally × Bool=>(cellsM SyncatomicInt64.v r.1.counts++([.lit (.int .u32 r.1.once.done.v_),.lit (.int .i32 r.1.once.m.mu.state),.lit (.int .u32 r.1.once.m.mu.sema),.sl (List.map V.s r.1.names) false]))) r) 0]:=by
 refine callsR_c (n0:=1) mix Tryz.func13 gc13_ok rfl ?_
 rw [p_tally_Tally_Add] at H
 conv=>whnf
 iterate 3 (refine Tst.F ?_;conv=>whnf)
 refine tst_c H (fun b1 H=>?_) (fun b1 H=>?_)
 ·conv=>whnf
  refine finP_c (y:=r) (st0:=[.live (cellsM SyncatomicInt64.v a0.counts++([.lit (.int .u32 a0.once.done.v_),.lit (.int .i32 a0.once.m.mu.state),.lit (.int .u32 a0.once.m.mu.sema),.sl (List.map V.s a0.names) u1])) 0]) (enc:=(fun r:TallyTally × Bool=>V.b r.2)) (T:=(fun r:TallyTally × Bool=>(cellsM SyncatomicInt64.v r.1.counts++([.lit (.int .u32 r.1.once.done.v_),.lit (.int .i32 r.1.once.m.mu.state),.lit (.int .u32 r.1.once.m.mu.sema),.sl (List.map V.s r.1.names) false])))) (i:=0) [] (.inr rfl) H (Nat.le_of_ble_eq_true rfl) ?_;conv=>whnf
  exact ⟨trivial,⟨_,_,rfl,(fzl_app (.cons (.id rfl) (.cons (.id rfl) (.cons (.id rfl) (.cons (.slw) (.nil))))) (fzl_lit (cellsM_idlt (f:=SyncatomicInt64.v) (fun _=>rfl) _))),(one_app (one_M (f:=SyncatomicInt64.v) (fun _=>rfl) _) rfl)⟩,⟨rfl,rfl⟩⟩
 conv=>whnf
 refine askCo_c [0] (fun s hs=>p_tally_Tally_place_p1_0 _ _ s hs) H (fun _=>rfl) rfl ⟨rfl,trivial⟩ rfl (closed_cons (belowL_app (cellsM_idlt (f:=SyncatomicInt64.v) (fun _=>rfl) _) rfl) closed_nil) (fun s=>(closed_cons (belowL_app (cellsM_idlt (f:=SyncatomicInt64.v) (fun _=>rfl) _) rfl) closed_nil)) (fun _=>rfl) (.kp rfl (.kp rfl (.nil))) (fun v2 H=>?_);conv=>whnf
 refine tst_c H (fun b3 H=>?_) (fun b3 H=>?_)
 ·conv=>whnf
  refine finP_c (y:=r) (st0:=[.live (cellsM SyncatomicInt64.v a0.counts++([.lit (.int .u32 a0.once.done.v_),.lit (.int .i32 a0.once.m.mu.state),.lit (.int .u32 a0.once.m.mu.sema),.sl (List.map V.s a0.names) u1])) 0]) (enc:=(fun r:TallyTally × Bool=>V.b r.2)) (T:=(fun r:TallyTally × Bool=>(cellsM SyncatomicInt64.v r.1.counts++([.lit (.int .u32 r.1.once.done.v_),.lit (.int .i32 r.1.once.m.mu.state),.lit (.int .u32 r.1.once.m.mu.sema),.sl (List.map V.s r.1.names) false])))) (i:=0) [] (.inr rfl) H (Nat.le_of_ble_eq_true rfl) ?_;conv=>whnf
  exact ⟨trivial,⟨_,_,rfl,(fzl_app (.cons (.id rfl) (.cons (.id rfl) (.cons (.id rfl) (.cons (.id rfl) (.nil))))) (fzl_lit (cellsM_idlt (f:=SyncatomicInt64.v) (fun _=>rfl) _))),(one_app (one_M (f:=SyncatomicInt64.v) (fun _=>rfl) _) rfl)⟩,⟨rfl,rfl⟩⟩
 conv=>whnf
 refine askCo_c [0] (fun s hs=>p_tally_Tally_more_p1_0 _ _ _ s hs) H (fun _=>rfl) rfl ⟨rfl,trivial⟩ rfl (closed_cons (belowL_app (cellsM_idlt (f:=SyncatomicInt64.v) (fun _=>rfl) _) rfl) closed_nil) (fun s=>(closed_cons (belowL_app (cellsM_idlt (f:=SyncatomicInt64.v) (fun _=>rfl) _) rfl) closed_nil)) (fun _=>rfl) (.kp rfl (.kp rfl (.kp rfl (.nil)))) (fun v4 H=>?_);conv=>whnf
 refine finP_c (y:=r) (st0:=[.live (cellsM SyncatomicInt64.v a0.counts++([.lit (.int .u32 a0.once.done.v_),.lit (.int .i32 a0.once.m.mu.state),.lit (.int .u32 a0.once.m.mu.sema),.sl (List.map V.s a0.names) u1])) 0]) (enc:=(fun r:TallyTally × Bool=>V.b r.2)) (T:=(fun r:TallyTally × Bool=>(cellsM SyncatomicInt64.v r.1.counts++([.lit (.int .u32 r.1.once.done.v_),.lit (.int .i32 r.1.once.m.mu.state),.lit (.int .u32 r.1.once.m.mu.sema),.sl (List.map V.s r.1.names) false])))) (i:=0) [] (.inr rfl) H (Nat.le_of_ble_eq_true rfl) ?_;conv=>whnf
 exact ⟨trivial,⟨_,_,rfl,(fzl_app (.cons (.id rfl) (.cons (.id rfl) (.cons (.id rfl) (.cons (.id rfl) (.nil))))) (fzl_lit (cellsM_idlt (f:=SyncatomicInt64.v) (fun _=>rfl) _))),(one_app (one_M (f:=SyncatomicInt64.v) (fun _=>rfl) _) rfl)⟩,⟨rfl,rfl⟩⟩
def gc19:BCode:=(.seq (R_ 0 [O_ 4 (.mv (i_ 0)) 0]) (.seq (.seq (R_ 0 [O_ 6 (.mv (t_ 0)) 0,O_ 7 (.eqp false (t_ 6) (.const (.pointer none))) 0]) (.cond (t_ 7) (.seq (R_ 0 [O_ 4 (.mv (i_ 0)) 0]) .ret) .skip)) (.seq (R_ 0 [O_ 8 (.mv (t_ 0)) 0,O_ 9 (.mv (t_ 1)) 0,O_ 10 (.cl 33 [(t_ 8),(t_ 9)]) 0,O_ 5 (.mv (t_ 10)) 0]) (.seq (.seq (R_ 0 [O_ 11 (.mv (t_ 5)) 0,O_ 12 (.bin .eql (t_ 11) (.const (.int .i64 (-1)))) 0]) (.cond (t_ 12) (.seq (R_ 0 [O_ 4 (.mv (i_ 0)) 0]) .ret) .skip)) (.seq (R_ 0 [O_ 13 (.mv (t_ 0)) 0,O_ 14 (.mv (t_ 5)) 0,O_ 15 (.nc (t_ 13)) 0,O_ 16 (.fa 0 (t_ 15)) 0,O_ 17 (.ixa 12 1 (t_ 16) (t_ 14)) 0,O_ 18 (.cl 34 [(t_ 17)]) 0,O_ 4 (.mv (t_ 18)) 0]) .ret)))))
theorem gc19_ok:compF Tryz.prog Tryz.f19=some (gc19.er,19,[.tmp 4]):=by unfold gc19;kernel_rfl
theorem p_tally_Tally_Get_p1_0 {u1:Bool}  (a0:TallyTally) (a1:ByteArray) (r:TallyTally × Int) (H:p_tally_Tally_Get a0 a1=some r):CallsS Tryz.prog 19 [.ptr 0 0,.s a1] [.live (cellsM SyncatomicInt64.v a0.counts++([.lit (.int .u32 a0.once.done.v_),.lit (.int .i32 a0.once.m.mu.state),.lit (.int .u32 a0.once.m.mu.sema),.sl (List.map V.s a0.names) u1])) 0] ((fun r:TallyTally × Int=>V.i r.2) r) [.live ((fun r:TallyTally × Int=>(cellsM SyncatomicInt64.v r.1.counts++([.lit (.int .u32 r.1.once.done.v_),.lit (.int .i32 r.1.once.m.mu.state),.lit (.int .u32 r.1.once.m.mu.sema),.sl (List.map V.s r.1.names) false]))) r) 0]:=by
 refine callsR_c (n0:=1) mix Tryz.func19 gc19_ok rfl ?_
 rw [p_tally_Tally_Get] at H
 conv=>whnf
 refine Tst.F ?_;conv=>whnf
 refine askCo_c [0] (fun s hs=>p_tally_Tally_place_p1_0 _ _ s hs) H (fun _=>rfl) rfl ⟨rfl,trivial⟩ rfl (closed_cons (belowL_app (cellsM_idlt (f:=SyncatomicInt64.v) (fun _=>rfl) _) rfl) closed_nil) (fun s=>(closed_cons (belowL_app (cellsM_idlt (f:=SyncatomicInt64.v) (fun _=>rfl) _) rfl) closed_nil)) (fun _=>rfl) (.kp rfl (.kp rfl (.nil))) (fun v1 H=>?_);conv=>whnf
 refine tst_c H (fun b2 H=>?_) (fun b2 H=>?_)
 ·conv=>whnf
  refine finP_c (y:=r) (st0:=[.live (cellsM SyncatomicInt64.v a0.counts++([.lit (.int .u32 a0.once.done.v_),.lit (.int .i32 a0.once.m.mu.state),.lit (.int .u32 a0.once.m.mu.sema),.sl (List.map V.s a0.names) u1])) 0]) (enc:=(fun r:TallyTally × Int=>V.i r.2)) (T:=(fun r:TallyTally × Int=>(cellsM SyncatomicInt64.v r.1.counts++([.lit (.int .u32 r.1.once.done.v_),.lit (.int .i32 r.1.once.m.mu.state),.lit (.int .u32 r.1.once.m.mu.sema),.sl (List.map V.s r.1.names) false])))) (i:=0) [] (.inr rfl) H (Nat.le_of_ble_eq_true rfl) ?_;conv=>whnf
  exact ⟨trivial,⟨_,_,rfl,(fzl_app (.cons (.id rfl) (.cons (.id rfl) (.cons (.id rfl) (.cons (.id rfl) (.nil))))) (fzl_lit (cellsM_idlt (f:=SyncatomicInt64.v) (fun _=>rfl) _))),(one_app (one_M (f:=SyncatomicInt64.v) (fun _=>rfl) _) rfl)⟩,⟨rfl,rfl⟩⟩
 conv=>whnf
 refine ixa_c H (fun x3 h4 H=>?_);conv=>whnf
 refine Ask_S (callsS_loadM (p:=([]:List V)) (f:=SyncatomicInt64.v) (seg:=v1.1.counts) (m:=[.lit (.int .u32 v1.1.once.done.v_),.lit (.int .i32 v1.1.once.m.mu.state),.lit (.int .u32 v1.1.once.m.mu.sema),.sl (List.map V.s v1.1.names) false]) (es:=1) rfl (by first | rfl | (simp only [List.append_assoc,List.cons_append,List.nil_append,List.append_nil];done) | simp) h4 (fun _=>rfl) (by simp) rfl) rfl ?_;conv=>whnf
 refine finP_c (y:=r) (st0:=[.live (cellsM SyncatomicInt64.v a0.counts++([.lit (.int .u32 a0.once.done.v_),.lit (.int .i32 a0.once.m.mu.state),.lit (.int .u32 a0.once.m.mu.sema),.sl (List.map V.s a0.names) u1])) 0]) (enc:=(fun r:TallyTally × Int=>V.i r.2)) (T:=(fun r:TallyTally × Int=>(cellsM SyncatomicInt64.v r.1.counts++([.lit (.int .u32 r.1.once.done.v_),.lit (.int .i32 r.1.once.m.mu.state),.lit (.int .u32 r.1.once.m.mu.sema),.sl (List.map V.s r.1.names) false])))) (i:=0) [] (.inr rfl) H (Nat.le_of_ble_eq_true rfl) ?_;conv=>whnf
 exact ⟨trivial,⟨_,_,rfl,(fzl_app (.cons (.id rfl) (.cons (.id rfl) (.cons (.id rfl) (.cons (.id rfl) (.nil))))) (fzl_lit (cellsM_idlt (f:=SyncatomicInt64.v) (fun _=>rfl) _))),(one_app (one_M (f:=SyncatomicInt64.v) (fun _=>rfl) _) rfl)⟩,⟨rfl,rfl⟩⟩
end Go.Proofs.YtpkodpcfafipdaaGreat

namespace Go.Proofs.YtpkodpcfafipdaaGreat
open Go.RowKit
set_option maxRecDepth 1000000
set_option maxHeartbeats 4000000
def gc16:BCode:=(.seq (R_ 0 [O_ 2 (.mv (.const (.slice none 0 0))) 0]) (.seq (.seq (R_ 0 [O_ 6 (.mv (t_ 0)) 0,O_ 7 (.eqp false (t_ 6) (.const (.pointer none))) 0]) (.cond (t_ 7) (.seq (R_ 0 [O_ 2 (.mv (.const (.slice none 0 0))) 0]) .ret) .skip)) (.seq (R_ 0 [O_ 3 (.mv (.const (.slice none 0 0))) 0]) (.seq (.seq (R_ 0 [O_ 8 (.cl 17 []) 0,O_ 9 (.lens (t_ 8)) 0,O_ 10 (.mv (i_ 0)) 0]) (.block 0 (.loop (.seq (R_ 0 [O_ 11 (.bin .lss (t_ 10) (t_ 9)) 0]) (.seq (.cond (t_ 11) .skip (.exit 0)) (.seq (.block 1 (.seq (R_ 0 [O_ 12 (.mv (t_ 10)) 0,O_ 13 (.ixs 1 (t_ 8) (t_ 10)) 0,O_ 14 (.ld 1 false (t_ 13)) 0,O_ 4 (.mv (t_ 12)) 0,O_ 5 (.mv (t_ 14)) 0]) (R_ 2 [O_ 15 (.mv (t_ 3)) 0,O_ 16 (.mv (t_ 5)) 0,O_ 17 (.mv (t_ 0)) 0,O_ 18 (.mv (t_ 4)) 0,O_ 19 (.nc (t_ 17)) 0,O_ 20 (.fa 0 (t_ 19)) 0,O_ 21 (.ixa 12 1 (t_ 20) (t_ 18)) 0,O_ 22 (.cl 34 [(t_ 21)]) 0,O_ 23 (.bd [(.lit (.string ⟨#[]⟩)),(.lit (.int .i64 0))] [(0,1,(t_ 16)),(1,1,(t_ 22))]) 0,O_ 24 (.bs 2 1 [(.lit (.string ⟨#[]⟩)),(.lit (.int .i64 0))] [(0,(t_ 23))]) 0,O_ 25 (.ap 2 24 (t_ 15) (t_ 24)) 1,O_ 3 (.mv (t_ 25)) 2]))) (R_ 0 [O_ 26 (.bin .add (t_ 10) (i_ 1)) 0,O_ 10 (.mv (t_ 26)) 0]))))))) (.seq (R_ 0 [O_ 27 (.mv (t_ 3)) 0,O_ 2 (.mv (t_ 27)) 0]) .ret)))))
theorem gc16_ok:compF Tryz.prog Tryz.f16=some (gc16.er,28,[.tmp 2]):=by unfold gc16;kernel_rfl
theorem p_tally_Tally_List_p1_0 {u1:Bool}  (a0:TallyTally) (r:TallyTally × (List TallyCount)) (H:p_tally_Tally_List a0=some r):CallsS Tryz.prog 16 [.ptr 0 0] [.live (cellsM SyncatomicInt64.v a0.counts++([.lit (.int .u32 a0.once.done.v_),.lit (.int .i32 a0.once.m.mu.state),.lit (.int .u32 a0.once.m.mu.sema),.sl (List.map V.s a0.names) u1])) 0] ((fun r:TallyTally × (List TallyCount)=>(fun l:List TallyCount=>V.sl (l.map TallyCount.v) false) r.2) r) [.live ((fun r:TallyTally × (List TallyCount)=>(cellsM SyncatomicInt64.v r.1.counts++([.lit (.int .u32 r.1.once.done.v_),.lit (.int .i32 r.1.once.m.mu.state),.lit (.int .u32 r.1.once.m.mu.sema),.sl (List.map V.s r.1.names) false]))) r) 0]:=by
 refine callsR_c (n0:=1) mix Tryz.func16 gc16_ok rfl ?_
 rw [p_tally_Tally_List] at H
 conv=>whnf
 refine Tst.F ?_;conv=>whnf
 refine ask_c (p_tally_Names_v) H rfl rfl (fun v1 H=>?_);conv=>whnf
 refine LenQ.M ?_;conv=>whnf
 obtain ⟨o3,HL4,HQ5⟩:=bind_c H
 refine loop_c [3,10] [4,5,11,12,13,14,15,16,17,18,19,20,21,22,23,24,25,26,6] [4,5,11,12,13,14,15,16,17,18,19,20,21,22,23,24,25,26,6] (fun n vals st=>(∃ y7,p_tally_Tally_List_l1  v1 (v1.length:Int) a0 n [] y7=some o3∧vals=[.sl (List.map TallyCount.v []) true,.i y7]∧st=[.live (cellsM SyncatomicInt64.v a0.counts++([.lit (.int .u32 a0.once.done.v_),.lit (.int .i32 a0.once.m.mu.state),.lit (.int .u32 a0.once.m.mu.sema),.sl (List.map V.s a0.names) u1])) 0])∨(∃ y13 y14,p_tally_Tally_List_l1  v1 (v1.length:Int) a0 n y13 y14=some o3∧vals=[.osl 1 0 (List.length y13) 2 false,.i y14]∧st=[.live (cellsM SyncatomicInt64.v a0.counts++([.lit (.int .u32 a0.once.done.v_),.lit (.int .i32 a0.once.m.mu.state),.lit (.int .u32 a0.once.m.mu.sema),.sl (List.map V.s a0.names) u1])) 0,.live (cellsM TallyCount.v y13) (cellsM TallyCount.v y13).length])) fuel 1 [] (.inl (⟨_,HL4,rfl,rfl⟩)) (Nat.le_of_ble_eq_true rfl) rfl (by kernel_rfl) (by kernel_rfl) rfl (wkB_live0 rfl (belowL_app (cellsM_idlt (f:=SyncatomicInt64.v) (fun _=>rfl) _) rfl) rfl wkB_nil) ?_
 rintro (_ | n6) _ _ (⟨y7,H,rfl,rfl⟩ | ⟨y13,y14,H,rfl,rfl⟩)
 ·rw [p_tally_Tally_List_l1] at H;cases H
 ·rw [p_tally_Tally_List_l1] at H;cases H
 ·rw [p_tally_Tally_List_l1] at H
  conv=>whnf
  refine tst_d H (fun b8 H=>?_) (fun b8 H=>?_)
  ·conv=>whnf
   obtain rfl:=Option.some.inj H
   have H:=HQ5
   try dsimp only at H
   refine finPs_c (y:=r) (st0:=[.live (cellsM SyncatomicInt64.v a0.counts++([.lit (.int .u32 a0.once.done.v_),.lit (.int .i32 a0.once.m.mu.state),.lit (.int .u32 a0.once.m.mu.sema),.sl (List.map V.s a0.names) u1])) 0]) (enc:=(fun r:TallyTally × (List TallyCount)=>(fun l:List TallyCount=>V.sl (l.map TallyCount.v) false) r.2)) (T:=(fun r:TallyTally × (List TallyCount)=>(cellsM SyncatomicInt64.v r.1.counts++([.lit (.int .u32 r.1.once.done.v_),.lit (.int .i32 r.1.once.m.mu.state),.lit (.int .u32 r.1.once.m.mu.sema),.sl (List.map V.s r.1.names) false])))) (i:=0) [] (.inr rfl) H (Nat.le_of_ble_eq_true rfl) ?_;conv=>whnf
   exact ⟨trivial,⟨_,_,rfl,(fzl_app (.cons (.id rfl) (.cons (.id rfl) (.cons (.id rfl) (.cons (.slw) (.nil))))) (fzl_lit (cellsM_idlt (f:=SyncatomicInt64.v) (fun _=>rfl) _))),(one_app (one_M (f:=SyncatomicInt64.v) (fun _=>rfl) _) rfl)⟩,⟨_,.slw⟩⟩
  conv=>whnf
  refine ixs_c (f:=V.s) H (fun _=>rfl) (fun x9 H=>?_);conv=>whnf
  refine ixa_c H (fun x10 h11 H=>?_);conv=>whnf
  refine Ask_S (callsS_loadM (p:=([]:List V)) (f:=SyncatomicInt64.v) (seg:=a0.counts) (m:=[.lit (.int .u32 a0.once.done.v_),.lit (.int .i32 a0.once.m.mu.state),.lit (.int .u32 a0.once.m.mu.sema),.sl (List.map V.s a0.names) u1]) (es:=1) rfl (by first | rfl | (simp only [List.append_assoc,List.cons_append,List.nil_append,List.append_nil];done) | simp) h11 (fun _=>rfl) (by simp) rfl) rfl ?_;conv=>whnf
  refine appN_c (f:=TallyCount.v) H (fun _=>rfl) (srcM (f:=TallyCount.v) (fun _=>rfl) [] true) rfl (.v (srcOwn (f:=TallyCount.v) (l:=[(TallyCount.mk x9 x10.v_)]) (fun _=>rfl) rfl rfl rfl)) (by decide) rfl (by simp) (fun l12 H=>?_);conv=>whnf
  refine Ari.w ?_;conv=>whnf
  exact again_c [4,5,11,12,13,14,15,16,17,18,19,20,21,22,23,24,25,26,6] n6 2 [0,2] (.inr (⟨_,_,H,rfl,rfl⟩)) (Nat.lt_succ_self _) (Nat.le_of_ble_eq_true rfl) rfl (by kernel_rfl) (by kernel_rfl) rfl (wkB_live0 rfl (belowL_app (cellsM_idlt (f:=SyncatomicInt64.v) (fun _=>rfl) _) rfl) rfl (wkB_live0 rfl (cellsM_idlt (f:=TallyCount.v) (fun _=>rfl) _) rfl wkB_nil))
 rw [p_tally_Tally_List_l1] at H
 conv=>whnf
 refine tst_d H (fun b15 H=>?_) (fun b15 H=>?_)
 ·conv=>whnf
  obtain rfl:=Option.some.inj H
  have H:=HQ5
  try dsimp only at H
  refine finPs_c (y:=r) (st0:=[.live (cellsM SyncatomicInt64.v a0.counts++([.lit (.int .u32 a0.once.done.v_),.lit (.int .i32 a0.once.m.mu.state),.lit (.int .u32 a0.once.m.mu.sema),.sl (List.map V.s a0.names) u1])) 0]) (enc:=(fun r:TallyTally × (List TallyCount)=>(fun l:List TallyCount=>V.sl (l.map TallyCount.v) false) r.2)) (T:=(fun r:TallyTally × (List TallyCount)=>(cellsM SyncatomicInt64.v r.1.counts++([.lit (.int .u32 r.1.once.done.v_),.lit (.int .i32 r.1.once.m.mu.state),.lit (.int .u32 r.1.once.m.mu.sema),.sl (List.map V.s r.1.names) false])))) (i:=0) [] (.inr rfl) H (Nat.le_of_ble_eq_true rfl) ?_;conv=>whnf
  exact ⟨trivial,⟨_,_,rfl,(fzl_app (.cons (.id rfl) (.cons (.id rfl) (.cons (.id rfl) (.cons (.slw) (.nil))))) (fzl_lit (cellsM_idlt (f:=SyncatomicInt64.v) (fun _=>rfl) _))),(one_app (one_M (f:=SyncatomicInt64.v) (fun _=>rfl) _) rfl)⟩,⟨_,fzown (f:=TallyCount.v) (l:=y13) rfl rfl (fun _=>rfl) (fun _=>rfl)⟩⟩
 conv=>whnf
 refine ixs_c (f:=V.s) H (fun _=>rfl) (fun x16 H=>?_);conv=>whnf
 refine ixa_c H (fun x17 h18 H=>?_);conv=>whnf
 refine Ask_S (callsS_loadM (p:=([]:List V)) (f:=SyncatomicInt64.v) (seg:=a0.counts) (m:=[.lit (.int .u32 a0.once.done.v_),.lit (.int .i32 a0.once.m.mu.state),.lit (.int .u32 a0.once.m.mu.sema),.sl (List.map V.s a0.names) u1]) (es:=1) rfl (by first | rfl | (simp only [List.append_assoc,List.cons_append,List.nil_append,List.append_nil];done) | simp) h18 (fun _=>rfl) (by simp) rfl) rfl ?_;conv=>whnf
 refine appO_c (f:=TallyCount.v) H (fun _=>rfl) rfl (Nat.le_refl _) (.v (srcOwn (f:=TallyCount.v) (l:=[(TallyCount.mk x16 x17.v_)]) (fun _=>rfl) rfl rfl rfl)) (by decide) rfl (by simp) (fun l19 H=>?_);conv=>whnf
 refine Ari.w ?_;conv=>whnf
 exact again_c [4,5,11,12,13,14,15,16,17,18,19,20,21,22,23,24,25,26,6] n6 2 [0,3] (.inr (⟨_,_,H,rfl,rfl⟩)) (Nat.lt_succ_self _) (Nat.le_of_ble_eq_true rfl) rfl (by kernel_rfl) (by kernel_rfl) rfl (wkB_live0 rfl (belowL_app (cellsM_idlt (f:=SyncatomicInt64.v) (fun _=>rfl) _) rfl) rfl (wkB_live0 rfl (cellsM_idlt (f:=TallyCount.v) (fun _=>rfl) _) rfl wkB_nil))
def gc8:BCode:=(.seq (R_ 0 [O_ 0 (.mv (b_ false)) 0]) (.seq (.reg 0 [O_ 5 (.cl 9 []) 0,O_ 1 (.mv (t_ 5)) 0] none 2 []) (.seq (.seq (R_ 0 [O_ 6 (.mv (t_ 1)) 0,O_ 7 (.eqp false (t_ 6) (.const (.pointer none))) 0]) (.cond (t_ 7) (.seq (R_ 0 [O_ 0 (.mv (b_ false)) 0]) .ret) .skip)) (.seq (R_ 1 [O_ 8 (.mv (t_ 1)) 0,O_ 9 (.bs 1 1 [(.lit (.int .i64 0))] [(0,(i_ 4))]) 0,O_ 10 (.bd [(.lit (.int .i64 0)),(.sl [] true),(.sl [] true)] [(0,1,(i_ 6)),(2,1,(t_ 9))]) 1,O_ 11 (.cl 10 [(t_ 8),(t_ 10)]) 1]) (.seq (R_ 1 [O_ 12 (.mv (t_ 1)) 0,O_ 13 (.bd [(.lit (.int .u8 0)),(.lit (.string ⟨#[]⟩)),(.lit (.string ⟨#[]⟩)),(.lit (.string ⟨#[]⟩)),(.lit (.int .i64 0)),(.lit (.int .i64 0)),(.lit (.int .i64 0)),(.lit (.int .i64 0))] [(0,1,(.const (.int .u8 32)))]) 0,O_ 14 (.bd [(.lit (.int .i64 0)),(.lit (.int .u8 0)),(.lit (.string ⟨#[]⟩)),(.lit (.string ⟨#[]⟩)),(.lit (.string ⟨#[]⟩)),(.lit (.int .i64 0)),(.lit (.int .i64 0)),(.lit (.int .i64 0)),(.lit (.int .i64 0))] [(1,8,(t_ 13))]) 0,O_ 15 (.bd [(.lit (.int .u8 0)),(.lit (.string ⟨#[]⟩)),(.lit (.string ⟨#[]⟩)),(.lit (.string ⟨#[]⟩)),(.lit (.int .i64 0)),(.lit (.int .i64 0)),(.lit (.int .i64 0)),(.lit (.int .i64 0))] [(0,1,(.const (.int .u8 37)))]) 0,O_ 16 (.bd [(.lit (.int .i64 0)),(.lit (.int .u8 0)),(.lit (.string ⟨#[]⟩)),(.lit (.string ⟨#[]⟩)),(.lit (.string ⟨#[]⟩)),(.lit (.int .i64 0)),(.lit (.int .i64 0)),(.lit (.int .i64 0)),(.lit (.int .i64 0))] [(1,8,(t_ 15))]) 0,O_ 17 (.bd [(.lit (.int .u8 0)),(.lit (.string ⟨#[]⟩)),(.lit (.string ⟨#[]⟩)),(.lit (.string ⟨#[]⟩)),(.lit (.int .i64 0)),(.lit (.int .i64 0)),(.lit (.int .i64 0)),(.lit (.int .i64 0))] [(0,1,(.const (.int .u8 39))),(1,1,(.const (.string ⟨#[97,64,98]⟩)))]) 0,O_ 18 (.bd [(.lit (.int .i64 0)),(.lit (.int .u8 0)),(.lit (.string ⟨#[]⟩)),(.lit (.string ⟨#[]⟩)),(.lit (.string ⟨#[]⟩)),(.lit (.int .i64 0)),(.lit (.int .i64 0)),(.lit (.int .i64 0)),(.lit (.int .i64 0))] [(1,8,(t_ 17))]) 0,O_ 19 (.bs 9 3 [(.lit (.int .i64 0)),(.lit (.int .u8 0)),(.lit (.string ⟨#[]⟩)),(.lit (.string ⟨#[]⟩)),(.lit (.string ⟨#[]⟩)),(.lit (.int .i64 0)),(.lit (.int .i64 0)),(.lit (.int .i64 0)),(.lit (.int .i64 0)),(.lit (.int .i64 0)),(.lit (.int .u8 0)),(.lit (.string ⟨#[]⟩)),(.lit (.string ⟨#[]⟩)),(.lit (.string ⟨#[]⟩)),(.lit (.int .i64 0)),(.lit (.int .i64 0)),(.lit (.int .i64 0)),(.lit (.int .i64 0)),(.lit (.int .i64 0)),(.lit (.int .u8 0)),(.lit (.string ⟨#[]⟩)),(.lit (.string ⟨#[]⟩)),(.lit (.string ⟨#[]⟩)),(.lit (.int .i64 0)),(.lit (.int .i64 0)),(.lit (.int .i64 0)),(.lit (.int .i64 0))] [(0,(t_ 14)),(1,(t_ 16)),(2,(t_ 18))]) 0,O_ 20 (.bd [(.lit (.int .i64 0)),(.sl [] true),(.sl [] true)] [(1,1,(t_ 19))]) 1,O_ 21 (.cl 10 [(t_ 12),(t_ 20)]) 1]) (.seq (R_ 0 [O_ 22 (.mv (t_ 1)) 0,O_ 23 (.cl 13 [(t_ 22),(.const (.string ⟨#[115,101,101,110]⟩)),(i_ 5)]) 0,O_ 24 (.mv (t_ 1)) 0,O_ 25 (.cl 13 [(t_ 24),(.const (.string ⟨#[110,111,110,101]⟩)),(i_ 5)]) 0,O_ 2 (.mv (t_ 23)) 0,O_ 3 (.mv (t_ 25)) 0]) (.seq (R_ 0 [O_ 26 (.cl 17 []) 0,O_ 4 (.mv (t_ 26)) 0]) (.seq (R_ 0 [O_ 27 (.mv (t_ 1)) 0,O_ 28 (.cl 19 [(t_ 27),(.const (.string ⟨#[115,116,101,112,115]⟩))]) 0,O_ 29 (.bin .eql (t_ 28) (i_ 2)) 0,O_ 30 (.mv (t_ 29)) 0,⟨(some 31),.mv (t_ 1),(some (30,true)),0⟩,⟨(some 32),.cl 19 [(t_ 31),(.const (.string ⟨#[119,114,111,110,103]⟩))],(some (30,true)),0⟩,⟨(some 33),.bin .eql (t_ 32) (i_ 1),(some (30,true)),0⟩,O_ 34 (.pick (t_ 30) (t_ 33) (b_ false)) 0,O_ 35 (.mv (t_ 34)) 0,⟨(some 36),.mv (t_ 1),(some (35,true)),0⟩,⟨(some 37),.cl 19 [(t_ 36),(.const (.string ⟨#[115,104,117,116]⟩))],(some (35,true)),0⟩,⟨(some 38),.bin .eql (t_ 37) (i_ 1),(some (35,true)),0⟩,O_ 39 (.pick (t_ 35) (t_ 38) (b_ false)) 0,O_ 40 (.mv (t_ 39)) 0,⟨(some 41),.mv (t_ 1),(some (40,true)),0⟩,⟨(some 42),.cl 19 [(t_ 41),(.const (.string ⟨#[115,97,105,100]⟩))],(some (40,true)),0⟩,⟨(some 43),.bin .eql (t_ 42) (i_ 3),(some (40,true)),0⟩,O_ 44 (.pick (t_ 40) (t_ 43) (b_ false)) 0,O_ 45 (.mv (t_ 44)) 0,⟨(some 46),.mv (t_ 1),(some (45,true)),0⟩,⟨(some 47),.cl 19 [(t_ 46),(.const (.string ⟨#[103,114,97,110,116,101,100]⟩))],(some (45,true)),0⟩,⟨(some 48),.bin .eql (t_ 47) (i_ 1),(some (45,true)),0⟩,O_ 49 (.pick (t_ 45) (t_ 48) (b_ false)) 0,O_ 50 (.mv (t_ 49)) 0,⟨(some 51),.mv (t_ 1),(some (50,true)),0⟩,⟨(some 52),.cl 19 [(t_ 51),(.const (.string ⟨#[114,111,115,116,101,114,115]⟩))],(some (50,true)),0⟩,⟨(some 53),.bin .eql (t_ 52) (i_ 1),(some (50,true)),0⟩,O_ 54 (.pick (t_ 50) (t_ 53) (b_ false)) 0,O_ 55 (.mv (t_ 54)) 0,⟨(some 56),.mv (t_ 1),(some (55,true)),0⟩,⟨(some 57),.cl 19 [(t_ 56),(.const (.string ⟨#[98,121,116,101,115]⟩))],(some (55,true)),0⟩,⟨(some 58),.bin .eql (t_ 57) (i_ 26),(some (55,true)),0⟩,O_ 59 (.pick (t_ 55) (t_ 58) (b_ false)) 0,O_ 60 (.mv (t_ 59)) 0,⟨(some 61),.mv (t_ 2),(some (60,true)),0⟩,O_ 62 (.pick (t_ 60) (t_ 61) (b_ false)) 0,O_ 63 (.mv (t_ 62)) 0,⟨(some 64),.mv (t_ 3),(some (63,true)),0⟩,⟨(some 65),.un .not (t_ 64),(some (63,true)),0⟩,O_ 66 (.pick (t_ 63) (t_ 65) (b_ false)) 0,O_ 67 (.mv (t_ 66)) 0,⟨(some 68),.mv (t_ 1),(some (67,true)),0⟩,⟨(some 69),.cl 19 [(t_ 68),(.const (.string ⟨#[115,101,101,110]⟩))],(some (67,true)),0⟩,⟨(some 70),.bin .eql (t_ 69) (i_ 5),(some (67,true)),0⟩,O_ 71 (.pick (t_ 67) (t_ 70) (b_ false)) 0,O_ 72 (.mv (t_ 71)) 0,⟨(some 73),.mv (t_ 4),(some (72,true)),0⟩,⟨(some 74),.lens (t_ 73),(some (72,true)),0⟩,⟨(some 75),.bin .eql (t_ 74) (i_ 12),(some (72,true)),0⟩,O_ 76 (.pick (t_ 72) (t_ 75) (b_ false)) 0,O_ 77 (.mv (t_ 76)) 0,⟨(some 78),.mv (t_ 4),(some (77,true)),0⟩,⟨(some 79),.ixs 1 (t_ 78) (i_ 11),(some (77,true)),0⟩,⟨(some 80),.ld 1 false (t_ 79),(some (77,true)),0⟩,⟨(some 81),.bin .eql (t_ 80) (.const (.string ⟨#[115,104,117,116]⟩)),(some (77,true)),0⟩,O_ 82 (.pick (t_ 77) (t_ 81) (b_ false)) 0,O_ 83 (.mv (t_ 82)) 0,⟨(some 84),.mv (t_ 1),(some (83,true)),0⟩,⟨(some 85),.cl 16 [(t_ 84)],(some (83,true)),0⟩,⟨(some 86),.lens (t_ 85),(some (83,true)),0⟩,⟨(some 87),.bin .eql (t_ 86) (i_ 12),(some (83,true)),0⟩,O_ 88 (.pick (t_ 83) (t_ 87) (b_ false)) 0,O_ 89 (.mv (t_ 88)) 0,⟨(some 90),.mv (t_ 1),(some (89,true)),0⟩,⟨(some 91),.mv (t_ 1),(some (89,true)),0⟩,⟨(some 92),.cl 21 [(t_ 90),(t_ 91)],(some (89,true)),0⟩,⟨(some 93),.un .not (t_ 92),(some (89,true)),0⟩,O_ 94 (.pick (t_ 89) (t_ 93) (b_ false)) 0,O_ 0 (.mv (t_ 94)) 0]) .ret))))))))
theorem gc8_ok:compF Tryz.prog Tryz.f8=some (gc8.er,95,[.tmp 0]):=by unfold gc8;kernel_rfl
theorem p_law36_awake_t:CallsO Tryz.prog 8 [] V.b (tru? (p_law36_awake)):=by
 refine callsO_comp mix Tryz.func8 gc8_ok fun r H=>?_
 have H1:=tru_of H
 clear H
 obtain ⟨rfl,H⟩:=H1
 rw [p_law36_awake] at H
 conv=>whnf
 refine askN_c 0 1 (fun s hs=>p_tally_New_o  s hs) H rfl rfl rfl rfl (fun s=>(belowL_app (cellsM_idlt (f:=SyncatomicInt64.v) (fun _=>rfl) _) rfl)) (.nil) (fun y1 H=>?_);conv=>whnf
 refine Tst.F ?_;conv=>whnf
 refine askCo_c [0] (fun s hs=>p_tally_Tally_Note_p1_0 _ _ s hs) H (fun _=>rfl) rfl ⟨rfl,trivial⟩ rfl (closed_cons (belowL_app (cellsM_idlt (f:=SyncatomicInt64.v) (fun _=>rfl) _) rfl) closed_nil) (fun s=>(closed_cons (belowL_app (cellsM_idlt (f:=SyncatomicInt64.v) (fun _=>rfl) _) rfl) closed_nil)) (fun _=>rfl) (.kp rfl (.fz (fzagg (.cons (.id rfl) (.cons (.slw) (.cons (fzown (f:=V.i) (l:=[(4:Int)]) rfl rfl (fun _=>rfl) (fun _=>rfl)) (.nil)))) rfl) rfl (.nil))) (fun v2 H=>?_);conv=>whnf
 refine askCo_c [0] (fun s hs=>p_tally_Tally_Note_p1_0 _ _ s hs) H (fun _=>rfl) rfl ⟨rfl,trivial⟩ rfl (closed_cons (belowL_app (cellsM_idlt (f:=SyncatomicInt64.v) (fun _=>rfl) _) rfl) closed_nil) (fun s=>(closed_cons (belowL_app (cellsM_idlt (f:=SyncatomicInt64.v) (fun _=>rfl) _) rfl) closed_nil)) (fun _=>rfl) (.kp rfl (.fz (fzagg (.cons (.id rfl) (.cons (fzown (f:=Ref33Said.v) (l:=[(Ref33Said.mk (0:Int) (StanzaStanza.mk (32:Int) (⟨#[]⟩ : ByteArray) (⟨#[]⟩ : ByteArray) (⟨#[]⟩ : ByteArray) (0:Int) (0:Int) (0:Int) (0:Int))),(Ref33Said.mk (0:Int) (StanzaStanza.mk (37:Int) (⟨#[]⟩ : ByteArray) (⟨#[]⟩ : ByteArray) (⟨#[]⟩ : ByteArray) (0:Int) (0:Int) (0:Int) (0:Int))),(Ref33Said.mk (0:Int) (StanzaStanza.mk (39:Int) (⟨#[97,64,98]⟩ : ByteArray) (⟨#[]⟩ : ByteArray) (⟨#[]⟩ : ByteArray) (0:Int) (0:Int) (0:Int) (0:Int)))]) rfl rfl (fun _=>rfl) (fun _=>rfl)) (.cons (.slw) (.nil)))) rfl) rfl (.nil))) (fun v3 H=>?_);conv=>whnf
 refine askCo_c [0] (fun s hs=>p_tally_Tally_Add_p1_0 _ _ _ s hs) H (fun _=>rfl) rfl ⟨rfl,trivial⟩ rfl (closed_cons (belowL_app (cellsM_idlt (f:=SyncatomicInt64.v) (fun _=>rfl) _) rfl) closed_nil) (fun s=>(closed_cons (belowL_app (cellsM_idlt (f:=SyncatomicInt64.v) (fun _=>rfl) _) rfl) closed_nil)) (fun _=>rfl) (.kp rfl (.kp rfl (.kp rfl (.nil)))) (fun v4 H=>?_);conv=>whnf
 refine askCo_c [0] (fun s hs=>p_tally_Tally_Add_p1_0 _ _ _ s hs) H (fun _=>rfl) rfl ⟨rfl,trivial⟩ rfl (closed_cons (belowL_app (cellsM_idlt (f:=SyncatomicInt64.v) (fun _=>rfl) _) rfl) closed_nil) (fun s=>(closed_cons (belowL_app (cellsM_idlt (f:=SyncatomicInt64.v) (fun _=>rfl) _) rfl) closed_nil)) (fun _=>rfl) (.kp rfl (.kp rfl (.kp rfl (.nil)))) (fun v5 H=>?_);conv=>whnf
 refine ask_c (p_tally_Names_v) H rfl rfl (fun v6 H=>?_);conv=>whnf
 refine askCo_c [0] (fun s hs=>p_tally_Tally_Get_p1_0 _ _ s hs) H (fun _=>rfl) rfl ⟨rfl,trivial⟩ rfl (closed_cons (belowL_app (cellsM_idlt (f:=SyncatomicInt64.v) (fun _=>rfl) _) rfl) closed_nil) (fun s=>(closed_cons (belowL_app (cellsM_idlt (f:=SyncatomicInt64.v) (fun _=>rfl) _) rfl) closed_nil)) (fun _=>rfl) (.kp rfl (.kp rfl (.nil))) (fun v7 H=>?_);conv=>whnf
 refine tstT_c H (fun b8 H=>?_);conv=>whnf
 refine Tst.T ?_;conv=>whnf
 refine askCo_c [0] (fun s hs=>p_tally_Tally_Get_p1_0 _ _ s hs) H (fun _=>rfl) rfl ⟨rfl,trivial⟩ rfl (closed_cons (belowL_app (cellsM_idlt (f:=SyncatomicInt64.v) (fun _=>rfl) _) rfl) closed_nil) (fun s=>(closed_cons (belowL_app (cellsM_idlt (f:=SyncatomicInt64.v) (fun _=>rfl) _) rfl) closed_nil)) (fun _=>rfl) (.kp rfl (.kp rfl (.nil))) (fun v9 H=>?_);conv=>whnf
 iterate 2 (refine Tst.T ?_;conv=>whnf)
 refine tstT_c H (fun b10 H=>?_);conv=>whnf
 refine Tst.T ?_;conv=>whnf
 refine askCo_c [0] (fun s hs=>p_tally_Tally_Get_p1_0 _ _ s hs) H (fun _=>rfl) rfl ⟨rfl,trivial⟩ rfl (closed_cons (belowL_app (cellsM_idlt (f:=SyncatomicInt64.v) (fun _=>rfl) _) rfl) closed_nil) (fun s=>(closed_cons (belowL_app (cellsM_idlt (f:=SyncatomicInt64.v) (fun _=>rfl) _) rfl) closed_nil)) (fun _=>rfl) (.kp rfl (.kp rfl (.nil))) (fun v11 H=>?_);conv=>whnf
 iterate 2 (refine Tst.T ?_;conv=>whnf)
 refine tstT_c H (fun b12 H=>?_);conv=>whnf
 refine Tst.T ?_;conv=>whnf
 refine askCo_c [0] (fun s hs=>p_tally_Tally_Get_p1_0 _ _ s hs) H (fun _=>rfl) rfl ⟨rfl,trivial⟩ rfl (closed_cons (belowL_app (cellsM_idlt (f:=SyncatomicInt64.v) (fun _=>rfl) _) rfl) closed_nil) (fun s=>(closed_cons (belowL_app (cellsM_idlt (f:=SyncatomicInt64.v) (fun _=>rfl) _) rfl) closed_nil)) (fun _=>rfl) (.kp rfl (.kp rfl (.nil))) (fun v13 H=>?_);conv=>whnf
 iterate 2 (refine Tst.T ?_;conv=>whnf)
 refine tstT_c H (fun b14 H=>?_);conv=>whnf
 refine Tst.T ?_;conv=>whnf
 refine askCo_c [0] (fun s hs=>p_tally_Tally_Get_p1_0 _ _ s hs) H (fun _=>rfl) rfl ⟨rfl,trivial⟩ rfl (closed_cons (belowL_app (cellsM_idlt (f:=SyncatomicInt64.v) (fun _=>rfl) _) rfl) closed_nil) (fun s=>(closed_cons (belowL_app (cellsM_idlt (f:=SyncatomicInt64.v) (fun _=>rfl) _) rfl) closed_nil)) (fun _=>rfl) (.kp rfl (.kp rfl (.nil))) (fun v15 H=>?_);conv=>whnf
 iterate 2 (refine Tst.T ?_;conv=>whnf)
 refine tstT_c H (fun b16 H=>?_);conv=>whnf
 refine Tst.T ?_;conv=>whnf
 refine askCo_c [0] (fun s hs=>p_tally_Tally_Get_p1_0 _ _ s hs) H (fun _=>rfl) rfl ⟨rfl,trivial⟩ rfl (closed_cons (belowL_app (cellsM_idlt (f:=SyncatomicInt64.v) (fun _=>rfl) _) rfl) closed_nil) (fun s=>(closed_cons (belowL_app (cellsM_idlt (f:=SyncatomicInt64.v) (fun _=>rfl) _) rfl) closed_nil)) (fun _=>rfl) (.kp rfl (.kp rfl (.nil))) (fun v17 H=>?_);conv=>whnf
 iterate 2 (refine Tst.T ?_;conv=>whnf)
 refine tstT_c H (fun b18 H=>?_);conv=>whnf
 refine Tst.T ?_;conv=>whnf
 refine askCo_c [0] (fun s hs=>p_tally_Tally_Get_p1_0 _ _ s hs) H (fun _=>rfl) rfl ⟨rfl,trivial⟩ rfl (closed_cons (belowL_app (cellsM_idlt (f:=SyncatomicInt64.v) (fun _=>rfl) _) rfl) closed_nil) (fun s=>(closed_cons (belowL_app (cellsM_idlt (f:=SyncatomicInt64.v) (fun _=>rfl) _) rfl) closed_nil)) (fun _=>rfl) (.kp rfl (.kp rfl (.nil))) (fun v19 H=>?_);conv=>whnf
 iterate 2 (refine Tst.T ?_;conv=>whnf)
 refine tstT_c H (fun b20 H=>?_);conv=>whnf
 refine Tst.T ?_;conv=>whnf
 refine tstT_c H (fun b21 H=>?_);conv=>whnf
 iterate 2 (refine Tst.T ?_;conv=>whnf)
 refine Tst.not ?_
 refine tstF_c H (fun b22 H=>?_);conv=>whnf
 refine Tst.T ?_;conv=>whnf
 refine askCo_c [0] (fun s hs=>p_tally_Tally_Get_p1_0 _ _ s hs) H (fun _=>rfl) rfl ⟨rfl,trivial⟩ rfl (closed_cons (belowL_app (cellsM_idlt (f:=SyncatomicInt64.v) (fun _=>rfl) _) rfl) closed_nil) (fun s=>(closed_cons (belowL_app (cellsM_idlt (f:=SyncatomicInt64.v) (fun _=>rfl) _) rfl) closed_nil)) (fun _=>rfl) (.kp rfl (.kp rfl (.nil))) (fun v23 H=>?_);conv=>whnf
 iterate 2 (refine Tst.T ?_;conv=>whnf)
 refine tstT_c H (fun b24 H=>?_);conv=>whnf
 refine Tst.T ?_;conv=>whnf
 refine LenQ.M ?_;conv=>whnf
 iterate 2 (refine Tst.T ?_;conv=>whnf)
 refine tstT_c H (fun b25 H=>?_);conv=>whnf
 refine Tst.T ?_;conv=>whnf
 refine ixs_c (f:=V.s) H (fun _=>rfl) (fun x26 H=>?_);conv=>whnf
 iterate 3 (refine Tst.T ?_;conv=>whnf)
 refine tstT_c H (fun b27 H=>?_);conv=>whnf
 refine Tst.T ?_;conv=>whnf
 refine askCo_c [0] (fun s hs=>p_tally_Tally_List_p1_0 _ s hs) H (fun _=>rfl) rfl ⟨rfl,trivial⟩ rfl (closed_cons (belowL_app (cellsM_idlt (f:=SyncatomicInt64.v) (fun _=>rfl) _) rfl) closed_nil) (fun s=>(closed_cons (belowL_app (cellsM_idlt (f:=SyncatomicInt64.v) (fun _=>rfl) _) rfl) closed_nil)) (fun _=>rfl) (.kp rfl (.nil)) (fun v28 H=>?_);conv=>whnf
 refine Tst.T ?_;conv=>whnf
 refine LenQ.M ?_;conv=>whnf
 iterate 2 (refine Tst.T ?_;conv=>whnf)
 refine tstT_c H (fun b29 H=>?_);conv=>whnf
 iterate 2 (refine Tst.T ?_;conv=>whnf)
 refine Ask_S callsS_join_same rfl ?_;conv=>whnf
 iterate 2 (refine Tst.T ?_;conv=>whnf)
 exact fb_ H
theorem p_law36_awake_true:p_law36_awake=some true:=by kernel_rfl
theorem p_law36_awake_v:CallsO Tryz.prog 8 [] V.b p_law36_awake:=tru_closed p_law36_awake_t p_law36_awake_true
def gc22:BCode:=(.seq (R_ 1 [O_ 1 (.bx (t_ 0)) 0,O_ 2 (.mv (b_ false)) 1]) (.seq (R_ 0 [O_ 3 (.fa 1 (t_ 1)) 0,O_ 4 (.ld 1 false (t_ 3)) 0,O_ 5 (.lent (t_ 4)) 0,O_ 6 (.bin .leq (t_ 5) (i_ 100)) 0,O_ 7 (.mv (t_ 6)) 0,⟨(some 8),.fa 2 (t_ 1),(some (7,true)),0⟩,⟨(some 9),.ld 1 false (t_ 8),(some (7,true)),0⟩,⟨(some 10),.lent (t_ 9),(some (7,true)),0⟩,⟨(some 11),.bin .leq (t_ 10) (i_ 100),(some (7,true)),0⟩,O_ 12 (.pick (t_ 7) (t_ 11) (b_ false)) 0,O_ 13 (.mv (t_ 12)) 0,⟨(some 14),.fa 3 (t_ 1),(some (13,true)),0⟩,⟨(some 15),.ld 1 false (t_ 14),(some (13,true)),0⟩,⟨(some 16),.lent (t_ 15),(some (13,true)),0⟩,⟨(some 17),.bin .leq (t_ 16) (i_ 100),(some (13,true)),0⟩,O_ 18 (.pick (t_ 13) (t_ 17) (b_ false)) 0,O_ 2 (.mv (t_ 18)) 0]) .ret))
theorem gc22_ok:compF Tryz.prog Tryz.f22=some (gc22.er,19,[.tmp 2]):=by unfold gc22;kernel_rfl
theorem p_ref10_Light_v (a0:StanzaStanza):CallsO Tryz.prog 22 [.agg [.y8 a0.Kind,.s a0.User,.s a0.Res,.s a0.Name,.i a0.Show,.i a0.Prio,.i a0.Code,.i a0.N]] V.b (p_ref10_Light a0):=by
 refine callsO_comp mix Tryz.func22 gc22_ok fun r H=>?_
 rw [p_ref10_Light] at H
 conv=>whnf
 refine tst_d H (fun b1 H=>?_) (fun b1 H=>?_)
 ·conv=>whnf
  iterate 9 (refine Tst.F ?_;conv=>whnf)
  exact fb_ H
 conv=>whnf
 iterate 4 (refine Tst.T ?_;conv=>whnf)
 refine tst_c H (fun b2 H=>?_) (fun b2 H=>?_)
 ·conv=>whnf
  iterate 4 (refine Tst.T ?_;conv=>whnf)
  exact fb_ H
 conv=>whnf
 iterate 4 (refine Tst.F ?_;conv=>whnf)
 exact fb_ H
end Go.Proofs.YtpkodpcfafipdaaGreat

namespace Go.Proofs.YtpkodpcfafipdaaGreat
open Go.RowKit
set_option maxRecDepth 100000
set_option maxHeartbeats 4000000
def gc10_n0:BCode:=(.seq (.reg 1 [⟨(some 3),.bx (.tmp 1),none,0⟩] none 0 []) (.seq (.seq (.reg 0 [⟨(some 9),.mv (.tmp 0),none,0⟩,⟨(some 10),.eqp false (.tmp 9) (.const (.pointer none)),none,0⟩] none 0 []) (.cond (.tmp 10) .ret .skip)) (.seq (.reg 0 [⟨(some 11),.mv (.tmp 0),none,0⟩,⟨(some 12),.cl 25 [(.tmp 11),(.const (.int .i64 0)),(.const (.int .i64 1))],none,0⟩] none 0 []) (.seq (.seq (.reg 0 [⟨(some 13),.fa 0 (.tmp 3),none,0⟩,⟨(some 14),.ld 1 false (.tmp 13),none,0⟩,⟨(some 15),.bin .neq (.tmp 14) (.const (.int .i64 0)),none,0⟩] none 0 []) (.cond (.tmp 15) (.reg 0 [⟨(some 16),.mv (.tmp 0),none,0⟩,⟨(some 17),.cl 25 [(.tmp 16),(.const (.int .i64 1)),(.const (.int .i64 1))],none,0⟩] none 0 []) .skip)) (.seq (.reg 0 [⟨(some 18),.mv (.tmp 0),none,0⟩,⟨(some 19),.fa 1 (.tmp 3),none,0⟩,⟨(some 20),.ld 1 false (.tmp 19),none,0⟩,⟨(some 21),.lens (.tmp 20),none,0⟩,⟨(some 22),.cl 25 [(.tmp 18),(.const (.int .i64 2)),(.tmp 21)],none,0⟩] none 0 []) (.seq (.reg 0 [⟨(some 23),.mv (.tmp 0),none,0⟩,⟨(some 24),.fa 2 (.tmp 3),none,0⟩,⟨(some 25),.ld 1 false (.tmp 24),none,0⟩,⟨(some 26),.lens (.tmp 25),none,0⟩,⟨(some 27),.cl 25 [(.tmp 23),(.const (.int .i64 11)),(.tmp 26)],none,0⟩] none 0 []) (.seq (.reg 0 [⟨(some 28),.fa 1 (.tmp 3),none,0⟩,⟨(some 29),.ld 1 false (.tmp 28),none,0⟩,⟨(some 30),.lens (.tmp 29),none,0⟩,⟨(some 31),.mv (.const (.int .i64 0)),none,0⟩] none 0 []) (.block 0 (.loop (.seq (.reg 0 [⟨(some 32),.bin .lss (.tmp 31) (.tmp 30),none,0⟩] none 0 []) (.seq (.cond (.tmp 32) .skip (.exit 0)) (.seq (.block 1 (.seq (.reg 1 [⟨(some 33),.ixs 9 (.tmp 29) (.tmp 31),none,0⟩,⟨(some 34),.ld 9 true (.tmp 33),none,0⟩,⟨(some 5),.al (.agg [(.lit (.int .i64 0)),(.lit (.int .u8 0)),(.lit (.string ⟨#[]⟩)),(.lit (.string ⟨#[]⟩)),(.lit (.string ⟨#[]⟩)),(.lit (.int .i64 0)),(.lit (.int .i64 0)),(.lit (.int .i64 0)),(.lit (.int .i64 0))]),none,0⟩,⟨none,.st 9 (.tmp 5) (.tmp 34),none,1⟩] none 0 []) (.seq (.reg 0 [⟨(some 36),.fa 1 (.tmp 5),none,0⟩,⟨(some 37),.ld 8 true (.tmp 36),none,0⟩,⟨(some 38),.cl 26 [(.tmp 37)],none,0⟩,⟨(some 35),.mv (.tmp 38),none,0⟩,⟨(some 39),.ex (.tmp 35) 0,none,0⟩,⟨(some 40),.ex (.tmp 35) 1,none,0⟩,⟨(some 6),.mv (.tmp 39),none,0⟩,⟨(some 7),.mv (.tmp 40),none,0⟩] none 0 []) (.seq (.reg 0 [⟨(some 41),.mv (.tmp 0),none,0⟩,⟨(some 42),.mv (.tmp 6),none,0⟩,⟨(some 43),.cl 27 [(.tmp 42)],none,0⟩,⟨(some 44),.cl 25 [(.tmp 41),(.const (.int .i64 3)),(.tmp 43)],none,0⟩] none 0 []) (.seq (.reg 0 [⟨(some 45),.fa 1 (.tmp 5),none,0⟩,⟨(some 46),.fa 0 (.tmp 45),none,0⟩,⟨(some 47),.ld 1 false (.tmp 46),none,0⟩,⟨(some 48),.cl 28 [(.tmp 47)],none,0⟩,⟨(some 8),.mv (.tmp 48),none,0⟩] none 0 []) (.seq (.reg 0 [⟨(some 49),.mv (.tmp 8),none,0⟩,⟨(some 50),.bin .neq (.tmp 49) (.const (.int .i64 (-1))),none,0⟩] none 0 []) (.cond (.tmp 50) (.reg 0 [⟨(some 51),.mv (.tmp 0),none,0⟩,⟨(some 52),.mv (.tmp 8),none,0⟩,⟨(some 53),.cl 25 [(.tmp 51),(.tmp 52),(.const (.int .i64 1))],none,0⟩] none 0 []) .skip))))))) (.reg 0 [⟨(some 54),.bin .add (.tmp 31) (.const (.int .i64 1)),none,0⟩,⟨(some 31),.mv (.tmp 54),none,0⟩] none 0 [])))))))))))))
theorem gc10_n0_ok:compF Tryz.prog Tryz.f10=some (gc10_n0.er,55,[]):=by unfold gc10_n0;kernel_rfl
theorem p_tally_Tally_Note_n0_v {u1 u2:Bool} (a1:Ref33Result):CallsO Tryz.prog 10 [.lit (.pointer none),.agg [.i a1.E,.sl (List.map Ref33Said.v a1.Said) u1,.sl (List.map V.i a1.Shut) u2]] (fun r:Unit=>.tup []) (p_tally_Tally_Note_n0 a1):=by
 refine callsO_comp mix Tryz.func10 gc10_n0_ok fun r H=>?_
 rw [p_tally_Tally_Note_n0] at H
 conv=>whnf
 refine Tst.T ?_;conv=>whnf
 exact fin0_c (enc:=(fun r:Unit=>.tup [])) H (.inr rfl) (.nil) rfl rfl
def gc13_n0:BCode:=(.seq (.reg 0 [⟨(some 6),.mv (.const (.bool false)),none,0⟩] none 0 []) (.seq (.seq (.reg 0 [⟨(some 8),.mv (.tmp 0),none,0⟩,⟨(some 9),.eqp false (.tmp 8) (.const (.pointer none)),none,0⟩,⟨(some 10),.mv (.tmp 9),none,0⟩,⟨(some 11),.mv (.tmp 2),(some (10,false)),0⟩,⟨(some 12),.bin .lss (.tmp 11) (.const (.int .i64 0)),(some (10,false)),0⟩,⟨(some 13),.pick (.tmp 10) (.const (.bool true)) (.tmp 12),none,0⟩] none 0 []) (.cond (.tmp 13) (.seq (.reg 0 [⟨(some 6),.mv (.const (.bool false)),none,0⟩] none 0 []) .ret) .skip)) (.seq (.reg 0 [⟨(some 14),.mv (.tmp 0),none,0⟩,⟨(some 15),.mv (.tmp 1),none,0⟩,⟨(some 16),.cl 33 [(.tmp 14),(.tmp 15)],none,0⟩,⟨(some 7),.mv (.tmp 16),none,0⟩] none 0 []) (.seq (.seq (.reg 0 [⟨(some 17),.mv (.tmp 7),none,0⟩,⟨(some 18),.bin .eql (.tmp 17) (.const (.int .i64 (-1))),none,0⟩] none 0 []) (.cond (.tmp 18) (.seq (.reg 0 [⟨(some 6),.mv (.const (.bool false)),none,0⟩] none 0 []) .ret) .skip)) (.seq (.reg 0 [⟨(some 19),.mv (.tmp 0),none,0⟩,⟨(some 20),.mv (.tmp 7),none,0⟩,⟨(some 21),.mv (.tmp 2),none,0⟩,⟨(some 22),.cl 25 [(.tmp 19),(.tmp 20),(.tmp 21)],none,0⟩] none 0 []) (.seq (.reg 0 [⟨(some 6),.mv (.const (.bool true)),none,0⟩] none 0 []) .ret))))))
theorem gc13_n0_ok:compF Tryz.prog Tryz.f13=some (gc13_n0.er,23,[.tmp 6]):=by unfold gc13_n0;kernel_rfl
theorem p_tally_Tally_Add_n0_v (a1:ByteArray) (a2:Int):CallsO Tryz.prog 13 [.lit (.pointer none),.s a1,.i a2] V.b (p_tally_Tally_Add_n0 a1 a2):=by
 refine callsO_comp mix Tryz.func13 gc13_n0_ok fun r H=>?_
 rw [p_tally_Tally_Add_n0] at H
 conv=>whnf
 iterate 4 (refine Tst.T ?_;conv=>whnf)
 exact fb_ H
def gc19_n0:BCode:=(.seq (.reg 0 [⟨(some 4),.mv (.const (.int .i64 0)),none,0⟩] none 0 []) (.seq (.seq (.reg 0 [⟨(some 6),.mv (.tmp 0),none,0⟩,⟨(some 7),.eqp false (.tmp 6) (.const (.pointer none)),none,0⟩] none 0 []) (.cond (.tmp 7) (.seq (.reg 0 [⟨(some 4),.mv (.const (.int .i64 0)),none,0⟩] none 0 []) .ret) .skip)) (.seq (.reg 0 [⟨(some 8),.mv (.tmp 0),none,0⟩,⟨(some 9),.mv (.tmp 1),none,0⟩,⟨(some 10),.cl 33 [(.tmp 8),(.tmp 9)],none,0⟩,⟨(some 5),.mv (.tmp 10),none,0⟩] none 0 []) (.seq (.seq (.reg 0 [⟨(some 11),.mv (.tmp 5),none,0⟩,⟨(some 12),.bin .eql (.tmp 11) (.const (.int .i64 (-1))),none,0⟩] none 0 []) (.cond (.tmp 12) (.seq (.reg 0 [⟨(some 4),.mv (.const (.int .i64 0)),none,0⟩] none 0 []) .ret) .skip)) (.seq (.reg 0 [⟨(some 13),.mv (.tmp 0),none,0⟩,⟨(some 14),.mv (.tmp 5),none,0⟩,⟨(some 15),.nc (.tmp 13),none,0⟩,⟨(some 16),.fa 0 (.tmp 15),none,0⟩,⟨(some 17),.ixa 12 1 (.tmp 16) (.tmp 14),none,0⟩,⟨(some 18),.cl 34 [(.tmp 17)],none,0⟩,⟨(some 4),.mv (.tmp 18),none,0⟩] none 0 []) .ret)))))
theorem gc19_n0_ok:compF Tryz.prog Tryz.f19=some (gc19_n0.er,19,[.tmp 4]):=by unfold gc19_n0;kernel_rfl
theorem p_tally_Tally_Get_n0_v (a1:ByteArray):CallsO Tryz.prog 19 [.lit (.pointer none),.s a1] V.i (p_tally_Tally_Get_n0 a1):=by
 refine callsO_comp mix Tryz.func19 gc19_n0_ok fun r H=>?_
 rw [p_tally_Tally_Get_n0] at H
 conv=>whnf
 refine Tst.T ?_;conv=>whnf
 exact fi_ H
def gc16_n0:BCode:=(.seq (.reg 0 [⟨(some 2),.mv (.const (.slice none 0 0)),none,0⟩] none 0 []) (.seq (.seq (.reg 0 [⟨(some 6),.mv (.tmp 0),none,0⟩,⟨(some 7),.eqp false (.tmp 6) (.const (.pointer none)),none,0⟩] none 0 []) (.cond (.tmp 7) (.seq (.reg 0 [⟨(some 2),.mv (.const (.slice none 0 0)),none,0⟩] none 0 []) .ret) .skip)) (.seq (.reg 0 [⟨(some 3),.mv (.const (.slice none 0 0)),none,0⟩] none 0 []) (.seq (.seq (.reg 0 [⟨(some 8),.cl 17 [],none,0⟩,⟨(some 9),.lens (.tmp 8),none,0⟩,⟨(some 10),.mv (.const (.int .i64 0)),none,0⟩] none 0 []) (.block 0 (.loop (.seq (.reg 0 [⟨(some 11),.bin .lss (.tmp 10) (.tmp 9),none,0⟩] none 0 []) (.seq (.cond (.tmp 11) .skip (.exit 0)) (.seq (.block 1 (.seq (.reg 0 [⟨(some 12),.mv (.tmp 10),none,0⟩,⟨(some 13),.ixs 1 (.tmp 8) (.tmp 10),none,0⟩,⟨(some 14),.ld 1 false (.tmp 13),none,0⟩,⟨(some 4),.mv (.tmp 12),none,0⟩,⟨(some 5),.mv (.tmp 14),none,0⟩] none 0 []) (.reg 2 [⟨(some 15),.mv (.tmp 3),none,0⟩,⟨(some 16),.mv (.tmp 5),none,0⟩,⟨(some 17),.mv (.tmp 0),none,0⟩,⟨(some 18),.mv (.tmp 4),none,0⟩,⟨(some 19),.nc (.tmp 17),none,0⟩,⟨(some 20),.fa 0 (.tmp 19),none,0⟩,⟨(some 21),.ixa 12 1 (.tmp 20) (.tmp 18),none,0⟩,⟨(some 22),.cl 34 [(.tmp 21)],none,0⟩,⟨(some 23),.bd [(.lit (.string ⟨#[]⟩)),(.lit (.int .i64 0))] [(0,1,(.tmp 16)),(1,1,(.tmp 22))],none,0⟩,⟨(some 24),.bs 2 1 [(.lit (.string ⟨#[]⟩)),(.lit (.int .i64 0))] [(0,(.tmp 23))],none,0⟩,⟨(some 25),.ap 2 24 (.tmp 15) (.tmp 24),none,1⟩,⟨(some 3),.mv (.tmp 25),none,2⟩] none 0 []))) (.reg 0 [⟨(some 26),.bin .add (.tmp 10) (.const (.int .i64 1)),none,0⟩,⟨(some 10),.mv (.tmp 26),none,0⟩] none 0 []))))))) (.seq (.reg 0 [⟨(some 27),.mv (.tmp 3),none,0⟩,⟨(some 2),.mv (.tmp 27),none,0⟩] none 0 []) .ret)))))
theorem gc16_n0_ok:compF Tryz.prog Tryz.f16=some (gc16_n0.er,28,[.tmp 2]):=by unfold gc16_n0;kernel_rfl
theorem p_tally_Tally_List_n0_v:CallsO Tryz.prog 16 [.lit (.pointer none)] (fun l:List TallyCount=>V.sl (l.map TallyCount.v) false) (p_tally_Tally_List_n0):=by
 refine callsO_comp mix Tryz.func16 gc16_n0_ok fun r H=>?_
 rw [p_tally_Tally_List_n0] at H
 conv=>whnf
 refine Tst.T ?_;conv=>whnf
 refine finR_c (enc:=(fun l:List TallyCount=>V.sl (l.map TallyCount.v) false)) H ?_;conv=>whnf
 exact ⟨_,.v (.c (.slw))⟩
def gc21_n0:BCode:=(.seq (.reg 0 [⟨(some 4),.mv (.const (.bool false)),none,0⟩] none 0 []) (.seq (.seq (.reg 0 [⟨(some 6),.mv (.tmp 0),none,0⟩,⟨(some 7),.eqp false (.tmp 6) (.const (.pointer none)),none,0⟩,⟨(some 8),.mv (.tmp 7),none,0⟩,⟨(some 9),.mv (.tmp 1),(some (8,false)),0⟩,⟨(some 10),.eqp false (.tmp 9) (.const (.pointer none)),(some (8,false)),0⟩,⟨(some 11),.pick (.tmp 8) (.const (.bool true)) (.tmp 10),none,0⟩,⟨(some 12),.mv (.tmp 11),none,0⟩,⟨(some 13),.mv (.tmp 0),(some (12,false)),0⟩,⟨(some 14),.mv (.tmp 1),(some (12,false)),0⟩,⟨(some 15),.eqp false (.tmp 13) (.tmp 14),(some (12,false)),0⟩,⟨(some 16),.pick (.tmp 12) (.const (.bool true)) (.tmp 15),none,0⟩] none 0 []) (.cond (.tmp 16) (.seq (.reg 0 [⟨(some 4),.mv (.const (.bool false)),none,0⟩] none 0 []) .ret) .skip)) (.seq (.seq (.reg 0 [⟨(some 17),.mv (.const (.int .i64 0)),none,0⟩] none 0 []) (.block 0 (.loop (.seq (.reg 0 [⟨(some 18),.bin .lss (.tmp 17) (.const (.int .i64 12)),none,0⟩] none 0 []) (.seq (.cond (.tmp 18) .skip (.exit 0)) (.seq (.block 1 (.seq (.reg 0 [⟨(some 19),.mv (.tmp 17),none,0⟩,⟨(some 5),.mv (.tmp 19),none,0⟩] none 0 []) (.reg 0 [⟨(some 20),.mv (.tmp 0),none,0⟩,⟨(some 21),.mv (.tmp 5),none,0⟩,⟨(some 22),.mv (.tmp 1),none,0⟩,⟨(some 23),.mv (.tmp 5),none,0⟩,⟨(some 24),.nc (.tmp 22),none,0⟩,⟨(some 25),.fa 0 (.tmp 24),none,0⟩,⟨(some 26),.ixa 12 1 (.tmp 25) (.tmp 23),none,0⟩,⟨(some 27),.cl 34 [(.tmp 26)],none,0⟩,⟨(some 28),.cl 25 [(.tmp 20),(.tmp 21),(.tmp 27)],none,0⟩] none 0 []))) (.reg 0 [⟨(some 29),.bin .add (.tmp 17) (.const (.int .i64 1)),none,0⟩,⟨(some 17),.mv (.tmp 29),none,0⟩] none 0 []))))))) (.seq (.reg 0 [⟨(some 4),.mv (.const (.bool true)),none,0⟩] none 0 []) .ret))))
theorem gc21_n0_ok:compF Tryz.prog Tryz.f21=some (gc21_n0.er,30,[.tmp 4]):=by unfold gc21_n0;kernel_rfl
theorem p_tally_Tally_Join_n0_p1_0 {u1:Bool}  (a1:TallyTally) (r:TallyTally × Bool) (H:p_tally_Tally_Join_n0 a1=some r):CallsS Tryz.prog 21 [.lit (.pointer none),.ptr 0 0] [.live (cellsM SyncatomicInt64.v a1.counts++([.lit (.int .u32 a1.once.done.v_),.lit (.int .i32 a1.once.m.mu.state),.lit (.int .u32 a1.once.m.mu.sema),.sl (List.map V.s a1.names) u1])) 0] ((fun r:TallyTally × Bool=>V.b r.2) r) [.live ((fun r:TallyTally × Bool=>(cellsM SyncatomicInt64.v r.1.counts++([.lit (.int .u32 r.1.once.done.v_),.lit (.int .i32 r.1.once.m.mu.state),.lit (.int .u32 r.1.once.m.mu.sema),.sl (List.map V.s r.1.names) false]))) r) 0]:=by
 refine callsR_c (n0:=1) mix Tryz.func21 gc21_n0_ok rfl ?_
 rw [p_tally_Tally_Join_n0] at H
 conv=>whnf
 iterate 8 (refine Tst.T ?_;conv=>whnf)
 refine finP_c (y:=r) (st0:=[.live (cellsM SyncatomicInt64.v a1.counts++([.lit (.int .u32 a1.once.done.v_),.lit (.int .i32 a1.once.m.mu.state),.lit (.int .u32 a1.once.m.mu.sema),.sl (List.map V.s a1.names) u1])) 0]) (enc:=(fun r:TallyTally × Bool=>V.b r.2)) (T:=(fun r:TallyTally × Bool=>(cellsM SyncatomicInt64.v r.1.counts++([.lit (.int .u32 r.1.once.done.v_),.lit (.int .i32 r.1.once.m.mu.state),.lit (.int .u32 r.1.once.m.mu.sema),.sl (List.map V.s r.1.names) false])))) (i:=0) [] (.inr rfl) H (Nat.le_of_ble_eq_true rfl) ?_;conv=>whnf
 exact ⟨trivial,⟨_,_,rfl,(fzl_app (.cons (.id rfl) (.cons (.id rfl) (.cons (.id rfl) (.cons (.slw) (.nil))))) (fzl_lit (cellsM_idlt (f:=SyncatomicInt64.v) (fun _=>rfl) _))),(one_app (one_M (f:=SyncatomicInt64.v) (fun _=>rfl) _) rfl)⟩,⟨rfl,rfl⟩⟩
def gc21_n1:BCode:=(.seq (.reg 0 [⟨(some 4),.mv (.const (.bool false)),none,0⟩] none 0 []) (.seq (.seq (.reg 0 [⟨(some 6),.mv (.tmp 0),none,0⟩,⟨(some 7),.eqp false (.tmp 6) (.const (.pointer none)),none,0⟩,⟨(some 8),.mv (.tmp 7),none,0⟩,⟨(some 9),.mv (.tmp 1),(some (8,false)),0⟩,⟨(some 10),.eqp false (.tmp 9) (.const (.pointer none)),(some (8,false)),0⟩,⟨(some 11),.pick (.tmp 8) (.const (.bool true)) (.tmp 10),none,0⟩,⟨(some 12),.mv (.tmp 11),none,0⟩,⟨(some 13),.mv (.tmp 0),(some (12,false)),0⟩,⟨(some 14),.mv (.tmp 1),(some (12,false)),0⟩,⟨(some 15),.eqp false (.tmp 13) (.tmp 14),(some (12,false)),0⟩,⟨(some 16),.pick (.tmp 12) (.const (.bool true)) (.tmp 15),none,0⟩] none 0 []) (.cond (.tmp 16) (.seq (.reg 0 [⟨(some 4),.mv (.const (.bool false)),none,0⟩] none 0 []) .ret) .skip)) (.seq (.seq (.reg 0 [⟨(some 17),.mv (.const (.int .i64 0)),none,0⟩] none 0 []) (.block 0 (.loop (.seq (.reg 0 [⟨(some 18),.bin .lss (.tmp 17) (.const (.int .i64 12)),none,0⟩] none 0 []) (.seq (.cond (.tmp 18) .skip (.exit 0)) (.seq (.block 1 (.seq (.reg 0 [⟨(some 19),.mv (.tmp 17),none,0⟩,⟨(some 5),.mv (.tmp 19),none,0⟩] none 0 []) (.reg 0 [⟨(some 20),.mv (.tmp 0),none,0⟩,⟨(some 21),.mv (.tmp 5),none,0⟩,⟨(some 22),.mv (.tmp 1),none,0⟩,⟨(some 23),.mv (.tmp 5),none,0⟩,⟨(some 24),.nc (.tmp 22),none,0⟩,⟨(some 25),.fa 0 (.tmp 24),none,0⟩,⟨(some 26),.ixa 12 1 (.tmp 25) (.tmp 23),none,0⟩,⟨(some 27),.cl 34 [(.tmp 26)],none,0⟩,⟨(some 28),.cl 25 [(.tmp 20),(.tmp 21),(.tmp 27)],none,0⟩] none 0 []))) (.reg 0 [⟨(some 29),.bin .add (.tmp 17) (.const (.int .i64 1)),none,0⟩,⟨(some 17),.mv (.tmp 29),none,0⟩] none 0 []))))))) (.seq (.reg 0 [⟨(some 4),.mv (.const (.bool true)),none,0⟩] none 0 []) .ret))))
theorem gc21_n1_ok:compF Tryz.prog Tryz.f21=some (gc21_n1.er,30,[.tmp 4]):=by unfold gc21_n1;kernel_rfl
theorem p_tally_Tally_Join_n1_p1_0 {u1:Bool}  (a0:TallyTally) (r:TallyTally × Bool) (H:p_tally_Tally_Join_n1 a0=some r):CallsS Tryz.prog 21 [.ptr 0 0,.lit (.pointer none)] [.live (cellsM SyncatomicInt64.v a0.counts++([.lit (.int .u32 a0.once.done.v_),.lit (.int .i32 a0.once.m.mu.state),.lit (.int .u32 a0.once.m.mu.sema),.sl (List.map V.s a0.names) u1])) 0] ((fun r:TallyTally × Bool=>V.b r.2) r) [.live ((fun r:TallyTally × Bool=>(cellsM SyncatomicInt64.v r.1.counts++([.lit (.int .u32 r.1.once.done.v_),.lit (.int .i32 r.1.once.m.mu.state),.lit (.int .u32 r.1.once.m.mu.sema),.sl (List.map V.s r.1.names) false]))) r) 0]:=by
 refine callsR_c (n0:=1) mix Tryz.func21 gc21_n1_ok rfl ?_
 rw [p_tally_Tally_Join_n1] at H
 conv=>whnf
 iterate 3 (refine Tst.F ?_;conv=>whnf)
 iterate 5 (refine Tst.T ?_;conv=>whnf)
 refine finP_c (y:=r) (st0:=[.live (cellsM SyncatomicInt64.v a0.counts++([.lit (.int .u32 a0.once.done.v_),.lit (.int .i32 a0.once.m.mu.state),.lit (.int .u32 a0.once.m.mu.sema),.sl (List.map V.s a0.names) u1])) 0]) (enc:=(fun r:TallyTally × Bool=>V.b r.2)) (T:=(fun r:TallyTally × Bool=>(cellsM SyncatomicInt64.v r.1.counts++([.lit (.int .u32 r.1.once.done.v_),.lit (.int .i32 r.1.once.m.mu.state),.lit (.int .u32 r.1.once.m.mu.sema),.sl (List.map V.s r.1.names) false])))) (i:=0) [] (.inr rfl) H (Nat.le_of_ble_eq_true rfl) ?_;conv=>whnf
 exact ⟨trivial,⟨_,_,rfl,(fzl_app (.cons (.id rfl) (.cons (.id rfl) (.cons (.id rfl) (.cons (.slw) (.nil))))) (fzl_lit (cellsM_idlt (f:=SyncatomicInt64.v) (fun _=>rfl) _))),(one_app (one_M (f:=SyncatomicInt64.v) (fun _=>rfl) _) rfl)⟩,⟨rfl,rfl⟩⟩
end Go.Proofs.YtpkodpcfafipdaaGreat

