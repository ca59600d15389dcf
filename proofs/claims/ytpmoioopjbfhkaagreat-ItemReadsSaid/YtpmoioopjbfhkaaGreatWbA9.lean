/- A part of the proof: 3 texts joined. -/
import Derived.Test.YtpmoioopjbfhkaaGreatWbA8
import Derived.Test.YtpmoioopjbfhkaaGreatWbA7
import Derived.Test.YtpmoioopjbfhkaaGreatWbA6
import Derived.KernelRfl
set_option linter.all false
/- That the program's functions yield what the plain ones tell (written by a program of mine). -/
namespace Go.Proofs.YtpmoioopjbfhkaaGreat
open Go.RowKit
set_option maxRecDepth 100000
set_option maxHeartbeats 4000000
def gc11:BCode:=(.seq (.reg 1 [⟨(some 1),.bx (.tmp 0),none,0⟩,⟨(some 2),.mv (.const (.bool false)),none,1⟩] none 0 []) (.seq (.reg 0 [⟨(some 3),.fa 0 (.tmp 1),none,0⟩,⟨(some 4),.ld 1 false (.tmp 3),none,0⟩,⟨(some 5),.lent (.tmp 4),none,0⟩,⟨(some 6),.bin .leq (.tmp 5) (.const (.int .i64 100)),none,0⟩,⟨(some 7),.mv (.tmp 6),none,0⟩,⟨(some 8),.fa 1 (.tmp 1),(some (7,true)),0⟩,⟨(some 9),.ld 1 false (.tmp 8),(some (7,true)),0⟩,⟨(some 10),.lent (.tmp 9),(some (7,true)),0⟩,⟨(some 11),.bin .leq (.tmp 10) (.const (.int .i64 100)),(some (7,true)),0⟩,⟨(some 12),.pick (.tmp 7) (.tmp 11) (.const (.bool false)),none,0⟩,⟨(some 2),.mv (.tmp 12),none,0⟩] none 0 []) .ret))
theorem gc11_ok:compF Tryz.prog Tryz.f11=some (gc11.er,13,[.tmp 2]):=by unfold gc11;kernel_rfl
theorem p_ref20_Light_v (a0:ItemItem):CallsO Tryz.prog 11 [.agg [.s a0.Contact,.s a0.Name,.i a0.Sub,.i a0.Ver,.b a0.Own]] V.b (p_ref20_Light a0):=by
 refine callsO_comp mix Tryz.func11 gc11_ok fun r H=>?_
 rw [p_ref20_Light] at H
 conv=>whnf
 refine tst_c H (fun b1 H=>?_) (fun b1 H=>?_)
 ·conv=>whnf
  iterate 4 (refine Tst.T ?_;conv=>whnf)
  exact fb_ H
 conv=>whnf
 iterate 4 (refine Tst.F ?_;conv=>whnf)
 exact fb_ H
def gc86:BCode:=(.seq (.reg 0 [⟨(some 2),.mv (.const (.int .i64 0)),none,0⟩] none 0 []) (.seq (.block 0 (.seq (.seq (.reg 0 [⟨(some 4),.mv (.tmp 0),none,0⟩,⟨(some 5),.bin .lss (.tmp 4) (.const (.int .i64 0)),none,0⟩,⟨(some 3),.mv (.tmp 5),none,0⟩] none 0 []) (.cond (.tmp 3) .skip (.reg 0 [⟨(some 6),.mv (.tmp 0),none,0⟩,⟨(some 7),.bin .gtr (.tmp 6) (.const (.int .i64 15)),none,0⟩,⟨(some 3),.mv (.tmp 7),none,0⟩] none 0 []))) (.cond (.tmp 3) (.seq (.reg 0 [⟨(some 2),.mv (.const (.int .i64 8)),none,0⟩] none 0 []) .ret) (.seq (.seq (.reg 0 [⟨(some 9),.mv (.tmp 0),none,0⟩,⟨(some 10),.bin .and (.tmp 9) (.const (.int .i64 5)),none,0⟩,⟨(some 11),.bin .eql (.tmp 10) (.const (.int .i64 5)),none,0⟩,⟨(some 8),.mv (.tmp 11),none,0⟩] none 0 []) (.cond (.tmp 8) .skip (.reg 0 [⟨(some 12),.mv (.tmp 0),none,0⟩,⟨(some 13),.bin .and (.tmp 12) (.const (.int .i64 10)),none,0⟩,⟨(some 14),.bin .eql (.tmp 13) (.const (.int .i64 10)),none,0⟩,⟨(some 8),.mv (.tmp 14),none,0⟩] none 0 []))) (.cond (.tmp 8) (.seq (.reg 0 [⟨(some 2),.mv (.const (.int .i64 4)),none,0⟩] none 0 []) .ret) .skip))))) (.seq (.reg 0 [⟨(some 2),.mv (.const (.int .i64 0)),none,0⟩] none 0 []) .ret)))
theorem gc86_ok:compF Tryz.prog Tryz.f86=some (gc86.er,15,[.tmp 2]):=by unfold gc86;kernel_rfl
theorem p_subs_Check_v (a0:Int):CallsO Tryz.prog 86 [.i a0] V.i (p_subs_Check a0):=by
 refine callsO_comp mix Tryz.func86 gc86_ok fun r H=>?_
 rw [p_subs_Check] at H
 conv=>whnf
 refine tst_c H (fun b1 H=>?_) (fun b1 H=>?_)
 ·conv=>whnf
  refine Tst.T ?_;conv=>whnf
  exact fi_ H
 conv=>whnf
 refine tst_c H (fun b2 H=>?_) (fun b2 H=>?_)
 ·conv=>whnf
  exact fi_ H
 conv=>whnf
 refine tst_c H (fun b3 H=>?_) (fun b3 H=>?_)
 ·conv=>whnf
  refine Tst.T ?_;conv=>whnf
  exact fi_ H
 conv=>whnf
 refine tst_c H (fun b4 H=>?_) (fun b4 H=>?_)
 ·conv=>whnf
  exact fi_ H
 conv=>whnf
 exact fi_ H
def gc15:BCode:=(.seq (.reg 1 [⟨(some 1),.bx (.tmp 0),none,0⟩,⟨(some 2),.mv (.const (.int .i64 0)),none,1⟩] none 0 []) (.seq (.seq (.reg 0 [⟨(some 4),.fa 0 (.tmp 1),none,0⟩,⟨(some 5),.ld 1 false (.tmp 4),none,0⟩,⟨(some 6),.cl 84 [(.tmp 5)],none,0⟩,⟨(some 7),.un .not (.tmp 6),none,0⟩] none 0 []) (.cond (.tmp 7) (.seq (.reg 0 [⟨(some 2),.mv (.const (.int .i64 11)),none,0⟩] none 0 []) .ret) .skip)) (.seq (.seq (.reg 0 [⟨(some 8),.fa 1 (.tmp 1),none,0⟩,⟨(some 9),.ld 1 false (.tmp 8),none,0⟩,⟨(some 10),.lent (.tmp 9),none,0⟩,⟨(some 11),.bin .gtr (.tmp 10) (.const (.int .i64 24)),none,0⟩] none 0 []) (.cond (.tmp 11) (.seq (.reg 0 [⟨(some 2),.mv (.const (.int .i64 5)),none,0⟩] none 0 []) .ret) .skip)) (.seq (.seq (.reg 0 [⟨(some 12),.fa 1 (.tmp 1),none,0⟩,⟨(some 13),.ld 1 false (.tmp 12),none,0⟩,⟨(some 14),.cl 85 [(.tmp 13)],none,0⟩,⟨(some 15),.un .not (.tmp 14),none,0⟩] none 0 []) (.cond (.tmp 15) (.seq (.reg 0 [⟨(some 2),.mv (.const (.int .i64 11)),none,0⟩] none 0 []) .ret) .skip)) (.seq (.seq (.reg 0 [⟨(some 16),.fa 2 (.tmp 1),none,0⟩,⟨(some 17),.ld 1 false (.tmp 16),none,0⟩,⟨(some 18),.cl 86 [(.tmp 17)],none,0⟩,⟨(some 3),.mv (.tmp 18),none,0⟩] none 0 []) (.seq (.reg 0 [⟨(some 19),.mv (.tmp 3),none,0⟩,⟨(some 20),.bin .neq (.tmp 19) (.const (.int .i64 0)),none,0⟩] none 0 []) (.cond (.tmp 20) (.seq (.reg 0 [⟨(some 21),.mv (.tmp 3),none,0⟩,⟨(some 2),.mv (.tmp 21),none,0⟩] none 0 []) .ret) .skip))) (.seq (.seq (.reg 0 [⟨(some 22),.fa 3 (.tmp 1),none,0⟩,⟨(some 23),.ld 1 false (.tmp 22),none,0⟩,⟨(some 24),.bin .lss (.tmp 23) (.const (.int .i64 0)),none,0⟩,⟨(some 25),.mv (.tmp 24),none,0⟩,⟨(some 26),.fa 3 (.tmp 1),(some (25,false)),0⟩,⟨(some 27),.ld 1 false (.tmp 26),(some (25,false)),0⟩,⟨(some 28),.bin .gtr (.tmp 27) (.const (.int .i64 1099511627776)),(some (25,false)),0⟩,⟨(some 29),.pick (.tmp 25) (.const (.bool true)) (.tmp 28),none,0⟩] none 0 []) (.cond (.tmp 29) (.seq (.reg 0 [⟨(some 2),.mv (.const (.int .i64 8)),none,0⟩] none 0 []) .ret) .skip)) (.seq (.seq (.reg 0 [⟨(some 30),.fa 1 (.tmp 1),none,0⟩,⟨(some 31),.ld 1 false (.tmp 30),none,0⟩,⟨(some 32),.bin .neq (.tmp 31) (.const (.string ⟨#[]⟩)),none,0⟩,⟨(some 33),.mv (.tmp 32),none,0⟩,⟨(some 34),.fa 4 (.tmp 1),(some (33,true)),0⟩,⟨(some 35),.ld 1 false (.tmp 34),(some (33,true)),0⟩,⟨(some 36),.un .not (.tmp 35),(some (33,true)),0⟩,⟨(some 37),.pick (.tmp 33) (.tmp 36) (.const (.bool false)),none,0⟩] none 0 []) (.cond (.tmp 37) (.seq (.reg 0 [⟨(some 2),.mv (.const (.int .i64 4)),none,0⟩] none 0 []) .ret) .skip)) (.seq (.reg 0 [⟨(some 2),.mv (.const (.int .i64 0)),none,0⟩] none 0 []) .ret))))))))
theorem gc15_ok:compF Tryz.prog Tryz.f15=some (gc15.er,38,[.tmp 2]):=by unfold gc15;kernel_rfl
theorem p_item_Check_v (a0:ItemItem):CallsO Tryz.prog 15 [.agg [.s a0.Contact,.s a0.Name,.i a0.Sub,.i a0.Ver,.b a0.Own]] V.i (p_item_Check a0):=by
 refine callsO_comp mix Tryz.func15 gc15_ok fun r H=>?_
 rw [p_item_Check] at H
 conv=>whnf
 refine ask_c (p_addr_IsBare_v _) H rfl rfl (fun v1 H=>?_);conv=>whnf
 refine Tst.not ?_
 refine tst_d H (fun b2 H=>?_) (fun b2 H=>?_)
 ·conv=>whnf
  exact fi_ H
 conv=>whnf
 refine tst_c H (fun b3 H=>?_) (fun b3 H=>?_)
 ·conv=>whnf
  exact fi_ H
 conv=>whnf
 refine ask_c (p_utf_Plain_v _) H rfl rfl (fun v4 H=>?_);conv=>whnf
 refine Tst.not ?_
 refine tst_d H (fun b5 H=>?_) (fun b5 H=>?_)
 ·conv=>whnf
  exact fi_ H
 conv=>whnf
 refine ask_c (p_subs_Check_v _) H rfl rfl (fun v6 H=>?_);conv=>whnf
 refine tst_c H (fun b7 H=>?_) (fun b7 H=>?_)
 ·conv=>whnf
  exact fi_ H
 conv=>whnf
 refine tst_c H (fun b8 H=>?_) (fun b8 H=>?_)
 ·conv=>whnf
  iterate 4 (refine Tst.T ?_;conv=>whnf)
  exact fi_ H
 conv=>whnf
 iterate 3 (refine Tst.F ?_;conv=>whnf)
 refine tst_c H (fun b9 H=>?_) (fun b9 H=>?_)
 ·conv=>whnf
  exact fi_ H
 conv=>whnf
 refine Tst.not ?_
 refine tst_c H (fun b10 H=>?_) (fun b10 H=>?_)
 ·conv=>whnf
  iterate 4 (refine Tst.F ?_;conv=>whnf)
  exact fi_ H
 conv=>whnf
 iterate 3 (refine Tst.T ?_;conv=>whnf)
 refine Tst.not ?_
 refine tst_c H (fun b11 H=>?_) (fun b11 H=>?_)
 ·conv=>whnf
  exact fi_ H
 conv=>whnf
 exact fi_ H
def gc79:BCode:=(.seq (.reg 0 [⟨(some 4),.mv (.const (.slice none 0 0)),none,0⟩,⟨(some 5),.mv (.const (.int .i64 0)),none,0⟩] none 0 []) (.seq (.seq (.reg 0 [⟨(some 6),.mv (.tmp 0),none,0⟩,⟨(some 7),.lent (.tmp 6),none,0⟩,⟨(some 8),.mv (.tmp 1),none,0⟩,⟨(some 9),.mn false (.tmp 8) (.const (.int .i64 255)),none,0⟩,⟨(some 10),.bin .gtr (.tmp 7) (.tmp 9),none,0⟩] none 0 []) (.cond (.tmp 10) (.seq (.reg 0 [⟨(some 4),.mv (.const (.slice none 0 0)),none,0⟩,⟨(some 5),.mv (.const (.int .i64 5)),none,0⟩] none 0 []) .ret) .skip)) (.seq (.reg 2 [⟨(some 11),.mv (.tmp 0),none,0⟩,⟨(some 12),.lent (.tmp 11),none,0⟩,⟨(some 13),.cvi .u8 (.tmp 12),none,0⟩,⟨(some 14),.bs 1 1 [(.lit (.int .u8 0))] [(0,(.tmp 13))],none,0⟩,⟨(some 15),.mv (.tmp 0),none,1⟩,⟨(some 16),.ap 1 1 (.tmp 14) (.tmp 15),none,1⟩,⟨(some 4),.mv (.tmp 16),none,2⟩,⟨(some 5),.mv (.const (.int .i64 0)),none,2⟩] none 0 []) .ret)))
theorem gc79_ok:compF Tryz.prog Tryz.f79=some (gc79.er,17,[.tmp 4,.tmp 5]):=by unfold gc79;kernel_rfl
theorem p_octet_Say_v (a0:ByteArray) (a1:Int):CallsO Tryz.prog 79 [.s a0,.i a1] (fun r:(List Int) × Int=>.tup [(fun l:List Int=>V.sl (l.map V.y8) false) r.1,V.i r.2]) (p_octet_Say a0 a1):=by
 refine callsO_comp mix Tryz.func79 gc79_ok fun r H=>?_
 rw [p_octet_Say] at H
 conv=>whnf
 refine tst_c H (fun b1 H=>?_) (fun b1 H=>?_)
 ·conv=>whnf
  refine finR_c (enc:=(fun r:(List Int) × Int=>.tup [(fun l:List Int=>V.sl (l.map V.y8) false) r.1,V.i r.2])) H ?_;conv=>whnf
  exact ⟨_,.tup (.cons (.c (.slw)) (.cons (.c (.id rfl)) (.nil)))⟩
 conv=>whnf
 refine Ari.w ?_;conv=>whnf
 refine appD_c (f:=V.y8) H (fun _=>rfl) rfl rfl rfl rfl (srcText _) (by decide) rfl (fun l2 H=>?_) (fun l2 H=>?_)
 ·conv=>whnf
  refine finR_c (enc:=(fun r:(List Int) × Int=>.tup [(fun l:List Int=>V.sl (l.map V.y8) false) r.1,V.i r.2])) H ?_;conv=>whnf
  exact ⟨_,.tup (.cons (.c (fzown (f:=V.y8) (l:=l2) rfl rfl (fun _=>rfl) (fun _=>rfl))) (.cons (.c (.id rfl)) (.nil)))⟩
 conv=>whnf
 refine finR_c (enc:=(fun r:(List Int) × Int=>.tup [(fun l:List Int=>V.sl (l.map V.y8) false) r.1,V.i r.2])) H ?_;conv=>whnf
 exact ⟨_,.tup (.cons (.c (fzown (f:=V.y8) (l:=l2) rfl rfl (fun _=>rfl) (fun _=>rfl))) (.cons (.c (.id rfl)) (.nil)))⟩
def gc149:BCode:=(.seq (.reg 0 [⟨(some 2),.mv (.const (.bool false)),none,0⟩] none 0 []) (.seq (.seq (.reg 0 [⟨(some 3),.mv (.tmp 0),none,0⟩] none 0 []) (.block 0 (.seq (.seq (.reg 0 [⟨(some 5),.bin .eql (.tmp 3) (.const (.int .i64 1)),none,0⟩,⟨(some 4),.mv (.tmp 5),none,0⟩] none 0 []) (.cond (.tmp 4) .skip (.seq (.reg 0 [⟨(some 6),.bin .eql (.tmp 3) (.const (.int .i64 2)),none,0⟩,⟨(some 4),.mv (.tmp 6),none,0⟩] none 0 []) (.cond (.tmp 4) .skip (.seq (.reg 0 [⟨(some 7),.bin .eql (.tmp 3) (.const (.int .i64 4)),none,0⟩,⟨(some 4),.mv (.tmp 7),none,0⟩] none 0 []) (.cond (.tmp 4) .skip (.reg 0 [⟨(some 8),.bin .eql (.tmp 3) (.const (.int .i64 6)),none,0⟩,⟨(some 4),.mv (.tmp 8),none,0⟩] none 0 []))))))) (.cond (.tmp 4) (.seq (.reg 0 [⟨(some 2),.mv (.const (.bool true)),none,0⟩] none 0 []) .ret) .skip)))) (.seq (.reg 0 [⟨(some 2),.mv (.const (.bool false)),none,0⟩] none 0 []) .ret)))
theorem gc149_ok:compF Tryz.prog Tryz.f149=some (gc149.er,9,[.tmp 2]):=by unfold gc149;kernel_rfl
theorem p_octet_wide_v (a0:Int):CallsO Tryz.prog 149 [.i a0] V.b (p_octet_wide a0):=by
 refine callsO_comp mix Tryz.func149 gc149_ok fun r H=>?_
 rw [p_octet_wide] at H
 conv=>whnf
 refine tst_c H (fun b1 H=>?_) (fun b1 H=>?_)
 ·conv=>whnf
  refine Tst.T ?_;conv=>whnf
  exact fb_ H
 conv=>whnf
 refine tst_c H (fun b2 H=>?_) (fun b2 H=>?_)
 ·conv=>whnf
  refine Tst.T ?_;conv=>whnf
  exact fb_ H
 conv=>whnf
 refine tst_c H (fun b3 H=>?_) (fun b3 H=>?_)
 ·conv=>whnf
  refine Tst.T ?_;conv=>whnf
  exact fb_ H
 conv=>whnf
 refine tst_c H (fun b4 H=>?_) (fun b4 H=>?_)
 ·conv=>whnf
  exact fb_ H
 conv=>whnf
 exact fb_ H
def gc80:BCode:=(.seq (.reg 0 [⟨(some 4),.mv (.const (.slice none 0 0)),none,0⟩,⟨(some 5),.mv (.const (.int .i64 0)),none,0⟩] none 0 []) (.seq (.seq (.reg 0 [⟨(some 8),.mv (.tmp 1),none,0⟩,⟨(some 9),.cl 149 [(.tmp 8)],none,0⟩,⟨(some 10),.un .not (.tmp 9),none,0⟩] none 0 []) (.cond (.tmp 10) (.seq (.reg 0 [⟨(some 4),.mv (.const (.slice none 0 0)),none,0⟩,⟨(some 5),.mv (.const (.int .i64 2)),none,0⟩] none 0 []) .ret) .skip)) (.seq (.seq (.reg 0 [⟨(some 11),.mv (.tmp 0),none,0⟩,⟨(some 12),.bin .lss (.tmp 11) (.const (.int .i64 0)),none,0⟩,⟨(some 13),.mv (.tmp 12),none,0⟩,⟨(some 14),.mv (.tmp 0),(some (13,false)),0⟩,⟨(some 15),.mv (.tmp 1),(some (13,false)),0⟩,⟨(some 16),.bin .mul (.const (.int .i64 8)) (.tmp 15),(some (13,false)),0⟩,⟨(some 17),.bin .shr (.tmp 14) (.tmp 16),(some (13,false)),0⟩,⟨(some 18),.bin .neq (.tmp 17) (.const (.int .i64 0)),(some (13,false)),0⟩,⟨(some 19),.pick (.tmp 13) (.const (.bool true)) (.tmp 18),none,0⟩] none 0 []) (.cond (.tmp 19) (.seq (.reg 0 [⟨(some 4),.mv (.const (.slice none 0 0)),none,0⟩,⟨(some 5),.mv (.const (.int .i64 8)),none,0⟩] none 0 []) .ret) .skip)) (.seq (.reg 1 [⟨(some 20),.mv (.tmp 1),none,0⟩,⟨(some 21),.mks 1 1 [(.lit (.int .u8 0))] (.tmp 20) (.tmp 20),none,0⟩,⟨(some 6),.mv (.tmp 21),none,1⟩] none 0 []) (.seq (.seq (.reg 0 [⟨(some 22),.mv (.tmp 1),none,0⟩,⟨(some 23),.mv (.const (.int .i64 0)),none,0⟩] none 0 []) (.block 0 (.loop (.seq (.reg 0 [⟨(some 24),.bin .lss (.tmp 23) (.tmp 22),none,0⟩] none 0 []) (.seq (.cond (.tmp 24) .skip (.exit 0)) (.seq (.block 1 (.seq (.reg 0 [⟨(some 25),.mv (.tmp 23),none,0⟩,⟨(some 7),.mv (.tmp 25),none,0⟩] none 0 []) (.reg 0 [⟨(some 26),.mv (.tmp 6),none,0⟩,⟨(some 27),.mv (.tmp 1),none,0⟩,⟨(some 28),.bin .sub (.tmp 27) (.const (.int .i64 1)),none,0⟩,⟨(some 29),.mv (.tmp 7),none,0⟩,⟨(some 30),.bin .sub (.tmp 28) (.tmp 29),none,0⟩,⟨(some 31),.mv (.tmp 0),none,0⟩,⟨(some 32),.mv (.tmp 7),none,0⟩,⟨(some 33),.bin .mul (.const (.int .i64 8)) (.tmp 32),none,0⟩,⟨(some 34),.bin .shr (.tmp 31) (.tmp 33),none,0⟩,⟨(some 35),.cvi .u8 (.tmp 34),none,0⟩,⟨(some 36),.ixs 1 (.tmp 26) (.tmp 30),none,0⟩,⟨none,.st 1 (.tmp 36) (.tmp 35),none,0⟩] none 0 []))) (.reg 0 [⟨(some 37),.bin .add (.tmp 23) (.const (.int .i64 1)),none,0⟩,⟨(some 23),.mv (.tmp 37),none,0⟩] none 0 []))))))) (.seq (.reg 0 [⟨(some 38),.mv (.tmp 6),none,0⟩,⟨(some 4),.mv (.tmp 38),none,0⟩,⟨(some 5),.mv (.const (.int .i64 0)),none,0⟩] none 0 []) .ret))))))
theorem gc80_ok:compF Tryz.prog Tryz.f80=some (gc80.er,39,[.tmp 4,.tmp 5]):=by unfold gc80;kernel_rfl
theorem p_octet_Lay_v (a0:Int) (a1:Int):CallsO Tryz.prog 80 [.i a0,.i a1] (fun r:(List Int) × Int=>.tup [(fun l:List Int=>V.sl (l.map V.y8) false) r.1,V.i r.2]) (p_octet_Lay a0 a1):=by
 refine callsO_comp mix Tryz.func80 gc80_ok fun r H=>?_
 rw [p_octet_Lay] at H
 conv=>whnf
 refine ask_c (p_octet_wide_v _) H rfl rfl (fun v1 H=>?_);conv=>whnf
 refine Tst.not ?_
 refine tst_d H (fun b2 H=>?_) (fun b2 H=>?_)
 ·conv=>whnf
  refine finR_c (enc:=(fun r:(List Int) × Int=>.tup [(fun l:List Int=>V.sl (l.map V.y8) false) r.1,V.i r.2])) H ?_;conv=>whnf
  exact ⟨_,.tup (.cons (.c (.slw)) (.cons (.c (.id rfl)) (.nil)))⟩
 conv=>whnf
 refine tst_c H (fun b3 H=>?_) (fun b3 H=>?_)
 ·conv=>whnf
  iterate 6 (refine Tst.T ?_;conv=>whnf)
  refine finR_c (enc:=(fun r:(List Int) × Int=>.tup [(fun l:List Int=>V.sl (l.map V.y8) false) r.1,V.i r.2])) H ?_;conv=>whnf
  exact ⟨_,.tup (.cons (.c (.slw)) (.cons (.c (.id rfl)) (.nil)))⟩
 conv=>whnf
 iterate 2 (refine Tst.F ?_;conv=>whnf)
 refine Ari.w ?_;conv=>whnf
 refine Tst.F ?_;conv=>whnf
 refine Shr.ok (pos_c H).1 ((fun H=>?_) (pos_c H).2);conv=>whnf
 iterate 2 (refine Tst.F ?_;conv=>whnf)
 refine tst_c H (fun b5 H=>?_) (fun b5 H=>?_)
 ·conv=>whnf
  refine finR_c (enc:=(fun r:(List Int) × Int=>.tup [(fun l:List Int=>V.sl (l.map V.y8) false) r.1,V.i r.2])) H ?_;conv=>whnf
  exact ⟨_,.tup (.cons (.c (.slw)) (.cons (.c (.id rfl)) (.nil)))⟩
 conv=>whnf
 refine mksA_c (f:=V.y8) H rfl rfl (by decide) (fun l6 H=>?_);conv=>whnf
 obtain ⟨o8,HL9,HQ10⟩:=bind_c H
 refine loop_c [23] [7,24,25,26,27,28,29,30,31,32,33,34,35,36,37,21] [7,24,25,26,27,28,29,30,31,32,33,34,35,36,37,21] (fun n vals st=>(∃ y12 y13,p_octet_Lay_l1  a1 a0 a1 a1 n y12 y13=some o8∧vals=[.i y12]∧st=[.live (cellsM V.y8 y13) 0])) fuel 1 [] (⟨_,_,HL9,rfl,rfl⟩) (Nat.zero_le _) rfl (by kernel_rfl) (by kernel_rfl) rfl (wkB_live0 rfl (cellsM_idlt (f:=V.y8) (fun _=>rfl) _) rfl trivial) ?_
 rintro (_ | n11) _ _ (⟨y12,y13,H,rfl,rfl⟩)
 ·rw [p_octet_Lay_l1] at H;cases H
 rw [p_octet_Lay_l1] at H
 conv=>whnf
 refine tst_d H (fun b14 H=>?_) (fun b14 H=>?_)
 ·conv=>whnf
  obtain rfl:=Option.some.inj H
  have H:=HQ10
  try dsimp only at H
  obtain ⟨_,h18,H⟩:=lenG_c H
  refine finRz_c (enc:=(fun r:(List Int) × Int=>.tup [(fun l:List Int=>V.sl (l.map V.y8) false) r.1,V.i r.2])) [0] H ?_;conv=>whnf
  refine ⟨Nat.zero_le _,?_⟩;conv=>whnf
  exact ⟨_,.tup (.cons (.c (fzc_made (f:=V.y8) (l:=y13) rfl rfl rfl h18 (fun _=>rfl) (fun _=>rfl))) (.cons (.c (.id rfl)) (.nil)))⟩
 conv=>whnf
 iterate 3 (refine Ari.w ?_;conv=>whnf)
 refine Shr.ok (pos_c H).1 ((fun H=>?_) (pos_c H).2);conv=>whnf
 refine Ari.w ?_;conv=>whnf
 refine ⟨rfl,ixa_c H (fun x16 h17 H=>?_)⟩;conv=>whnf
 refine ⟨Nat.zero_le _,sto_c (f:=V.y8) (es:=1) h17 (x':=IntKind.wrap .u8 (shrI .i64 a0 (w64 ((8:Int) * y12)))) (fun _=>rfl) 0 (by omega) (Nat.le_of_ble_eq_true rfl) (by rfl) ?_⟩;conv=>whnf
 refine Ari.w ?_;conv=>whnf
 exact again_c [7,24,25,26,27,28,29,30,31,32,33,34,35,36,37,21] n11 1 [] (⟨_,_,H,rfl,rfl⟩) (Nat.lt_succ_self _) (Nat.zero_le _) rfl (by kernel_rfl) (by kernel_rfl) rfl (wkB_live0 rfl (cellsM_idlt (f:=V.y8) (fun _=>rfl) _) rfl trivial)
def gc81 (c:Nat→Code):BCode:=(.seq (.reg 0 [⟨(some 2),.mv (.const (.slice none 0 0)),none,0⟩] none 0 []) (.seq (.reg 0 [⟨(some 3),.mv (.const (.int .i64 0)),none,0⟩] none 0 []) (.seq (.seq (.reg 0 [⟨(some 9),.mv (.tmp 0),none,0⟩,⟨(some 10),.lens (.tmp 9),none,0⟩,⟨(some 11),.mv (.const (.int .i64 0)),none,0⟩] none 0 []) (.block 0 (.loop (.seq (.reg 0 [⟨(some 12),.bin .lss (.tmp 11) (.tmp 10),none,0⟩] none 0 []) (.seq (.cond (.tmp 12) .skip (.exit 0)) (.seq (.block 1 (.seq (.reg 0 [⟨(some 13),.ixs 1 (.tmp 9) (.tmp 11),none,0⟩,⟨(some 14),.ld 1 false (.tmp 13),none,0⟩,⟨(some 5),.mv (.tmp 14),none,0⟩] none 0 []) (.seq (.reg 0 [⟨(some 15),.mv (.tmp 3),none,0⟩,⟨(some 16),.mv (.tmp 5),none,0⟩,⟨(some 17),.lens (.tmp 16),none,0⟩,⟨(some 18),.bin .add (.tmp 15) (.tmp 17),none,0⟩,⟨(some 3),.mv (.tmp 18),none,0⟩] none 0 []) (.seq (.reg 0 [⟨(some 19),.mv (.tmp 3),none,0⟩,⟨(some 20),.bin .lss (.tmp 19) (.const (.int .i64 0)),none,0⟩] none 0 []) (.cond (.tmp 20) (.raw (c 7)) .skip))))) (.reg 0 [⟨(some 22),.bin .add (.tmp 11) (.const (.int .i64 1)),none,0⟩,⟨(some 11),.mv (.tmp 22),none,0⟩] none 0 []))))))) (.seq (.reg 0 [⟨(some 23),.mv (.tmp 3),none,0⟩,⟨(some 24),.cl 150 [(.const (.slice none 0 0)),(.tmp 23)],none,0⟩,⟨(some 6),.mv (.tmp 24),none,0⟩] none 1 []) (.seq (.seq (.reg 0 [⟨(some 25),.mv (.tmp 0),none,0⟩,⟨(some 26),.lens (.tmp 25),none,0⟩,⟨(some 27),.mv (.const (.int .i64 0)),none,0⟩] none 0 []) (.block 2 (.loop (.seq (.reg 0 [⟨(some 28),.bin .lss (.tmp 27) (.tmp 26),none,0⟩] none 0 []) (.seq (.cond (.tmp 28) .skip (.exit 2)) (.seq (.block 3 (.seq (.reg 0 [⟨(some 29),.ixs 1 (.tmp 25) (.tmp 27),none,0⟩,⟨(some 30),.ld 1 false (.tmp 29),none,0⟩,⟨(some 8),.mv (.tmp 30),none,0⟩] none 0 []) (.reg 1 [⟨(some 31),.mv (.tmp 6),none,0⟩,⟨(some 32),.mv (.tmp 8),none,0⟩,⟨(some 33),.ap 1 1 (.tmp 31) (.tmp 32),none,0⟩,⟨(some 6),.mv (.tmp 33),none,1⟩] none 0 []))) (.reg 0 [⟨(some 34),.bin .add (.tmp 27) (.const (.int .i64 1)),none,0⟩,⟨(some 27),.mv (.tmp 34),none,0⟩] none 0 []))))))) (.seq (.reg 0 [⟨(some 35),.mv (.tmp 6),none,0⟩,⟨(some 2),.mv (.tmp 35),none,0⟩] none 0 []) .ret))))))
theorem gc81_ok:compF Tryz.prog Tryz.f81=some ((gc81 (regAt Tryz.f81)).er,36,[.tmp 2]):=by unfold gc81;kernel_rfl
theorem p_slices_Concat_byte_v {u1:Bool} (a0:List (List Int)):CallsO Tryz.prog 81 [.sl (List.map (fun l:List Int=>V.sl (l.map V.y8) false) a0) u1] (fun l:List Int=>V.sl (l.map V.y8) false) (p_slices_Concat_byte a0):=by
 refine callsO_comp mix Tryz.func81 gc81_ok fun r H=>?_
 rw [p_slices_Concat_byte] at H
 conv=>whnf
 refine LenQ.M ?_;conv=>whnf
 obtain ⟨o2,HL3,HQ4⟩:=bind_c H
 refine loop_c [3,11] [5,12,13,14,15,16,17,18,19,20,22] [5,12,13,14,15,16,17,18,19,20,22] (fun n vals st=>(∃ y6 y7,p_slices_Concat_byte_l1  a0 (a0.length:Int) n y6 y7=some o2∧vals=[.i y6,.i y7]∧st=[])) fuel 0 [] (⟨_,_,HL3,rfl,rfl⟩) (Nat.zero_le _) rfl (by kernel_rfl) (by kernel_rfl) rfl trivial ?_
 rintro (_ | n5) _ _ (⟨y6,y7,H,rfl,rfl⟩)
 ·rw [p_slices_Concat_byte_l1] at H;cases H
 rw [p_slices_Concat_byte_l1] at H
 conv=>whnf
 refine tst_c H (fun b8 H=>?_) (fun b8 H=>?_)
 ·conv=>whnf
  refine ixs_c (f:=(fun l:List Int=>V.sl (l.map V.y8) false)) H (fun _=>rfl) (fun x9 H=>?_);conv=>whnf
  refine LenQ.M ?_;conv=>whnf
  refine Ari.w ?_;conv=>whnf
  refine tst_c H (fun b10 H=>?_) (fun b10 H=>?_)
  ·conv=>whnf
   cases H
  conv=>whnf
  refine Ari.w ?_;conv=>whnf
  exact again_c [5,12,13,14,15,16,17,18,19,20,22] n5 0 [] (⟨_,_,H,rfl,rfl⟩) (Nat.lt_succ_self _) (Nat.zero_le _) rfl (by kernel_rfl) (by kernel_rfl) rfl trivial
 conv=>whnf
 obtain rfl:=Option.some.inj H
 have H:=HQ4
 try dsimp only at H
 refine grow_c (f:=V.y8) (id:=0) groR150_v H rfl (fun H=>?_) (fun H=>?_)
 ·conv=>whnf
  refine LenQ.M ?_;conv=>whnf
  obtain ⟨o22,HL23,HQ24⟩:=bind_c H
  refine loop_c [6,27] [8,28,29,30,31,32,33,34] [8,28,29,30,31,32,33,34] (fun n vals st=>(∃ y26,p_slices_Concat_byte_l2  a0 (a0.length:Int) n [] y26=some o22∧vals=[.sl (List.map V.y8 []) true,.i y26]∧st=[])∨(∃ y30 y31,p_slices_Concat_byte_l2  a0 (a0.length:Int) n y30 y31=some o22∧vals=[.osl 0 0 (List.length y30) 1 false,.i y31]∧st=[.live (cellsM V.y8 y30) (cellsM V.y8 y30).length])) fuel 0 [] (.inl (⟨_,HL23,rfl,rfl⟩)) (Nat.zero_le _) rfl (by kernel_rfl) (by kernel_rfl) rfl trivial ?_
  rintro (_ | n25) _ _ (⟨y26,H,rfl,rfl⟩ | ⟨y30,y31,H,rfl,rfl⟩)
  ·rw [p_slices_Concat_byte_l2] at H;cases H
  ·rw [p_slices_Concat_byte_l2] at H;cases H
  ·rw [p_slices_Concat_byte_l2] at H
   conv=>whnf
   refine tst_d H (fun b27 H=>?_) (fun b27 H=>?_)
   ·conv=>whnf
    obtain rfl:=Option.some.inj H
    have H:=HQ24
    try dsimp only at H
    refine finR_c (enc:=(fun l:List Int=>V.sl (l.map V.y8) false)) H ?_;conv=>whnf
    exact ⟨_,.v (.c (.slw))⟩
   conv=>whnf
   refine ixs_c (f:=(fun l:List Int=>V.sl (l.map V.y8) false)) H (fun _=>rfl) (fun x28 H=>?_);conv=>whnf
   refine appE_c (f:=V.y8) H (fun _=>rfl) rfl (.v (srcM (f:=V.y8) (fun _=>rfl) _ _)) (by decide) rfl (fun H=>?_) (fun l29 H=>?_)
   ·conv=>whnf
    refine Ari.w ?_;conv=>whnf
    exact again_c [8,28,29,30,31,32,33,34] n25 0 [] (.inl (⟨_,H,rfl,rfl⟩)) (Nat.lt_succ_self _) (Nat.zero_le _) rfl (by kernel_rfl) (by kernel_rfl) rfl trivial
   conv=>whnf
   refine Ari.w ?_;conv=>whnf
   exact again_c [8,28,29,30,31,32,33,34] n25 1 [] (.inr (⟨_,_,H,rfl,rfl⟩)) (Nat.lt_succ_self _) (Nat.zero_le _) rfl (by kernel_rfl) (by kernel_rfl) rfl (wkB_live0 rfl (cellsM_idlt (f:=V.y8) (fun _=>rfl) _) rfl trivial)
  rw [p_slices_Concat_byte_l2] at H
  conv=>whnf
  refine tst_d H (fun b32 H=>?_) (fun b32 H=>?_)
  ·conv=>whnf
   obtain rfl:=Option.some.inj H
   have H:=HQ24
   try dsimp only at H
   refine finR_c (enc:=(fun l:List Int=>V.sl (l.map V.y8) false)) H ?_;conv=>whnf
   exact ⟨_,.v (.c (fzown (f:=V.y8) (l:=y30) rfl rfl (fun _=>rfl) (fun _=>rfl)))⟩
  conv=>whnf
  refine ixs_c (f:=(fun l:List Int=>V.sl (l.map V.y8) false)) H (fun _=>rfl) (fun x33 H=>?_);conv=>whnf
  refine appP_c (f:=V.y8) H (fun _=>rfl) rfl rfl (.v (srcM (f:=V.y8) (fun _=>rfl) _ _)) (by decide) rfl (fun l34 H=>?_) (fun l34 H=>?_)
  ·conv=>whnf
   refine Ari.w ?_;conv=>whnf
   exact again_c [8,28,29,30,31,32,33,34] n25 1 [] (.inr (⟨_,_,H,rfl,rfl⟩)) (Nat.lt_succ_self _) (Nat.zero_le _) rfl (by kernel_rfl) (by kernel_rfl) rfl (wkB_live0 rfl (cellsM_idlt (f:=V.y8) (fun _=>rfl) _) rfl trivial)
  conv=>whnf
  refine Ari.w ?_;conv=>whnf
  exact again_c [8,28,29,30,31,32,33,34] n25 1 [1] (.inr (⟨_,_,H,rfl,rfl⟩)) (Nat.lt_succ_self _) (Nat.zero_le _) rfl (by kernel_rfl) (by kernel_rfl) rfl (wkB_live0 rfl (cellsM_idlt (f:=V.y8) (fun _=>rfl) _) rfl trivial)
 conv=>whnf
 refine LenQ.M ?_;conv=>whnf
 obtain ⟨o12,HL13,HQ14⟩:=bind_c H
 refine loop_c [6,27] [8,28,29,30,31,32,33,34,24] [8,28,29,30,31,32,33,34,24] (fun n vals st=>(∃ y16 y17,p_slices_Concat_byte_l2  a0 (a0.length:Int) n y16 y17=some o12∧vals=[.osl 0 0 (List.length y16) 1 false,.i y17]∧st=[.live (cellsM V.y8 y16) (cellsM V.y8 y16).length])) fuel 1 [] (⟨_,_,HL13,rfl,rfl⟩) (Nat.zero_le _) rfl (by kernel_rfl) (by kernel_rfl) rfl (wkB_live0 rfl (cellsM_idlt (f:=V.y8) (fun _=>rfl) _) rfl trivial) ?_
 rintro (_ | n15) _ _ (⟨y16,y17,H,rfl,rfl⟩)
 ·rw [p_slices_Concat_byte_l2] at H;cases H
 rw [p_slices_Concat_byte_l2] at H
 conv=>whnf
 refine tst_d H (fun b18 H=>?_) (fun b18 H=>?_)
 ·conv=>whnf
  obtain rfl:=Option.some.inj H
  have H:=HQ14
  try dsimp only at H
  refine finR_c (enc:=(fun l:List Int=>V.sl (l.map V.y8) false)) H ?_;conv=>whnf
  exact ⟨_,.v (.c (fzown (f:=V.y8) (l:=y16) rfl rfl (fun _=>rfl) (fun _=>rfl)))⟩
 conv=>whnf
 refine ixs_c (f:=(fun l:List Int=>V.sl (l.map V.y8) false)) H (fun _=>rfl) (fun x19 H=>?_);conv=>whnf
 refine appP_c (f:=V.y8) H (fun _=>rfl) rfl rfl (.v (srcM (f:=V.y8) (fun _=>rfl) _ _)) (by decide) rfl (fun l20 H=>?_) (fun l20 H=>?_)
 ·conv=>whnf
  refine Ari.w ?_;conv=>whnf
  exact again_c [8,28,29,30,31,32,33,34,24] n15 1 [] (⟨_,_,H,rfl,rfl⟩) (Nat.lt_succ_self _) (Nat.zero_le _) rfl (by kernel_rfl) (by kernel_rfl) rfl (wkB_live0 rfl (cellsM_idlt (f:=V.y8) (fun _=>rfl) _) rfl trivial)
 conv=>whnf
 refine Ari.w ?_;conv=>whnf
 exact again_c [8,28,29,30,31,32,33,34,24] n15 1 [1] (⟨_,_,H,rfl,rfl⟩) (Nat.lt_succ_self _) (Nat.zero_le _) rfl (by kernel_rfl) (by kernel_rfl) rfl (wkB_live0 rfl (cellsM_idlt (f:=V.y8) (fun _=>rfl) _) rfl trivial)
end Go.Proofs.YtpmoioopjbfhkaaGreat

/- That the program's functions yield what the plain ones tell (written by a program of mine). -/
namespace Go.Proofs.YtpmoioopjbfhkaaGreat
open Go.RowKit
set_option maxRecDepth 100000
set_option maxHeartbeats 4000000
def gc13:BCode:=(.seq (.reg 1 [⟨(some 1),.bx (.tmp 0),none,0⟩,⟨(some 2),.mv (.const (.string ⟨#[]⟩)),none,1⟩,⟨(some 3),.mv (.const (.int .i64 0)),none,1⟩] none 0 []) (.seq (.seq (.reg 0 [⟨(some 12),.ld 5 true (.tmp 1),none,0⟩,⟨(some 13),.cl 15 [(.tmp 12)],none,0⟩,⟨(some 4),.mv (.tmp 13),none,0⟩] none 0 []) (.seq (.reg 0 [⟨(some 14),.mv (.tmp 4),none,0⟩,⟨(some 15),.bin .neq (.tmp 14) (.const (.int .i64 0)),none,0⟩] none 0 []) (.cond (.tmp 15) (.seq (.reg 0 [⟨(some 16),.mv (.tmp 4),none,0⟩,⟨(some 2),.mv (.const (.string ⟨#[]⟩)),none,0⟩,⟨(some 3),.mv (.tmp 16),none,0⟩] none 0 []) .ret) .skip))) (.seq (.reg 0 [⟨(some 17),.fa 2 (.tmp 1),none,0⟩,⟨(some 18),.ld 1 false (.tmp 17),none,0⟩,⟨(some 5),.mv (.tmp 18),none,0⟩] none 0 []) (.seq (.seq (.reg 0 [⟨(some 19),.fa 4 (.tmp 1),none,0⟩,⟨(some 20),.ld 1 false (.tmp 19),none,0⟩] none 0 []) (.cond (.tmp 20) (.reg 0 [⟨(some 21),.mv (.tmp 5),none,0⟩,⟨(some 22),.bin .or (.tmp 21) (.const (.int .i64 16)),none,0⟩,⟨(some 5),.mv (.tmp 22),none,0⟩] none 0 []) .skip)) (.seq (.reg 0 [⟨(some 24),.fa 0 (.tmp 1),none,0⟩,⟨(some 25),.ld 1 false (.tmp 24),none,0⟩,⟨(some 26),.cl 79 [(.tmp 25),(.const (.int .i64 33))],none,0⟩,⟨(some 23),.mv (.tmp 26),none,0⟩,⟨(some 27),.ex (.tmp 23) 0,none,0⟩,⟨(some 28),.ex (.tmp 23) 1,none,0⟩,⟨(some 6),.mv (.tmp 27),none,0⟩,⟨(some 7),.mv (.tmp 28),none,0⟩] none 0 []) (.seq (.reg 0 [⟨(some 30),.fa 1 (.tmp 1),none,0⟩,⟨(some 31),.ld 1 false (.tmp 30),none,0⟩,⟨(some 32),.cl 79 [(.tmp 31),(.const (.int .i64 24))],none,0⟩,⟨(some 29),.mv (.tmp 32),none,0⟩,⟨(some 33),.ex (.tmp 29) 0,none,0⟩,⟨(some 34),.ex (.tmp 29) 1,none,0⟩,⟨(some 8),.mv (.tmp 33),none,0⟩,⟨(some 9),.mv (.tmp 34),none,0⟩] none 0 []) (.seq (.reg 0 [⟨(some 36),.fa 3 (.tmp 1),none,0⟩,⟨(some 37),.ld 1 false (.tmp 36),none,0⟩,⟨(some 38),.cl 80 [(.tmp 37),(.const (.int .i64 6))],none,0⟩,⟨(some 35),.mv (.tmp 38),none,0⟩,⟨(some 39),.ex (.tmp 35) 0,none,0⟩,⟨(some 40),.ex (.tmp 35) 1,none,0⟩,⟨(some 10),.mv (.tmp 39),none,0⟩,⟨(some 11),.mv (.tmp 40),none,0⟩] none 0 []) (.seq (.reg 2 [⟨(some 41),.mv (.tmp 6),none,0⟩,⟨(some 42),.mv (.tmp 8),none,0⟩,⟨(some 43),.mv (.tmp 5),none,0⟩,⟨(some 44),.cvi .u8 (.tmp 43),none,0⟩,⟨(some 45),.bs 1 1 [(.lit (.int .u8 0))] [(0,(.tmp 44))],none,0⟩,⟨(some 46),.mv (.tmp 10),none,1⟩,⟨(some 47),.bs 1 4 [(.sl [] true),(.sl [] true),(.sl [] true),(.sl [] true)] [(0,(.tmp 41)),(1,(.tmp 42)),(2,(.tmp 45)),(3,(.tmp 46))],none,1⟩,⟨(some 48),.cl 81 [(.tmp 47)],none,2⟩,⟨(some 49),.b2s (.tmp 48),none,2⟩,⟨(some 2),.mv (.tmp 49),none,2⟩,⟨(some 3),.mv (.const (.int .i64 0)),none,2⟩] none 0 []) .ret))))))))
theorem gc13_ok:compF Tryz.prog Tryz.f13=some (gc13.er,50,[.tmp 2,.tmp 3]):=by unfold gc13;kernel_rfl
theorem p_item_Put_v (a0:ItemItem):CallsO Tryz.prog 13 [.agg [.s a0.Contact,.s a0.Name,.i a0.Sub,.i a0.Ver,.b a0.Own]] (fun r:ByteArray × Int=>.tup [V.s r.1,V.i r.2]) (p_item_Put a0):=by
 refine callsO_comp mix Tryz.func13 gc13_ok fun r H=>?_
 rw [p_item_Put] at H
 conv=>whnf
 refine ask_c (p_item_Check_v _) H rfl rfl (fun v1 H=>?_);conv=>whnf
 refine tst_c H (fun b2 H=>?_) (fun b2 H=>?_)
 ·conv=>whnf
  exact fin0_c (enc:=(fun r:ByteArray × Int=>.tup [V.s r.1,V.i r.2])) H (.inr rfl) (.cons (.tmp rfl) (.cons (.tmp rfl) (.nil))) rfl rfl
 conv=>whnf
 refine tst_d H (fun b3 H=>?_) (fun b3 H=>?_)
 ·conv=>whnf
  refine ask_c (p_octet_Say_v _ _) H rfl rfl (fun v9 H=>?_);conv=>whnf
  refine ask_c (p_octet_Say_v _ _) H rfl rfl (fun v10 H=>?_);conv=>whnf
  refine ask_c (p_octet_Lay_v _ _) H rfl rfl (fun v11 H=>?_);conv=>whnf
  refine Ari.w ?_;conv=>whnf
  refine askF_c (p_slices_Concat_byte_v _) H (.cons (fzdeep (g:=(fun l:List Int=>V.sl (l.map V.y8) false)) (l:=[v9.1,v10.1,[IntKind.wrap .u8 a0.Sub],v11.1]) rfl rfl rfl rfl (fun _=>rfl) (fun _ _ h=>by rcases List.mem_singleton.1 h with rfl;rfl) (.cons (.id rfl) (.cons (.id rfl) (.cons (fzown (f:=V.y8) (l:=[IntKind.wrap .u8 a0.Sub]) rfl rfl (fun _=>rfl) (fun _=>rfl)) (.cons (.id rfl) (.nil)))))) (.nil)) (fun v12 H=>?_);conv=>whnf
  refine b2sI_c H (fun s13 H=>?_);conv=>whnf
  exact fin0_c (enc:=(fun r:ByteArray × Int=>.tup [V.s r.1,V.i r.2])) H (.inr rfl) (.cons (.tmp rfl) (.cons (.tmp rfl) (.nil))) rfl rfl
 conv=>whnf
 refine ask_c (p_octet_Say_v _ _) H rfl rfl (fun v4 H=>?_);conv=>whnf
 refine ask_c (p_octet_Say_v _ _) H rfl rfl (fun v5 H=>?_);conv=>whnf
 refine ask_c (p_octet_Lay_v _ _) H rfl rfl (fun v6 H=>?_);conv=>whnf
 refine Ari.w ?_;conv=>whnf
 refine askF_c (p_slices_Concat_byte_v _) H (.cons (fzdeep (g:=(fun l:List Int=>V.sl (l.map V.y8) false)) (l:=[v4.1,v5.1,[IntKind.wrap .u8 (orI .i64 a0.Sub (16:Int))],v6.1]) rfl rfl rfl rfl (fun _=>rfl) (fun _ _ h=>by rcases List.mem_singleton.1 h with rfl;rfl) (.cons (.id rfl) (.cons (.id rfl) (.cons (fzown (f:=V.y8) (l:=[IntKind.wrap .u8 (orI .i64 a0.Sub (16:Int))]) rfl rfl (fun _=>rfl) (fun _=>rfl)) (.cons (.id rfl) (.nil)))))) (.nil)) (fun v7 H=>?_);conv=>whnf
 refine b2sI_c H (fun s8 H=>?_);conv=>whnf
 exact fin0_c (enc:=(fun r:ByteArray × Int=>.tup [V.s r.1,V.i r.2])) H (.inr rfl) (.cons (.tmp rfl) (.cons (.tmp rfl) (.nil))) rfl rfl
def gc156:BCode:=(.seq (.reg 1 [⟨(some 2),.al (.agg [(.lit (.bool false)),(.lit (.bool false)),(.lit (.bool false)),(.lit (.bool false))]),none,0⟩] none 0 []) (.seq (.reg 0 [⟨(some 3),.mv (.tmp 0),none,0⟩,⟨(some 4),.bin .rem (.tmp 3) (.const (.int .i64 2)),none,0⟩,⟨(some 5),.bin .eql (.tmp 4) (.const (.int .i64 1)),none,0⟩,⟨(some 6),.mv (.tmp 0),none,0⟩,⟨(some 7),.bin .quo (.tmp 6) (.const (.int .i64 2)),none,0⟩,⟨(some 8),.bin .rem (.tmp 7) (.const (.int .i64 2)),none,0⟩,⟨(some 9),.bin .eql (.tmp 8) (.const (.int .i64 1)),none,0⟩,⟨(some 10),.mv (.tmp 0),none,0⟩,⟨(some 11),.bin .quo (.tmp 10) (.const (.int .i64 4)),none,0⟩,⟨(some 12),.bin .rem (.tmp 11) (.const (.int .i64 2)),none,0⟩,⟨(some 13),.bin .eql (.tmp 12) (.const (.int .i64 1)),none,0⟩,⟨(some 14),.mv (.tmp 0),none,0⟩,⟨(some 15),.bin .quo (.tmp 14) (.const (.int .i64 8)),none,0⟩,⟨(some 16),.bin .rem (.tmp 15) (.const (.int .i64 2)),none,0⟩,⟨(some 17),.bin .eql (.tmp 16) (.const (.int .i64 1)),none,0⟩,⟨(some 18),.bd [(.lit (.bool false)),(.lit (.bool false)),(.lit (.bool false)),(.lit (.bool false))] [(0,1,(.tmp 5)),(1,1,(.tmp 9)),(2,1,(.tmp 13)),(3,1,(.tmp 17))],none,0⟩,⟨none,.st 4 (.tmp 2) (.tmp 18),none,0⟩] none 0 []) .ret))
theorem gc156_ok:compF Tryz.prog Tryz.f156=some (gc156.er,19,[.cell 2 4 true]):=by unfold gc156;kernel_rfl
theorem p_ref19_of_v (a0:Int):CallsO Tryz.prog 156 [.i a0] Ref19Four.v (p_ref19_of a0):=by
 refine callsO_comp mix Tryz.func156 gc156_ok fun r H=>?_
 rw [p_ref19_of] at H
 conv=>whnf
 refine ⟨by decide,?_⟩;conv=>whnf
 refine ⟨by decide,Ari.w ?_⟩;conv=>whnf
 refine ⟨by decide,?_⟩;conv=>whnf
 refine ⟨by decide,Ari.w ?_⟩;conv=>whnf
 refine ⟨by decide,?_⟩;conv=>whnf
 refine ⟨by decide,Ari.w ?_⟩;conv=>whnf
 refine ⟨by decide,?_⟩;conv=>whnf
 refine ⟨Nat.le_of_ble_eq_true rfl,?_⟩;conv=>whnf
 exact fin0_c (enc:=Ref19Four.v) H (.inr rfl) (.cons (.cell rfl rfl (Nat.le_of_ble_eq_true rfl)) (.nil)) rfl rfl
def gc89:BCode:=(.seq (.reg 0 [⟨(some 2),.mv (.const (.int .i64 0)),none,0⟩] none 0 []) (.seq (.seq (.reg 0 [⟨(some 4),.mv (.tmp 0),none,0⟩,⟨(some 5),.bin .lss (.tmp 4) (.const (.int .i64 0)),none,0⟩,⟨(some 6),.mv (.tmp 5),none,0⟩,⟨(some 7),.mv (.tmp 0),(some (6,false)),0⟩,⟨(some 8),.bin .gtr (.tmp 7) (.const (.int .i64 15)),(some (6,false)),0⟩,⟨(some 9),.pick (.tmp 6) (.const (.bool true)) (.tmp 8),none,0⟩] none 0 []) (.cond (.tmp 9) (.seq (.reg 0 [⟨(some 2),.mv (.const (.int .i64 8)),none,0⟩] none 0 []) .ret) .skip)) (.seq (.reg 1 [⟨(some 10),.mv (.tmp 0),none,0⟩,⟨(some 11),.cl 156 [(.tmp 10)],none,0⟩,⟨(some 3),.al (.agg [(.lit (.bool false)),(.lit (.bool false)),(.lit (.bool false)),(.lit (.bool false))]),none,0⟩,⟨none,.st 4 (.tmp 3) (.tmp 11),none,1⟩] none 0 []) (.seq (.seq (.reg 0 [⟨(some 12),.fa 0 (.tmp 3),none,0⟩,⟨(some 13),.ld 1 false (.tmp 12),none,0⟩,⟨(some 14),.mv (.tmp 13),none,0⟩,⟨(some 15),.fa 2 (.tmp 3),(some (14,true)),0⟩,⟨(some 16),.ld 1 false (.tmp 15),(some (14,true)),0⟩,⟨(some 17),.pick (.tmp 14) (.tmp 16) (.const (.bool false)),none,0⟩,⟨(some 18),.mv (.tmp 17),none,0⟩,⟨(some 19),.fa 1 (.tmp 3),(some (18,false)),0⟩,⟨(some 20),.ld 1 false (.tmp 19),(some (18,false)),0⟩,⟨(some 21),.mv (.tmp 20),(some (18,false)),0⟩,⟨(some 22),.fa 3 (.tmp 3),(some (21,true)),0⟩,⟨(some 23),.ld 1 false (.tmp 22),(some (21,true)),0⟩,⟨(some 24),.pick (.tmp 21) (.tmp 23) (.const (.bool false)),(some (18,false)),0⟩,⟨(some 25),.pick (.tmp 18) (.const (.bool true)) (.tmp 24),none,0⟩] none 0 []) (.cond (.tmp 25) (.seq (.reg 0 [⟨(some 2),.mv (.const (.int .i64 4)),none,0⟩] none 0 []) .ret) .skip)) (.seq (.reg 0 [⟨(some 2),.mv (.const (.int .i64 0)),none,0⟩] none 0 []) .ret)))))
theorem gc89_ok:compF Tryz.prog Tryz.f89=some (gc89.er,26,[.tmp 2]):=by unfold gc89;kernel_rfl
theorem p_ref19_Check_v (a0:Int):CallsO Tryz.prog 89 [.i a0] V.i (p_ref19_Check a0):=by
 refine callsO_comp mix Tryz.func89 gc89_ok fun r H=>?_
 rw [p_ref19_Check] at H
 conv=>whnf
 refine tst_c H (fun b1 H=>?_) (fun b1 H=>?_)
 ·conv=>whnf
  iterate 3 (refine Tst.T ?_;conv=>whnf)
  exact fi_ H
 conv=>whnf
 iterate 2 (refine Tst.F ?_;conv=>whnf)
 refine tst_c H (fun b2 H=>?_) (fun b2 H=>?_)
 ·conv=>whnf
  exact fi_ H
 conv=>whnf
 refine ask_c (p_ref19_of_v _) H rfl rfl (fun v3 H=>?_);conv=>whnf
 refine ⟨Nat.le_of_ble_eq_true rfl,?_⟩;conv=>whnf
 refine tst_d H (fun b4 H=>?_) (fun b4 H=>?_)
 ·conv=>whnf
  iterate 5 (refine Tst.F ?_;conv=>whnf)
  refine tst_d H (fun b8 H=>?_) (fun b8 H=>?_)
  ·conv=>whnf
   iterate 5 (refine Tst.F ?_;conv=>whnf)
   exact fi_ H
  conv=>whnf
  refine Tst.T ?_;conv=>whnf
  refine Tst.F ?_;conv=>whnf
  refine Tst.T ?_;conv=>whnf
  refine Tst.F ?_;conv=>whnf
  refine tst_c H (fun b9 H=>?_) (fun b9 H=>?_)
  ·conv=>whnf
   exact fi_ H
  conv=>whnf
  exact fi_ H
 conv=>whnf
 iterate 2 (refine Tst.T ?_;conv=>whnf)
 refine tst_c H (fun b5 H=>?_) (fun b5 H=>?_)
 ·conv=>whnf
  iterate 5 (refine Tst.T ?_;conv=>whnf)
  exact fi_ H
 conv=>whnf
 iterate 2 (refine Tst.F ?_;conv=>whnf)
 refine tst_d H (fun b6 H=>?_) (fun b6 H=>?_)
 ·conv=>whnf
  iterate 5 (refine Tst.F ?_;conv=>whnf)
  exact fi_ H
 conv=>whnf
 refine Tst.T ?_;conv=>whnf
 refine Tst.F ?_;conv=>whnf
 refine Tst.T ?_;conv=>whnf
 refine Tst.F ?_;conv=>whnf
 refine tst_c H (fun b7 H=>?_) (fun b7 H=>?_)
 ·conv=>whnf
  exact fi_ H
 conv=>whnf
 exact fi_ H
def gc16:BCode:=(.seq (.reg 1 [⟨(some 1),.bx (.tmp 0),none,0⟩,⟨(some 2),.mv (.const (.int .i64 0)),none,1⟩] none 0 []) (.seq (.block 0 (.seq (.reg 0 [⟨(some 4),.fa 0 (.tmp 1),none,0⟩,⟨(some 5),.ld 1 false (.tmp 4),none,0⟩,⟨(some 6),.cl 87 [(.tmp 5)],none,0⟩,⟨(some 7),.un .not (.tmp 6),none,0⟩,⟨(some 3),.mv (.tmp 7),none,0⟩] none 0 []) (.cond (.tmp 3) (.seq (.reg 0 [⟨(some 2),.mv (.const (.int .i64 11)),none,0⟩] none 0 []) .ret) (.seq (.reg 0 [⟨(some 9),.fa 1 (.tmp 1),none,0⟩,⟨(some 10),.ld 1 false (.tmp 9),none,0⟩,⟨(some 11),.lent (.tmp 10),none,0⟩,⟨(some 12),.bin .gtr (.tmp 11) (.const (.int .i64 24)),none,0⟩,⟨(some 8),.mv (.tmp 12),none,0⟩] none 0 []) (.cond (.tmp 8) (.seq (.reg 0 [⟨(some 2),.mv (.const (.int .i64 5)),none,0⟩] none 0 []) .ret) (.seq (.reg 0 [⟨(some 14),.fa 1 (.tmp 1),none,0⟩,⟨(some 15),.ld 1 false (.tmp 14),none,0⟩,⟨(some 16),.cl 88 [(.tmp 15)],none,0⟩,⟨(some 17),.un .not (.tmp 16),none,0⟩,⟨(some 13),.mv (.tmp 17),none,0⟩] none 0 []) (.cond (.tmp 13) (.seq (.reg 0 [⟨(some 2),.mv (.const (.int .i64 11)),none,0⟩] none 0 []) .ret) (.seq (.reg 0 [⟨(some 19),.fa 2 (.tmp 1),none,0⟩,⟨(some 20),.ld 1 false (.tmp 19),none,0⟩,⟨(some 21),.cl 89 [(.tmp 20)],none,0⟩,⟨(some 22),.bin .neq (.tmp 21) (.const (.int .i64 0)),none,0⟩,⟨(some 18),.mv (.tmp 22),none,0⟩] none 0 []) (.cond (.tmp 18) (.seq (.reg 0 [⟨(some 23),.fa 2 (.tmp 1),none,0⟩,⟨(some 24),.ld 1 false (.tmp 23),none,0⟩,⟨(some 25),.cl 89 [(.tmp 24)],none,0⟩,⟨(some 2),.mv (.tmp 25),none,0⟩] none 0 []) .ret) (.seq (.reg 0 [⟨(some 27),.fa 3 (.tmp 1),none,0⟩,⟨(some 28),.ld 1 false (.tmp 27),none,0⟩,⟨(some 29),.bin .lss (.tmp 28) (.const (.int .i64 0)),none,0⟩,⟨(some 30),.mv (.tmp 29),none,0⟩,⟨(some 31),.fa 3 (.tmp 1),(some (30,false)),0⟩,⟨(some 32),.ld 1 false (.tmp 31),(some (30,false)),0⟩,⟨(some 33),.bin .gtr (.tmp 32) (.const (.int .i64 1099511627776)),(some (30,false)),0⟩,⟨(some 34),.pick (.tmp 30) (.const (.bool true)) (.tmp 33),none,0⟩,⟨(some 26),.mv (.tmp 34),none,0⟩] none 0 []) (.cond (.tmp 26) (.seq (.reg 0 [⟨(some 2),.mv (.const (.int .i64 8)),none,0⟩] none 0 []) .ret) (.seq (.reg 0 [⟨(some 36),.fa 1 (.tmp 1),none,0⟩,⟨(some 37),.ld 1 false (.tmp 36),none,0⟩,⟨(some 38),.bin .neq (.tmp 37) (.const (.string ⟨#[]⟩)),none,0⟩,⟨(some 39),.mv (.tmp 38),none,0⟩,⟨(some 40),.fa 4 (.tmp 1),(some (39,true)),0⟩,⟨(some 41),.ld 1 false (.tmp 40),(some (39,true)),0⟩,⟨(some 42),.un .not (.tmp 41),(some (39,true)),0⟩,⟨(some 43),.pick (.tmp 39) (.tmp 42) (.const (.bool false)),none,0⟩,⟨(some 35),.mv (.tmp 43),none,0⟩] none 0 []) (.cond (.tmp 35) (.seq (.reg 0 [⟨(some 2),.mv (.const (.int .i64 4)),none,0⟩] none 0 []) .ret) .skip))))))))))))) (.seq (.reg 0 [⟨(some 2),.mv (.const (.int .i64 0)),none,0⟩] none 0 []) .ret)))
theorem gc16_ok:compF Tryz.prog Tryz.f16=some (gc16.er,44,[.tmp 2]):=by unfold gc16;kernel_rfl
theorem p_ref20_Check_v (a0:ItemItem):CallsO Tryz.prog 16 [.agg [.s a0.Contact,.s a0.Name,.i a0.Sub,.i a0.Ver,.b a0.Own]] V.i (p_ref20_Check a0):=by
 refine callsO_comp mix Tryz.func16 gc16_ok fun r H=>?_
 rw [p_ref20_Check] at H
 conv=>whnf
 refine ask_c (p_ref09_IsBare_v _) H rfl rfl (fun v1 H=>?_);conv=>whnf
 refine Tst.not ?_
 refine tst_d H (fun b2 H=>?_) (fun b2 H=>?_)
 ·conv=>whnf
  exact fi_ H
 conv=>whnf
 refine tst_c H (fun b3 H=>?_) (fun b3 H=>?_)
 ·conv=>whnf
  exact fi_ H
 conv=>whnf
 refine ask_c (p_ref02_Plain_v _) H rfl rfl (fun v4 H=>?_);conv=>whnf
 refine Tst.not ?_
 refine tst_d H (fun b5 H=>?_) (fun b5 H=>?_)
 ·conv=>whnf
  exact fi_ H
 conv=>whnf
 refine ask_c (p_ref19_Check_v _) H rfl rfl (fun v6 H=>?_);conv=>whnf
 refine tst_c H (fun b7 H=>?_) (fun b7 H=>?_)
 ·conv=>whnf
  refine ask_c (p_ref19_Check_v _) H rfl rfl (fun v8 H=>?_);conv=>whnf
  exact fi_ H
 conv=>whnf
 refine tst_c H (fun b9 H=>?_) (fun b9 H=>?_)
 ·conv=>whnf
  iterate 4 (refine Tst.T ?_;conv=>whnf)
  exact fi_ H
 conv=>whnf
 iterate 3 (refine Tst.F ?_;conv=>whnf)
 refine tst_c H (fun b10 H=>?_) (fun b10 H=>?_)
 ·conv=>whnf
  exact fi_ H
 conv=>whnf
 refine Tst.not ?_
 refine tst_c H (fun b11 H=>?_) (fun b11 H=>?_)
 ·conv=>whnf
  iterate 4 (refine Tst.F ?_;conv=>whnf)
  exact fi_ H
 conv=>whnf
 iterate 3 (refine Tst.T ?_;conv=>whnf)
 refine Tst.not ?_
 refine tst_c H (fun b12 H=>?_) (fun b12 H=>?_)
 ·conv=>whnf
  exact fi_ H
 conv=>whnf
 exact fi_ H
def gc82:BCode:=(.seq (.reg 0 [⟨(some 4),.mv (.const (.slice none 0 0)),none,0⟩,⟨(some 5),.mv (.const (.int .i64 0)),none,0⟩] none 0 []) (.seq (.seq (.reg 0 [⟨(some 6),.mv (.tmp 0),none,0⟩,⟨(some 7),.lent (.tmp 6),none,0⟩,⟨(some 8),.mv (.tmp 1),none,0⟩,⟨(some 9),.bin .gtr (.tmp 7) (.tmp 8),none,0⟩,⟨(some 10),.mv (.tmp 9),none,0⟩,⟨(some 11),.mv (.tmp 0),(some (10,false)),0⟩,⟨(some 12),.lent (.tmp 11),(some (10,false)),0⟩,⟨(some 13),.bin .gtr (.tmp 12) (.const (.int .i64 255)),(some (10,false)),0⟩,⟨(some 14),.pick (.tmp 10) (.const (.bool true)) (.tmp 13),none,0⟩] none 0 []) (.cond (.tmp 14) (.seq (.reg 0 [⟨(some 4),.mv (.const (.slice none 0 0)),none,0⟩,⟨(some 5),.mv (.const (.int .i64 5)),none,0⟩] none 0 []) .ret) .skip)) (.seq (.reg 2 [⟨(some 15),.mv (.tmp 0),none,0⟩,⟨(some 16),.lent (.tmp 15),none,0⟩,⟨(some 17),.cvi .u8 (.tmp 16),none,0⟩,⟨(some 18),.bs 1 1 [(.lit (.int .u8 0))] [(0,(.tmp 17))],none,0⟩,⟨(some 19),.mv (.tmp 0),none,1⟩,⟨(some 20),.ap 1 1 (.tmp 18) (.tmp 19),none,1⟩,⟨(some 4),.mv (.tmp 20),none,2⟩,⟨(some 5),.mv (.const (.int .i64 0)),none,2⟩] none 0 []) .ret)))
theorem gc82_ok:compF Tryz.prog Tryz.f82=some (gc82.er,21,[.tmp 4,.tmp 5]):=by unfold gc82;kernel_rfl
theorem p_ref01_Say_v (a0:ByteArray) (a1:Int):CallsO Tryz.prog 82 [.s a0,.i a1] (fun r:(List Int) × Int=>.tup [(fun l:List Int=>V.sl (l.map V.y8) false) r.1,V.i r.2]) (p_ref01_Say a0 a1):=by
 refine callsO_comp mix Tryz.func82 gc82_ok fun r H=>?_
 rw [p_ref01_Say] at H
 conv=>whnf
 refine tst_c H (fun b1 H=>?_) (fun b1 H=>?_)
 ·conv=>whnf
  iterate 4 (refine Tst.T ?_;conv=>whnf)
  refine finR_c (enc:=(fun r:(List Int) × Int=>.tup [(fun l:List Int=>V.sl (l.map V.y8) false) r.1,V.i r.2])) H ?_;conv=>whnf
  exact ⟨_,.tup (.cons (.c (.slw)) (.cons (.c (.id rfl)) (.nil)))⟩
 conv=>whnf
 iterate 3 (refine Tst.F ?_;conv=>whnf)
 refine tst_c H (fun b2 H=>?_) (fun b2 H=>?_)
 ·conv=>whnf
  refine finR_c (enc:=(fun r:(List Int) × Int=>.tup [(fun l:List Int=>V.sl (l.map V.y8) false) r.1,V.i r.2])) H ?_;conv=>whnf
  exact ⟨_,.tup (.cons (.c (.slw)) (.cons (.c (.id rfl)) (.nil)))⟩
 conv=>whnf
 refine Ari.w ?_;conv=>whnf
 refine appD_c (f:=V.y8) H (fun _=>rfl) rfl rfl rfl rfl (srcText _) (by decide) rfl (fun l3 H=>?_) (fun l3 H=>?_)
 ·conv=>whnf
  refine finR_c (enc:=(fun r:(List Int) × Int=>.tup [(fun l:List Int=>V.sl (l.map V.y8) false) r.1,V.i r.2])) H ?_;conv=>whnf
  exact ⟨_,.tup (.cons (.c (fzown (f:=V.y8) (l:=l3) rfl rfl (fun _=>rfl) (fun _=>rfl))) (.cons (.c (.id rfl)) (.nil)))⟩
 conv=>whnf
 refine finR_c (enc:=(fun r:(List Int) × Int=>.tup [(fun l:List Int=>V.sl (l.map V.y8) false) r.1,V.i r.2])) H ?_;conv=>whnf
 exact ⟨_,.tup (.cons (.c (fzown (f:=V.y8) (l:=l3) rfl rfl (fun _=>rfl) (fun _=>rfl))) (.cons (.c (.id rfl)) (.nil)))⟩
def gc151:BCode:=(.seq (.reg 0 [⟨(some 2),.mv (.const (.bool false)),none,0⟩] none 0 []) (.seq (.reg 0 [⟨(some 3),.mv (.tmp 0),none,0⟩,⟨(some 4),.bin .eql (.tmp 3) (.const (.int .i64 1)),none,0⟩,⟨(some 5),.mv (.tmp 4),none,0⟩,⟨(some 6),.mv (.tmp 0),(some (5,false)),0⟩,⟨(some 7),.bin .eql (.tmp 6) (.const (.int .i64 2)),(some (5,false)),0⟩,⟨(some 8),.pick (.tmp 5) (.const (.bool true)) (.tmp 7),none,0⟩,⟨(some 9),.mv (.tmp 8),none,0⟩,⟨(some 10),.mv (.tmp 0),(some (9,false)),0⟩,⟨(some 11),.bin .eql (.tmp 10) (.const (.int .i64 4)),(some (9,false)),0⟩,⟨(some 12),.pick (.tmp 9) (.const (.bool true)) (.tmp 11),none,0⟩,⟨(some 13),.mv (.tmp 12),none,0⟩,⟨(some 14),.mv (.tmp 0),(some (13,false)),0⟩,⟨(some 15),.bin .eql (.tmp 14) (.const (.int .i64 6)),(some (13,false)),0⟩,⟨(some 16),.pick (.tmp 13) (.const (.bool true)) (.tmp 15),none,0⟩,⟨(some 2),.mv (.tmp 16),none,0⟩] none 0 []) .ret))
theorem gc151_ok:compF Tryz.prog Tryz.f151=some (gc151.er,17,[.tmp 2]):=by unfold gc151;kernel_rfl
theorem p_ref01_wide_v (a0:Int):CallsO Tryz.prog 151 [.i a0] V.b (p_ref01_wide a0):=by
 refine callsO_comp mix Tryz.func151 gc151_ok fun r H=>?_
 rw [p_ref01_wide] at H
 conv=>whnf
 refine tst_c H (fun b1 H=>?_) (fun b1 H=>?_)
 ·conv=>whnf
  iterate 8 (refine Tst.T ?_;conv=>whnf)
  exact fb_ H
 conv=>whnf
 iterate 2 (refine Tst.F ?_;conv=>whnf)
 refine tst_c H (fun b2 H=>?_) (fun b2 H=>?_)
 ·conv=>whnf
  iterate 5 (refine Tst.T ?_;conv=>whnf)
  exact fb_ H
 conv=>whnf
 iterate 2 (refine Tst.F ?_;conv=>whnf)
 refine tst_c H (fun b3 H=>?_) (fun b3 H=>?_)
 ·conv=>whnf
  iterate 2 (refine Tst.T ?_;conv=>whnf)
  exact fb_ H
 conv=>whnf
 iterate 2 (refine Tst.F ?_;conv=>whnf)
 exact fb_ H
end Go.Proofs.YtpmoioopjbfhkaaGreat

/- That the program's functions yield what the plain ones tell (written by a program of mine). -/
namespace Go.Proofs.YtpmoioopjbfhkaaGreat
open Go.RowKit
set_option maxRecDepth 100000
set_option maxHeartbeats 4000000
def gc83:BCode:=(.seq (.reg 0 [⟨(some 4),.mv (.const (.slice none 0 0)),none,0⟩,⟨(some 5),.mv (.const (.int .i64 0)),none,0⟩] none 0 []) (.seq (.seq (.reg 0 [⟨(some 8),.mv (.tmp 1),none,0⟩,⟨(some 9),.cl 151 [(.tmp 8)],none,0⟩,⟨(some 10),.un .not (.tmp 9),none,0⟩] none 0 []) (.cond (.tmp 10) (.seq (.reg 0 [⟨(some 4),.mv (.const (.slice none 0 0)),none,0⟩,⟨(some 5),.mv (.const (.int .i64 2)),none,0⟩] none 0 []) .ret) .skip)) (.seq (.seq (.reg 0 [⟨(some 11),.mv (.tmp 0),none,0⟩,⟨(some 12),.bin .lss (.tmp 11) (.const (.int .i64 0)),none,0⟩] none 0 []) (.cond (.tmp 12) (.seq (.reg 0 [⟨(some 4),.mv (.const (.slice none 0 0)),none,0⟩,⟨(some 5),.mv (.const (.int .i64 8)),none,0⟩] none 0 []) .ret) .skip)) (.seq (.reg 0 [⟨(some 6),.mv (.const (.slice none 0 0)),none,0⟩] none 0 []) (.seq (.seq (.reg 0 [⟨(some 7),.mv (.const (.int .i64 0)),none,0⟩] none 0 []) (.block 0 (.loop (.seq (.seq (.reg 0 [⟨(some 13),.mv (.tmp 7),none,0⟩,⟨(some 14),.mv (.tmp 1),none,0⟩,⟨(some 15),.bin .lss (.tmp 13) (.tmp 14),none,0⟩] none 0 []) (.cond (.tmp 15) .skip (.exit 0))) (.seq (.block 1 (.seq (.reg 2 [⟨(some 18),.mv (.tmp 0),none,0⟩,⟨(some 19),.bin .rem (.tmp 18) (.const (.int .i64 256)),none,0⟩,⟨(some 20),.cvi .u8 (.tmp 19),none,0⟩,⟨(some 21),.bs 1 1 [(.lit (.int .u8 0))] [(0,(.tmp 20))],none,0⟩,⟨(some 22),.mv (.tmp 6),none,1⟩,⟨(some 23),.ap 1 1 (.tmp 21) (.tmp 22),none,1⟩,⟨(some 6),.mv (.tmp 23),none,2⟩] none 0 []) (.reg 0 [⟨(some 24),.mv (.tmp 0),none,0⟩,⟨(some 25),.bin .quo (.tmp 24) (.const (.int .i64 256)),none,0⟩,⟨(some 0),.mv (.tmp 25),none,0⟩] none 0 []))) (.reg 0 [⟨(some 16),.mv (.tmp 7),none,0⟩,⟨(some 17),.bin .add (.tmp 16) (.const (.int .i64 1)),none,0⟩,⟨(some 7),.mv (.tmp 17),none,0⟩] none 0 [])))))) (.seq (.seq (.reg 0 [⟨(some 26),.mv (.tmp 0),none,0⟩,⟨(some 27),.bin .gtr (.tmp 26) (.const (.int .i64 0)),none,0⟩] none 0 []) (.cond (.tmp 27) (.seq (.reg 0 [⟨(some 4),.mv (.const (.slice none 0 0)),none,0⟩,⟨(some 5),.mv (.const (.int .i64 8)),none,0⟩] none 0 []) .ret) .skip)) (.seq (.reg 0 [⟨(some 28),.mv (.tmp 6),none,0⟩,⟨(some 4),.mv (.tmp 28),none,0⟩,⟨(some 5),.mv (.const (.int .i64 0)),none,0⟩] none 0 []) .ret)))))))
theorem gc83_ok:compF Tryz.prog Tryz.f83=some (gc83.er,29,[.tmp 4,.tmp 5]):=by unfold gc83;kernel_rfl
theorem p_ref01_Lay_v (a0:Int) (a1:Int):CallsO Tryz.prog 83 [.i a0,.i a1] (fun r:(List Int) × Int=>.tup [(fun l:List Int=>V.sl (l.map V.y8) false) r.1,V.i r.2]) (p_ref01_Lay a0 a1):=by
 refine callsO_comp mix Tryz.func83 gc83_ok fun r H=>?_
 rw [p_ref01_Lay] at H
 conv=>whnf
 refine ask_c (p_ref01_wide_v _) H rfl rfl (fun v1 H=>?_);conv=>whnf
 refine Tst.not ?_
 refine tst_d H (fun b2 H=>?_) (fun b2 H=>?_)
 ·conv=>whnf
  refine finR_c (enc:=(fun r:(List Int) × Int=>.tup [(fun l:List Int=>V.sl (l.map V.y8) false) r.1,V.i r.2])) H ?_;conv=>whnf
  exact ⟨_,.tup (.cons (.c (.slw)) (.cons (.c (.id rfl)) (.nil)))⟩
 conv=>whnf
 refine tst_c H (fun b3 H=>?_) (fun b3 H=>?_)
 ·conv=>whnf
  refine finR_c (enc:=(fun r:(List Int) × Int=>.tup [(fun l:List Int=>V.sl (l.map V.y8) false) r.1,V.i r.2])) H ?_;conv=>whnf
  exact ⟨_,.tup (.cons (.c (.slw)) (.cons (.c (.id rfl)) (.nil)))⟩
 conv=>whnf
 obtain ⟨o5,HL6,HQ7⟩:=bind_c H
 refine loop_c [0,6,7] [13,14,15,16,17,18,19,20,21,22,23,24,25] [13,14,15,16,17,18,19,20,21,22,23,24,25] (fun n vals st=>(∃ y9 y10,p_ref01_Lay_l1  a1 n y9 [] y10=some o5∧vals=[.i y9,.sl (List.map V.y8 []) true,.i y10]∧st=[])∨(∃ y13 y14 y15,p_ref01_Lay_l1  a1 n y13 y14 y15=some o5∧vals=[.i y13,.osl 0 0 (List.length y14) 1 false,.i y15]∧st=[.live (cellsM V.y8 y14) (cellsM V.y8 y14).length])∨(∃ y16 y17 y18,p_ref01_Lay_l1  a1 n y16 y17 y18=some o5∧vals=[.i y16,.osl 0 0 (List.length y17) 1 true,.i y18]∧st=[.live (cellsM V.y8 y17) (cellsM V.y8 y17).length])) fuel 0 [] (.inl (⟨_,_,HL6,rfl,rfl⟩)) (Nat.zero_le _) rfl (by kernel_rfl) (by kernel_rfl) rfl trivial ?_
 rintro (_ | n8) _ _ (⟨y9,y10,H,rfl,rfl⟩ | ⟨y13,y14,y15,H,rfl,rfl⟩ | ⟨y16,y17,y18,H,rfl,rfl⟩)
 ·rw [p_ref01_Lay_l1] at H;cases H
 ·rw [p_ref01_Lay_l1] at H;cases H
 ·rw [p_ref01_Lay_l1] at H;cases H
 ·rw [p_ref01_Lay_l1] at H
  conv=>whnf
  refine tst_d H (fun b11 H=>?_) (fun b11 H=>?_)
  ·conv=>whnf
   obtain rfl:=Option.some.inj H
   have H:=HQ7
   try dsimp only at H
   refine tst_c H (fun b19 H=>?_) (fun b19 H=>?_)
   ·conv=>whnf
    refine finR_c (enc:=(fun r:(List Int) × Int=>.tup [(fun l:List Int=>V.sl (l.map V.y8) false) r.1,V.i r.2])) H ?_;conv=>whnf
    exact ⟨_,.tup (.cons (.c (.slw)) (.cons (.c (.id rfl)) (.nil)))⟩
   conv=>whnf
   refine finR_c (enc:=(fun r:(List Int) × Int=>.tup [(fun l:List Int=>V.sl (l.map V.y8) false) r.1,V.i r.2])) H ?_;conv=>whnf
   exact ⟨_,.tup (.cons (.c (.slw)) (.cons (.c (.id rfl)) (.nil)))⟩
  conv=>whnf
  refine ⟨by decide,?_⟩;conv=>whnf
  refine Ari.w ?_;conv=>whnf
  refine appD_c (f:=V.y8) H (fun _=>rfl) rfl rfl rfl rfl (.v (srcM (f:=V.y8) (fun _=>rfl) [] true)) (by decide) rfl (fun l12 H=>?_) (fun l12 H=>?_)
  ·conv=>whnf
   refine ⟨by decide,Ari.w ?_⟩;conv=>whnf
   refine Ari.w ?_;conv=>whnf
   exact again_c [13,14,15,16,17,18,19,20,21,22,23,24,25] n8 1 [] (.inr (.inr (⟨_,_,_,H,rfl,rfl⟩))) (Nat.lt_succ_self _) (Nat.zero_le _) rfl (by kernel_rfl) (by kernel_rfl) rfl (wkB_live0 rfl (cellsM_idlt (f:=V.y8) (fun _=>rfl) _) rfl trivial)
  conv=>whnf
  refine ⟨by decide,Ari.w ?_⟩;conv=>whnf
  refine Ari.w ?_;conv=>whnf
  exact again_c [13,14,15,16,17,18,19,20,21,22,23,24,25] n8 1 [1] (.inr (.inl (⟨_,_,_,H,rfl,rfl⟩))) (Nat.lt_succ_self _) (Nat.zero_le _) rfl (by kernel_rfl) (by kernel_rfl) rfl (wkB_live0 rfl (cellsM_idlt (f:=V.y8) (fun _=>rfl) _) rfl trivial)
 ·rw [p_ref01_Lay_l1] at H
  conv=>whnf
  refine tst_d H (fun b20 H=>?_) (fun b20 H=>?_)
  ·conv=>whnf
   obtain rfl:=Option.some.inj H
   have H:=HQ7
   try dsimp only at H
   refine tst_c H (fun b22 H=>?_) (fun b22 H=>?_)
   ·conv=>whnf
    refine finR_c (enc:=(fun r:(List Int) × Int=>.tup [(fun l:List Int=>V.sl (l.map V.y8) false) r.1,V.i r.2])) H ?_;conv=>whnf
    exact ⟨_,.tup (.cons (.c (.slw)) (.cons (.c (.id rfl)) (.nil)))⟩
   conv=>whnf
   refine finR_c (enc:=(fun r:(List Int) × Int=>.tup [(fun l:List Int=>V.sl (l.map V.y8) false) r.1,V.i r.2])) H ?_;conv=>whnf
   exact ⟨_,.tup (.cons (.c (fzown (f:=V.y8) (l:=y14) rfl rfl (fun _=>rfl) (fun _=>rfl))) (.cons (.c (.id rfl)) (.nil)))⟩
  conv=>whnf
  refine ⟨by decide,?_⟩;conv=>whnf
  refine Ari.w ?_;conv=>whnf
  refine appD_c (f:=V.y8) H (fun _=>rfl) rfl rfl rfl rfl (.v (srcOwn (f:=V.y8) (l:=y14) (fun _=>rfl) rfl rfl rfl)) (by decide) rfl (fun l21 H=>?_) (fun l21 H=>?_)
  ·conv=>whnf
   refine ⟨by decide,Ari.w ?_⟩;conv=>whnf
   refine Ari.w ?_;conv=>whnf
   exact again_c [13,14,15,16,17,18,19,20,21,22,23,24,25] n8 1 [1] (.inr (.inr (⟨_,_,_,H,rfl,rfl⟩))) (Nat.lt_succ_self _) (Nat.zero_le _) rfl (by kernel_rfl) (by kernel_rfl) rfl (wkB_live0 rfl (cellsM_idlt (f:=V.y8) (fun _=>rfl) _) rfl trivial)
  conv=>whnf
  refine ⟨by decide,Ari.w ?_⟩;conv=>whnf
  refine Ari.w ?_;conv=>whnf
  exact again_c [13,14,15,16,17,18,19,20,21,22,23,24,25] n8 1 [2] (.inr (.inl (⟨_,_,_,H,rfl,rfl⟩))) (Nat.lt_succ_self _) (Nat.zero_le _) rfl (by kernel_rfl) (by kernel_rfl) rfl (wkB_live0 rfl (cellsM_idlt (f:=V.y8) (fun _=>rfl) _) rfl trivial)
 rw [p_ref01_Lay_l1] at H
 conv=>whnf
 refine tst_d H (fun b23 H=>?_) (fun b23 H=>?_)
 ·conv=>whnf
  obtain rfl:=Option.some.inj H
  have H:=HQ7
  try dsimp only at H
  refine tst_c H (fun b25 H=>?_) (fun b25 H=>?_)
  ·conv=>whnf
   refine finR_c (enc:=(fun r:(List Int) × Int=>.tup [(fun l:List Int=>V.sl (l.map V.y8) false) r.1,V.i r.2])) H ?_;conv=>whnf
   exact ⟨_,.tup (.cons (.c (.slw)) (.cons (.c (.id rfl)) (.nil)))⟩
  conv=>whnf
  refine finR_c (enc:=(fun r:(List Int) × Int=>.tup [(fun l:List Int=>V.sl (l.map V.y8) false) r.1,V.i r.2])) H ?_;conv=>whnf
  exact ⟨_,.tup (.cons (.c (fzown (f:=V.y8) (l:=y17) rfl rfl (fun _=>rfl) (fun _=>rfl))) (.cons (.c (.id rfl)) (.nil)))⟩
 conv=>whnf
 refine ⟨by decide,?_⟩;conv=>whnf
 refine Ari.w ?_;conv=>whnf
 refine appD_c (f:=V.y8) H (fun _=>rfl) rfl rfl rfl rfl (.v (srcOwn (f:=V.y8) (l:=y17) (fun _=>rfl) rfl rfl rfl)) (by decide) rfl (fun l24 H=>?_) (fun l24 H=>?_)
 ·conv=>whnf
  refine ⟨by decide,Ari.w ?_⟩;conv=>whnf
  refine Ari.w ?_;conv=>whnf
  exact again_c [13,14,15,16,17,18,19,20,21,22,23,24,25] n8 1 [1] (.inr (.inr (⟨_,_,_,H,rfl,rfl⟩))) (Nat.lt_succ_self _) (Nat.zero_le _) rfl (by kernel_rfl) (by kernel_rfl) rfl (wkB_live0 rfl (cellsM_idlt (f:=V.y8) (fun _=>rfl) _) rfl trivial)
 conv=>whnf
 refine ⟨by decide,Ari.w ?_⟩;conv=>whnf
 refine Ari.w ?_;conv=>whnf
 exact again_c [13,14,15,16,17,18,19,20,21,22,23,24,25] n8 1 [2] (.inr (.inl (⟨_,_,_,H,rfl,rfl⟩))) (Nat.lt_succ_self _) (Nat.zero_le _) rfl (by kernel_rfl) (by kernel_rfl) rfl (wkB_live0 rfl (cellsM_idlt (f:=V.y8) (fun _=>rfl) _) rfl trivial)
def gc14:BCode:=(.seq (.reg 1 [⟨(some 1),.bx (.tmp 0),none,0⟩,⟨(some 2),.mv (.const (.string ⟨#[]⟩)),none,1⟩,⟨(some 3),.mv (.const (.int .i64 0)),none,1⟩] none 0 []) (.seq (.seq (.reg 0 [⟨(some 11),.ld 5 true (.tmp 1),none,0⟩,⟨(some 12),.cl 16 [(.tmp 11)],none,0⟩,⟨(some 13),.bin .neq (.tmp 12) (.const (.int .i64 0)),none,0⟩] none 0 []) (.cond (.tmp 13) (.seq (.reg 0 [⟨(some 14),.ld 5 true (.tmp 1),none,0⟩,⟨(some 15),.cl 16 [(.tmp 14)],none,0⟩,⟨(some 2),.mv (.const (.string ⟨#[]⟩)),none,0⟩,⟨(some 3),.mv (.tmp 15),none,0⟩] none 0 []) .ret) .skip)) (.seq (.reg 0 [⟨(some 17),.fa 0 (.tmp 1),none,0⟩,⟨(some 18),.ld 1 false (.tmp 17),none,0⟩,⟨(some 19),.cl 82 [(.tmp 18),(.const (.int .i64 33))],none,0⟩,⟨(some 16),.mv (.tmp 19),none,0⟩,⟨(some 20),.ex (.tmp 16) 0,none,0⟩,⟨(some 21),.ex (.tmp 16) 1,none,0⟩,⟨(some 4),.mv (.tmp 20),none,0⟩,⟨(some 5),.mv (.tmp 21),none,0⟩] none 0 []) (.seq (.reg 0 [⟨(some 23),.fa 1 (.tmp 1),none,0⟩,⟨(some 24),.ld 1 false (.tmp 23),none,0⟩,⟨(some 25),.cl 82 [(.tmp 24),(.const (.int .i64 24))],none,0⟩,⟨(some 22),.mv (.tmp 25),none,0⟩,⟨(some 26),.ex (.tmp 22) 0,none,0⟩,⟨(some 27),.ex (.tmp 22) 1,none,0⟩,⟨(some 6),.mv (.tmp 26),none,0⟩,⟨(some 7),.mv (.tmp 27),none,0⟩] none 0 []) (.seq (.reg 0 [⟨(some 28),.fa 2 (.tmp 1),none,0⟩,⟨(some 29),.ld 1 false (.tmp 28),none,0⟩,⟨(some 8),.mv (.tmp 29),none,0⟩] none 0 []) (.seq (.seq (.reg 0 [⟨(some 30),.fa 4 (.tmp 1),none,0⟩,⟨(some 31),.ld 1 false (.tmp 30),none,0⟩] none 0 []) (.cond (.tmp 31) (.reg 0 [⟨(some 32),.mv (.tmp 8),none,0⟩,⟨(some 33),.bin .add (.tmp 32) (.const (.int .i64 16)),none,0⟩,⟨(some 8),.mv (.tmp 33),none,0⟩] none 0 []) .skip)) (.seq (.reg 0 [⟨(some 35),.fa 3 (.tmp 1),none,0⟩,⟨(some 36),.ld 1 false (.tmp 35),none,0⟩,⟨(some 37),.cl 83 [(.tmp 36),(.const (.int .i64 6))],none,0⟩,⟨(some 34),.mv (.tmp 37),none,0⟩,⟨(some 38),.ex (.tmp 34) 0,none,0⟩,⟨(some 39),.ex (.tmp 34) 1,none,0⟩,⟨(some 9),.mv (.tmp 38),none,0⟩,⟨(some 10),.mv (.tmp 39),none,0⟩] none 0 []) (.seq (.reg 1 [⟨(some 40),.mv (.tmp 4),none,0⟩,⟨(some 41),.b2s (.tmp 40),none,0⟩,⟨(some 42),.mv (.tmp 6),none,0⟩,⟨(some 43),.b2s (.tmp 42),none,0⟩,⟨(some 44),.bin .add (.tmp 41) (.tmp 43),none,0⟩,⟨(some 45),.mv (.tmp 8),none,0⟩,⟨(some 46),.cvi .u8 (.tmp 45),none,0⟩,⟨(some 47),.bs 1 1 [(.lit (.int .u8 0))] [(0,(.tmp 46))],none,0⟩,⟨(some 48),.b2s (.tmp 47),none,1⟩,⟨(some 49),.bin .add (.tmp 44) (.tmp 48),none,1⟩,⟨(some 50),.mv (.tmp 9),none,1⟩,⟨(some 51),.b2s (.tmp 50),none,1⟩,⟨(some 52),.bin .add (.tmp 49) (.tmp 51),none,1⟩,⟨(some 2),.mv (.tmp 52),none,1⟩,⟨(some 3),.mv (.const (.int .i64 0)),none,1⟩] none 0 []) .ret))))))))
theorem gc14_ok:compF Tryz.prog Tryz.f14=some (gc14.er,53,[.tmp 2,.tmp 3]):=by unfold gc14;kernel_rfl
theorem p_ref20_Put_v (a0:ItemItem):CallsO Tryz.prog 14 [.agg [.s a0.Contact,.s a0.Name,.i a0.Sub,.i a0.Ver,.b a0.Own]] (fun r:ByteArray × Int=>.tup [V.s r.1,V.i r.2]) (p_ref20_Put a0):=by
 refine callsO_comp mix Tryz.func14 gc14_ok fun r H=>?_
 rw [p_ref20_Put] at H
 conv=>whnf
 refine ask_c (p_ref20_Check_v _) H rfl rfl (fun v1 H=>?_);conv=>whnf
 refine tst_c H (fun b2 H=>?_) (fun b2 H=>?_)
 ·conv=>whnf
  refine ask_c (p_ref20_Check_v _) H rfl rfl (fun v3 H=>?_);conv=>whnf
  exact fin0_c (enc:=(fun r:ByteArray × Int=>.tup [V.s r.1,V.i r.2])) H (.inr rfl) (.cons (.tmp rfl) (.cons (.tmp rfl) (.nil))) rfl rfl
 conv=>whnf
 refine ask_c (p_ref01_Say_v _ _) H rfl rfl (fun v4 H=>?_);conv=>whnf
 refine ask_c (p_ref01_Say_v _ _) H rfl rfl (fun v5 H=>?_);conv=>whnf
 refine tst_d H (fun b6 H=>?_) (fun b6 H=>?_)
 ·conv=>whnf
  refine ask_c (p_ref01_Lay_v _ _) H rfl rfl (fun v15 H=>?_);conv=>whnf
  refine b2sI_c H (fun s16 H=>?_);conv=>whnf
  refine b2sI_c H (fun s17 H=>?_);conv=>whnf
  refine cat_c H (fun s18 H=>?_);conv=>whnf
  refine Ari.w ?_;conv=>whnf
  refine b2sO_c H rfl rfl rfl (fun s19 H=>?_);conv=>whnf
  refine cat_c H (fun s20 H=>?_);conv=>whnf
  refine b2sI_c H (fun s21 H=>?_);conv=>whnf
  refine cat_c H (fun s22 H=>?_);conv=>whnf
  exact fin0_c (enc:=(fun r:ByteArray × Int=>.tup [V.s r.1,V.i r.2])) H (.inr rfl) (.cons (.tmp rfl) (.cons (.tmp rfl) (.nil))) rfl rfl
 conv=>whnf
 refine Ari.w ?_;conv=>whnf
 refine ask_c (p_ref01_Lay_v _ _) H rfl rfl (fun v7 H=>?_);conv=>whnf
 refine b2sI_c H (fun s8 H=>?_);conv=>whnf
 refine b2sI_c H (fun s9 H=>?_);conv=>whnf
 refine cat_c H (fun s10 H=>?_);conv=>whnf
 refine Ari.w ?_;conv=>whnf
 refine b2sO_c H rfl rfl rfl (fun s11 H=>?_);conv=>whnf
 refine cat_c H (fun s12 H=>?_);conv=>whnf
 refine b2sI_c H (fun s13 H=>?_);conv=>whnf
 refine cat_c H (fun s14 H=>?_);conv=>whnf
 exact fin0_c (enc:=(fun r:ByteArray × Int=>.tup [V.s r.1,V.i r.2])) H (.inr rfl) (.cons (.tmp rfl) (.cons (.tmp rfl) (.nil))) rfl rfl
def gc90:BCode:=(.seq (.reg 1 [⟨(some 2),.bx (.tmp 0),none,0⟩,⟨(some 4),.mv (.const (.bool false)),none,1⟩] none 0 []) (.seq (.reg 0 [⟨(some 5),.fa 2 (.tmp 2),none,0⟩,⟨(some 6),.ld 1 false (.tmp 5),none,0⟩,⟨(some 7),.cl 86 [(.tmp 6)],none,0⟩,⟨(some 8),.bin .eql (.tmp 7) (.const (.int .i64 0)),none,0⟩,⟨(some 9),.mv (.tmp 8),none,0⟩,⟨(some 10),.fa 2 (.tmp 2),(some (9,true)),0⟩,⟨(some 11),.ld 1 false (.tmp 10),(some (9,true)),0⟩,⟨(some 12),.mv (.tmp 1),(some (9,true)),0⟩,⟨(some 13),.bin .and (.tmp 11) (.tmp 12),(some (9,true)),0⟩,⟨(some 14),.bin .neq (.tmp 13) (.const (.int .i64 0)),(some (9,true)),0⟩,⟨(some 15),.pick (.tmp 9) (.tmp 14) (.const (.bool false)),none,0⟩,⟨(some 4),.mv (.tmp 15),none,0⟩] none 0 []) .ret))
theorem gc90_ok:compF Tryz.prog Tryz.f90=some (gc90.er,16,[.tmp 4]):=by unfold gc90;kernel_rfl
theorem p_item_Item_has_v (a0:ItemItem) (a1:Int):CallsO Tryz.prog 90 [.agg [.s a0.Contact,.s a0.Name,.i a0.Sub,.i a0.Ver,.b a0.Own],.i a1] V.b (p_item_Item_has a0 a1):=by
 refine callsO_comp mix Tryz.func90 gc90_ok fun r H=>?_
 rw [p_item_Item_has] at H
 conv=>whnf
 refine ask_c (p_subs_Check_v _) H rfl rfl (fun v1 H=>?_);conv=>whnf
 refine tst_c H (fun b2 H=>?_) (fun b2 H=>?_)
 ·conv=>whnf
  iterate 5 (refine Tst.T ?_;conv=>whnf)
  exact fb_ H
 conv=>whnf
 iterate 5 (refine Tst.F ?_;conv=>whnf)
 exact fb_ H
def gc17:BCode:=(.seq (.reg 1 [⟨(some 1),.bx (.tmp 0),none,0⟩,⟨(some 2),.mv (.const (.bool false)),none,1⟩] none 0 []) (.seq (.reg 0 [⟨(some 3),.fa 4 (.tmp 1),none,0⟩,⟨(some 4),.ld 1 false (.tmp 3),none,0⟩,⟨(some 5),.mv (.tmp 4),none,0⟩,⟨(some 6),.ld 5 true (.tmp 1),(some (5,false)),0⟩,⟨(some 7),.cl 90 [(.tmp 6),(.const (.int .i64 7))],(some (5,false)),0⟩,⟨(some 8),.pick (.tmp 5) (.const (.bool true)) (.tmp 7),none,0⟩,⟨(some 2),.mv (.tmp 8),none,0⟩] none 0 []) .ret))
theorem gc17_ok:compF Tryz.prog Tryz.f17=some (gc17.er,9,[.tmp 2]):=by unfold gc17;kernel_rfl
theorem p_item_Listed_v (a0:ItemItem):CallsO Tryz.prog 17 [.agg [.s a0.Contact,.s a0.Name,.i a0.Sub,.i a0.Ver,.b a0.Own]] V.b (p_item_Listed a0):=by
 refine callsO_comp mix Tryz.func17 gc17_ok fun r H=>?_
 rw [p_item_Listed] at H
 conv=>whnf
 refine tst_c H (fun b1 H=>?_) (fun b1 H=>?_)
 ·conv=>whnf
  iterate 2 (refine Tst.T ?_;conv=>whnf)
  exact fb_ H
 conv=>whnf
 refine Tst.F ?_;conv=>whnf
 refine ask_c (p_item_Item_has_v _ _) H rfl rfl (fun v2 H=>?_);conv=>whnf
 refine Tst.F ?_;conv=>whnf
 exact fb_ H
def gc91:BCode:=(.seq (.reg 1 [⟨(some 2),.bx (.tmp 0),none,0⟩,⟨(some 4),.mv (.const (.bool false)),none,1⟩] none 0 []) (.seq (.reg 0 [⟨(some 5),.fa 2 (.tmp 2),none,0⟩,⟨(some 6),.ld 1 false (.tmp 5),none,0⟩,⟨(some 7),.cl 89 [(.tmp 6)],none,0⟩,⟨(some 8),.bin .eql (.tmp 7) (.const (.int .i64 0)),none,0⟩,⟨(some 9),.mv (.tmp 8),none,0⟩,⟨(some 10),.fa 2 (.tmp 2),(some (9,true)),0⟩,⟨(some 11),.ld 1 false (.tmp 10),(some (9,true)),0⟩,⟨(some 12),.mv (.tmp 1),(some (9,true)),0⟩,⟨(some 13),.bin .quo (.tmp 11) (.tmp 12),(some (9,true)),0⟩,⟨(some 14),.bin .rem (.tmp 13) (.const (.int .i64 2)),(some (9,true)),0⟩,⟨(some 15),.bin .eql (.tmp 14) (.const (.int .i64 1)),(some (9,true)),0⟩,⟨(some 16),.pick (.tmp 9) (.tmp 15) (.const (.bool false)),none,0⟩,⟨(some 4),.mv (.tmp 16),none,0⟩] none 0 []) .ret))
theorem gc91_ok:compF Tryz.prog Tryz.f91=some (gc91.er,17,[.tmp 4]):=by unfold gc91;kernel_rfl
theorem p_ref20_has_v (a0:ItemItem) (a1:Int):CallsO Tryz.prog 91 [.agg [.s a0.Contact,.s a0.Name,.i a0.Sub,.i a0.Ver,.b a0.Own],.i a1] V.b (p_ref20_has a0 a1):=by
 refine callsO_comp mix Tryz.func91 gc91_ok fun r H=>?_
 rw [p_ref20_has] at H
 conv=>whnf
 refine ask_c (p_ref19_Check_v _) H rfl rfl (fun v1 H=>?_);conv=>whnf
 refine tst_d H (fun b2 H=>?_) (fun b2 H=>?_)
 ·conv=>whnf
  iterate 6 (refine Tst.F ?_;conv=>whnf)
  exact fb_ H
 conv=>whnf
 iterate 3 (refine Tst.T ?_;conv=>whnf)
 refine ne0_c H (fun H=>Ari.w ?_);conv=>whnf
 refine Tst.T ?_;conv=>whnf
 refine ⟨by decide,?_⟩;conv=>whnf
 iterate 2 (refine Tst.T ?_;conv=>whnf)
 exact fb_ H
def gc18:BCode:=(.seq (.reg 1 [⟨(some 1),.bx (.tmp 0),none,0⟩,⟨(some 2),.mv (.const (.bool false)),none,1⟩] none 0 []) (.seq (.reg 0 [⟨(some 3),.fa 4 (.tmp 1),none,0⟩,⟨(some 4),.ld 1 false (.tmp 3),none,0⟩,⟨(some 5),.mv (.tmp 4),none,0⟩,⟨(some 6),.ld 5 true (.tmp 1),(some (5,false)),0⟩,⟨(some 7),.cl 91 [(.tmp 6),(.const (.int .i64 1))],(some (5,false)),0⟩,⟨(some 8),.pick (.tmp 5) (.const (.bool true)) (.tmp 7),none,0⟩,⟨(some 9),.mv (.tmp 8),none,0⟩,⟨(some 10),.ld 5 true (.tmp 1),(some (9,false)),0⟩,⟨(some 11),.cl 91 [(.tmp 10),(.const (.int .i64 2))],(some (9,false)),0⟩,⟨(some 12),.pick (.tmp 9) (.const (.bool true)) (.tmp 11),none,0⟩,⟨(some 13),.mv (.tmp 12),none,0⟩,⟨(some 14),.ld 5 true (.tmp 1),(some (13,false)),0⟩,⟨(some 15),.cl 91 [(.tmp 14),(.const (.int .i64 4))],(some (13,false)),0⟩,⟨(some 16),.pick (.tmp 13) (.const (.bool true)) (.tmp 15),none,0⟩,⟨(some 2),.mv (.tmp 16),none,0⟩] none 0 []) .ret))
theorem gc18_ok:compF Tryz.prog Tryz.f18=some (gc18.er,17,[.tmp 2]):=by unfold gc18;kernel_rfl
theorem p_ref20_Listed_v (a0:ItemItem):CallsO Tryz.prog 18 [.agg [.s a0.Contact,.s a0.Name,.i a0.Sub,.i a0.Ver,.b a0.Own]] V.b (p_ref20_Listed a0):=by
 refine callsO_comp mix Tryz.func18 gc18_ok fun r H=>?_
 rw [p_ref20_Listed] at H
 conv=>whnf
 refine tst_c H (fun b1 H=>?_) (fun b1 H=>?_)
 ·conv=>whnf
  iterate 8 (refine Tst.T ?_;conv=>whnf)
  exact fb_ H
 conv=>whnf
 refine Tst.F ?_;conv=>whnf
 refine ask_c (p_ref20_has_v _ _) H rfl rfl (fun v2 H=>?_);conv=>whnf
 refine Tst.F ?_;conv=>whnf
 refine tst_c H (fun b3 H=>?_) (fun b3 H=>?_)
 ·conv=>whnf
  iterate 5 (refine Tst.T ?_;conv=>whnf)
  exact fb_ H
 conv=>whnf
 refine Tst.F ?_;conv=>whnf
 refine ask_c (p_ref20_has_v _ _) H rfl rfl (fun v4 H=>?_);conv=>whnf
 refine Tst.F ?_;conv=>whnf
 refine tst_c H (fun b5 H=>?_) (fun b5 H=>?_)
 ·conv=>whnf
  iterate 2 (refine Tst.T ?_;conv=>whnf)
  exact fb_ H
 conv=>whnf
 refine Tst.F ?_;conv=>whnf
 refine ask_c (p_ref20_has_v _ _) H rfl rfl (fun v6 H=>?_);conv=>whnf
 refine Tst.F ?_;conv=>whnf
 exact fb_ H
def gc19:BCode:=(.seq (.reg 1 [⟨(some 1),.bx (.tmp 0),none,0⟩,⟨(some 2),.mv (.const (.bool false)),none,1⟩] none 0 []) (.seq (.reg 0 [⟨(some 3),.fa 2 (.tmp 1),none,0⟩,⟨(some 4),.ld 1 false (.tmp 3),none,0⟩,⟨(some 5),.bin .eql (.tmp 4) (.const (.int .i64 0)),none,0⟩,⟨(some 6),.mv (.tmp 5),none,0⟩,⟨(some 7),.fa 4 (.tmp 1),(some (6,true)),0⟩,⟨(some 8),.ld 1 false (.tmp 7),(some (6,true)),0⟩,⟨(some 9),.un .not (.tmp 8),(some (6,true)),0⟩,⟨(some 10),.pick (.tmp 6) (.tmp 9) (.const (.bool false)),none,0⟩,⟨(some 2),.mv (.tmp 10),none,0⟩] none 0 []) .ret))
theorem gc19_ok:compF Tryz.prog Tryz.f19=some (gc19.er,11,[.tmp 2]):=by unfold gc19;kernel_rfl
theorem p_item_Idle_v (a0:ItemItem):CallsO Tryz.prog 19 [.agg [.s a0.Contact,.s a0.Name,.i a0.Sub,.i a0.Ver,.b a0.Own]] V.b (p_item_Idle a0):=by
 refine callsO_comp mix Tryz.func19 gc19_ok fun r H=>?_
 rw [p_item_Idle] at H
 conv=>whnf
 refine tst_c H (fun b1 H=>?_) (fun b1 H=>?_)
 ·conv=>whnf
  iterate 3 (refine Tst.T ?_;conv=>whnf)
  exact fb_ H
 conv=>whnf
 iterate 3 (refine Tst.F ?_;conv=>whnf)
 exact fb_ H
def gc20:BCode:=(.seq (.reg 1 [⟨(some 1),.bx (.tmp 0),none,0⟩,⟨(some 2),.mv (.const (.bool false)),none,1⟩] none 0 []) (.seq (.reg 0 [⟨(some 3),.fa 4 (.tmp 1),none,0⟩,⟨(some 4),.ld 1 false (.tmp 3),none,0⟩,⟨(some 5),.un .not (.tmp 4),none,0⟩,⟨(some 6),.mv (.tmp 5),none,0⟩,⟨(some 7),.fa 2 (.tmp 1),(some (6,true)),0⟩,⟨(some 8),.ld 1 false (.tmp 7),(some (6,true)),0⟩,⟨(some 9),.bin .eql (.tmp 8) (.const (.int .i64 0)),(some (6,true)),0⟩,⟨(some 10),.pick (.tmp 6) (.tmp 9) (.const (.bool false)),none,0⟩,⟨(some 2),.mv (.tmp 10),none,0⟩] none 0 []) .ret))
theorem gc20_ok:compF Tryz.prog Tryz.f20=some (gc20.er,11,[.tmp 2]):=by unfold gc20;kernel_rfl
theorem p_ref20_Idle_v (a0:ItemItem):CallsO Tryz.prog 20 [.agg [.s a0.Contact,.s a0.Name,.i a0.Sub,.i a0.Ver,.b a0.Own]] V.b (p_ref20_Idle a0):=by
 refine callsO_comp mix Tryz.func20 gc20_ok fun r H=>?_
 rw [p_ref20_Idle] at H
 conv=>whnf
 refine Tst.not ?_
 refine tst_c H (fun b1 H=>?_) (fun b1 H=>?_)
 ·conv=>whnf
  iterate 3 (refine Tst.F ?_;conv=>whnf)
  exact fb_ H
 conv=>whnf
 iterate 3 (refine Tst.T ?_;conv=>whnf)
 exact fb_ H
def gc21:BCode:=(.seq (.reg 1 [⟨(some 1),.bx (.tmp 0),none,0⟩,⟨(some 2),.mv (.const (.bool false)),none,1⟩] none 0 []) (.seq (.reg 0 [⟨(some 3),.ld 5 true (.tmp 1),none,0⟩,⟨(some 4),.cl 90 [(.tmp 3),(.const (.int .i64 1))],none,0⟩,⟨(some 2),.mv (.tmp 4),none,0⟩] none 0 []) .ret))
theorem gc21_ok:compF Tryz.prog Tryz.f21=some (gc21.er,5,[.tmp 2]):=by unfold gc21;kernel_rfl
theorem p_item_Sees_v (a0:ItemItem):CallsO Tryz.prog 21 [.agg [.s a0.Contact,.s a0.Name,.i a0.Sub,.i a0.Ver,.b a0.Own]] V.b (p_item_Sees a0):=by
 refine callsO_comp mix Tryz.func21 gc21_ok fun r H=>?_
 rw [p_item_Sees] at H
 conv=>whnf
 refine ask_c (p_item_Item_has_v _ _) H rfl rfl (fun v1 H=>?_);conv=>whnf
 exact fb_ H
def gc22:BCode:=(.seq (.reg 1 [⟨(some 1),.bx (.tmp 0),none,0⟩,⟨(some 2),.mv (.const (.bool false)),none,1⟩] none 0 []) (.seq (.reg 0 [⟨(some 3),.ld 5 true (.tmp 1),none,0⟩,⟨(some 4),.cl 91 [(.tmp 3),(.const (.int .i64 1))],none,0⟩,⟨(some 2),.mv (.tmp 4),none,0⟩] none 0 []) .ret))
theorem gc22_ok:compF Tryz.prog Tryz.f22=some (gc22.er,5,[.tmp 2]):=by unfold gc22;kernel_rfl
theorem p_ref20_Sees_v (a0:ItemItem):CallsO Tryz.prog 22 [.agg [.s a0.Contact,.s a0.Name,.i a0.Sub,.i a0.Ver,.b a0.Own]] V.b (p_ref20_Sees a0):=by
 refine callsO_comp mix Tryz.func22 gc22_ok fun r H=>?_
 rw [p_ref20_Sees] at H
 conv=>whnf
 refine ask_c (p_ref20_has_v _ _) H rfl rfl (fun v1 H=>?_);conv=>whnf
 exact fb_ H
def gc23:BCode:=(.seq (.reg 1 [⟨(some 1),.bx (.tmp 0),none,0⟩,⟨(some 2),.mv (.const (.bool false)),none,1⟩] none 0 []) (.seq (.reg 0 [⟨(some 3),.ld 5 true (.tmp 1),none,0⟩,⟨(some 4),.cl 90 [(.tmp 3),(.const (.int .i64 2))],none,0⟩,⟨(some 2),.mv (.tmp 4),none,0⟩] none 0 []) .ret))
theorem gc23_ok:compF Tryz.prog Tryz.f23=some (gc23.er,5,[.tmp 2]):=by unfold gc23;kernel_rfl
theorem p_item_Seen_v (a0:ItemItem):CallsO Tryz.prog 23 [.agg [.s a0.Contact,.s a0.Name,.i a0.Sub,.i a0.Ver,.b a0.Own]] V.b (p_item_Seen a0):=by
 refine callsO_comp mix Tryz.func23 gc23_ok fun r H=>?_
 rw [p_item_Seen] at H
 conv=>whnf
 refine ask_c (p_item_Item_has_v _ _) H rfl rfl (fun v1 H=>?_);conv=>whnf
 exact fb_ H
def gc24:BCode:=(.seq (.reg 1 [⟨(some 1),.bx (.tmp 0),none,0⟩,⟨(some 2),.mv (.const (.bool false)),none,1⟩] none 0 []) (.seq (.reg 0 [⟨(some 3),.ld 5 true (.tmp 1),none,0⟩,⟨(some 4),.cl 91 [(.tmp 3),(.const (.int .i64 2))],none,0⟩,⟨(some 2),.mv (.tmp 4),none,0⟩] none 0 []) .ret))
theorem gc24_ok:compF Tryz.prog Tryz.f24=some (gc24.er,5,[.tmp 2]):=by unfold gc24;kernel_rfl
theorem p_ref20_Seen_v (a0:ItemItem):CallsO Tryz.prog 24 [.agg [.s a0.Contact,.s a0.Name,.i a0.Sub,.i a0.Ver,.b a0.Own]] V.b (p_ref20_Seen a0):=by
 refine callsO_comp mix Tryz.func24 gc24_ok fun r H=>?_
 rw [p_ref20_Seen] at H
 conv=>whnf
 refine ask_c (p_ref20_has_v _ _) H rfl rfl (fun v1 H=>?_);conv=>whnf
 exact fb_ H
end Go.Proofs.YtpmoioopjbfhkaaGreat

