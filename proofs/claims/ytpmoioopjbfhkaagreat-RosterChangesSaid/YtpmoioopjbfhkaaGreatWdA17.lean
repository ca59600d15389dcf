/- A part of the proof: 2 texts joined. -/
import Derived.Test.YtpmoioopjbfhkaaGreatWdA13
import Derived.Test.YtpmoioopjbfhkaaGreatWdA11
import Derived.KernelRfl
import Derived.Deep.RegionLaw
import Derived.Test.YtpmoioopjbfhkaaGreatWdA14
import Derived.Test.YtpmoioopjbfhkaaGreatWdA15
import Derived.Test.YtpmoioopjbfhkaaGreatWdA16
set_option linter.all false
/- slices.Delete at function 173. -/
namespace Go.Proofs.YtpmoioopjbfhkaaGreat
open Go.RowKit Go.Lib
set_option maxHeartbeats 4000000
set_option maxRecDepth 100000
theorem delS173 (b n c i j:Nat) (cs:List Value) (w:World) (hij:i < j) (hj:j≤n) (hnc:n≤c) (hbig:n≤1000000) (hcl:cs.length=n * 2) (hcs:∀ t v,cs[t]?=some v→w.cell? ⟨b,t,none⟩=some v) (hfz:∀ t,t < n * 2→w.frozen? ⟨b,t,none⟩=false) (h1c:∀ v ∈ cs,v.oneCell'=true) :
  Calls Tryz.prog 173 #[.slice (some ⟨b,0,none⟩) n c,.int .i64 i,.int .i64 j] w fun e w'=>∃ zs:List Value,zs.length=(j - i) * 2∧(∀ v ∈ zs,v.oneCell'=true)∧e=.returned (.slice (some ⟨b,0,none⟩) (n - (j - i)) c)∧w'=(w.drew.setCells b (i * 2) (cs.drop (j * 2))).setCells b ((n - (j - i)) * 2) zs:=by
 have tS:Tryz.prog.underlying 58=some (.slice 147):=by kernel_rfl
 have uS:=run_underlying tS
 have mixed:Tryz.prog.follows .mixedOrders=true:=mix
 obtain ⟨i0,z,hi0,hzs,hz0,hzc,hzb,hz1⟩:=infB2_ok (P:=Tryz.prog) (e:=147) (es:=2) (by kernel_rfl)
 have hlen:(cs.drop (j * 2)).length=(n - j) * 2:=by rw [List.length_drop,hcl];omega
 obtain ⟨Ad,hA,hsrc⟩ : ∃ Ad:Addr,(if c=j then some (⟨b,0,none⟩ : Addr) else some ⟨b,j * 2,none⟩)=some Ad∧Hid (∀ t u,(cs.drop (j * 2))[t]?=some u→w.drew.cell? (Ad.add t)=some u):=by
  by_cases h:c=j
  ·refine ⟨⟨b,0,none⟩,by simp [h],fun t u hu=>?_⟩
   have:=(List.getElem?_eq_some_iff.1 hu).1
   omega
  ·refine ⟨⟨b,j * 2,none⟩,by simp [h],fun t u hu=>?_⟩
   rw [Addr.add_lit]
   exact hcs _ u (by rwa [List.getElem?_drop] at hu)
 have s1:Hid ((cs.drop (j * 2)).length=(n - j) * 2):=hlen
 have s2:Hid (∀ u ∈ cs.drop (j * 2),u.oneCell'=true):=fun u hu=>h1c u (List.mem_of_mem_drop hu)
 have hsome:∀ t,t < n * 2→(w.drew.cell? ⟨b,t,none⟩).isSome=true:=fun t ht=>by
  show (w.cell? ⟨b,t,none⟩).isSome=true
  rw [hcs t _ (List.getElem?_eq_getElem (by omega))];rfl
 have s3:Hid (∀ t,t < (cs.drop (j * 2)).length→(w.drew.cell? ⟨b,0 + i * 2 + t,none⟩).isSome=true∧w.drew.frozen? ⟨b,0 + i * 2 + t,none⟩=false):=fun t ht=>by
  rw [Nat.zero_add]
  exact ⟨hsome _ (by omega),hfz _ (by omega)⟩
 obtain ⟨W1,hW1⟩ : ∃ W1,W1=w.drew.setCells b (0 + i * 2) (cs.drop (j * 2)):=⟨_,rfl⟩
 have hin:∀ t,t < n * 2→(W1.cell? ⟨b,t,none⟩).isSome=true:=fun t ht=>by
  rw [hW1]
  exact isSome_setCells b _ _ _ (fun q hq=>by rw [Nat.zero_add];exact hsome _ (by omega)) _ (hsome t ht)
 have hfin:∀ t,t < n * 2→W1.frozen? ⟨b,t,none⟩=false:=fun t ht=>by
  rw [hW1,World.frozen?_setCells];exact hfz t ht
 have hzl:(Builtin.zeroCells z.cells (n - (i + (n - j)))).toList.length=(n - (i + (n - j))) * 2:=by rw [Array.length_toList,size_zeroCells,hzc]
 have hz1' : ∀ m,∀ v ∈ (Builtin.zeroCells z.cells m).toList,v.oneCell'=true:=zeroCells_one hz1
 have hcl2:∀ ty,(Builtin.clear_ #[58] ty #[.slice (some ⟨b,(i + (n - j)) * 2,none⟩) (n - (i + (n - j))) (c - (i + (n - j)))]).run Tryz.prog W1=.ok (.tuple #[]) (W1.setCells b ((i + (n - j)) * 2) (Builtin.zeroCells z.cells (n - (i + (n - j)))).toList) :=
  fun ty=>run_clear_es W1 58 147 ty z 2 tS (fun w=>by simp [zeroValue,typeInfo,hi0,hz0]) hzc hz1' b _ _ _ (by omega) (fun t ht=>hin _ (by omega)) (fun t ht=>hfin _ (by omega))
 obtain ⟨ZS,hZS⟩ : ∃ ZS,ZS=(Builtin.zeroCells z.cells (n - (i + (n - j)))).toList:=⟨_,rfl⟩
 rw [← hZS] at hcl2 hzl
 have hz2:∀ v ∈ ZS,v.oneCell'=true:=by rw [hZS];exact hz1' _
 have hic:i≤c:=by omega
 have hjc:j≤c:=by omega
 have hci:¬ (c=i):=by omega
 have hne:¬ ((i:Int)=(j:Int)):=by omega
 have hb1:(i:Int)≤(j:Int):=by omega
 have hb2:¬ (c=i + (n - j)):=by omega
 have main:Calls Tryz.prog 173 #[.slice (some ⟨b,0,none⟩) n c,.int .i64 i,.int .i64 j] w fun e w'=>e=.returned (.slice (some ⟨b,0,none⟩) (i + (n - j)) c)∧w'=W1.setCells b ((i + (n - j)) * 2) ZS:=by
  have hW:Hid (W1=w.drew.setCells b (0 + i * 2) (cs.drop (j * 2))):=hW1
  clear hW1 hz0 hz1 hz1' hzb hz2 hzl hlen hcs hsome hin hfin hZS
  go_enter Tryz.func173,Tryz.ntmps173
  go_wp2_with fail
  go_region_law_o (refine step_append_room rfl (.tmp 22) (.tmp 25) 58 rfl 147 i0 2 tS hi0 hzs b 0 i c (by simp [Act.eval,Act.put]) Ad (n - j) (c - j) (cs.drop (j * 2)) (by simp [Act.eval,Act.put]) s1.out hsrc.out s2.out (by omega) s3.out ?_;rw [← hW.out])
  go_wp2
  go_ret
  first | exact ⟨rfl,rfl⟩ | trace_state
 refine main.mono ?_
 rintro e w' ⟨rfl,rfl⟩
 have he:i + (n - j)=n - (j - i):=by omega
 refine ⟨ZS,by rw [hzl];congr 1;omega,hz2,by rw [he],by rw [hW1,Nat.zero_add,he]⟩
theorem delR173_v:DelRoads Tryz.prog 173 2:=⟨delS173⟩
end Go.Proofs.YtpmoioopjbfhkaaGreat

/- That the program's functions yield what the plain ones tell (written by a program of mine). -/
namespace Go.Proofs.YtpmoioopjbfhkaaGreat
open Go.RowKit
set_option maxRecDepth 100000
set_option maxHeartbeats 4000000
def gc109:BCode:=(.seq (.reg 3 [⟨(some 2),.bx (.tmp 0),none,0⟩,⟨(some 3),.bx (.tmp 1),none,1⟩,⟨(some 4),.al (.agg [(.lit (.int .i64 0)),(.lit (.int .i64 0)),(.sl [] true),(.sl [] true)]),none,2⟩] none 0 []) (.seq (.reg 0 [⟨(some 10),.ld 4 true (.tmp 2),none,0⟩,⟨(some 11),.fa 0 (.tmp 3),none,0⟩,⟨(some 12),.ld 1 false (.tmp 11),none,0⟩,⟨(some 13),.cl 113 [(.tmp 10),(.tmp 12)],none,0⟩,⟨(some 9),.mv (.tmp 13),none,0⟩,⟨(some 14),.ex (.tmp 9) 0,none,0⟩,⟨(some 15),.ex (.tmp 9) 1,none,0⟩,⟨(some 5),.mv (.tmp 14),none,0⟩,⟨(some 6),.mv (.tmp 15),none,0⟩] none 0 []) (.seq (.reg 0 [⟨(some 16),.mv (.tmp 6),none,0⟩,⟨(some 17),.mv (.tmp 16),none,0⟩,⟨(some 18),.fa 2 (.tmp 2),(some (17,true)),0⟩,⟨(some 19),.ld 1 false (.tmp 18),(some (17,true)),0⟩,⟨(some 20),.mv (.tmp 5),(some (17,true)),0⟩,⟨(some 21),.ixs 5 (.tmp 19) (.tmp 20),(some (17,true)),0⟩,⟨(some 22),.ld 5 true (.tmp 21),(some (17,true)),0⟩,⟨(some 23),.cl 17 [(.tmp 22)],(some (17,true)),0⟩,⟨(some 24),.pick (.tmp 17) (.tmp 23) (.const (.bool false)),none,0⟩,⟨(some 7),.mv (.tmp 24),none,0⟩] none 0 []) (.seq (.reg 0 [⟨(some 25),.ld 5 true (.tmp 3),none,0⟩,⟨(some 26),.cl 17 [(.tmp 25)],none,0⟩,⟨(some 8),.mv (.tmp 26),none,0⟩] none 0 []) (.seq (.reg 0 [⟨(some 27),.fa 0 (.tmp 2),none,0⟩,⟨(some 28),.ld 1 false (.tmp 27),none,0⟩,⟨(some 29),.bin .add (.tmp 28) (.const (.int .i64 1)),none,0⟩,⟨(some 30),.fa 0 (.tmp 2),none,0⟩,⟨none,.st 1 (.tmp 30) (.tmp 29),none,0⟩] none 0 []) (.seq (.reg 0 [⟨(some 31),.fa 0 (.tmp 2),none,0⟩,⟨(some 32),.ld 1 false (.tmp 31),none,0⟩,⟨(some 33),.fa 3 (.tmp 3),none,0⟩,⟨none,.st 1 (.tmp 33) (.tmp 32),none,0⟩] none 0 []) (.seq (.block 0 (.seq (.reg 0 [⟨(some 35),.mv (.tmp 6),none,0⟩,⟨(some 36),.mv (.tmp 35),none,0⟩,⟨(some 37),.ld 5 true (.tmp 3),(some (36,true)),0⟩,⟨(some 38),.cl 19 [(.tmp 37)],(some (36,true)),0⟩,⟨(some 39),.pick (.tmp 36) (.tmp 38) (.const (.bool false)),none,0⟩,⟨(some 34),.mv (.tmp 39),none,0⟩] none 0 []) (.cond (.tmp 34) (.reg 0 [⟨(some 40),.fa 2 (.tmp 2),none,0⟩,⟨(some 41),.ld 1 false (.tmp 40),none,0⟩,⟨(some 42),.mv (.tmp 5),none,0⟩,⟨(some 43),.mv (.tmp 5),none,0⟩,⟨(some 44),.bin .add (.tmp 43) (.const (.int .i64 1)),none,0⟩,⟨(some 45),.cl 169 [(.tmp 41),(.tmp 42),(.tmp 44)],none,0⟩,⟨(some 46),.fa 2 (.tmp 2),none,0⟩,⟨none,.st 1 (.tmp 46) (.tmp 45),none,0⟩] none 0 []) (.seq (.reg 0 [⟨(some 48),.mv (.tmp 6),none,0⟩,⟨(some 47),.mv (.tmp 48),none,0⟩] none 0 []) (.cond (.tmp 47) (.reg 0 [⟨(some 49),.fa 2 (.tmp 2),none,0⟩,⟨(some 50),.ld 1 false (.tmp 49),none,0⟩,⟨(some 51),.mv (.tmp 5),none,0⟩,⟨(some 52),.ld 5 true (.tmp 3),none,0⟩,⟨(some 53),.ixs 5 (.tmp 50) (.tmp 51),none,0⟩,⟨none,.st 5 (.tmp 53) (.tmp 52),none,0⟩] none 0 []) (.seq (.reg 0 [⟨(some 55),.ld 5 true (.tmp 3),none,0⟩,⟨(some 56),.cl 19 [(.tmp 55)],none,0⟩,⟨(some 57),.un .not (.tmp 56),none,0⟩,⟨(some 54),.mv (.tmp 57),none,0⟩] none 0 []) (.cond (.tmp 54) (.reg 1 [⟨(some 58),.fa 2 (.tmp 2),none,0⟩,⟨(some 59),.ld 1 false (.tmp 58),none,0⟩,⟨(some 60),.mv (.tmp 5),none,0⟩,⟨(some 61),.ld 5 true (.tmp 3),none,0⟩,⟨(some 62),.bs 5 1 [(.lit (.string ⟨#[]⟩)),(.lit (.string ⟨#[]⟩)),(.lit (.int .i64 0)),(.lit (.int .i64 0)),(.lit (.bool false))] [(0,(.tmp 61))],none,0⟩,⟨(some 63),.cl 170 [(.tmp 59),(.tmp 60),(.tmp 62)],none,1⟩,⟨(some 64),.fa 2 (.tmp 2),none,1⟩,⟨none,.st 1 (.tmp 64) (.tmp 63),none,1⟩] none 0 []) .skip))))))) (.seq (.seq (.reg 0 [⟨(some 65),.mv (.tmp 7),none,0⟩,⟨(some 66),.mv (.tmp 65),none,0⟩,⟨(some 67),.mv (.tmp 8),(some (66,false)),0⟩,⟨(some 68),.pick (.tmp 66) (.const (.bool true)) (.tmp 67),none,0⟩] none 0 []) (.cond (.tmp 68) (.reg 0 [⟨(some 69),.fa 3 (.tmp 2),none,0⟩,⟨(some 70),.ld 1 false (.tmp 69),none,0⟩,⟨(some 71),.mf (.func 172) [(.tmp 3)],none,0⟩,⟨(some 72),.cl 171 [(.tmp 70),(.tmp 71)],none,0⟩,⟨(some 73),.fa 3 (.tmp 2),none,0⟩,⟨none,.st 1 (.tmp 73) (.tmp 72),none,0⟩] none 0 [3]) .skip)) (.seq (.seq (.reg 0 [⟨(some 74),.mv (.tmp 7),none,0⟩,⟨(some 75),.mv (.tmp 74),none,0⟩,⟨(some 76),.mv (.tmp 8),(some (75,true)),0⟩,⟨(some 77),.un .not (.tmp 76),(some (75,true)),0⟩,⟨(some 78),.pick (.tmp 75) (.tmp 77) (.const (.bool false)),none,0⟩] none 0 []) (.cond (.tmp 78) (.reg 2 [⟨(some 79),.fa 3 (.tmp 2),none,0⟩,⟨(some 80),.ld 1 false (.tmp 79),none,0⟩,⟨(some 81),.fa 0 (.tmp 3),none,0⟩,⟨(some 82),.ld 1 false (.tmp 81),none,0⟩,⟨(some 83),.fa 0 (.tmp 2),none,0⟩,⟨(some 84),.ld 1 false (.tmp 83),none,0⟩,⟨(some 85),.bd [(.lit (.string ⟨#[]⟩)),(.lit (.int .i64 0))] [(0,1,(.tmp 82)),(1,1,(.tmp 84))],none,0⟩,⟨(some 86),.bs 2 1 [(.lit (.string ⟨#[]⟩)),(.lit (.int .i64 0))] [(0,(.tmp 85))],none,0⟩,⟨(some 87),.ap 2 24 (.tmp 80) (.tmp 86),none,1⟩,⟨(some 88),.fa 3 (.tmp 2),none,2⟩,⟨none,.st 1 (.tmp 88) (.tmp 87),none,2⟩] none 0 []) .skip)) (.seq (.seq (.reg 0 [⟨(some 89),.fa 3 (.tmp 2),none,0⟩,⟨(some 90),.ld 1 false (.tmp 89),none,0⟩,⟨(some 91),.lens (.tmp 90),none,0⟩,⟨(some 92),.bin .gtr (.tmp 91) (.const (.int .i64 8)),none,0⟩] none 0 []) (.cond (.tmp 92) (.seq (.reg 0 [⟨(some 93),.fa 3 (.tmp 2),none,0⟩,⟨(some 94),.ld 1 false (.tmp 93),none,0⟩,⟨(some 95),.ixs 2 (.tmp 94) (.const (.int .i64 0)),none,0⟩,⟨(some 96),.fa 1 (.tmp 95),none,0⟩,⟨(some 97),.ld 1 false (.tmp 96),none,0⟩,⟨(some 98),.fa 1 (.tmp 2),none,0⟩,⟨none,.st 1 (.tmp 98) (.tmp 97),none,0⟩] none 0 []) (.reg 0 [⟨(some 99),.fa 3 (.tmp 2),none,0⟩,⟨(some 100),.ld 1 false (.tmp 99),none,0⟩,⟨(some 101),.cl 173 [(.tmp 100),(.const (.int .i64 0)),(.const (.int .i64 1))],none,0⟩,⟨(some 102),.fa 3 (.tmp 2),none,0⟩,⟨none,.st 1 (.tmp 102) (.tmp 101),none,0⟩] none 0 [])) .skip)) (.seq (.reg 0 [⟨(some 103),.ld 4 true (.tmp 2),none,0⟩,⟨none,.st 4 (.tmp 4) (.tmp 103),none,0⟩] none 0 []) .ret)))))))))))
theorem gc109_ok:compF Tryz.prog Tryz.f109=some (gc109.er,104,[.cell 4 4 true]):=by unfold gc109;kernel_rfl
theorem p_roster_State_change_oo (s_0:Int) (s_1:Int) (s_2:List ItemItem) (s_3:List RosterGone) (a1:ItemItem) {R O:List V} {xs:Slot} (hR:V.idlt.belowL 5 R=true) (hO:V.idlt.belowL 5 O=true) (hX:xs.ok5=true) (s:RosterState) (H:p_roster_State_change (RosterState.mk s_0 s_1 s_2 s_3) a1=some s):CallsS Tryz.prog 109 [.agg [.i s_0,.i s_1,.osl 2 0 (List.length s_2) 5 false,.osl 3 0 (List.length s_3) 2 false],.agg [.s a1.Contact,.s a1.Name,.i a1.Sub,.i a1.Ver,.b a1.Own]] [.live R 0,.live O 0,.live (cellsM ItemItem.v s_2) 0,.live (cellsM RosterGone.v s_3) 0,xs] (RosterState.v s) [.live R 0,.live O 0,.dead,.dead,xs]:=by
 rcases xs with _ | _ | ⟨X,_ | fX⟩ <;> first | (cases hX;done) | skip
 all_goals
  refine callsR_c (n0:=5) mix Tryz.func109 gc109_ok rfl ?_
  rw [p_roster_State_change] at H
  conv=>whnf
  refine askT_c [3,2] (p_roster_State_find_v _ _) H (.cons (fzagg (.cons (.id rfl) (.cons (.id rfl) (.cons (fzown (f:=ItemItem.v) (l:=s_2) rfl rfl (fun _=>rfl) (fun _=>rfl)) (.cons (fzown (f:=RosterGone.v) (l:=s_3) rfl rfl (fun _=>rfl) (fun _=>rfl)) (.nil))))) rfl) (.cons (.c (.id rfl)) (.nil))) (fun _=>rfl) (fun v1 H=>?_);conv=>whnf
  refine tst_d H (fun b2 H=>?_) (fun b2 H=>?_)
  ·conv=>whnf
   iterate 6 (refine Tst.F ?_;conv=>whnf)
   refine ask_c (p_item_Listed_v _) H rfl rfl (fun v56 H=>?_);conv=>whnf
   refine Ari.w ?_;conv=>whnf
   refine ⟨Nat.le_of_ble_eq_true rfl,?_⟩;conv=>whnf
   refine ⟨Nat.le_of_ble_eq_true rfl,?_⟩;conv=>whnf
   refine Tst.isF b2 ?_;conv=>whnf
   iterate 3 (refine Tst.F ?_;conv=>whnf)
   refine Tst.isF b2 ?_;conv=>whnf
   refine ask_c (p_item_Idle_v _) H rfl rfl (fun v57 H=>?_);conv=>whnf
   refine Tst.not ?_
   refine tst_d H (fun b58 H=>?_) (fun b58 H=>?_)
   ·conv=>whnf
    refine insO_c (f:=ItemItem.v) insR170_v H (by decide) (fun _=>rfl) (fun _=>rfl) (fun _=>rfl) rfl rfl rfl (fun v69 H=>?_);conv=>whnf
    refine ⟨Nat.le_of_ble_eq_true rfl,?_⟩;conv=>whnf
    iterate 2 (refine Tst.F ?_;conv=>whnf)
    refine tst_d H (fun b70 H=>?_) (fun b70 H=>?_)
    ·conv=>whnf
     iterate 4 (refine Tst.F ?_;conv=>whnf)
     refine tst_d H (fun b76 H=>?_) (fun b76 H=>?_)
     ·conv=>whnf
      refine ⟨Nat.le_of_ble_eq_true rfl,?_⟩;conv=>whnf
      refine finW_c (enc:=RosterState.v) [3] (.inr rfl) H rfl hR hO hX ?_;conv=>whnf
      refine ⟨Nat.zero_le _,?_⟩;conv=>whnf
      refine ⟨⟨rfl,rfl,rfl⟩,?_⟩;conv=>whnf
      exact ⟨_,_,_,rfl,rfl,.cons (.id rfl) (.cons (.id rfl) (.cons (.id rfl) (.cons (fzown (f:=RosterGone.v) (l:=s_3) rfl rfl (fun _=>rfl) (fun _=>rfl)) (.nil)))),rfl⟩
     conv=>whnf
     refine ⟨rfl,ixo_c H (fun x77 h78 H=>?_)⟩;conv=>whnf
     refine ldo_c (f:=RosterGone.v) (es:=2) h78 (fun _=>rfl) 1 (by omega) (by decide) ?_;conv=>whnf
     refine ⟨Nat.le_of_ble_eq_true rfl,?_⟩;conv=>whnf
     refine delO_c (f:=RosterGone.v) delR173_v H (fun _=>rfl) (fun _=>rfl) rfl rfl (fun v79 H=>?_);conv=>whnf
     refine ⟨Nat.le_of_ble_eq_true rfl,?_⟩;conv=>whnf
     refine ⟨Nat.le_of_ble_eq_true rfl,?_⟩;conv=>whnf
     refine finW_c (enc:=RosterState.v) [3] (.inr rfl) H rfl hR hO hX ?_;conv=>whnf
     refine ⟨Nat.zero_le _,?_⟩;conv=>whnf
     refine ⟨⟨rfl,rfl,rfl⟩,?_⟩;conv=>whnf
     exact ⟨_,_,_,rfl,rfl,.cons (.id rfl) (.cons (.id rfl) (.cons (.id rfl) (.cons (fzown (f:=RosterGone.v) (l:=v79) rfl rfl (fun _=>rfl) (fun _=>rfl)) (.nil)))),rfl⟩
    conv=>whnf
    refine ⟨Nat.zero_le _,?_⟩;conv=>whnf
    refine dfO_c (f:=RosterGone.v) delF171_v H (⟨⟨_,Tryz.func172,by kernel_rfl,by kernel_rfl⟩,rfl,fun x0=>p_roster_State_change_1_v _ _⟩) (.clo (.cons (.ptr rfl (Nat.le_of_ble_eq_true rfl) (.cons (.id rfl) (.cons (.id rfl) (.cons (.id rfl) (.cons (.id rfl) (.cons (.id rfl) (.nil))))))) (.nil))) (fun _=>rfl) (fun _=>rfl) rfl rfl (fun v71 H=>?_);conv=>whnf
    refine ⟨Nat.le_of_ble_eq_true rfl,?_⟩;conv=>whnf
    iterate 4 (refine Tst.F ?_;conv=>whnf)
    refine tst_d H (fun b72 H=>?_) (fun b72 H=>?_)
    ·conv=>whnf
     refine ⟨Nat.le_of_ble_eq_true rfl,?_⟩;conv=>whnf
     refine finW_c (enc:=RosterState.v) [3] (.inr rfl) H rfl hR hO hX ?_;conv=>whnf
     refine ⟨Nat.zero_le _,?_⟩;conv=>whnf
     refine ⟨⟨rfl,rfl,rfl⟩,?_⟩;conv=>whnf
     exact ⟨_,_,_,rfl,rfl,.cons (.id rfl) (.cons (.id rfl) (.cons (.id rfl) (.cons (fzown (f:=RosterGone.v) (l:=v71) rfl rfl (fun _=>rfl) (fun _=>rfl)) (.nil)))),rfl⟩
    conv=>whnf
    refine ⟨rfl,ixo_c H (fun x73 h74 H=>?_)⟩;conv=>whnf
    refine ldo_c (f:=RosterGone.v) (es:=2) h74 (fun _=>rfl) 1 (by omega) (by decide) ?_;conv=>whnf
    refine ⟨Nat.le_of_ble_eq_true rfl,?_⟩;conv=>whnf
    refine delO_c (f:=RosterGone.v) delR173_v H (fun _=>rfl) (fun _=>rfl) rfl rfl (fun v75 H=>?_);conv=>whnf
    refine ⟨Nat.le_of_ble_eq_true rfl,?_⟩;conv=>whnf
    refine ⟨Nat.le_of_ble_eq_true rfl,?_⟩;conv=>whnf
    refine finW_c (enc:=RosterState.v) [3] (.inr rfl) H rfl hR hO hX ?_;conv=>whnf
    refine ⟨Nat.zero_le _,?_⟩;conv=>whnf
    refine ⟨⟨rfl,rfl,rfl⟩,?_⟩;conv=>whnf
    exact ⟨_,_,_,rfl,rfl,.cons (.id rfl) (.cons (.id rfl) (.cons (.id rfl) (.cons (fzown (f:=RosterGone.v) (l:=v75) rfl rfl (fun _=>rfl) (fun _=>rfl)) (.nil)))),rfl⟩
   conv=>whnf
   iterate 2 (refine Tst.F ?_;conv=>whnf)
   refine tst_d H (fun b59 H=>?_) (fun b59 H=>?_)
   ·conv=>whnf
    iterate 4 (refine Tst.F ?_;conv=>whnf)
    refine tst_d H (fun b65 H=>?_) (fun b65 H=>?_)
    ·conv=>whnf
     refine ⟨Nat.le_of_ble_eq_true rfl,?_⟩;conv=>whnf
     refine finW_c (enc:=RosterState.v) [2,3] (.inr rfl) H rfl hR hO hX ?_;conv=>whnf
     refine ⟨Nat.zero_le _,?_⟩;conv=>whnf
     refine ⟨Nat.zero_le _,?_⟩;conv=>whnf
     refine ⟨⟨rfl,rfl,rfl⟩,?_⟩;conv=>whnf
     exact ⟨_,_,_,rfl,rfl,.cons (.id rfl) (.cons (.id rfl) (.cons (fzown (f:=ItemItem.v) (l:=s_2) rfl rfl (fun _=>rfl) (fun _=>rfl)) (.cons (fzown (f:=RosterGone.v) (l:=s_3) rfl rfl (fun _=>rfl) (fun _=>rfl)) (.nil)))),rfl⟩
    conv=>whnf
    refine ⟨rfl,ixo_c H (fun x66 h67 H=>?_)⟩;conv=>whnf
    refine ldo_c (f:=RosterGone.v) (es:=2) h67 (fun _=>rfl) 1 (by omega) (by decide) ?_;conv=>whnf
    refine ⟨Nat.le_of_ble_eq_true rfl,?_⟩;conv=>whnf
    refine delO_c (f:=RosterGone.v) delR173_v H (fun _=>rfl) (fun _=>rfl) rfl rfl (fun v68 H=>?_);conv=>whnf
    refine ⟨Nat.le_of_ble_eq_true rfl,?_⟩;conv=>whnf
    refine ⟨Nat.le_of_ble_eq_true rfl,?_⟩;conv=>whnf
    refine finW_c (enc:=RosterState.v) [2,3] (.inr rfl) H rfl hR hO hX ?_;conv=>whnf
    refine ⟨Nat.zero_le _,?_⟩;conv=>whnf
    refine ⟨Nat.zero_le _,?_⟩;conv=>whnf
    refine ⟨⟨rfl,rfl,rfl⟩,?_⟩;conv=>whnf
    exact ⟨_,_,_,rfl,rfl,.cons (.id rfl) (.cons (.id rfl) (.cons (fzown (f:=ItemItem.v) (l:=s_2) rfl rfl (fun _=>rfl) (fun _=>rfl)) (.cons (fzown (f:=RosterGone.v) (l:=v68) rfl rfl (fun _=>rfl) (fun _=>rfl)) (.nil)))),rfl⟩
   conv=>whnf
   refine ⟨Nat.zero_le _,?_⟩;conv=>whnf
   refine dfO_c (f:=RosterGone.v) delF171_v H (⟨⟨_,Tryz.func172,by kernel_rfl,by kernel_rfl⟩,rfl,fun x0=>p_roster_State_change_1_v _ _⟩) (.clo (.cons (.ptr rfl (Nat.le_of_ble_eq_true rfl) (.cons (.id rfl) (.cons (.id rfl) (.cons (.id rfl) (.cons (.id rfl) (.cons (.id rfl) (.nil))))))) (.nil))) (fun _=>rfl) (fun _=>rfl) rfl rfl (fun v60 H=>?_);conv=>whnf
   refine ⟨Nat.le_of_ble_eq_true rfl,?_⟩;conv=>whnf
   iterate 4 (refine Tst.F ?_;conv=>whnf)
   refine tst_d H (fun b61 H=>?_) (fun b61 H=>?_)
   ·conv=>whnf
    refine ⟨Nat.le_of_ble_eq_true rfl,?_⟩;conv=>whnf
    refine finW_c (enc:=RosterState.v) [2,3] (.inr rfl) H rfl hR hO hX ?_;conv=>whnf
    refine ⟨Nat.zero_le _,?_⟩;conv=>whnf
    refine ⟨Nat.zero_le _,?_⟩;conv=>whnf
    refine ⟨⟨rfl,rfl,rfl⟩,?_⟩;conv=>whnf
    exact ⟨_,_,_,rfl,rfl,.cons (.id rfl) (.cons (.id rfl) (.cons (fzown (f:=ItemItem.v) (l:=s_2) rfl rfl (fun _=>rfl) (fun _=>rfl)) (.cons (fzown (f:=RosterGone.v) (l:=v60) rfl rfl (fun _=>rfl) (fun _=>rfl)) (.nil)))),rfl⟩
   conv=>whnf
   refine ⟨rfl,ixo_c H (fun x62 h63 H=>?_)⟩;conv=>whnf
   refine ldo_c (f:=RosterGone.v) (es:=2) h63 (fun _=>rfl) 1 (by omega) (by decide) ?_;conv=>whnf
   refine ⟨Nat.le_of_ble_eq_true rfl,?_⟩;conv=>whnf
   refine delO_c (f:=RosterGone.v) delR173_v H (fun _=>rfl) (fun _=>rfl) rfl rfl (fun v64 H=>?_);conv=>whnf
   refine ⟨Nat.le_of_ble_eq_true rfl,?_⟩;conv=>whnf
   refine ⟨Nat.le_of_ble_eq_true rfl,?_⟩;conv=>whnf
   refine finW_c (enc:=RosterState.v) [2,3] (.inr rfl) H rfl hR hO hX ?_;conv=>whnf
   refine ⟨Nat.zero_le _,?_⟩;conv=>whnf
   refine ⟨Nat.zero_le _,?_⟩;conv=>whnf
   refine ⟨⟨rfl,rfl,rfl⟩,?_⟩;conv=>whnf
   exact ⟨_,_,_,rfl,rfl,.cons (.id rfl) (.cons (.id rfl) (.cons (fzown (f:=ItemItem.v) (l:=s_2) rfl rfl (fun _=>rfl) (fun _=>rfl)) (.cons (fzown (f:=RosterGone.v) (l:=v64) rfl rfl (fun _=>rfl) (fun _=>rfl)) (.nil)))),rfl⟩
  conv=>whnf
  iterate 3 (refine Tst.T ?_;conv=>whnf)
  refine ⟨rfl,ixo_c H (fun x3 h4 H=>?_)⟩;conv=>whnf
  refine Tst.T ?_;conv=>whnf
  refine ldo_c (f:=ItemItem.v) (es:=5) h4 (fun _=>rfl) 0 (by omega) (by decide) ?_;conv=>whnf
  refine Tst.T ?_;conv=>whnf
  refine ask_c (p_item_Listed_v _) H rfl rfl (fun v5 H=>?_);conv=>whnf
  refine Tst.T ?_;conv=>whnf
  refine ask_c (p_item_Listed_v _) H rfl rfl (fun v6 H=>?_);conv=>whnf
  refine Ari.w ?_;conv=>whnf
  refine ⟨Nat.le_of_ble_eq_true rfl,?_⟩;conv=>whnf
  refine ⟨Nat.le_of_ble_eq_true rfl,?_⟩;conv=>whnf
  refine Tst.isT b2 ?_;conv=>whnf
  refine Tst.T ?_;conv=>whnf
  refine ask_c (p_item_Idle_v _) H rfl rfl (fun v7 H=>?_);conv=>whnf
  refine Tst.T ?_;conv=>whnf
  refine tst_c H (fun b8 H=>?_) (fun b8 H=>?_)
  ·conv=>whnf
   refine Ari.w ?_;conv=>whnf
   refine delO_c (f:=ItemItem.v) delR169_v H (fun _=>rfl) (fun _=>rfl) rfl rfl (fun v9 H=>?_);conv=>whnf
   refine ⟨Nat.le_of_ble_eq_true rfl,?_⟩;conv=>whnf
   refine tst_d H (fun b10 H=>?_) (fun b10 H=>?_)
   ·conv=>whnf
    refine Tst.F ?_;conv=>whnf
    refine tst_d H (fun b22 H=>?_) (fun b22 H=>?_)
    ·conv=>whnf
     refine Tst.isF b10 ?_;conv=>whnf
     iterate 3 (refine Tst.F ?_;conv=>whnf)
     refine tst_d H (fun b28 H=>?_) (fun b28 H=>?_)
     ·conv=>whnf
      refine ⟨Nat.le_of_ble_eq_true rfl,?_⟩;conv=>whnf
      refine finW_c (enc:=RosterState.v) [2,3] (.inr rfl) H rfl hR hO hX ?_;conv=>whnf
      refine ⟨Nat.zero_le _,?_⟩;conv=>whnf
      refine ⟨Nat.zero_le _,?_⟩;conv=>whnf
      refine ⟨⟨rfl,rfl,rfl⟩,?_⟩;conv=>whnf
      exact ⟨_,_,_,rfl,rfl,.cons (.id rfl) (.cons (.id rfl) (.cons (fzown (f:=ItemItem.v) (l:=v9) rfl rfl (fun _=>rfl) (fun _=>rfl)) (.cons (fzown (f:=RosterGone.v) (l:=s_3) rfl rfl (fun _=>rfl) (fun _=>rfl)) (.nil)))),rfl⟩
     conv=>whnf
     refine ⟨rfl,ixo_c H (fun x29 h30 H=>?_)⟩;conv=>whnf
     refine ldo_c (f:=RosterGone.v) (es:=2) h30 (fun _=>rfl) 1 (by omega) (by decide) ?_;conv=>whnf
     refine ⟨Nat.le_of_ble_eq_true rfl,?_⟩;conv=>whnf
     refine delO_c (f:=RosterGone.v) delR173_v H (fun _=>rfl) (fun _=>rfl) rfl rfl (fun v31 H=>?_);conv=>whnf
     refine ⟨Nat.le_of_ble_eq_true rfl,?_⟩;conv=>whnf
     refine ⟨Nat.le_of_ble_eq_true rfl,?_⟩;conv=>whnf
     refine finW_c (enc:=RosterState.v) [2,3] (.inr rfl) H rfl hR hO hX ?_;conv=>whnf
     refine ⟨Nat.zero_le _,?_⟩;conv=>whnf
     refine ⟨Nat.zero_le _,?_⟩;conv=>whnf
     refine ⟨⟨rfl,rfl,rfl⟩,?_⟩;conv=>whnf
     exact ⟨_,_,_,rfl,rfl,.cons (.id rfl) (.cons (.id rfl) (.cons (fzown (f:=ItemItem.v) (l:=v9) rfl rfl (fun _=>rfl) (fun _=>rfl)) (.cons (fzown (f:=RosterGone.v) (l:=v31) rfl rfl (fun _=>rfl) (fun _=>rfl)) (.nil)))),rfl⟩
    conv=>whnf
    refine ⟨Nat.zero_le _,?_⟩;conv=>whnf
    refine dfO_c (f:=RosterGone.v) delF171_v H (⟨⟨_,Tryz.func172,by kernel_rfl,by kernel_rfl⟩,rfl,fun x0=>p_roster_State_change_1_v _ _⟩) (.clo (.cons (.ptr rfl (Nat.le_of_ble_eq_true rfl) (.cons (.id rfl) (.cons (.id rfl) (.cons (.id rfl) (.cons (.id rfl) (.cons (.id rfl) (.nil))))))) (.nil))) (fun _=>rfl) (fun _=>rfl) rfl rfl (fun v23 H=>?_);conv=>whnf
    refine ⟨Nat.le_of_ble_eq_true rfl,?_⟩;conv=>whnf
    refine Tst.isF b10 ?_;conv=>whnf
    iterate 3 (refine Tst.F ?_;conv=>whnf)
    refine tst_d H (fun b24 H=>?_) (fun b24 H=>?_)
    ·conv=>whnf
     refine ⟨Nat.le_of_ble_eq_true rfl,?_⟩;conv=>whnf
     refine finW_c (enc:=RosterState.v) [2,3] (.inr rfl) H rfl hR hO hX ?_;conv=>whnf
     refine ⟨Nat.zero_le _,?_⟩;conv=>whnf
     refine ⟨Nat.zero_le _,?_⟩;conv=>whnf
     refine ⟨⟨rfl,rfl,rfl⟩,?_⟩;conv=>whnf
     exact ⟨_,_,_,rfl,rfl,.cons (.id rfl) (.cons (.id rfl) (.cons (fzown (f:=ItemItem.v) (l:=v9) rfl rfl (fun _=>rfl) (fun _=>rfl)) (.cons (fzown (f:=RosterGone.v) (l:=v23) rfl rfl (fun _=>rfl) (fun _=>rfl)) (.nil)))),rfl⟩
    conv=>whnf
    refine ⟨rfl,ixo_c H (fun x25 h26 H=>?_)⟩;conv=>whnf
    refine ldo_c (f:=RosterGone.v) (es:=2) h26 (fun _=>rfl) 1 (by omega) (by decide) ?_;conv=>whnf
    refine ⟨Nat.le_of_ble_eq_true rfl,?_⟩;conv=>whnf
    refine delO_c (f:=RosterGone.v) delR173_v H (fun _=>rfl) (fun _=>rfl) rfl rfl (fun v27 H=>?_);conv=>whnf
    refine ⟨Nat.le_of_ble_eq_true rfl,?_⟩;conv=>whnf
    refine ⟨Nat.le_of_ble_eq_true rfl,?_⟩;conv=>whnf
    refine finW_c (enc:=RosterState.v) [2,3] (.inr rfl) H rfl hR hO hX ?_;conv=>whnf
    refine ⟨Nat.zero_le _,?_⟩;conv=>whnf
    refine ⟨Nat.zero_le _,?_⟩;conv=>whnf
    refine ⟨⟨rfl,rfl,rfl⟩,?_⟩;conv=>whnf
    exact ⟨_,_,_,rfl,rfl,.cons (.id rfl) (.cons (.id rfl) (.cons (fzown (f:=ItemItem.v) (l:=v9) rfl rfl (fun _=>rfl) (fun _=>rfl)) (.cons (fzown (f:=RosterGone.v) (l:=v27) rfl rfl (fun _=>rfl) (fun _=>rfl)) (.nil)))),rfl⟩
   conv=>whnf
   iterate 2 (refine Tst.T ?_;conv=>whnf)
   refine ⟨Nat.zero_le _,?_⟩;conv=>whnf
   refine dfO_c (f:=RosterGone.v) delF171_v H (⟨⟨_,Tryz.func172,by kernel_rfl,by kernel_rfl⟩,rfl,fun x0=>p_roster_State_change_1_v _ _⟩) (.clo (.cons (.ptr rfl (Nat.le_of_ble_eq_true rfl) (.cons (.id rfl) (.cons (.id rfl) (.cons (.id rfl) (.cons (.id rfl) (.cons (.id rfl) (.nil))))))) (.nil))) (fun _=>rfl) (fun _=>rfl) rfl rfl (fun v11 H=>?_);conv=>whnf
   refine ⟨Nat.le_of_ble_eq_true rfl,?_⟩;conv=>whnf
   refine Tst.isT b10 ?_;conv=>whnf
   iterate 2 (refine Tst.T ?_;conv=>whnf)
   refine Tst.not ?_
   refine tst_c H (fun b12 H=>?_) (fun b12 H=>?_)
   ·conv=>whnf
    refine tst_d H (fun b13 H=>?_) (fun b13 H=>?_)
    ·conv=>whnf
     refine ⟨Nat.le_of_ble_eq_true rfl,?_⟩;conv=>whnf
     refine finW_c (enc:=RosterState.v) [2,3] (.inr rfl) H rfl hR hO hX ?_;conv=>whnf
     refine ⟨Nat.zero_le _,?_⟩;conv=>whnf
     refine ⟨Nat.zero_le _,?_⟩;conv=>whnf
     refine ⟨⟨rfl,rfl,rfl⟩,?_⟩;conv=>whnf
     exact ⟨_,_,_,rfl,rfl,.cons (.id rfl) (.cons (.id rfl) (.cons (fzown (f:=ItemItem.v) (l:=v9) rfl rfl (fun _=>rfl) (fun _=>rfl)) (.cons (fzown (f:=RosterGone.v) (l:=v11) rfl rfl (fun _=>rfl) (fun _=>rfl)) (.nil)))),rfl⟩
    conv=>whnf
    refine ⟨rfl,ixo_c H (fun x14 h15 H=>?_)⟩;conv=>whnf
    refine ldo_c (f:=RosterGone.v) (es:=2) h15 (fun _=>rfl) 1 (by omega) (by decide) ?_;conv=>whnf
    refine ⟨Nat.le_of_ble_eq_true rfl,?_⟩;conv=>whnf
    refine delO_c (f:=RosterGone.v) delR173_v H (fun _=>rfl) (fun _=>rfl) rfl rfl (fun v16 H=>?_);conv=>whnf
    refine ⟨Nat.le_of_ble_eq_true rfl,?_⟩;conv=>whnf
    refine ⟨Nat.le_of_ble_eq_true rfl,?_⟩;conv=>whnf
    refine finW_c (enc:=RosterState.v) [2,3] (.inr rfl) H rfl hR hO hX ?_;conv=>whnf
    refine ⟨Nat.zero_le _,?_⟩;conv=>whnf
    refine ⟨Nat.zero_le _,?_⟩;conv=>whnf
    refine ⟨⟨rfl,rfl,rfl⟩,?_⟩;conv=>whnf
    exact ⟨_,_,_,rfl,rfl,.cons (.id rfl) (.cons (.id rfl) (.cons (fzown (f:=ItemItem.v) (l:=v9) rfl rfl (fun _=>rfl) (fun _=>rfl)) (.cons (fzown (f:=RosterGone.v) (l:=v16) rfl rfl (fun _=>rfl) (fun _=>rfl)) (.nil)))),rfl⟩
   conv=>whnf
   refine appOs_c (f:=RosterGone.v) H (fun _=>rfl) rfl (rfl) (.v (srcOwn (f:=RosterGone.v) (l:=[(RosterGone.mk a1.Contact (w64 (s_0 + (1:Int))))]) (fun _=>rfl) rfl rfl rfl)) (by decide) rfl (by simp) (fun l17 H=>?_);conv=>whnf
   refine ⟨Nat.le_of_ble_eq_true rfl,?_⟩;conv=>whnf
   refine tst_d H (fun b18 H=>?_) (fun b18 H=>?_)
   ·conv=>whnf
    refine ⟨Nat.le_of_ble_eq_true rfl,?_⟩;conv=>whnf
    refine finW_c (enc:=RosterState.v) [2,9] (.inr rfl) H rfl hR hO hX ?_;conv=>whnf
    refine ⟨Nat.zero_le _,?_⟩;conv=>whnf
    refine ⟨Nat.zero_le _,?_⟩;conv=>whnf
    refine ⟨⟨rfl,rfl,rfl⟩,?_⟩;conv=>whnf
    exact ⟨_,_,_,rfl,rfl,.cons (.id rfl) (.cons (.id rfl) (.cons (fzown (f:=ItemItem.v) (l:=v9) rfl rfl (fun _=>rfl) (fun _=>rfl)) (.cons (fzown (f:=RosterGone.v) (l:=l17) rfl rfl (fun _=>rfl) (fun _=>rfl)) (.nil)))),rfl⟩
   conv=>whnf
   refine ⟨rfl,ixo_c H (fun x19 h20 H=>?_)⟩;conv=>whnf
   refine ldo_c (f:=RosterGone.v) (es:=2) h20 (fun _=>rfl) 1 (by omega) (by decide) ?_;conv=>whnf
   refine ⟨Nat.le_of_ble_eq_true rfl,?_⟩;conv=>whnf
   refine delO_c (f:=RosterGone.v) delR173_v H (fun _=>rfl) (fun _=>rfl) rfl rfl (fun v21 H=>?_);conv=>whnf
   refine ⟨Nat.le_of_ble_eq_true rfl,?_⟩;conv=>whnf
   refine ⟨Nat.le_of_ble_eq_true rfl,?_⟩;conv=>whnf
   refine finW_c (enc:=RosterState.v) [2,9] (.inr rfl) H rfl hR hO hX ?_;conv=>whnf
   refine ⟨Nat.zero_le _,?_⟩;conv=>whnf
   refine ⟨Nat.zero_le _,?_⟩;conv=>whnf
   refine ⟨⟨rfl,rfl,rfl⟩,?_⟩;conv=>whnf
   exact ⟨_,_,_,rfl,rfl,.cons (.id rfl) (.cons (.id rfl) (.cons (fzown (f:=ItemItem.v) (l:=v9) rfl rfl (fun _=>rfl) (fun _=>rfl)) (.cons (fzown (f:=RosterGone.v) (l:=v21) rfl rfl (fun _=>rfl) (fun _=>rfl)) (.nil)))),rfl⟩
  conv=>whnf
  refine Tst.isT b2 ?_;conv=>whnf
  refine ⟨rfl,ixo_c H (fun x32 h33 H=>?_)⟩;conv=>whnf
  refine ⟨Nat.zero_le _,sto_c (f:=ItemItem.v) (es:=5) h33 (x':=(ItemItem.mk a1.Contact a1.Name a1.Sub (w64 (s_0 + (1:Int))) a1.Own)) (fun _=>rfl) 0 (by omega) (Nat.le_of_ble_eq_true rfl) (by rfl) ?_⟩;conv=>whnf
  refine tst_d H (fun b34 H=>?_) (fun b34 H=>?_)
  ·conv=>whnf
   refine Tst.F ?_;conv=>whnf
   refine tst_d H (fun b46 H=>?_) (fun b46 H=>?_)
   ·conv=>whnf
    refine Tst.isF b34 ?_;conv=>whnf
    iterate 3 (refine Tst.F ?_;conv=>whnf)
    refine tst_d H (fun b52 H=>?_) (fun b52 H=>?_)
    ·conv=>whnf
     refine ⟨Nat.le_of_ble_eq_true rfl,?_⟩;conv=>whnf
     refine finW_c (enc:=RosterState.v) [2,3] (.inr rfl) H rfl hR hO hX ?_;conv=>whnf
     refine ⟨Nat.zero_le _,?_⟩;conv=>whnf
     refine ⟨Nat.zero_le _,?_⟩;conv=>whnf
     refine ⟨⟨rfl,rfl,rfl⟩,?_⟩;conv=>whnf
     exact ⟨_,_,_,rfl,rfl,.cons (.id rfl) (.cons (.id rfl) (.cons (fzc_made (f:=ItemItem.v) (l:=(List.set s_2 (Int.toNat v1.1) (ItemItem.mk a1.Contact a1.Name a1.Sub (w64 (s_0 + (1:Int))) a1.Own))) rfl rfl rfl (by simp) (fun _=>rfl) (fun _=>rfl)) (.cons (fzown (f:=RosterGone.v) (l:=s_3) rfl rfl (fun _=>rfl) (fun _=>rfl)) (.nil)))),rfl⟩
    conv=>whnf
    refine ⟨rfl,ixo_c H (fun x53 h54 H=>?_)⟩;conv=>whnf
    refine ldo_c (f:=RosterGone.v) (es:=2) h54 (fun _=>rfl) 1 (by omega) (by decide) ?_;conv=>whnf
    refine ⟨Nat.le_of_ble_eq_true rfl,?_⟩;conv=>whnf
    refine delO_c (f:=RosterGone.v) delR173_v H (fun _=>rfl) (fun _=>rfl) rfl rfl (fun v55 H=>?_);conv=>whnf
    refine ⟨Nat.le_of_ble_eq_true rfl,?_⟩;conv=>whnf
    refine ⟨Nat.le_of_ble_eq_true rfl,?_⟩;conv=>whnf
    refine finW_c (enc:=RosterState.v) [2,3] (.inr rfl) H rfl hR hO hX ?_;conv=>whnf
    refine ⟨Nat.zero_le _,?_⟩;conv=>whnf
    refine ⟨Nat.zero_le _,?_⟩;conv=>whnf
    refine ⟨⟨rfl,rfl,rfl⟩,?_⟩;conv=>whnf
    exact ⟨_,_,_,rfl,rfl,.cons (.id rfl) (.cons (.id rfl) (.cons (fzc_made (f:=ItemItem.v) (l:=(List.set s_2 (Int.toNat v1.1) (ItemItem.mk a1.Contact a1.Name a1.Sub (w64 (s_0 + (1:Int))) a1.Own))) rfl rfl rfl (by simp) (fun _=>rfl) (fun _=>rfl)) (.cons (fzown (f:=RosterGone.v) (l:=v55) rfl rfl (fun _=>rfl) (fun _=>rfl)) (.nil)))),rfl⟩
   conv=>whnf
   refine ⟨Nat.zero_le _,?_⟩;conv=>whnf
   refine dfO_c (f:=RosterGone.v) delF171_v H (⟨⟨_,Tryz.func172,by kernel_rfl,by kernel_rfl⟩,rfl,fun x0=>p_roster_State_change_1_v _ _⟩) (.clo (.cons (.ptr rfl (Nat.le_of_ble_eq_true rfl) (.cons (.id rfl) (.cons (.id rfl) (.cons (.id rfl) (.cons (.id rfl) (.cons (.id rfl) (.nil))))))) (.nil))) (fun _=>rfl) (fun _=>rfl) rfl rfl (fun v47 H=>?_);conv=>whnf
   refine ⟨Nat.le_of_ble_eq_true rfl,?_⟩;conv=>whnf
   refine Tst.isF b34 ?_;conv=>whnf
   iterate 3 (refine Tst.F ?_;conv=>whnf)
   refine tst_d H (fun b48 H=>?_) (fun b48 H=>?_)
   ·conv=>whnf
    refine ⟨Nat.le_of_ble_eq_true rfl,?_⟩;conv=>whnf
    refine finW_c (enc:=RosterState.v) [2,3] (.inr rfl) H rfl hR hO hX ?_;conv=>whnf
    refine ⟨Nat.zero_le _,?_⟩;conv=>whnf
    refine ⟨Nat.zero_le _,?_⟩;conv=>whnf
    refine ⟨⟨rfl,rfl,rfl⟩,?_⟩;conv=>whnf
    exact ⟨_,_,_,rfl,rfl,.cons (.id rfl) (.cons (.id rfl) (.cons (fzc_made (f:=ItemItem.v) (l:=(List.set s_2 (Int.toNat v1.1) (ItemItem.mk a1.Contact a1.Name a1.Sub (w64 (s_0 + (1:Int))) a1.Own))) rfl rfl rfl (by simp) (fun _=>rfl) (fun _=>rfl)) (.cons (fzown (f:=RosterGone.v) (l:=v47) rfl rfl (fun _=>rfl) (fun _=>rfl)) (.nil)))),rfl⟩
   conv=>whnf
   refine ⟨rfl,ixo_c H (fun x49 h50 H=>?_)⟩;conv=>whnf
   refine ldo_c (f:=RosterGone.v) (es:=2) h50 (fun _=>rfl) 1 (by omega) (by decide) ?_;conv=>whnf
   refine ⟨Nat.le_of_ble_eq_true rfl,?_⟩;conv=>whnf
   refine delO_c (f:=RosterGone.v) delR173_v H (fun _=>rfl) (fun _=>rfl) rfl rfl (fun v51 H=>?_);conv=>whnf
   refine ⟨Nat.le_of_ble_eq_true rfl,?_⟩;conv=>whnf
   refine ⟨Nat.le_of_ble_eq_true rfl,?_⟩;conv=>whnf
   refine finW_c (enc:=RosterState.v) [2,3] (.inr rfl) H rfl hR hO hX ?_;conv=>whnf
   refine ⟨Nat.zero_le _,?_⟩;conv=>whnf
   refine ⟨Nat.zero_le _,?_⟩;conv=>whnf
   refine ⟨⟨rfl,rfl,rfl⟩,?_⟩;conv=>whnf
   exact ⟨_,_,_,rfl,rfl,.cons (.id rfl) (.cons (.id rfl) (.cons (fzc_made (f:=ItemItem.v) (l:=(List.set s_2 (Int.toNat v1.1) (ItemItem.mk a1.Contact a1.Name a1.Sub (w64 (s_0 + (1:Int))) a1.Own))) rfl rfl rfl (by simp) (fun _=>rfl) (fun _=>rfl)) (.cons (fzown (f:=RosterGone.v) (l:=v51) rfl rfl (fun _=>rfl) (fun _=>rfl)) (.nil)))),rfl⟩
  conv=>whnf
  iterate 2 (refine Tst.T ?_;conv=>whnf)
  refine ⟨Nat.zero_le _,?_⟩;conv=>whnf
  refine dfO_c (f:=RosterGone.v) delF171_v H (⟨⟨_,Tryz.func172,by kernel_rfl,by kernel_rfl⟩,rfl,fun x0=>p_roster_State_change_1_v _ _⟩) (.clo (.cons (.ptr rfl (Nat.le_of_ble_eq_true rfl) (.cons (.id rfl) (.cons (.id rfl) (.cons (.id rfl) (.cons (.id rfl) (.cons (.id rfl) (.nil))))))) (.nil))) (fun _=>rfl) (fun _=>rfl) rfl rfl (fun v35 H=>?_);conv=>whnf
  refine ⟨Nat.le_of_ble_eq_true rfl,?_⟩;conv=>whnf
  refine Tst.isT b34 ?_;conv=>whnf
  iterate 2 (refine Tst.T ?_;conv=>whnf)
  refine Tst.not ?_
  refine tst_c H (fun b36 H=>?_) (fun b36 H=>?_)
  ·conv=>whnf
   refine tst_d H (fun b37 H=>?_) (fun b37 H=>?_)
   ·conv=>whnf
    refine ⟨Nat.le_of_ble_eq_true rfl,?_⟩;conv=>whnf
    refine finW_c (enc:=RosterState.v) [2,3] (.inr rfl) H rfl hR hO hX ?_;conv=>whnf
    refine ⟨Nat.zero_le _,?_⟩;conv=>whnf
    refine ⟨Nat.zero_le _,?_⟩;conv=>whnf
    refine ⟨⟨rfl,rfl,rfl⟩,?_⟩;conv=>whnf
    exact ⟨_,_,_,rfl,rfl,.cons (.id rfl) (.cons (.id rfl) (.cons (fzc_made (f:=ItemItem.v) (l:=(List.set s_2 (Int.toNat v1.1) (ItemItem.mk a1.Contact a1.Name a1.Sub (w64 (s_0 + (1:Int))) a1.Own))) rfl rfl rfl (by simp) (fun _=>rfl) (fun _=>rfl)) (.cons (fzown (f:=RosterGone.v) (l:=v35) rfl rfl (fun _=>rfl) (fun _=>rfl)) (.nil)))),rfl⟩
   conv=>whnf
   refine ⟨rfl,ixo_c H (fun x38 h39 H=>?_)⟩;conv=>whnf
   refine ldo_c (f:=RosterGone.v) (es:=2) h39 (fun _=>rfl) 1 (by omega) (by decide) ?_;conv=>whnf
   refine ⟨Nat.le_of_ble_eq_true rfl,?_⟩;conv=>whnf
   refine delO_c (f:=RosterGone.v) delR173_v H (fun _=>rfl) (fun _=>rfl) rfl rfl (fun v40 H=>?_);conv=>whnf
   refine ⟨Nat.le_of_ble_eq_true rfl,?_⟩;conv=>whnf
   refine ⟨Nat.le_of_ble_eq_true rfl,?_⟩;conv=>whnf
   refine finW_c (enc:=RosterState.v) [2,3] (.inr rfl) H rfl hR hO hX ?_;conv=>whnf
   refine ⟨Nat.zero_le _,?_⟩;conv=>whnf
   refine ⟨Nat.zero_le _,?_⟩;conv=>whnf
   refine ⟨⟨rfl,rfl,rfl⟩,?_⟩;conv=>whnf
   exact ⟨_,_,_,rfl,rfl,.cons (.id rfl) (.cons (.id rfl) (.cons (fzc_made (f:=ItemItem.v) (l:=(List.set s_2 (Int.toNat v1.1) (ItemItem.mk a1.Contact a1.Name a1.Sub (w64 (s_0 + (1:Int))) a1.Own))) rfl rfl rfl (by simp) (fun _=>rfl) (fun _=>rfl)) (.cons (fzown (f:=RosterGone.v) (l:=v40) rfl rfl (fun _=>rfl) (fun _=>rfl)) (.nil)))),rfl⟩
  conv=>whnf
  refine appOs_c (f:=RosterGone.v) H (fun _=>rfl) rfl (rfl) (.v (srcOwn (f:=RosterGone.v) (l:=[(RosterGone.mk a1.Contact (w64 (s_0 + (1:Int))))]) (fun _=>rfl) rfl rfl rfl)) (by decide) rfl (by simp) (fun l41 H=>?_);conv=>whnf
  refine ⟨Nat.le_of_ble_eq_true rfl,?_⟩;conv=>whnf
  refine tst_d H (fun b42 H=>?_) (fun b42 H=>?_)
  ·conv=>whnf
   refine ⟨Nat.le_of_ble_eq_true rfl,?_⟩;conv=>whnf
   refine finW_c (enc:=RosterState.v) [2,9] (.inr rfl) H rfl hR hO hX ?_;conv=>whnf
   refine ⟨Nat.zero_le _,?_⟩;conv=>whnf
   refine ⟨Nat.zero_le _,?_⟩;conv=>whnf
   refine ⟨⟨rfl,rfl,rfl⟩,?_⟩;conv=>whnf
   exact ⟨_,_,_,rfl,rfl,.cons (.id rfl) (.cons (.id rfl) (.cons (fzc_made (f:=ItemItem.v) (l:=(List.set s_2 (Int.toNat v1.1) (ItemItem.mk a1.Contact a1.Name a1.Sub (w64 (s_0 + (1:Int))) a1.Own))) rfl rfl rfl (by simp) (fun _=>rfl) (fun _=>rfl)) (.cons (fzown (f:=RosterGone.v) (l:=l41) rfl rfl (fun _=>rfl) (fun _=>rfl)) (.nil)))),rfl⟩
  conv=>whnf
  refine ⟨rfl,ixo_c H (fun x43 h44 H=>?_)⟩;conv=>whnf
  refine ldo_c (f:=RosterGone.v) (es:=2) h44 (fun _=>rfl) 1 (by omega) (by decide) ?_;conv=>whnf
  refine ⟨Nat.le_of_ble_eq_true rfl,?_⟩;conv=>whnf
  refine delO_c (f:=RosterGone.v) delR173_v H (fun _=>rfl) (fun _=>rfl) rfl rfl (fun v45 H=>?_);conv=>whnf
  refine ⟨Nat.le_of_ble_eq_true rfl,?_⟩;conv=>whnf
  refine ⟨Nat.le_of_ble_eq_true rfl,?_⟩;conv=>whnf
  refine finW_c (enc:=RosterState.v) [2,9] (.inr rfl) H rfl hR hO hX ?_;conv=>whnf
  refine ⟨Nat.zero_le _,?_⟩;conv=>whnf
  refine ⟨Nat.zero_le _,?_⟩;conv=>whnf
  refine ⟨⟨rfl,rfl,rfl⟩,?_⟩;conv=>whnf
  exact ⟨_,_,_,rfl,rfl,.cons (.id rfl) (.cons (.id rfl) (.cons (fzc_made (f:=ItemItem.v) (l:=(List.set s_2 (Int.toNat v1.1) (ItemItem.mk a1.Contact a1.Name a1.Sub (w64 (s_0 + (1:Int))) a1.Own))) rfl rfl rfl (by simp) (fun _=>rfl) (fun _=>rfl)) (.cons (fzown (f:=RosterGone.v) (l:=v45) rfl rfl (fun _=>rfl) (fun _=>rfl)) (.nil)))),rfl⟩
theorem p_roster_State_change_on (s_0:Int) (s_1:Int) (s_2:List ItemItem) (a1:ItemItem) {R O:List V} {xs:Slot} (hR:V.idlt.belowL 5 R=true) (hO:V.idlt.belowL 5 O=true) (hX:xs.ok5=true) (s:RosterState) (H:p_roster_State_change (RosterState.mk s_0 s_1 s_2 []) a1=some s):CallsS Tryz.prog 109 [.agg [.i s_0,.i s_1,.osl 2 0 (List.length s_2) 5 false,.sl (List.map RosterGone.v []) true],.agg [.s a1.Contact,.s a1.Name,.i a1.Sub,.i a1.Ver,.b a1.Own]] [.live R 0,.live O 0,.live (cellsM ItemItem.v s_2) 0,.dead,xs] (RosterState.v s) [.live R 0,.live O 0,.dead,.dead,xs]:=by
 rcases xs with _ | _ | ⟨X,_ | fX⟩ <;> first | (cases hX;done) | skip
 all_goals
  refine callsR_c (n0:=5) mix Tryz.func109 gc109_ok rfl ?_
  rw [p_roster_State_change] at H
  conv=>whnf
  refine askT_c [2] (p_roster_State_find_v _ _) H (.cons (fzagg (.cons (.id rfl) (.cons (.id rfl) (.cons (fzown (f:=ItemItem.v) (l:=s_2) rfl rfl (fun _=>rfl) (fun _=>rfl)) (.cons (.slw) (.nil))))) rfl) (.cons (.c (.id rfl)) (.nil))) (fun _=>rfl) (fun v1 H=>?_);conv=>whnf
  refine tst_d H (fun b2 H=>?_) (fun b2 H=>?_)
  ·conv=>whnf
   iterate 6 (refine Tst.F ?_;conv=>whnf)
   refine ask_c (p_item_Listed_v _) H rfl rfl (fun v34 H=>?_);conv=>whnf
   refine Ari.w ?_;conv=>whnf
   refine ⟨Nat.le_of_ble_eq_true rfl,?_⟩;conv=>whnf
   refine ⟨Nat.le_of_ble_eq_true rfl,?_⟩;conv=>whnf
   refine Tst.isF b2 ?_;conv=>whnf
   iterate 3 (refine Tst.F ?_;conv=>whnf)
   refine Tst.isF b2 ?_;conv=>whnf
   refine ask_c (p_item_Idle_v _) H rfl rfl (fun v35 H=>?_);conv=>whnf
   refine Tst.not ?_
   refine tst_d H (fun b36 H=>?_) (fun b36 H=>?_)
   ·conv=>whnf
    refine insO_c (f:=ItemItem.v) insR170_v H (by decide) (fun _=>rfl) (fun _=>rfl) (fun _=>rfl) rfl rfl rfl (fun v40 H=>?_);conv=>whnf
    refine ⟨Nat.le_of_ble_eq_true rfl,?_⟩;conv=>whnf
    iterate 2 (refine Tst.F ?_;conv=>whnf)
    refine tst_d H (fun b41 H=>?_) (fun b41 H=>?_)
    ·conv=>whnf
     iterate 4 (refine Tst.F ?_;conv=>whnf)
     refine LenQ.ok ?_;conv=>whnf
     refine tst_c H (fun b43 H=>?_) (fun b43 H=>?_)
     ·conv=>whnf
      exact nil_at H
     conv=>whnf
     refine ⟨Nat.le_of_ble_eq_true rfl,?_⟩;conv=>whnf
     refine finW_c (enc:=RosterState.v) [] (.inr rfl) H rfl hR hO hX ?_;conv=>whnf
     refine ⟨⟨rfl,rfl,rfl⟩,?_⟩;conv=>whnf
     exact ⟨_,_,_,rfl,rfl,.cons (.id rfl) (.cons (.id rfl) (.cons (.id rfl) (.cons (.slw) (.nil)))),rfl⟩
    conv=>whnf
    refine ⟨Nat.zero_le _,?_⟩;conv=>whnf
    refine dfN_c (f:=RosterGone.v) delF171_n H (⟨⟨_,Tryz.func172,by kernel_rfl,by kernel_rfl⟩,rfl,fun x0=>p_roster_State_change_1_v _ _⟩) (.clo (.cons (.ptr rfl (Nat.le_of_ble_eq_true rfl) (.cons (.id rfl) (.cons (.id rfl) (.cons (.id rfl) (.cons (.id rfl) (.cons (.id rfl) (.nil))))))) (.nil))) (fun H=>?_);conv=>whnf
    refine ⟨Nat.le_of_ble_eq_true rfl,?_⟩;conv=>whnf
    iterate 4 (refine Tst.F ?_;conv=>whnf)
    refine LenQ.ok ?_;conv=>whnf
    refine tst_c H (fun b42 H=>?_) (fun b42 H=>?_)
    ·conv=>whnf
     exact nil_at H
    conv=>whnf
    refine ⟨Nat.le_of_ble_eq_true rfl,?_⟩;conv=>whnf
    refine finW_c (enc:=RosterState.v) [] (.inr rfl) H rfl hR hO hX ?_;conv=>whnf
    refine ⟨⟨rfl,rfl,rfl⟩,?_⟩;conv=>whnf
    exact ⟨_,_,_,rfl,rfl,.cons (.id rfl) (.cons (.id rfl) (.cons (.id rfl) (.cons (.slw) (.nil)))),rfl⟩
   conv=>whnf
   iterate 2 (refine Tst.F ?_;conv=>whnf)
   refine tst_d H (fun b37 H=>?_) (fun b37 H=>?_)
   ·conv=>whnf
    iterate 4 (refine Tst.F ?_;conv=>whnf)
    refine LenQ.ok ?_;conv=>whnf
    refine tst_c H (fun b39 H=>?_) (fun b39 H=>?_)
    ·conv=>whnf
     exact nil_at H
    conv=>whnf
    refine ⟨Nat.le_of_ble_eq_true rfl,?_⟩;conv=>whnf
    refine finW_c (enc:=RosterState.v) [2] (.inr rfl) H rfl hR hO hX ?_;conv=>whnf
    refine ⟨Nat.zero_le _,?_⟩;conv=>whnf
    refine ⟨⟨rfl,rfl,rfl⟩,?_⟩;conv=>whnf
    exact ⟨_,_,_,rfl,rfl,.cons (.id rfl) (.cons (.id rfl) (.cons (fzown (f:=ItemItem.v) (l:=s_2) rfl rfl (fun _=>rfl) (fun _=>rfl)) (.cons (.slw) (.nil)))),rfl⟩
   conv=>whnf
   refine ⟨Nat.zero_le _,?_⟩;conv=>whnf
   refine dfN_c (f:=RosterGone.v) delF171_n H (⟨⟨_,Tryz.func172,by kernel_rfl,by kernel_rfl⟩,rfl,fun x0=>p_roster_State_change_1_v _ _⟩) (.clo (.cons (.ptr rfl (Nat.le_of_ble_eq_true rfl) (.cons (.id rfl) (.cons (.id rfl) (.cons (.id rfl) (.cons (.id rfl) (.cons (.id rfl) (.nil))))))) (.nil))) (fun H=>?_);conv=>whnf
   refine ⟨Nat.le_of_ble_eq_true rfl,?_⟩;conv=>whnf
   iterate 4 (refine Tst.F ?_;conv=>whnf)
   refine LenQ.ok ?_;conv=>whnf
   refine tst_c H (fun b38 H=>?_) (fun b38 H=>?_)
   ·conv=>whnf
    exact nil_at H
   conv=>whnf
   refine ⟨Nat.le_of_ble_eq_true rfl,?_⟩;conv=>whnf
   refine finW_c (enc:=RosterState.v) [2] (.inr rfl) H rfl hR hO hX ?_;conv=>whnf
   refine ⟨Nat.zero_le _,?_⟩;conv=>whnf
   refine ⟨⟨rfl,rfl,rfl⟩,?_⟩;conv=>whnf
   exact ⟨_,_,_,rfl,rfl,.cons (.id rfl) (.cons (.id rfl) (.cons (fzown (f:=ItemItem.v) (l:=s_2) rfl rfl (fun _=>rfl) (fun _=>rfl)) (.cons (.slw) (.nil)))),rfl⟩
  conv=>whnf
  iterate 3 (refine Tst.T ?_;conv=>whnf)
  refine ⟨rfl,ixo_c H (fun x3 h4 H=>?_)⟩;conv=>whnf
  refine Tst.T ?_;conv=>whnf
  refine ldo_c (f:=ItemItem.v) (es:=5) h4 (fun _=>rfl) 0 (by omega) (by decide) ?_;conv=>whnf
  refine Tst.T ?_;conv=>whnf
  refine ask_c (p_item_Listed_v _) H rfl rfl (fun v5 H=>?_);conv=>whnf
  refine Tst.T ?_;conv=>whnf
  refine ask_c (p_item_Listed_v _) H rfl rfl (fun v6 H=>?_);conv=>whnf
  refine Ari.w ?_;conv=>whnf
  refine ⟨Nat.le_of_ble_eq_true rfl,?_⟩;conv=>whnf
  refine ⟨Nat.le_of_ble_eq_true rfl,?_⟩;conv=>whnf
  refine Tst.isT b2 ?_;conv=>whnf
  refine Tst.T ?_;conv=>whnf
  refine ask_c (p_item_Idle_v _) H rfl rfl (fun v7 H=>?_);conv=>whnf
  refine Tst.T ?_;conv=>whnf
  refine tst_c H (fun b8 H=>?_) (fun b8 H=>?_)
  ·conv=>whnf
   refine Ari.w ?_;conv=>whnf
   refine delO_c (f:=ItemItem.v) delR169_v H (fun _=>rfl) (fun _=>rfl) rfl rfl (fun v9 H=>?_);conv=>whnf
   refine ⟨Nat.le_of_ble_eq_true rfl,?_⟩;conv=>whnf
   refine tst_d H (fun b10 H=>?_) (fun b10 H=>?_)
   ·conv=>whnf
    refine Tst.F ?_;conv=>whnf
    refine tst_d H (fun b18 H=>?_) (fun b18 H=>?_)
    ·conv=>whnf
     refine Tst.isF b10 ?_;conv=>whnf
     iterate 3 (refine Tst.F ?_;conv=>whnf)
     refine LenQ.ok ?_;conv=>whnf
     refine tst_c H (fun b20 H=>?_) (fun b20 H=>?_)
     ·conv=>whnf
      exact nil_at H
     conv=>whnf
     refine ⟨Nat.le_of_ble_eq_true rfl,?_⟩;conv=>whnf
     refine finW_c (enc:=RosterState.v) [2] (.inr rfl) H rfl hR hO hX ?_;conv=>whnf
     refine ⟨Nat.zero_le _,?_⟩;conv=>whnf
     refine ⟨⟨rfl,rfl,rfl⟩,?_⟩;conv=>whnf
     exact ⟨_,_,_,rfl,rfl,.cons (.id rfl) (.cons (.id rfl) (.cons (fzown (f:=ItemItem.v) (l:=v9) rfl rfl (fun _=>rfl) (fun _=>rfl)) (.cons (.slw) (.nil)))),rfl⟩
    conv=>whnf
    refine ⟨Nat.zero_le _,?_⟩;conv=>whnf
    refine dfN_c (f:=RosterGone.v) delF171_n H (⟨⟨_,Tryz.func172,by kernel_rfl,by kernel_rfl⟩,rfl,fun x0=>p_roster_State_change_1_v _ _⟩) (.clo (.cons (.ptr rfl (Nat.le_of_ble_eq_true rfl) (.cons (.id rfl) (.cons (.id rfl) (.cons (.id rfl) (.cons (.id rfl) (.cons (.id rfl) (.nil))))))) (.nil))) (fun H=>?_);conv=>whnf
    refine ⟨Nat.le_of_ble_eq_true rfl,?_⟩;conv=>whnf
    refine Tst.isF b10 ?_;conv=>whnf
    iterate 3 (refine Tst.F ?_;conv=>whnf)
    refine LenQ.ok ?_;conv=>whnf
    refine tst_c H (fun b19 H=>?_) (fun b19 H=>?_)
    ·conv=>whnf
     exact nil_at H
    conv=>whnf
    refine ⟨Nat.le_of_ble_eq_true rfl,?_⟩;conv=>whnf
    refine finW_c (enc:=RosterState.v) [2] (.inr rfl) H rfl hR hO hX ?_;conv=>whnf
    refine ⟨Nat.zero_le _,?_⟩;conv=>whnf
    refine ⟨⟨rfl,rfl,rfl⟩,?_⟩;conv=>whnf
    exact ⟨_,_,_,rfl,rfl,.cons (.id rfl) (.cons (.id rfl) (.cons (fzown (f:=ItemItem.v) (l:=v9) rfl rfl (fun _=>rfl) (fun _=>rfl)) (.cons (.slw) (.nil)))),rfl⟩
   conv=>whnf
   iterate 2 (refine Tst.T ?_;conv=>whnf)
   refine ⟨Nat.zero_le _,?_⟩;conv=>whnf
   refine dfN_c (f:=RosterGone.v) delF171_n H (⟨⟨_,Tryz.func172,by kernel_rfl,by kernel_rfl⟩,rfl,fun x0=>p_roster_State_change_1_v _ _⟩) (.clo (.cons (.ptr rfl (Nat.le_of_ble_eq_true rfl) (.cons (.id rfl) (.cons (.id rfl) (.cons (.id rfl) (.cons (.id rfl) (.cons (.id rfl) (.nil))))))) (.nil))) (fun H=>?_);conv=>whnf
   refine ⟨Nat.le_of_ble_eq_true rfl,?_⟩;conv=>whnf
   refine Tst.isT b10 ?_;conv=>whnf
   iterate 2 (refine Tst.T ?_;conv=>whnf)
   refine Tst.not ?_
   refine tst_c H (fun b11 H=>?_) (fun b11 H=>?_)
   ·conv=>whnf
    refine LenQ.ok ?_;conv=>whnf
    refine tst_c H (fun b12 H=>?_) (fun b12 H=>?_)
    ·conv=>whnf
     exact nil_at H
    conv=>whnf
    refine ⟨Nat.le_of_ble_eq_true rfl,?_⟩;conv=>whnf
    refine finW_c (enc:=RosterState.v) [2] (.inr rfl) H rfl hR hO hX ?_;conv=>whnf
    refine ⟨Nat.zero_le _,?_⟩;conv=>whnf
    refine ⟨⟨rfl,rfl,rfl⟩,?_⟩;conv=>whnf
    exact ⟨_,_,_,rfl,rfl,.cons (.id rfl) (.cons (.id rfl) (.cons (fzown (f:=ItemItem.v) (l:=v9) rfl rfl (fun _=>rfl) (fun _=>rfl)) (.cons (.slw) (.nil)))),rfl⟩
   conv=>whnf
   refine appNs_c (f:=RosterGone.v) H (fun _=>rfl) (srcM (f:=RosterGone.v) (fun _=>rfl) [] true) rfl (.v (srcOwn (f:=RosterGone.v) (l:=[(RosterGone.mk a1.Contact (w64 (s_0 + (1:Int))))]) (fun _=>rfl) rfl rfl rfl)) (by decide) rfl (by simp) (fun l13 H=>?_);conv=>whnf
   refine ⟨Nat.le_of_ble_eq_true rfl,?_⟩;conv=>whnf
   refine tst_d H (fun b14 H=>?_) (fun b14 H=>?_)
   ·conv=>whnf
    refine ⟨Nat.le_of_ble_eq_true rfl,?_⟩;conv=>whnf
    refine finW_c (enc:=RosterState.v) [2,9] (.inr rfl) H rfl hR hO hX ?_;conv=>whnf
    refine ⟨Nat.zero_le _,?_⟩;conv=>whnf
    refine ⟨Nat.zero_le _,?_⟩;conv=>whnf
    refine ⟨⟨rfl,rfl,rfl⟩,?_⟩;conv=>whnf
    exact ⟨_,_,_,rfl,rfl,.cons (.id rfl) (.cons (.id rfl) (.cons (fzown (f:=ItemItem.v) (l:=v9) rfl rfl (fun _=>rfl) (fun _=>rfl)) (.cons (fzown (f:=RosterGone.v) (l:=l13) rfl rfl (fun _=>rfl) (fun _=>rfl)) (.nil)))),rfl⟩
   conv=>whnf
   refine ⟨rfl,ixo_c H (fun x15 h16 H=>?_)⟩;conv=>whnf
   refine ldo_c (f:=RosterGone.v) (es:=2) h16 (fun _=>rfl) 1 (by omega) (by decide) ?_;conv=>whnf
   refine ⟨Nat.le_of_ble_eq_true rfl,?_⟩;conv=>whnf
   refine delO_c (f:=RosterGone.v) delR173_v H (fun _=>rfl) (fun _=>rfl) rfl rfl (fun v17 H=>?_);conv=>whnf
   refine ⟨Nat.le_of_ble_eq_true rfl,?_⟩;conv=>whnf
   refine ⟨Nat.le_of_ble_eq_true rfl,?_⟩;conv=>whnf
   refine finW_c (enc:=RosterState.v) [2,9] (.inr rfl) H rfl hR hO hX ?_;conv=>whnf
   refine ⟨Nat.zero_le _,?_⟩;conv=>whnf
   refine ⟨Nat.zero_le _,?_⟩;conv=>whnf
   refine ⟨⟨rfl,rfl,rfl⟩,?_⟩;conv=>whnf
   exact ⟨_,_,_,rfl,rfl,.cons (.id rfl) (.cons (.id rfl) (.cons (fzown (f:=ItemItem.v) (l:=v9) rfl rfl (fun _=>rfl) (fun _=>rfl)) (.cons (fzown (f:=RosterGone.v) (l:=v17) rfl rfl (fun _=>rfl) (fun _=>rfl)) (.nil)))),rfl⟩
  conv=>whnf
  refine Tst.isT b2 ?_;conv=>whnf
  refine ⟨rfl,ixo_c H (fun x21 h22 H=>?_)⟩;conv=>whnf
  refine ⟨Nat.zero_le _,sto_c (f:=ItemItem.v) (es:=5) h22 (x':=(ItemItem.mk a1.Contact a1.Name a1.Sub (w64 (s_0 + (1:Int))) a1.Own)) (fun _=>rfl) 0 (by omega) (Nat.le_of_ble_eq_true rfl) (by rfl) ?_⟩;conv=>whnf
  refine tst_d H (fun b23 H=>?_) (fun b23 H=>?_)
  ·conv=>whnf
   refine Tst.F ?_;conv=>whnf
   refine tst_d H (fun b31 H=>?_) (fun b31 H=>?_)
   ·conv=>whnf
    refine Tst.isF b23 ?_;conv=>whnf
    iterate 3 (refine Tst.F ?_;conv=>whnf)
    refine LenQ.ok ?_;conv=>whnf
    refine tst_c H (fun b33 H=>?_) (fun b33 H=>?_)
    ·conv=>whnf
     exact nil_at H
    conv=>whnf
    refine ⟨Nat.le_of_ble_eq_true rfl,?_⟩;conv=>whnf
    refine finW_c (enc:=RosterState.v) [2] (.inr rfl) H rfl hR hO hX ?_;conv=>whnf
    refine ⟨Nat.zero_le _,?_⟩;conv=>whnf
    refine ⟨⟨rfl,rfl,rfl⟩,?_⟩;conv=>whnf
    exact ⟨_,_,_,rfl,rfl,.cons (.id rfl) (.cons (.id rfl) (.cons (fzc_made (f:=ItemItem.v) (l:=(List.set s_2 (Int.toNat v1.1) (ItemItem.mk a1.Contact a1.Name a1.Sub (w64 (s_0 + (1:Int))) a1.Own))) rfl rfl rfl (by simp) (fun _=>rfl) (fun _=>rfl)) (.cons (.slw) (.nil)))),rfl⟩
   conv=>whnf
   refine ⟨Nat.zero_le _,?_⟩;conv=>whnf
   refine dfN_c (f:=RosterGone.v) delF171_n H (⟨⟨_,Tryz.func172,by kernel_rfl,by kernel_rfl⟩,rfl,fun x0=>p_roster_State_change_1_v _ _⟩) (.clo (.cons (.ptr rfl (Nat.le_of_ble_eq_true rfl) (.cons (.id rfl) (.cons (.id rfl) (.cons (.id rfl) (.cons (.id rfl) (.cons (.id rfl) (.nil))))))) (.nil))) (fun H=>?_);conv=>whnf
   refine ⟨Nat.le_of_ble_eq_true rfl,?_⟩;conv=>whnf
   refine Tst.isF b23 ?_;conv=>whnf
   iterate 3 (refine Tst.F ?_;conv=>whnf)
   refine LenQ.ok ?_;conv=>whnf
   refine tst_c H (fun b32 H=>?_) (fun b32 H=>?_)
   ·conv=>whnf
    exact nil_at H
   conv=>whnf
   refine ⟨Nat.le_of_ble_eq_true rfl,?_⟩;conv=>whnf
   refine finW_c (enc:=RosterState.v) [2] (.inr rfl) H rfl hR hO hX ?_;conv=>whnf
   refine ⟨Nat.zero_le _,?_⟩;conv=>whnf
   refine ⟨⟨rfl,rfl,rfl⟩,?_⟩;conv=>whnf
   exact ⟨_,_,_,rfl,rfl,.cons (.id rfl) (.cons (.id rfl) (.cons (fzc_made (f:=ItemItem.v) (l:=(List.set s_2 (Int.toNat v1.1) (ItemItem.mk a1.Contact a1.Name a1.Sub (w64 (s_0 + (1:Int))) a1.Own))) rfl rfl rfl (by simp) (fun _=>rfl) (fun _=>rfl)) (.cons (.slw) (.nil)))),rfl⟩
  conv=>whnf
  iterate 2 (refine Tst.T ?_;conv=>whnf)
  refine ⟨Nat.zero_le _,?_⟩;conv=>whnf
  refine dfN_c (f:=RosterGone.v) delF171_n H (⟨⟨_,Tryz.func172,by kernel_rfl,by kernel_rfl⟩,rfl,fun x0=>p_roster_State_change_1_v _ _⟩) (.clo (.cons (.ptr rfl (Nat.le_of_ble_eq_true rfl) (.cons (.id rfl) (.cons (.id rfl) (.cons (.id rfl) (.cons (.id rfl) (.cons (.id rfl) (.nil))))))) (.nil))) (fun H=>?_);conv=>whnf
  refine ⟨Nat.le_of_ble_eq_true rfl,?_⟩;conv=>whnf
  refine Tst.isT b23 ?_;conv=>whnf
  iterate 2 (refine Tst.T ?_;conv=>whnf)
  refine Tst.not ?_
  refine tst_c H (fun b24 H=>?_) (fun b24 H=>?_)
  ·conv=>whnf
   refine LenQ.ok ?_;conv=>whnf
   refine tst_c H (fun b25 H=>?_) (fun b25 H=>?_)
   ·conv=>whnf
    exact nil_at H
   conv=>whnf
   refine ⟨Nat.le_of_ble_eq_true rfl,?_⟩;conv=>whnf
   refine finW_c (enc:=RosterState.v) [2] (.inr rfl) H rfl hR hO hX ?_;conv=>whnf
   refine ⟨Nat.zero_le _,?_⟩;conv=>whnf
   refine ⟨⟨rfl,rfl,rfl⟩,?_⟩;conv=>whnf
   exact ⟨_,_,_,rfl,rfl,.cons (.id rfl) (.cons (.id rfl) (.cons (fzc_made (f:=ItemItem.v) (l:=(List.set s_2 (Int.toNat v1.1) (ItemItem.mk a1.Contact a1.Name a1.Sub (w64 (s_0 + (1:Int))) a1.Own))) rfl rfl rfl (by simp) (fun _=>rfl) (fun _=>rfl)) (.cons (.slw) (.nil)))),rfl⟩
  conv=>whnf
  refine appNs_c (f:=RosterGone.v) H (fun _=>rfl) (srcM (f:=RosterGone.v) (fun _=>rfl) [] true) rfl (.v (srcOwn (f:=RosterGone.v) (l:=[(RosterGone.mk a1.Contact (w64 (s_0 + (1:Int))))]) (fun _=>rfl) rfl rfl rfl)) (by decide) rfl (by simp) (fun l26 H=>?_);conv=>whnf
  refine ⟨Nat.le_of_ble_eq_true rfl,?_⟩;conv=>whnf
  refine tst_d H (fun b27 H=>?_) (fun b27 H=>?_)
  ·conv=>whnf
   refine ⟨Nat.le_of_ble_eq_true rfl,?_⟩;conv=>whnf
   refine finW_c (enc:=RosterState.v) [2,9] (.inr rfl) H rfl hR hO hX ?_;conv=>whnf
   refine ⟨Nat.zero_le _,?_⟩;conv=>whnf
   refine ⟨Nat.zero_le _,?_⟩;conv=>whnf
   refine ⟨⟨rfl,rfl,rfl⟩,?_⟩;conv=>whnf
   exact ⟨_,_,_,rfl,rfl,.cons (.id rfl) (.cons (.id rfl) (.cons (fzc_made (f:=ItemItem.v) (l:=(List.set s_2 (Int.toNat v1.1) (ItemItem.mk a1.Contact a1.Name a1.Sub (w64 (s_0 + (1:Int))) a1.Own))) rfl rfl rfl (by simp) (fun _=>rfl) (fun _=>rfl)) (.cons (fzown (f:=RosterGone.v) (l:=l26) rfl rfl (fun _=>rfl) (fun _=>rfl)) (.nil)))),rfl⟩
  conv=>whnf
  refine ⟨rfl,ixo_c H (fun x28 h29 H=>?_)⟩;conv=>whnf
  refine ldo_c (f:=RosterGone.v) (es:=2) h29 (fun _=>rfl) 1 (by omega) (by decide) ?_;conv=>whnf
  refine ⟨Nat.le_of_ble_eq_true rfl,?_⟩;conv=>whnf
  refine delO_c (f:=RosterGone.v) delR173_v H (fun _=>rfl) (fun _=>rfl) rfl rfl (fun v30 H=>?_);conv=>whnf
  refine ⟨Nat.le_of_ble_eq_true rfl,?_⟩;conv=>whnf
  refine ⟨Nat.le_of_ble_eq_true rfl,?_⟩;conv=>whnf
  refine finW_c (enc:=RosterState.v) [2,9] (.inr rfl) H rfl hR hO hX ?_;conv=>whnf
  refine ⟨Nat.zero_le _,?_⟩;conv=>whnf
  refine ⟨Nat.zero_le _,?_⟩;conv=>whnf
  refine ⟨⟨rfl,rfl,rfl⟩,?_⟩;conv=>whnf
  exact ⟨_,_,_,rfl,rfl,.cons (.id rfl) (.cons (.id rfl) (.cons (fzc_made (f:=ItemItem.v) (l:=(List.set s_2 (Int.toNat v1.1) (ItemItem.mk a1.Contact a1.Name a1.Sub (w64 (s_0 + (1:Int))) a1.Own))) rfl rfl rfl (by simp) (fun _=>rfl) (fun _=>rfl)) (.cons (fzown (f:=RosterGone.v) (l:=v30) rfl rfl (fun _=>rfl) (fun _=>rfl)) (.nil)))),rfl⟩
theorem p_roster_State_change_no (s_0:Int) (s_1:Int) (s_3:List RosterGone) (a1:ItemItem) {R O:List V} {xs:Slot} (hR:V.idlt.belowL 5 R=true) (hO:V.idlt.belowL 5 O=true) (hX:xs.ok5=true) (s:RosterState) (H:p_roster_State_change (RosterState.mk s_0 s_1 [] s_3) a1=some s):CallsS Tryz.prog 109 [.agg [.i s_0,.i s_1,.sl (List.map ItemItem.v []) true,.osl 3 0 (List.length s_3) 2 false],.agg [.s a1.Contact,.s a1.Name,.i a1.Sub,.i a1.Ver,.b a1.Own]] [.live R 0,.live O 0,.dead,.live (cellsM RosterGone.v s_3) 0,xs] (RosterState.v s) [.live R 0,.live O 0,.dead,.dead,xs]:=by
 rcases xs with _ | _ | ⟨X,_ | fX⟩ <;> first | (cases hX;done) | skip
 all_goals
  refine callsR_c (n0:=5) mix Tryz.func109 gc109_ok rfl ?_
  rw [p_roster_State_change] at H
  conv=>whnf
  refine askT_c [3] (p_roster_State_find_v _ _) H (.cons (fzagg (.cons (.id rfl) (.cons (.id rfl) (.cons (.slw) (.cons (fzown (f:=RosterGone.v) (l:=s_3) rfl rfl (fun _=>rfl) (fun _=>rfl)) (.nil))))) rfl) (.cons (.c (.id rfl)) (.nil))) (fun _=>rfl) (fun v1 H=>?_);conv=>whnf
  refine tst_c H (fun b2 H=>?_) (fun b2 H=>?_)
  ·conv=>whnf
   iterate 3 (refine Tst.T ?_;conv=>whnf)
   exact nil_at H
  conv=>whnf
  iterate 6 (refine Tst.F ?_;conv=>whnf)
  refine ask_c (p_item_Listed_v _) H rfl rfl (fun v3 H=>?_);conv=>whnf
  refine Ari.w ?_;conv=>whnf
  refine ⟨Nat.le_of_ble_eq_true rfl,?_⟩;conv=>whnf
  refine ⟨Nat.le_of_ble_eq_true rfl,?_⟩;conv=>whnf
  refine Tst.isF b2 ?_;conv=>whnf
  iterate 3 (refine Tst.F ?_;conv=>whnf)
  refine Tst.isF b2 ?_;conv=>whnf
  refine ask_c (p_item_Idle_v _) H rfl rfl (fun v4 H=>?_);conv=>whnf
  refine Tst.not ?_
  refine tst_c H (fun b5 H=>?_) (fun b5 H=>?_)
  ·conv=>whnf
   iterate 2 (refine Tst.F ?_;conv=>whnf)
   refine tst_d H (fun b6 H=>?_) (fun b6 H=>?_)
   ·conv=>whnf
    iterate 4 (refine Tst.F ?_;conv=>whnf)
    refine tst_d H (fun b12 H=>?_) (fun b12 H=>?_)
    ·conv=>whnf
     refine ⟨Nat.le_of_ble_eq_true rfl,?_⟩;conv=>whnf
     refine finW_c (enc:=RosterState.v) [3] (.inr rfl) H rfl hR hO hX ?_;conv=>whnf
     refine ⟨Nat.zero_le _,?_⟩;conv=>whnf
     refine ⟨⟨rfl,rfl,rfl⟩,?_⟩;conv=>whnf
     exact ⟨_,_,_,rfl,rfl,.cons (.id rfl) (.cons (.id rfl) (.cons (.slw) (.cons (fzown (f:=RosterGone.v) (l:=s_3) rfl rfl (fun _=>rfl) (fun _=>rfl)) (.nil)))),rfl⟩
    conv=>whnf
    refine ⟨rfl,ixo_c H (fun x13 h14 H=>?_)⟩;conv=>whnf
    refine ldo_c (f:=RosterGone.v) (es:=2) h14 (fun _=>rfl) 1 (by omega) (by decide) ?_;conv=>whnf
    refine ⟨Nat.le_of_ble_eq_true rfl,?_⟩;conv=>whnf
    refine delO_c (f:=RosterGone.v) delR173_v H (fun _=>rfl) (fun _=>rfl) rfl rfl (fun v15 H=>?_);conv=>whnf
    refine ⟨Nat.le_of_ble_eq_true rfl,?_⟩;conv=>whnf
    refine ⟨Nat.le_of_ble_eq_true rfl,?_⟩;conv=>whnf
    refine finW_c (enc:=RosterState.v) [3] (.inr rfl) H rfl hR hO hX ?_;conv=>whnf
    refine ⟨Nat.zero_le _,?_⟩;conv=>whnf
    refine ⟨⟨rfl,rfl,rfl⟩,?_⟩;conv=>whnf
    exact ⟨_,_,_,rfl,rfl,.cons (.id rfl) (.cons (.id rfl) (.cons (.slw) (.cons (fzown (f:=RosterGone.v) (l:=v15) rfl rfl (fun _=>rfl) (fun _=>rfl)) (.nil)))),rfl⟩
   conv=>whnf
   refine ⟨Nat.zero_le _,?_⟩;conv=>whnf
   refine dfO_c (f:=RosterGone.v) delF171_v H (⟨⟨_,Tryz.func172,by kernel_rfl,by kernel_rfl⟩,rfl,fun x0=>p_roster_State_change_1_v _ _⟩) (.clo (.cons (.ptr rfl (Nat.le_of_ble_eq_true rfl) (.cons (.id rfl) (.cons (.id rfl) (.cons (.id rfl) (.cons (.id rfl) (.cons (.id rfl) (.nil))))))) (.nil))) (fun _=>rfl) (fun _=>rfl) rfl rfl (fun v7 H=>?_);conv=>whnf
   refine ⟨Nat.le_of_ble_eq_true rfl,?_⟩;conv=>whnf
   iterate 4 (refine Tst.F ?_;conv=>whnf)
   refine tst_d H (fun b8 H=>?_) (fun b8 H=>?_)
   ·conv=>whnf
    refine ⟨Nat.le_of_ble_eq_true rfl,?_⟩;conv=>whnf
    refine finW_c (enc:=RosterState.v) [3] (.inr rfl) H rfl hR hO hX ?_;conv=>whnf
    refine ⟨Nat.zero_le _,?_⟩;conv=>whnf
    refine ⟨⟨rfl,rfl,rfl⟩,?_⟩;conv=>whnf
    exact ⟨_,_,_,rfl,rfl,.cons (.id rfl) (.cons (.id rfl) (.cons (.slw) (.cons (fzown (f:=RosterGone.v) (l:=v7) rfl rfl (fun _=>rfl) (fun _=>rfl)) (.nil)))),rfl⟩
   conv=>whnf
   refine ⟨rfl,ixo_c H (fun x9 h10 H=>?_)⟩;conv=>whnf
   refine ldo_c (f:=RosterGone.v) (es:=2) h10 (fun _=>rfl) 1 (by omega) (by decide) ?_;conv=>whnf
   refine ⟨Nat.le_of_ble_eq_true rfl,?_⟩;conv=>whnf
   refine delO_c (f:=RosterGone.v) delR173_v H (fun _=>rfl) (fun _=>rfl) rfl rfl (fun v11 H=>?_);conv=>whnf
   refine ⟨Nat.le_of_ble_eq_true rfl,?_⟩;conv=>whnf
   refine ⟨Nat.le_of_ble_eq_true rfl,?_⟩;conv=>whnf
   refine finW_c (enc:=RosterState.v) [3] (.inr rfl) H rfl hR hO hX ?_;conv=>whnf
   refine ⟨Nat.zero_le _,?_⟩;conv=>whnf
   refine ⟨⟨rfl,rfl,rfl⟩,?_⟩;conv=>whnf
   exact ⟨_,_,_,rfl,rfl,.cons (.id rfl) (.cons (.id rfl) (.cons (.slw) (.cons (fzown (f:=RosterGone.v) (l:=v11) rfl rfl (fun _=>rfl) (fun _=>rfl)) (.nil)))),rfl⟩
  conv=>whnf
  refine askF_c (insN_v (f:=ItemItem.v) insR170_v (by decide) (fun _=>rfl) (fun _=>rfl) (fun _=>rfl) _ _ _) H (.cons (.c (.id rfl)) (.cons (.c (.id rfl)) (.cons (.c (fzown (f:=ItemItem.v) (l:=[(ItemItem.mk a1.Contact a1.Name a1.Sub (w64 (s_0 + (1:Int))) a1.Own)]) rfl rfl (fun _=>rfl) (fun _=>rfl))) .nil))) (fun v16 H=>?_);conv=>whnf
  refine ⟨Nat.le_of_ble_eq_true rfl,?_⟩;conv=>whnf
  iterate 2 (refine Tst.F ?_;conv=>whnf)
  refine tst_d H (fun b17 H=>?_) (fun b17 H=>?_)
  ·conv=>whnf
   iterate 4 (refine Tst.F ?_;conv=>whnf)
   refine tst_d H (fun b23 H=>?_) (fun b23 H=>?_)
   ·conv=>whnf
    refine ⟨Nat.le_of_ble_eq_true rfl,?_⟩;conv=>whnf
    refine finW_c (enc:=RosterState.v) [3] (.inr rfl) H rfl hR hO hX ?_;conv=>whnf
    refine ⟨Nat.zero_le _,?_⟩;conv=>whnf
    refine ⟨⟨rfl,rfl,rfl⟩,?_⟩;conv=>whnf
    exact ⟨_,_,_,rfl,rfl,.cons (.id rfl) (.cons (.id rfl) (.cons (.id rfl) (.cons (fzown (f:=RosterGone.v) (l:=s_3) rfl rfl (fun _=>rfl) (fun _=>rfl)) (.nil)))),rfl⟩
   conv=>whnf
   refine ⟨rfl,ixo_c H (fun x24 h25 H=>?_)⟩;conv=>whnf
   refine ldo_c (f:=RosterGone.v) (es:=2) h25 (fun _=>rfl) 1 (by omega) (by decide) ?_;conv=>whnf
   refine ⟨Nat.le_of_ble_eq_true rfl,?_⟩;conv=>whnf
   refine delO_c (f:=RosterGone.v) delR173_v H (fun _=>rfl) (fun _=>rfl) rfl rfl (fun v26 H=>?_);conv=>whnf
   refine ⟨Nat.le_of_ble_eq_true rfl,?_⟩;conv=>whnf
   refine ⟨Nat.le_of_ble_eq_true rfl,?_⟩;conv=>whnf
   refine finW_c (enc:=RosterState.v) [3] (.inr rfl) H rfl hR hO hX ?_;conv=>whnf
   refine ⟨Nat.zero_le _,?_⟩;conv=>whnf
   refine ⟨⟨rfl,rfl,rfl⟩,?_⟩;conv=>whnf
   exact ⟨_,_,_,rfl,rfl,.cons (.id rfl) (.cons (.id rfl) (.cons (.id rfl) (.cons (fzown (f:=RosterGone.v) (l:=v26) rfl rfl (fun _=>rfl) (fun _=>rfl)) (.nil)))),rfl⟩
  conv=>whnf
  refine ⟨Nat.zero_le _,?_⟩;conv=>whnf
  refine dfO_c (f:=RosterGone.v) delF171_v H (⟨⟨_,Tryz.func172,by kernel_rfl,by kernel_rfl⟩,rfl,fun x0=>p_roster_State_change_1_v _ _⟩) (.clo (.cons (.ptr rfl (Nat.le_of_ble_eq_true rfl) (.cons (.id rfl) (.cons (.id rfl) (.cons (.id rfl) (.cons (.id rfl) (.cons (.id rfl) (.nil))))))) (.nil))) (fun _=>rfl) (fun _=>rfl) rfl rfl (fun v18 H=>?_);conv=>whnf
  refine ⟨Nat.le_of_ble_eq_true rfl,?_⟩;conv=>whnf
  iterate 4 (refine Tst.F ?_;conv=>whnf)
  refine tst_d H (fun b19 H=>?_) (fun b19 H=>?_)
  ·conv=>whnf
   refine ⟨Nat.le_of_ble_eq_true rfl,?_⟩;conv=>whnf
   refine finW_c (enc:=RosterState.v) [3] (.inr rfl) H rfl hR hO hX ?_;conv=>whnf
   refine ⟨Nat.zero_le _,?_⟩;conv=>whnf
   refine ⟨⟨rfl,rfl,rfl⟩,?_⟩;conv=>whnf
   exact ⟨_,_,_,rfl,rfl,.cons (.id rfl) (.cons (.id rfl) (.cons (.id rfl) (.cons (fzown (f:=RosterGone.v) (l:=v18) rfl rfl (fun _=>rfl) (fun _=>rfl)) (.nil)))),rfl⟩
  conv=>whnf
  refine ⟨rfl,ixo_c H (fun x20 h21 H=>?_)⟩;conv=>whnf
  refine ldo_c (f:=RosterGone.v) (es:=2) h21 (fun _=>rfl) 1 (by omega) (by decide) ?_;conv=>whnf
  refine ⟨Nat.le_of_ble_eq_true rfl,?_⟩;conv=>whnf
  refine delO_c (f:=RosterGone.v) delR173_v H (fun _=>rfl) (fun _=>rfl) rfl rfl (fun v22 H=>?_);conv=>whnf
  refine ⟨Nat.le_of_ble_eq_true rfl,?_⟩;conv=>whnf
  refine ⟨Nat.le_of_ble_eq_true rfl,?_⟩;conv=>whnf
  refine finW_c (enc:=RosterState.v) [3] (.inr rfl) H rfl hR hO hX ?_;conv=>whnf
  refine ⟨Nat.zero_le _,?_⟩;conv=>whnf
  refine ⟨⟨rfl,rfl,rfl⟩,?_⟩;conv=>whnf
  exact ⟨_,_,_,rfl,rfl,.cons (.id rfl) (.cons (.id rfl) (.cons (.id rfl) (.cons (fzown (f:=RosterGone.v) (l:=v22) rfl rfl (fun _=>rfl) (fun _=>rfl)) (.nil)))),rfl⟩
theorem p_roster_State_change_nn (s_0:Int) (s_1:Int) (a1:ItemItem) {R O:List V} {xs:Slot} (hR:V.idlt.belowL 5 R=true) (hO:V.idlt.belowL 5 O=true) (hX:xs.ok5=true) (s:RosterState) (H:p_roster_State_change (RosterState.mk s_0 s_1 [] []) a1=some s):CallsS Tryz.prog 109 [.agg [.i s_0,.i s_1,.sl (List.map ItemItem.v []) true,.sl (List.map RosterGone.v []) true],.agg [.s a1.Contact,.s a1.Name,.i a1.Sub,.i a1.Ver,.b a1.Own]] [.live R 0,.live O 0,.dead,.dead,xs] (RosterState.v s) [.live R 0,.live O 0,.dead,.dead,xs]:=by
 rcases xs with _ | _ | ⟨X,_ | fX⟩ <;> first | (cases hX;done) | skip
 all_goals
  refine callsR_c (n0:=5) mix Tryz.func109 gc109_ok rfl ?_
  rw [p_roster_State_change] at H
  conv=>whnf
  refine ask_c (p_roster_State_find_v _ _) H rfl rfl (fun v1 H=>?_);conv=>whnf
  refine tst_c H (fun b2 H=>?_) (fun b2 H=>?_)
  ·conv=>whnf
   iterate 3 (refine Tst.T ?_;conv=>whnf)
   exact nil_at H
  conv=>whnf
  iterate 6 (refine Tst.F ?_;conv=>whnf)
  refine ask_c (p_item_Listed_v _) H rfl rfl (fun v3 H=>?_);conv=>whnf
  refine Ari.w ?_;conv=>whnf
  refine ⟨Nat.le_of_ble_eq_true rfl,?_⟩;conv=>whnf
  refine ⟨Nat.le_of_ble_eq_true rfl,?_⟩;conv=>whnf
  refine Tst.isF b2 ?_;conv=>whnf
  iterate 3 (refine Tst.F ?_;conv=>whnf)
  refine Tst.isF b2 ?_;conv=>whnf
  refine ask_c (p_item_Idle_v _) H rfl rfl (fun v4 H=>?_);conv=>whnf
  refine Tst.not ?_
  refine tst_c H (fun b5 H=>?_) (fun b5 H=>?_)
  ·conv=>whnf
   iterate 2 (refine Tst.F ?_;conv=>whnf)
   refine tst_d H (fun b6 H=>?_) (fun b6 H=>?_)
   ·conv=>whnf
    iterate 4 (refine Tst.F ?_;conv=>whnf)
    refine LenQ.ok ?_;conv=>whnf
    refine tst_c H (fun b8 H=>?_) (fun b8 H=>?_)
    ·conv=>whnf
     exact nil_at H
    conv=>whnf
    refine ⟨Nat.le_of_ble_eq_true rfl,?_⟩;conv=>whnf
    refine finW_c (enc:=RosterState.v) [] (.inr rfl) H rfl hR hO hX ?_;conv=>whnf
    refine ⟨⟨rfl,rfl,rfl⟩,?_⟩;conv=>whnf
    exact ⟨_,_,_,rfl,rfl,.cons (.id rfl) (.cons (.id rfl) (.cons (.slw) (.cons (.slw) (.nil)))),rfl⟩
   conv=>whnf
   refine ⟨Nat.zero_le _,?_⟩;conv=>whnf
   refine dfN_c (f:=RosterGone.v) delF171_n H (⟨⟨_,Tryz.func172,by kernel_rfl,by kernel_rfl⟩,rfl,fun x0=>p_roster_State_change_1_v _ _⟩) (.clo (.cons (.ptr rfl (Nat.le_of_ble_eq_true rfl) (.cons (.id rfl) (.cons (.id rfl) (.cons (.id rfl) (.cons (.id rfl) (.cons (.id rfl) (.nil))))))) (.nil))) (fun H=>?_);conv=>whnf
   refine ⟨Nat.le_of_ble_eq_true rfl,?_⟩;conv=>whnf
   iterate 4 (refine Tst.F ?_;conv=>whnf)
   refine LenQ.ok ?_;conv=>whnf
   refine tst_c H (fun b7 H=>?_) (fun b7 H=>?_)
   ·conv=>whnf
    exact nil_at H
   conv=>whnf
   refine ⟨Nat.le_of_ble_eq_true rfl,?_⟩;conv=>whnf
   refine finW_c (enc:=RosterState.v) [] (.inr rfl) H rfl hR hO hX ?_;conv=>whnf
   refine ⟨⟨rfl,rfl,rfl⟩,?_⟩;conv=>whnf
   exact ⟨_,_,_,rfl,rfl,.cons (.id rfl) (.cons (.id rfl) (.cons (.slw) (.cons (.slw) (.nil)))),rfl⟩
  conv=>whnf
  refine askF_c (insN_v (f:=ItemItem.v) insR170_v (by decide) (fun _=>rfl) (fun _=>rfl) (fun _=>rfl) _ _ _) H (.cons (.c (.id rfl)) (.cons (.c (.id rfl)) (.cons (.c (fzown (f:=ItemItem.v) (l:=[(ItemItem.mk a1.Contact a1.Name a1.Sub (w64 (s_0 + (1:Int))) a1.Own)]) rfl rfl (fun _=>rfl) (fun _=>rfl))) .nil))) (fun v9 H=>?_);conv=>whnf
  refine ⟨Nat.le_of_ble_eq_true rfl,?_⟩;conv=>whnf
  iterate 2 (refine Tst.F ?_;conv=>whnf)
  refine tst_d H (fun b10 H=>?_) (fun b10 H=>?_)
  ·conv=>whnf
   iterate 4 (refine Tst.F ?_;conv=>whnf)
   refine LenQ.ok ?_;conv=>whnf
   refine tst_c H (fun b12 H=>?_) (fun b12 H=>?_)
   ·conv=>whnf
    exact nil_at H
   conv=>whnf
   refine ⟨Nat.le_of_ble_eq_true rfl,?_⟩;conv=>whnf
   refine finW_c (enc:=RosterState.v) [] (.inr rfl) H rfl hR hO hX ?_;conv=>whnf
   refine ⟨⟨rfl,rfl,rfl⟩,?_⟩;conv=>whnf
   exact ⟨_,_,_,rfl,rfl,.cons (.id rfl) (.cons (.id rfl) (.cons (.id rfl) (.cons (.slw) (.nil)))),rfl⟩
  conv=>whnf
  refine ⟨Nat.zero_le _,?_⟩;conv=>whnf
  refine dfN_c (f:=RosterGone.v) delF171_n H (⟨⟨_,Tryz.func172,by kernel_rfl,by kernel_rfl⟩,rfl,fun x0=>p_roster_State_change_1_v _ _⟩) (.clo (.cons (.ptr rfl (Nat.le_of_ble_eq_true rfl) (.cons (.id rfl) (.cons (.id rfl) (.cons (.id rfl) (.cons (.id rfl) (.cons (.id rfl) (.nil))))))) (.nil))) (fun H=>?_);conv=>whnf
  refine ⟨Nat.le_of_ble_eq_true rfl,?_⟩;conv=>whnf
  iterate 4 (refine Tst.F ?_;conv=>whnf)
  refine LenQ.ok ?_;conv=>whnf
  refine tst_c H (fun b11 H=>?_) (fun b11 H=>?_)
  ·conv=>whnf
   exact nil_at H
  conv=>whnf
  refine ⟨Nat.le_of_ble_eq_true rfl,?_⟩;conv=>whnf
  refine finW_c (enc:=RosterState.v) [] (.inr rfl) H rfl hR hO hX ?_;conv=>whnf
  refine ⟨⟨rfl,rfl,rfl⟩,?_⟩;conv=>whnf
  exact ⟨_,_,_,rfl,rfl,.cons (.id rfl) (.cons (.id rfl) (.cons (.id rfl) (.cons (.slw) (.nil)))),rfl⟩
end Go.Proofs.YtpmoioopjbfhkaaGreat

