/- A part of the proof: 1 texts joined. -/
import Derived.Test.YtmmmcpeickfolaaGreatZaA16
import Derived.Test.YtmmmcpeickfolaaGreatZaA18
import Derived.Test.YtmmmcpeickfolaaGreatZaA19
import Derived.Test.YtmmmcpeickfolaaGreatZaA23
import Derived.Test.YtmmmcpeickfolaaGreatZaA24
import Derived.Test.YtmmmcpeickfolaaGreatZaA10
import Derived.KernelRfl
set_option linter.all false
namespace Go.Proofs.YtmmmcpeickfolaaGreat
open Go.RowKit
set_option maxRecDepth 1000000
set_option maxHeartbeats 4000000
def gc9:BCode:=(.seq (R_ 0 [O_ 4 (.mv (b_ false)) 0]) (.seq (.seq (R_ 0 [O_ 21 (.mv (t_ 0)) 0,O_ 22 (.lens (t_ 21)) 0,O_ 23 (.bin .gtr (t_ 22) (i_ 60)) 0]) (.cond (t_ 23) (.seq (R_ 0 [O_ 24 (.cl 42 []) 0,O_ 4 (.mv (t_ 24)) 0]) .ret) .skip)) (.seq (R_ 1 [O_ 5 (.al (.agg [(.lit (.int .i64 0)),(.lit (.int .i64 0)),(.sl [] true),(.sl [] true)])) 0]) (.seq (R_ 0 [O_ 25 (.mv (t_ 1)) 0,O_ 26 (.cvi .i64 (t_ 25)) 0,O_ 27 (.mv (t_ 0)) 0,O_ 28 (.lens (t_ 27)) 0,O_ 29 (.bin .add (t_ 28) (i_ 1)) 0,O_ 30 (.bin .rem (t_ 26) (t_ 29)) 0,O_ 6 (.mv (t_ 30)) 0]) (.seq (R_ 0 [O_ 7 (.mv (.const (.slice none 0 0))) 0]) (.seq (R_ 0 [O_ 8 (.mv (i_ 0)) 0]) (.join (.seq (R_ 0 [O_ 9 (.mv (i_ 0)) 0]) (.block 0 (.loop (.seq (.seq (R_ 0 [O_ 31 (.mv (t_ 9)) 0,O_ 32 (.mv (t_ 0)) 0,O_ 33 (.lens (t_ 32)) 0,O_ 34 (.bin .leq (t_ 31) (t_ 33)) 0]) (.cond (t_ 34) .skip (.exit 0))) (.seq (.block 1 (.join (.seq (R_ 0 [O_ 37 (.mv (t_ 9)) 0,O_ 38 (.mv (t_ 6)) 0,O_ 39 (.bin .eql (t_ 37) (t_ 38)) 0]) (.cond (t_ 39) (.reg 0 [O_ 40 (.ld 4 true (t_ 5)) 0,O_ 41 (.cl 43 [(t_ 40)]) 0,O_ 42 (.fa 0 (t_ 5)) 0,O_ 43 (.ld 1 false (t_ 42)) 0,O_ 7 (.mv (t_ 41)) 0,O_ 8 (.mv (t_ 43)) 0] (some [[],[0],[],[2],[0,1],[1,0,4,2,3]]) 0 []) .skip)) (.seq (.seq (R_ 0 [O_ 44 (.mv (t_ 9)) 0,O_ 45 (.mv (t_ 0)) 0,O_ 46 (.lens (t_ 45)) 0,O_ 47 (.bin .eql (t_ 44) (t_ 46)) 0]) (.cond (t_ 47) (.exit 0) .skip)) (.seq (.reg 1 [O_ 48 (.ld 4 true (t_ 5)) 0,O_ 49 (.mv (t_ 0)) 0,O_ 50 (.mv (t_ 9)) 0,O_ 51 (.ixs 3 (t_ 49) (t_ 50)) 0,O_ 52 (.ld 3 true (t_ 51)) 0,O_ 53 (.cl 44 [(t_ 48),(t_ 52)]) 0,O_ 10 (.al (.agg [(.lit (.int .i64 0)),(.lit (.int .i64 0)),(.sl [] true),(.sl [] true)])) 0,U_ (.st 4 (t_ 10) (t_ 53)) 1] (some [[],[],[],[2,1],[1,2,3],[3,2,1,4,0],[],[0,4,1,2,3,5,6]]) 0 []) (.seq (.seq (R_ 0 [O_ 54 (.ld 4 true (t_ 10)) 0,O_ 55 (.cl 45 [(t_ 54)]) 0,O_ 56 (.bin .neq (t_ 55) (i_ 0)) 0,O_ 57 (.mv (t_ 56)) 0,⟨(some 58),.fa 0 (t_ 10),(some (57,false)),0⟩,⟨(some 59),.ld 1 false (t_ 58),(some (57,false)),0⟩,⟨(some 60),.fa 0 (t_ 5),(some (57,false)),0⟩,⟨(some 61),.ld 1 false (t_ 60),(some (57,false)),0⟩,⟨(some 62),.bin .lss (t_ 59) (t_ 61),(some (57,false)),0⟩,O_ 63 (.pick (t_ 57) (b_ true) (t_ 62)) 0,O_ 64 (.mv (t_ 63)) 0,⟨(some 65),.fa 0 (t_ 10),(some (64,false)),0⟩,⟨(some 66),.ld 1 false (t_ 65),(some (64,false)),0⟩,⟨(some 67),.fa 0 (t_ 5),(some (64,false)),0⟩,⟨(some 68),.ld 1 false (t_ 67),(some (64,false)),0⟩,⟨(some 69),.bin .add (t_ 68) (i_ 1),(some (64,false)),0⟩,⟨(some 70),.bin .gtr (t_ 66) (t_ 69),(some (64,false)),0⟩,O_ 71 (.pick (t_ 64) (b_ true) (t_ 70)) 0,O_ 72 (.mv (t_ 71)) 0,⟨(some 73),.fa 1 (t_ 10),(some (72,false)),0⟩,⟨(some 74),.ld 1 false (t_ 73),(some (72,false)),0⟩,⟨(some 75),.fa 1 (t_ 5),(some (72,false)),0⟩,⟨(some 76),.ld 1 false (t_ 75),(some (72,false)),0⟩,⟨(some 77),.bin .lss (t_ 74) (t_ 76),(some (72,false)),0⟩,O_ 78 (.pick (t_ 72) (b_ true) (t_ 77)) 0,O_ 79 (.mv (t_ 78)) 0,⟨(some 80),.fa 2 (t_ 10),(some (79,false)),0⟩,⟨(some 81),.ld 1 false (t_ 80),(some (79,false)),0⟩,⟨(some 82),.lens (t_ 81),(some (79,false)),0⟩,⟨(some 83),.bin .gtr (t_ 82) (i_ 12),(some (79,false)),0⟩,O_ 84 (.pick (t_ 79) (b_ true) (t_ 83)) 0]) (.cond (t_ 84) (.seq (R_ 0 [O_ 4 (.mv (b_ false)) 0]) .ret) .skip)) (R_ 0 [O_ 85 (.ld 4 true (t_ 10)) 0,U_ (.st 4 (t_ 5) (t_ 85)) 0])))))) (R_ 0 [O_ 35 (.mv (t_ 9)) 0,O_ 36 (.bin .add (t_ 35) (i_ 1)) 0,O_ 9 (.mv (t_ 36)) 0])))))) (.seq (R_ 0 [O_ 87 (.ld 4 true (t_ 5)) 0,O_ 88 (.mv (t_ 8)) 0,O_ 89 (.cl 46 [(t_ 87),(t_ 88)]) 0,O_ 86 (.mv (t_ 89)) 0,O_ 90 (.ex (t_ 86) 0) 0,O_ 91 (.ex (t_ 86) 1) 0,O_ 92 (.ex (t_ 86) 2) 0,O_ 11 (.mv (t_ 90)) 0,O_ 12 (.mv (t_ 91)) 0,O_ 13 (.mv (t_ 92)) 0]) (.join (.seq (R_ 0 [O_ 93 (.mv (t_ 13)) 0]) (.cond (t_ 93) (R_ 0 [O_ 94 (.mv (t_ 11)) 0,O_ 7 (.mv (t_ 94)) 0]) .skip)) (.seq (R_ 0 [O_ 14 (.mv (.const (.slice none 0 0))) 0]) (.seq (.seq (R_ 0 [O_ 15 (.mv (i_ 0)) 0]) (.block 2 (.loop (.seq (.seq (R_ 0 [O_ 95 (.mv (t_ 15)) 0,O_ 96 (.mv (t_ 7)) 0,O_ 97 (.lens (t_ 96)) 0,O_ 98 (.bin .lss (t_ 95) (t_ 97)) 0]) (.cond (t_ 98) .skip (.exit 2))) (.seq (.block 3 (.seq (R_ 0 [O_ 16 (.mv (b_ true)) 0]) (.seq (.seq (R_ 0 [O_ 17 (.mv (i_ 0)) 0]) (.block 4 (.loop (.seq (.seq (R_ 0 [O_ 101 (.mv (t_ 17)) 0,O_ 102 (.mv (t_ 12)) 0,O_ 103 (.lens (t_ 102)) 0,O_ 104 (.bin .lss (t_ 101) (t_ 103)) 0]) (.cond (t_ 104) .skip (.exit 4))) (.seq (.block 5 (.reg 0 [O_ 107 (.mv (t_ 16)) 0,O_ 108 (.mv (t_ 107)) 0,⟨(some 109),.mv (t_ 12),(some (108,true)),0⟩,⟨(some 110),.mv (t_ 17),(some (108,true)),0⟩,⟨(some 111),.ixs 2 (t_ 109) (t_ 110),(some (108,true)),0⟩,⟨(some 112),.fa 0 (t_ 111),(some (108,true)),0⟩,⟨(some 113),.ld 1 false (t_ 112),(some (108,true)),0⟩,⟨(some 114),.mv (t_ 7),(some (108,true)),0⟩,⟨(some 115),.mv (t_ 15),(some (108,true)),0⟩,⟨(some 116),.ixs 5 (t_ 114) (t_ 115),(some (108,true)),0⟩,⟨(some 117),.fa 0 (t_ 116),(some (108,true)),0⟩,⟨(some 118),.ld 1 false (t_ 117),(some (108,true)),0⟩,⟨(some 119),.bin .neq (t_ 113) (t_ 118),(some (108,true)),0⟩,O_ 120 (.pick (t_ 108) (t_ 119) (b_ false)) 0,O_ 16 (.mv (t_ 120)) 0] (some [[],[0],[0,1],[0,1],[3,1,0,2],[2,0,1,3,4],[4,3,1,0,2,5],[0,1],[0,1],[8,1,0,7],[7,0,1,8,9],[9,8,1,0,7,10],[10,7,8,9,11,5,2,0,1,3,4,6],[6,4,3,2,5,11,9,8,7,10,12,0,1],[1,0,12,10,7,8,9,11,5,2,3,4,6,13]]) 0 [])) (R_ 0 [O_ 105 (.mv (t_ 17)) 0,O_ 106 (.bin .add (t_ 105) (i_ 1)) 0,O_ 17 (.mv (t_ 106)) 0])))))) (.seq (.seq (R_ 0 [O_ 18 (.mv (i_ 0)) 0]) (.block 6 (.loop (.seq (.seq (R_ 0 [O_ 121 (.mv (t_ 18)) 0,O_ 122 (.mv (t_ 11)) 0,O_ 123 (.lens (t_ 122)) 0,O_ 124 (.bin .lss (t_ 121) (t_ 123)) 0]) (.cond (t_ 124) .skip (.exit 6))) (.seq (.block 7 (.reg 0 [O_ 127 (.mv (t_ 16)) 0,O_ 128 (.mv (t_ 127)) 0,⟨(some 129),.mv (t_ 11),(some (128,true)),0⟩,⟨(some 130),.mv (t_ 18),(some (128,true)),0⟩,⟨(some 131),.ixs 5 (t_ 129) (t_ 130),(some (128,true)),0⟩,⟨(some 132),.fa 0 (t_ 131),(some (128,true)),0⟩,⟨(some 133),.ld 1 false (t_ 132),(some (128,true)),0⟩,⟨(some 134),.mv (t_ 7),(some (128,true)),0⟩,⟨(some 135),.mv (t_ 15),(some (128,true)),0⟩,⟨(some 136),.ixs 5 (t_ 134) (t_ 135),(some (128,true)),0⟩,⟨(some 137),.fa 0 (t_ 136),(some (128,true)),0⟩,⟨(some 138),.ld 1 false (t_ 137),(some (128,true)),0⟩,⟨(some 139),.bin .neq (t_ 133) (t_ 138),(some (128,true)),0⟩,O_ 140 (.pick (t_ 128) (t_ 139) (b_ false)) 0,O_ 16 (.mv (t_ 140)) 0] (some [[],[0],[0,1],[0,1],[3,1,0,2],[2,0,1,3,4],[4,3,1,0,2,5],[0,1],[0,1],[8,1,0,7],[7,0,1,8,9],[9,8,1,0,7,10],[10,7,8,9,11,5,2,0,1,3,4,6],[6,4,3,2,5,11,9,8,7,10,12,0,1],[1,0,12,10,7,8,9,11,5,2,3,4,6,13]]) 0 [])) (R_ 0 [O_ 125 (.mv (t_ 18)) 0,O_ 126 (.bin .add (t_ 125) (i_ 1)) 0,O_ 18 (.mv (t_ 126)) 0])))))) (.seq (R_ 0 [O_ 141 (.mv (t_ 16)) 0]) (.cond (t_ 141) (R_ 2 [O_ 142 (.mv (t_ 14)) 0,O_ 143 (.mv (t_ 7)) 0,O_ 144 (.mv (t_ 15)) 0,O_ 145 (.ixs 5 (t_ 143) (t_ 144)) 0,O_ 146 (.ld 5 true (t_ 145)) 0,O_ 147 (.bs 5 1 [(.lit (.string ⟨#[]⟩)),(.lit (.string ⟨#[]⟩)),(.lit (.int .i64 0)),(.lit (.int .i64 0)),(.lit (.bool false))] [(0,(t_ 146))]) 0,O_ 148 (.ap 5 56 (t_ 142) (t_ 147)) 1,O_ 14 (.mv (t_ 148)) 2]) .skip)))))) (R_ 0 [O_ 99 (.mv (t_ 15)) 0,O_ 100 (.bin .add (t_ 99) (i_ 1)) 0,O_ 15 (.mv (t_ 100)) 0])))))) (.seq (R_ 1 [O_ 149 (.mv (t_ 14)) 0,O_ 150 (.mv (t_ 11)) 0,O_ 151 (.ap 5 56 (t_ 149) (t_ 150)) 0,O_ 152 (.cl 47 [(t_ 151)]) 1,O_ 14 (.mv (t_ 152)) 1]) (.seq (R_ 0 [O_ 153 (.ld 4 true (t_ 5)) 0,O_ 154 (.cl 43 [(t_ 153)]) 0,O_ 19 (.mv (t_ 154)) 0]) (.seq (.seq (R_ 0 [O_ 155 (.mv (t_ 14)) 0,O_ 156 (.lens (t_ 155)) 0,O_ 157 (.mv (t_ 19)) 0,O_ 158 (.lens (t_ 157)) 0,O_ 159 (.bin .neq (t_ 156) (t_ 158)) 0]) (.cond (t_ 159) (.seq (R_ 0 [O_ 4 (.mv (b_ false)) 0]) .ret) .skip)) (.seq (.seq (R_ 0 [O_ 20 (.mv (i_ 0)) 0]) (.block 8 (.loop (.seq (.seq (R_ 0 [O_ 160 (.mv (t_ 20)) 0,O_ 161 (.mv (t_ 14)) 0,O_ 162 (.lens (t_ 161)) 0,O_ 163 (.bin .lss (t_ 160) (t_ 162)) 0]) (.cond (t_ 163) .skip (.exit 8))) (.seq (.block 9 (.seq (.reg 0 [O_ 166 (.mv (t_ 14)) 0,O_ 167 (.mv (t_ 20)) 0,O_ 168 (.ixs 5 (t_ 166) (t_ 167)) 0,O_ 169 (.ld 5 true (t_ 168)) 0,O_ 170 (.mv (t_ 19)) 0,O_ 171 (.mv (t_ 20)) 0,O_ 172 (.ixs 5 (t_ 170) (t_ 171)) 0,O_ 173 (.ld 5 true (t_ 172)) 0,O_ 174 (.eqa true [2,2,1,1,0] (t_ 169) (t_ 173)) 0] (some [[],[],[1,0],[0,1,2],[],[],[5,4],[4,5,6],[6,5,4,7,2,1,0,3]]) 0 []) (.cond (t_ 174) (.seq (R_ 0 [O_ 4 (.mv (b_ false)) 0]) .ret) .skip))) (R_ 0 [O_ 164 (.mv (t_ 20)) 0,O_ 165 (.bin .add (t_ 164) (i_ 1)) 0,O_ 20 (.mv (t_ 165)) 0])))))) (.seq (R_ 0 [O_ 175 (.cl 42 []) 0,O_ 4 (.mv (t_ 175)) 0]) .ret))))))))))))))))
theorem gc9_ok:compF Tryz.prog Tryz.f9=some (gc9.er,176,[.tmp 4]):=by unfold gc9;kernel_rfl
theorem p_law21_RosterReplay_v {u1:Bool} (a0:List Law21Deed) (a1:Int):CallsO Tryz.prog 9 [.sl (List.map Law21Deed.v a0) u1,.y8 a1] V.b (tru? (p_law21_RosterReplay a0 a1)):=by
 refine callsO_comp mix Tryz.func9 gc9_ok fun r H=>?_
 have H1:=tru_of H
 clear H
 obtain ⟨rfl,H⟩:=H1
 rw [p_law21_RosterReplay] at H
 conv=>whnf
 refine LenQ.M ?_;conv=>whnf
 refine tst_c H (fun b1 H=>?_) (fun b1 H=>?_)
 ·conv=>whnf
  refine ask_c (p_law21_awake_v) H rfl rfl (fun v2 H=>?_);conv=>whnf
  exact fb_ H
 conv=>whnf
 refine Ari.w ?_;conv=>whnf
 refine LenQ.M ?_;conv=>whnf
 refine Ari.w ?_;conv=>whnf
 refine ne0_c H (fun H=>?_);conv=>whnf
 obtain ⟨K4,hK5,o6,HL7,HQ8⟩:=join0_c H
 refine join_c [4,7,8,5] [9,10,31,32,33,34,35,36,37,38,39,40,41,42,43,44,45,46,47,48,49,50,51,52,53,54,55,56,57,58,59,60,61,62,63,64,65,66,67,68,69,70,71,72,73,74,75,76,77,78,79,80,81,82,83,84,85] (fun vals st=>(∃ y35 y36 y37 u33 u34,K4 (.inl (y35,y36,y37))=some true∧vals=[.b false,.sl (List.map ItemItem.v y35) false,.i y36,.ptr 0 0]∧st=[.live [.i y37.Ver,.i y37.Floor,.sl (List.map ItemItem.v y37.Items) u33,.sl (List.map RosterGone.v y37.Gone) u34] 0])∨(∃ y55 y56 u53 u54,K4 (.inl ([],y55,y56))=some true∧vals=[.b false,.sl (List.map ItemItem.v []) true,.i y55,.ptr 0 0]∧st=[.live [.i y56.Ver,.i y56.Floor,.sl (List.map ItemItem.v y56.Items) u53,.sl (List.map RosterGone.v y56.Gone) u54] 0])) ?_ ?_
 ·have H:=HL7
  conv=>whnf
  obtain ⟨o11,HL12,HQ13⟩:=bind_c H
  refine loop_c [4,7,8,9] [10,31,32,33,34,35,36,37,38,39,40,41,42,43,44,45,46,47,48,49,50,51,52,53,54,55,56,57,58,59,60,61,62,63,64,65,66,67,68,69,70,71,72,73,74,75,76,77,78,79,80,81,82,83,84,85] [10,31,32,33,34,35,36,37,38,39,40,41,42,43,44,45,46,47,48,49,50,51,52,53,54,55,56,57,58,59,60,61,62,63,64,65,66,67,68,69,70,71,72,73,74,75,76,77,78,79,80,81,82,83,84,85] (fun n vals st=>(∃ y15 y16 y17 u18 u19,p_law21_RosterReplay_l1  a0 (Int.tmod (w64 a1) (w64 ((a0.length:Int) + (1:Int)))) n [] y15 y16 y17=some o11∧vals=[.b false,.sl (List.map ItemItem.v []) true,.i y15,.i y16]∧st=[.live [.i y17.Ver,.i y17.Floor,.sl (List.map ItemItem.v y17.Items) u18,.sl (List.map RosterGone.v y17.Gone) u19] 0])∨(∃ y46 y47 y48 y49 u50 u51,p_law21_RosterReplay_l1  a0 (Int.tmod (w64 a1) (w64 ((a0.length:Int) + (1:Int)))) n y46 y47 y48 y49=some o11∧vals=[.b false,.sl (List.map ItemItem.v y46) false,.i y47,.i y48]∧st=[.live [.i y49.Ver,.i y49.Floor,.sl (List.map ItemItem.v y49.Items) u50,.sl (List.map RosterGone.v y49.Gone) u51] 0])) fuel 1 [] (.inl (⟨_,_,_,_,_,HL12,rfl,rfl⟩)) (Nat.zero_le _) rfl (by kernel_rfl) (by kernel_rfl) rfl ⟨⟨rfl,rfl,rfl⟩,trivial⟩ ?_
  rintro (_ | n14) _ _ (⟨y15,y16,y17,u18,u19,H,rfl,rfl⟩ | ⟨y46,y47,y48,y49,u50,u51,H,rfl,rfl⟩)
  ·rw [p_law21_RosterReplay_l1] at H;cases H
  ·rw [p_law21_RosterReplay_l1] at H;cases H
  ·rw [p_law21_RosterReplay_l1] at H
   conv=>whnf
   refine LenQ.M ?_;conv=>whnf
   refine tst_d H (fun b20 H=>?_) (fun b20 H=>?_)
   ·conv=>whnf
    obtain rfl:=Option.some.inj H
    have H:=HQ13
    try dsimp only at H
    obtain rfl:=Option.some.inj H
    exact arrive_c [9,10,31,32,33,34,35,36,37,38,39,40,41,42,43,44,45,46,47,48,49,50,51,52,53,54,55,56,57,58,59,60,61,62,63,64,65,66,67,68,69,70,71,72,73,74,75,76,77,78,79,80,81,82,83,84,85] 1 [] (.inr (⟨_,_,_,_,HQ8,rfl,rfl⟩)) (Nat.zero_le _) rfl (by kernel_rfl) (by kernel_rfl) rfl ⟨⟨rfl,rfl,rfl⟩,trivial⟩
   conv=>whnf
   obtain ⟨K21,hK22,o23,HL24,HQ25⟩:=join0_c H
   refine join_c [7,8,5] [37,38,39,40,41,42,43] (fun vals st=>(∃ y29 y30,K21 (y29,y30)=some o11∧vals=[.sl (List.map ItemItem.v y29) false,.i y30,.ptr 0 0]∧st=[.live [.i y17.Ver,.i y17.Floor,.sl (List.map ItemItem.v y17.Items) u18,.sl (List.map RosterGone.v y17.Gone) u19] 0])∨(∃ y31,K21 ([],y31)=some o11∧vals=[.sl (List.map ItemItem.v []) true,.i y31,.ptr 0 0]∧st=[.live [.i y17.Ver,.i y17.Floor,.sl (List.map ItemItem.v y17.Items) u18,.sl (List.map RosterGone.v y17.Gone) u19] 0])) ?_ ?_
   ·have H:=HL24
    conv=>whnf
    refine tst_d H (fun b27 H=>?_) (fun b27 H=>?_)
    ·conv=>whnf
     obtain rfl:=Option.some.inj H
     exact arrive_c [37,38,39,40,41,42,43] 1 [] (.inr (⟨_,HQ25,rfl,rfl⟩)) (Nat.zero_le _) rfl (by kernel_rfl) (by kernel_rfl) rfl ⟨⟨rfl,rfl,rfl⟩,trivial⟩
    conv=>whnf
    refine ask_c (p_roster_Listed_v _) H rfl rfl (fun v28 H=>?_);conv=>whnf
    refine FootQ.mk ⟨rfl,?_⟩;conv=>whnf
    obtain rfl:=Option.some.inj H
    exact arrive_c [37,38,39,40,41,42,43] 1 [] (.inl (⟨_,_,HQ25,rfl,rfl⟩)) (Nat.zero_le _) rfl (by kernel_rfl) (by kernel_rfl) rfl ⟨⟨rfl,rfl,rfl⟩,trivial⟩
   rintro _ _ (⟨y29,y30,H,rfl,rfl⟩ | ⟨y31,H,rfl,rfl⟩)
   ·rw [hK22] at H
    try dsimp only at H
    conv=>whnf
    refine LenQ.M ?_;conv=>whnf
    refine tst_c H (fun b32 H=>?_) (fun b32 H=>?_)
    ·conv=>whnf
     obtain rfl:=Option.some.inj H
     have H:=HQ13
     try dsimp only at H
     obtain rfl:=Option.some.inj H
     exact arrive_c [9,10,31,32,33,34,35,36,37,38,39,40,41,42,43,44,45,46,47,48,49,50,51,52,53,54,55,56,57,58,59,60,61,62,63,64,65,66,67,68,69,70,71,72,73,74,75,76,77,78,79,80,81,82,83,84,85] 1 [] (.inl (⟨_,_,_,_,_,HQ8,rfl,rfl⟩)) (Nat.zero_le _) rfl (by kernel_rfl) (by kernel_rfl) rfl ⟨⟨rfl,rfl,rfl⟩,trivial⟩
    conv=>whnf
    refine ixs_c (f:=Law21Deed.v) H (fun _=>rfl) (fun x38 H=>?_);conv=>whnf
    refine ask_c (p_law21_done_v _ _) H rfl rfl (fun v39 H=>?_);conv=>whnf
    refine lq_ ?_;conv=>whnf
    refine FootQ.mk ⟨rfl,?_⟩;conv=>whnf
    refine ask_c (p_roster_Check_v _) H rfl rfl (fun v40 H=>?_);conv=>whnf
    refine tst_c H (fun b41 H=>?_) (fun b41 H=>?_)
    ·conv=>whnf
     iterate 24 (refine Tst.T ?_;conv=>whnf)
     obtain rfl:=Option.some.inj H
     have H:=HQ13
     try dsimp only at H
     obtain rfl:=Option.some.inj H
     have H:=HQ8
     rw [hK5] at H
     try dsimp only at H
     exact fb_ H
    conv=>whnf
    iterate 5 (refine Tst.F ?_;conv=>whnf)
    refine tst_c H (fun b42 H=>?_) (fun b42 H=>?_)
    ·conv=>whnf
     iterate 18 (refine Tst.T ?_;conv=>whnf)
     obtain rfl:=Option.some.inj H
     have H:=HQ13
     try dsimp only at H
     obtain rfl:=Option.some.inj H
     have H:=HQ8
     rw [hK5] at H
     try dsimp only at H
     exact fb_ H
    conv=>whnf
    iterate 4 (refine Tst.F ?_;conv=>whnf)
    refine Ari.w ?_;conv=>whnf
    iterate 2 (refine Tst.F ?_;conv=>whnf)
    refine tst_c H (fun b43 H=>?_) (fun b43 H=>?_)
    ·conv=>whnf
     iterate 11 (refine Tst.T ?_;conv=>whnf)
     obtain rfl:=Option.some.inj H
     have H:=HQ13
     try dsimp only at H
     obtain rfl:=Option.some.inj H
     have H:=HQ8
     rw [hK5] at H
     try dsimp only at H
     exact fb_ H
    conv=>whnf
    iterate 5 (refine Tst.F ?_;conv=>whnf)
    refine tst_c H (fun b44 H=>?_) (fun b44 H=>?_)
    ·conv=>whnf
     iterate 5 (refine Tst.T ?_;conv=>whnf)
     obtain rfl:=Option.some.inj H
     have H:=HQ13
     try dsimp only at H
     obtain rfl:=Option.some.inj H
     have H:=HQ8
     rw [hK5] at H
     try dsimp only at H
     exact fb_ H
    conv=>whnf
    iterate 2 (refine Tst.F ?_;conv=>whnf)
    refine LenQ.M ?_;conv=>whnf
    iterate 2 (refine Tst.F ?_;conv=>whnf)
    refine tst_c H (fun b45 H=>?_) (fun b45 H=>?_)
    ·conv=>whnf
     obtain rfl:=Option.some.inj H
     have H:=HQ13
     try dsimp only at H
     obtain rfl:=Option.some.inj H
     have H:=HQ8
     rw [hK5] at H
     try dsimp only at H
     exact fb_ H
    conv=>whnf
    refine lq_ ?_;conv=>whnf
    refine Ari.w ?_;conv=>whnf
    exact again_c [10,31,32,33,34,35,36,37,38,39,40,41,42,43,44,45,46,47,48,49,50,51,52,53,54,55,56,57,58,59,60,61,62,63,64,65,66,67,68,69,70,71,72,73,74,75,76,77,78,79,80,81,82,83,84,85] n14 1 [] (.inr (⟨_,_,_,_,_,_,H,rfl,rfl⟩)) (Nat.lt_succ_self _) (Nat.zero_le _) rfl (by kernel_rfl) (by kernel_rfl) rfl ⟨⟨rfl,rfl,rfl⟩,trivial⟩
   rw [hK22] at H
   try dsimp only at H
   conv=>whnf
   refine LenQ.M ?_;conv=>whnf
   refine tst_c H (fun b52 H=>?_) (fun b52 H=>?_)
   ·conv=>whnf
    obtain rfl:=Option.some.inj H
    have H:=HQ13
    try dsimp only at H
    obtain rfl:=Option.some.inj H
    exact arrive_c [9,10,31,32,33,34,35,36,37,38,39,40,41,42,43,44,45,46,47,48,49,50,51,52,53,54,55,56,57,58,59,60,61,62,63,64,65,66,67,68,69,70,71,72,73,74,75,76,77,78,79,80,81,82,83,84,85] 1 [] (.inr (⟨_,_,_,_,HQ8,rfl,rfl⟩)) (Nat.zero_le _) rfl (by kernel_rfl) (by kernel_rfl) rfl ⟨⟨rfl,rfl,rfl⟩,trivial⟩
   conv=>whnf
   refine ixs_c (f:=Law21Deed.v) H (fun _=>rfl) (fun x57 H=>?_);conv=>whnf
   refine ask_c (p_law21_done_v _ _) H rfl rfl (fun v58 H=>?_);conv=>whnf
   refine lq_ ?_;conv=>whnf
   refine FootQ.mk ⟨rfl,?_⟩;conv=>whnf
   refine ask_c (p_roster_Check_v _) H rfl rfl (fun v59 H=>?_);conv=>whnf
   refine tst_c H (fun b60 H=>?_) (fun b60 H=>?_)
   ·conv=>whnf
    iterate 24 (refine Tst.T ?_;conv=>whnf)
    obtain rfl:=Option.some.inj H
    have H:=HQ13
    try dsimp only at H
    obtain rfl:=Option.some.inj H
    have H:=HQ8
    rw [hK5] at H
    try dsimp only at H
    exact fb_ H
   conv=>whnf
   iterate 5 (refine Tst.F ?_;conv=>whnf)
   refine tst_c H (fun b61 H=>?_) (fun b61 H=>?_)
   ·conv=>whnf
    iterate 18 (refine Tst.T ?_;conv=>whnf)
    obtain rfl:=Option.some.inj H
    have H:=HQ13
    try dsimp only at H
    obtain rfl:=Option.some.inj H
    have H:=HQ8
    rw [hK5] at H
    try dsimp only at H
    exact fb_ H
   conv=>whnf
   iterate 4 (refine Tst.F ?_;conv=>whnf)
   refine Ari.w ?_;conv=>whnf
   iterate 2 (refine Tst.F ?_;conv=>whnf)
   refine tst_c H (fun b62 H=>?_) (fun b62 H=>?_)
   ·conv=>whnf
    iterate 11 (refine Tst.T ?_;conv=>whnf)
    obtain rfl:=Option.some.inj H
    have H:=HQ13
    try dsimp only at H
    obtain rfl:=Option.some.inj H
    have H:=HQ8
    rw [hK5] at H
    try dsimp only at H
    exact fb_ H
   conv=>whnf
   iterate 5 (refine Tst.F ?_;conv=>whnf)
   refine tst_c H (fun b63 H=>?_) (fun b63 H=>?_)
   ·conv=>whnf
    iterate 5 (refine Tst.T ?_;conv=>whnf)
    obtain rfl:=Option.some.inj H
    have H:=HQ13
    try dsimp only at H
    obtain rfl:=Option.some.inj H
    have H:=HQ8
    rw [hK5] at H
    try dsimp only at H
    exact fb_ H
   conv=>whnf
   iterate 2 (refine Tst.F ?_;conv=>whnf)
   refine LenQ.M ?_;conv=>whnf
   iterate 2 (refine Tst.F ?_;conv=>whnf)
   refine tst_c H (fun b64 H=>?_) (fun b64 H=>?_)
   ·conv=>whnf
    obtain rfl:=Option.some.inj H
    have H:=HQ13
    try dsimp only at H
    obtain rfl:=Option.some.inj H
    have H:=HQ8
    rw [hK5] at H
    try dsimp only at H
    exact fb_ H
   conv=>whnf
   refine lq_ ?_;conv=>whnf
   refine Ari.w ?_;conv=>whnf
   exact again_c [10,31,32,33,34,35,36,37,38,39,40,41,42,43,44,45,46,47,48,49,50,51,52,53,54,55,56,57,58,59,60,61,62,63,64,65,66,67,68,69,70,71,72,73,74,75,76,77,78,79,80,81,82,83,84,85] n14 1 [] (.inl (⟨_,_,_,_,_,H,rfl,rfl⟩)) (Nat.lt_succ_self _) (Nat.zero_le _) rfl (by kernel_rfl) (by kernel_rfl) rfl ⟨⟨rfl,rfl,rfl⟩,trivial⟩
  rw [p_law21_RosterReplay_l1] at H
  conv=>whnf
  refine LenQ.M ?_;conv=>whnf
  refine tst_d H (fun b68 H=>?_) (fun b68 H=>?_)
  ·conv=>whnf
   obtain rfl:=Option.some.inj H
   have H:=HQ13
   try dsimp only at H
   obtain rfl:=Option.some.inj H
   exact arrive_c [9,10,31,32,33,34,35,36,37,38,39,40,41,42,43,44,45,46,47,48,49,50,51,52,53,54,55,56,57,58,59,60,61,62,63,64,65,66,67,68,69,70,71,72,73,74,75,76,77,78,79,80,81,82,83,84,85] 1 [] (.inl (⟨_,_,_,_,_,HQ8,rfl,rfl⟩)) (Nat.zero_le _) rfl (by kernel_rfl) (by kernel_rfl) rfl ⟨⟨rfl,rfl,rfl⟩,trivial⟩
  conv=>whnf
  obtain ⟨K69,hK70,o71,HL72,HQ73⟩:=join0_c H
  refine join_c [7,8,5] [37,38,39,40,41,42,43] (fun vals st=>(∃ y77 y78,K69 (y77,y78)=some o11∧vals=[.sl (List.map ItemItem.v y77) false,.i y78,.ptr 0 0]∧st=[.live [.i y49.Ver,.i y49.Floor,.sl (List.map ItemItem.v y49.Items) u50,.sl (List.map RosterGone.v y49.Gone) u51] 0])) ?_ ?_
  ·have H:=HL72
   conv=>whnf
   refine tst_d H (fun b75 H=>?_) (fun b75 H=>?_)
   ·conv=>whnf
    obtain rfl:=Option.some.inj H
    exact arrive_c [37,38,39,40,41,42,43] 1 [] (⟨_,_,HQ73,rfl,rfl⟩) (Nat.zero_le _) rfl (by kernel_rfl) (by kernel_rfl) rfl ⟨⟨rfl,rfl,rfl⟩,trivial⟩
   conv=>whnf
   refine ask_c (p_roster_Listed_v _) H rfl rfl (fun v76 H=>?_);conv=>whnf
   refine FootQ.mk ⟨rfl,?_⟩;conv=>whnf
   obtain rfl:=Option.some.inj H
   exact arrive_c [37,38,39,40,41,42,43] 1 [] (⟨_,_,HQ73,rfl,rfl⟩) (Nat.zero_le _) rfl (by kernel_rfl) (by kernel_rfl) rfl ⟨⟨rfl,rfl,rfl⟩,trivial⟩
  rintro _ _ (⟨y77,y78,H,rfl,rfl⟩)
  rw [hK70] at H
  try dsimp only at H
  conv=>whnf
  refine LenQ.M ?_;conv=>whnf
  refine tst_c H (fun b79 H=>?_) (fun b79 H=>?_)
  ·conv=>whnf
   obtain rfl:=Option.some.inj H
   have H:=HQ13
   try dsimp only at H
   obtain rfl:=Option.some.inj H
   exact arrive_c [9,10,31,32,33,34,35,36,37,38,39,40,41,42,43,44,45,46,47,48,49,50,51,52,53,54,55,56,57,58,59,60,61,62,63,64,65,66,67,68,69,70,71,72,73,74,75,76,77,78,79,80,81,82,83,84,85] 1 [] (.inl (⟨_,_,_,_,_,HQ8,rfl,rfl⟩)) (Nat.zero_le _) rfl (by kernel_rfl) (by kernel_rfl) rfl ⟨⟨rfl,rfl,rfl⟩,trivial⟩
  conv=>whnf
  refine ixs_c (f:=Law21Deed.v) H (fun _=>rfl) (fun x80 H=>?_);conv=>whnf
  refine ask_c (p_law21_done_v _ _) H rfl rfl (fun v81 H=>?_);conv=>whnf
  refine lq_ ?_;conv=>whnf
  refine FootQ.mk ⟨rfl,?_⟩;conv=>whnf
  refine ask_c (p_roster_Check_v _) H rfl rfl (fun v82 H=>?_);conv=>whnf
  refine tst_c H (fun b83 H=>?_) (fun b83 H=>?_)
  ·conv=>whnf
   iterate 24 (refine Tst.T ?_;conv=>whnf)
   obtain rfl:=Option.some.inj H
   have H:=HQ13
   try dsimp only at H
   obtain rfl:=Option.some.inj H
   have H:=HQ8
   rw [hK5] at H
   try dsimp only at H
   exact fb_ H
  conv=>whnf
  iterate 5 (refine Tst.F ?_;conv=>whnf)
  refine tst_c H (fun b84 H=>?_) (fun b84 H=>?_)
  ·conv=>whnf
   iterate 18 (refine Tst.T ?_;conv=>whnf)
   obtain rfl:=Option.some.inj H
   have H:=HQ13
   try dsimp only at H
   obtain rfl:=Option.some.inj H
   have H:=HQ8
   rw [hK5] at H
   try dsimp only at H
   exact fb_ H
  conv=>whnf
  iterate 4 (refine Tst.F ?_;conv=>whnf)
  refine Ari.w ?_;conv=>whnf
  iterate 2 (refine Tst.F ?_;conv=>whnf)
  refine tst_c H (fun b85 H=>?_) (fun b85 H=>?_)
  ·conv=>whnf
   iterate 11 (refine Tst.T ?_;conv=>whnf)
   obtain rfl:=Option.some.inj H
   have H:=HQ13
   try dsimp only at H
   obtain rfl:=Option.some.inj H
   have H:=HQ8
   rw [hK5] at H
   try dsimp only at H
   exact fb_ H
  conv=>whnf
  iterate 5 (refine Tst.F ?_;conv=>whnf)
  refine tst_c H (fun b86 H=>?_) (fun b86 H=>?_)
  ·conv=>whnf
   iterate 5 (refine Tst.T ?_;conv=>whnf)
   obtain rfl:=Option.some.inj H
   have H:=HQ13
   try dsimp only at H
   obtain rfl:=Option.some.inj H
   have H:=HQ8
   rw [hK5] at H
   try dsimp only at H
   exact fb_ H
  conv=>whnf
  iterate 2 (refine Tst.F ?_;conv=>whnf)
  refine LenQ.M ?_;conv=>whnf
  iterate 2 (refine Tst.F ?_;conv=>whnf)
  refine tst_c H (fun b87 H=>?_) (fun b87 H=>?_)
  ·conv=>whnf
   obtain rfl:=Option.some.inj H
   have H:=HQ13
   try dsimp only at H
   obtain rfl:=Option.some.inj H
   have H:=HQ8
   rw [hK5] at H
   try dsimp only at H
   exact fb_ H
  conv=>whnf
  refine lq_ ?_;conv=>whnf
  refine Ari.w ?_;conv=>whnf
  exact again_c [10,31,32,33,34,35,36,37,38,39,40,41,42,43,44,45,46,47,48,49,50,51,52,53,54,55,56,57,58,59,60,61,62,63,64,65,66,67,68,69,70,71,72,73,74,75,76,77,78,79,80,81,82,83,84,85] n14 1 [] (.inr (⟨_,_,_,_,_,_,H,rfl,rfl⟩)) (Nat.lt_succ_self _) (Nat.zero_le _) rfl (by kernel_rfl) (by kernel_rfl) rfl ⟨⟨rfl,rfl,rfl⟩,trivial⟩
 rintro _ _ (⟨y35,y36,y37,u33,u34,H,rfl,rfl⟩ | ⟨y55,y56,u53,u54,H,rfl,rfl⟩)
 ·rw [hK5] at H
  try dsimp only at H
  conv=>whnf
  refine ask_c (p_roster_Since_v _ _) H rfl rfl (fun v92 H=>?_);conv=>whnf
  obtain ⟨K93,hK94,o95,HL96,HQ97⟩:=join0_c H
  refine join_c [7,5] [93,94] (fun vals st=>(∃ y100,K93 y100=some true∧vals=[.sl (List.map ItemItem.v y100) false,.ptr 0 0]∧st=[.live [.i y37.Ver,.i y37.Floor,.sl (List.map ItemItem.v y37.Items) u33,.sl (List.map RosterGone.v y37.Gone) u34] 0])) ?_ ?_
  ·have H:=HL96
   conv=>whnf
   refine tst_c H (fun b99 H=>?_) (fun b99 H=>?_)
   ·conv=>whnf
    obtain rfl:=Option.some.inj H
    exact arrive_c [93,94] 1 [] (⟨_,HQ97,rfl,rfl⟩) (Nat.zero_le _) rfl (by kernel_rfl) (by kernel_rfl) rfl ⟨⟨rfl,rfl,rfl⟩,trivial⟩
   conv=>whnf
   obtain rfl:=Option.some.inj H
   exact arrive_c [93,94] 1 [] (⟨_,HQ97,rfl,rfl⟩) (Nat.zero_le _) rfl (by kernel_rfl) (by kernel_rfl) rfl ⟨⟨rfl,rfl,rfl⟩,trivial⟩
  rintro _ _ (⟨y100,H,rfl,rfl⟩)
  rw [hK94] at H
  try dsimp only at H
  conv=>whnf
  obtain ⟨o102,HL103,HQ104⟩:=bind_c H
  refine loop_c [14,15] [16,17,18,95,96,97,98,99,100,101,102,103,104,105,106,107,108,109,110,111,112,113,114,115,116,117,118,119,120,121,122,123,124,125,126,127,128,129,130,131,132,133,134,135,136,137,138,139,140,141,142,143,144,145,146,147,148] [16,17,18,95,96,97,98,99,100,101,102,103,104,105,106,107,108,109,110,111,112,113,114,115,116,117,118,119,120,121,122,123,124,125,126,127,128,129,130,131,132,133,134,135,136,137,138,139,140,141,142,143,144,145,146,147,148] (fun n vals st=>(∃ y106 u107 u108,p_law21_RosterReplay_l2  y100 v92.1 v92.2.1 n [] y106=some o102∧vals=[.sl (List.map ItemItem.v []) true,.i y106]∧st=[.live [.i y37.Ver,.i y37.Floor,.sl (List.map ItemItem.v y37.Items) u107,.sl (List.map RosterGone.v y37.Gone) u108] 0])∨(∃ y147 y148 u149 u150,p_law21_RosterReplay_l2  y100 v92.1 v92.2.1 n y147 y148=some o102∧vals=[.osl 1 0 (List.length y147) 5 false,.i y148]∧st=[.live [.i y37.Ver,.i y37.Floor,.sl (List.map ItemItem.v y37.Items) u149,.sl (List.map RosterGone.v y37.Gone) u150] 0,.live (cellsM ItemItem.v y147) (cellsM ItemItem.v y147).length])) fuel 1 [] (.inl (⟨_,_,_,HL103,rfl,rfl⟩)) (Nat.zero_le _) rfl (by kernel_rfl) (by kernel_rfl) rfl ⟨⟨rfl,rfl,rfl⟩,trivial⟩ ?_
  rintro (_ | n105) _ _ (⟨y106,u107,u108,H,rfl,rfl⟩ | ⟨y147,y148,u149,u150,H,rfl,rfl⟩)
  ·rw [p_law21_RosterReplay_l2] at H;cases H
  ·rw [p_law21_RosterReplay_l2] at H;cases H
  ·rw [p_law21_RosterReplay_l2] at H
   conv=>whnf
   refine LenQ.M ?_;conv=>whnf
   refine tst_d H (fun b109 H=>?_) (fun b109 H=>?_)
   ·conv=>whnf
    obtain rfl:=Option.some.inj H
    have H:=HQ104
    try dsimp only at H
    refine appE_c (f:=ItemItem.v) H (fun _=>rfl) rfl (.v (srcM (f:=ItemItem.v) (fun _=>rfl) _ _)) (by decide) rfl (fun H=>?_) (fun l152 H=>?_)
    ·conv=>whnf
     refine ask_c (p_item_Sort_v _) H rfl rfl (fun v168 H=>?_);conv=>whnf
     refine ask_c (p_roster_Listed_v _) H rfl rfl (fun v169 H=>?_);conv=>whnf
     iterate 2 (refine LenQ.M ?_;conv=>whnf)
     refine tstF_c H (fun b170 H=>?_);conv=>whnf
     obtain ⟨o172,HL173,HQ174⟩:=bind_c H
     refine loop_c [4,20] [160,161,162,163,164,165,166,167,168,169,170,171,172,173,174,5] [160,161,162,163,164,165,166,167,168,169,170,171,172,173,174,5] (fun n vals st=>(∃ y176,p_law21_RosterReplay_l5  v168 v169 n y176=some o172∧vals=[.b false,.i y176]∧st=[])) fuel 0 [] (⟨_,HL173,rfl,rfl⟩) (Nat.zero_le _) rfl (by kernel_rfl) (by kernel_rfl) rfl trivial ?_
     rintro (_ | n175) _ _ (⟨y176,H,rfl,rfl⟩)
     ·rw [p_law21_RosterReplay_l5] at H;cases H
     rw [p_law21_RosterReplay_l5] at H
     conv=>whnf
     refine LenQ.M ?_;conv=>whnf
     refine tst_d H (fun b177 H=>?_) (fun b177 H=>?_)
     ·conv=>whnf
      obtain rfl:=Option.some.inj H
      have H:=HQ174
      try dsimp only at H
      refine ask_c (p_law21_awake_v) H rfl rfl (fun v182 H=>?_);conv=>whnf
      exact fb_ H
     conv=>whnf
     refine ixs_c (f:=ItemItem.v) H (fun _=>rfl) (fun x178 H=>?_);conv=>whnf
     refine ixs_c (f:=ItemItem.v) H (fun _=>rfl) (fun x179 H=>?_);conv=>whnf
     refine FootQ.mk ⟨rfl,?_⟩;conv=>whnf
     refine Tst.not ?_
     refine tst_d H (fun b180 H=>?_) (fun b180 H=>?_)
     ·conv=>whnf
      obtain rfl:=Option.some.inj H
      have H:=HQ174
      try dsimp only at H
      exact fb_ H
     conv=>whnf
     refine Ari.w ?_;conv=>whnf
     exact again_c [160,161,162,163,164,165,166,167,168,169,170,171,172,173,174,5] n175 0 [] (⟨_,H,rfl,rfl⟩) (Nat.lt_succ_self _) (Nat.zero_le _) rfl (by kernel_rfl) (by kernel_rfl) rfl trivial
    conv=>whnf
    refine askF_c (p_item_Sort_v _) H (.cons (.c (fzown (f:=ItemItem.v) (l:=l152) rfl rfl (fun _=>rfl) (fun _=>rfl))) (.nil)) (fun v153 H=>?_);conv=>whnf
    refine ask_c (p_roster_Listed_v _) H rfl rfl (fun v154 H=>?_);conv=>whnf
    iterate 2 (refine LenQ.M ?_;conv=>whnf)
    refine tstF_c H (fun b155 H=>?_);conv=>whnf
    obtain ⟨o157,HL158,HQ159⟩:=bind_c H
    refine loop_c [4,20] [160,161,162,163,164,165,166,167,168,169,170,171,172,173,174,5,151] [160,161,162,163,164,165,166,167,168,169,170,171,172,173,174,5,151] (fun n vals st=>(∃ y161,p_law21_RosterReplay_l5  v153 v154 n y161=some o157∧vals=[.b false,.i y161]∧st=[])) fuel 0 [] (⟨_,HL158,rfl,rfl⟩) (Nat.zero_le _) rfl (by kernel_rfl) (by kernel_rfl) rfl trivial ?_
    rintro (_ | n160) _ _ (⟨y161,H,rfl,rfl⟩)
    ·rw [p_law21_RosterReplay_l5] at H;cases H
    rw [p_law21_RosterReplay_l5] at H
    conv=>whnf
    refine LenQ.M ?_;conv=>whnf
    refine tst_d H (fun b162 H=>?_) (fun b162 H=>?_)
    ·conv=>whnf
     obtain rfl:=Option.some.inj H
     have H:=HQ159
     try dsimp only at H
     refine ask_c (p_law21_awake_v) H rfl rfl (fun v167 H=>?_);conv=>whnf
     exact fb_ H
    conv=>whnf
    refine ixs_c (f:=ItemItem.v) H (fun _=>rfl) (fun x163 H=>?_);conv=>whnf
    refine ixs_c (f:=ItemItem.v) H (fun _=>rfl) (fun x164 H=>?_);conv=>whnf
    refine FootQ.mk ⟨rfl,?_⟩;conv=>whnf
    refine Tst.not ?_
    refine tst_d H (fun b165 H=>?_) (fun b165 H=>?_)
    ·conv=>whnf
     obtain rfl:=Option.some.inj H
     have H:=HQ159
     try dsimp only at H
     exact fb_ H
    conv=>whnf
    refine Ari.w ?_;conv=>whnf
    exact again_c [160,161,162,163,164,165,166,167,168,169,170,171,172,173,174,5,151] n160 0 [] (⟨_,H,rfl,rfl⟩) (Nat.lt_succ_self _) (Nat.zero_le _) rfl (by kernel_rfl) (by kernel_rfl) rfl trivial
   conv=>whnf
   obtain ⟨o111,HL112,HQ113⟩:=bind_c H
   refine loop_c [16,17] [101,102,103,104,105,106,107,108,109,110,111,112,113,114,115,116,117,118,119,120] [101,102,103,104,105,106,107,108,109,110,111,112,113,114,115,116,117,118,119,120] (fun n vals st=>(∃ y115 y116 u117 u118,p_law21_RosterReplay_l3  y100 v92.2.1 y106 n y115 y116=some o111∧vals=[.b y115,.i y116]∧st=[.live [.i y37.Ver,.i y37.Floor,.sl (List.map ItemItem.v y37.Items) u117,.sl (List.map RosterGone.v y37.Gone) u118] 0])) fuel 1 [] (⟨_,_,_,_,HL112,rfl,rfl⟩) (Nat.zero_le _) rfl (by kernel_rfl) (by kernel_rfl) rfl ⟨⟨rfl,rfl,rfl⟩,trivial⟩ ?_
   rintro (_ | n114) _ _ (⟨y115,y116,u117,u118,H,rfl,rfl⟩)
   ·rw [p_law21_RosterReplay_l3] at H;cases H
   rw [p_law21_RosterReplay_l3] at H
   conv=>whnf
   refine LenQ.M ?_;conv=>whnf
   refine tst_c H (fun b119 H=>?_) (fun b119 H=>?_)
   ·conv=>whnf
    refine tst_d H (fun b120 H=>?_) (fun b120 H=>?_)
    ·conv=>whnf
     iterate 11 (refine Tst.F ?_;conv=>whnf)
     refine FootQ.mk ⟨rfl,?_⟩;conv=>whnf
     refine Ari.w ?_;conv=>whnf
     exact again_c [101,102,103,104,105,106,107,108,109,110,111,112,113,114,115,116,117,118,119,120] n114 1 [] (⟨_,_,_,_,H,rfl,rfl⟩) (Nat.lt_succ_self _) (Nat.zero_le _) rfl (by kernel_rfl) (by kernel_rfl) rfl ⟨⟨rfl,rfl,rfl⟩,trivial⟩
    conv=>whnf
    iterate 2 (refine Tst.T ?_;conv=>whnf)
    refine ixs_c (f:=RosterGone.v) H (fun _=>rfl) (fun x121 H=>?_);conv=>whnf
    refine Tst.T ?_;conv=>whnf
    refine lq_ ?_;conv=>whnf
    iterate 4 (refine Tst.T ?_;conv=>whnf)
    refine ixs_c (f:=ItemItem.v) H (fun _=>rfl) (fun x122 H=>?_);conv=>whnf
    refine Tst.T ?_;conv=>whnf
    refine lq_ ?_;conv=>whnf
    iterate 3 (refine Tst.T ?_;conv=>whnf)
    refine FootQ.mk ⟨rfl,?_⟩;conv=>whnf
    refine Ari.w ?_;conv=>whnf
    exact again_c [101,102,103,104,105,106,107,108,109,110,111,112,113,114,115,116,117,118,119,120] n114 1 [] (⟨_,_,_,_,H,rfl,rfl⟩) (Nat.lt_succ_self _) (Nat.zero_le _) rfl (by kernel_rfl) (by kernel_rfl) rfl ⟨⟨rfl,rfl,rfl⟩,trivial⟩
   conv=>whnf
   obtain rfl:=Option.some.inj H
   have H:=HQ113
   try dsimp only at H
   obtain ⟨o128,HL129,HQ130⟩:=bind_c H
   refine loop_c [16,18] [121,122,123,124,125,126,127,128,129,130,131,132,133,134,135,136,137,138,139,140] [121,122,123,124,125,126,127,128,129,130,131,132,133,134,135,136,137,138,139,140] (fun n vals st=>(∃ y132 y133 u134 u135,p_law21_RosterReplay_l4  y100 v92.1 y106 n y132 y133=some o128∧vals=[.b y132,.i y133]∧st=[.live [.i y37.Ver,.i y37.Floor,.sl (List.map ItemItem.v y37.Items) u134,.sl (List.map RosterGone.v y37.Gone) u135] 0])) fuel 1 [] (⟨_,_,_,_,HL129,rfl,rfl⟩) (Nat.zero_le _) rfl (by kernel_rfl) (by kernel_rfl) rfl ⟨⟨rfl,rfl,rfl⟩,trivial⟩ ?_
   rintro (_ | n131) _ _ (⟨y132,y133,u134,u135,H,rfl,rfl⟩)
   ·rw [p_law21_RosterReplay_l4] at H;cases H
   rw [p_law21_RosterReplay_l4] at H
   conv=>whnf
   refine LenQ.M ?_;conv=>whnf
   refine tst_d H (fun b136 H=>?_) (fun b136 H=>?_)
   ·conv=>whnf
    obtain rfl:=Option.some.inj H
    have H:=HQ130
    try dsimp only at H
    refine tst_d H (fun b144 H=>?_) (fun b144 H=>?_)
    ·conv=>whnf
     refine Ari.w ?_;conv=>whnf
     exact again_c [16,17,18,95,96,97,98,99,100,101,102,103,104,105,106,107,108,109,110,111,112,113,114,115,116,117,118,119,120,121,122,123,124,125,126,127,128,129,130,131,132,133,134,135,136,137,138,139,140,141,142,143,144,145,146,147,148] n105 1 [] (.inl (⟨_,_,_,H,rfl,rfl⟩)) (Nat.lt_succ_self _) (Nat.zero_le _) rfl (by kernel_rfl) (by kernel_rfl) rfl ⟨⟨rfl,rfl,rfl⟩,trivial⟩
    conv=>whnf
    refine ixs_c (f:=ItemItem.v) H (fun _=>rfl) (fun x145 H=>?_);conv=>whnf
    refine appN_c (f:=ItemItem.v) H (fun _=>rfl) (srcM (f:=ItemItem.v) (fun _=>rfl) [] true) rfl (.v (srcOwn (f:=ItemItem.v) (l:=[x145]) (fun _=>rfl) rfl rfl rfl)) (by decide) rfl (by simp) (fun l146 H=>?_);conv=>whnf
    refine Ari.w ?_;conv=>whnf
    exact again_c [16,17,18,95,96,97,98,99,100,101,102,103,104,105,106,107,108,109,110,111,112,113,114,115,116,117,118,119,120,121,122,123,124,125,126,127,128,129,130,131,132,133,134,135,136,137,138,139,140,141,142,143,144,145,146,147,148] n105 2 [0,2] (.inr (⟨_,_,_,_,H,rfl,rfl⟩)) (Nat.lt_succ_self _) (Nat.zero_le _) rfl (by kernel_rfl) (by kernel_rfl) rfl ⟨⟨rfl,rfl,rfl⟩,wkB_live0 rfl (cellsM_idlt (f:=ItemItem.v) (fun _=>rfl) _) rfl trivial⟩
   conv=>whnf
   refine tst_d H (fun b137 H=>?_) (fun b137 H=>?_)
   ·conv=>whnf
    iterate 11 (refine Tst.F ?_;conv=>whnf)
    refine FootQ.mk ⟨rfl,?_⟩;conv=>whnf
    refine Ari.w ?_;conv=>whnf
    exact again_c [121,122,123,124,125,126,127,128,129,130,131,132,133,134,135,136,137,138,139,140] n131 1 [] (⟨_,_,_,_,H,rfl,rfl⟩) (Nat.lt_succ_self _) (Nat.zero_le _) rfl (by kernel_rfl) (by kernel_rfl) rfl ⟨⟨rfl,rfl,rfl⟩,trivial⟩
   conv=>whnf
   iterate 2 (refine Tst.T ?_;conv=>whnf)
   refine ixs_c (f:=ItemItem.v) H (fun _=>rfl) (fun x138 H=>?_);conv=>whnf
   refine Tst.T ?_;conv=>whnf
   refine lq_ ?_;conv=>whnf
   iterate 4 (refine Tst.T ?_;conv=>whnf)
   refine ixs_c (f:=ItemItem.v) H (fun _=>rfl) (fun x139 H=>?_);conv=>whnf
   refine Tst.T ?_;conv=>whnf
   refine lq_ ?_;conv=>whnf
   iterate 3 (refine Tst.T ?_;conv=>whnf)
   refine FootQ.mk ⟨rfl,?_⟩;conv=>whnf
   refine Ari.w ?_;conv=>whnf
   exact again_c [121,122,123,124,125,126,127,128,129,130,131,132,133,134,135,136,137,138,139,140] n131 1 [] (⟨_,_,_,_,H,rfl,rfl⟩) (Nat.lt_succ_self _) (Nat.zero_le _) rfl (by kernel_rfl) (by kernel_rfl) rfl ⟨⟨rfl,rfl,rfl⟩,trivial⟩
  rw [p_law21_RosterReplay_l2] at H
  conv=>whnf
  refine LenQ.M ?_;conv=>whnf
  refine tst_d H (fun b183 H=>?_) (fun b183 H=>?_)
  ·conv=>whnf
   obtain rfl:=Option.some.inj H
   have H:=HQ104
   try dsimp only at H
   refine appP_c (f:=ItemItem.v) H (fun _=>rfl) rfl rfl (.v (srcM (f:=ItemItem.v) (fun _=>rfl) _ _)) (by decide) rfl (fun l225 H=>?_) (fun l225 H=>?_)
   ·conv=>whnf
    refine askF_c (p_item_Sort_v _) H (.cons (.c (fzown (f:=ItemItem.v) (l:=l225) rfl rfl (fun _=>rfl) (fun _=>rfl))) (.nil)) (fun v241 H=>?_);conv=>whnf
    refine ask_c (p_roster_Listed_v _) H rfl rfl (fun v242 H=>?_);conv=>whnf
    iterate 2 (refine LenQ.M ?_;conv=>whnf)
    refine tstF_c H (fun b243 H=>?_);conv=>whnf
    obtain ⟨o245,HL246,HQ247⟩:=bind_c H
    refine loop_c [4,20] [160,161,162,163,164,165,166,167,168,169,170,171,172,173,174,5,149,151] [160,161,162,163,164,165,166,167,168,169,170,171,172,173,174,5,149,151] (fun n vals st=>(∃ y249,p_law21_RosterReplay_l5  v241 v242 n y249=some o245∧vals=[.b false,.i y249]∧st=[])) fuel 0 [] (⟨_,HL246,rfl,rfl⟩) (Nat.zero_le _) rfl (by kernel_rfl) (by kernel_rfl) rfl trivial ?_
    rintro (_ | n248) _ _ (⟨y249,H,rfl,rfl⟩)
    ·rw [p_law21_RosterReplay_l5] at H;cases H
    rw [p_law21_RosterReplay_l5] at H
    conv=>whnf
    refine LenQ.M ?_;conv=>whnf
    refine tst_d H (fun b250 H=>?_) (fun b250 H=>?_)
    ·conv=>whnf
     obtain rfl:=Option.some.inj H
     have H:=HQ247
     try dsimp only at H
     refine ask_c (p_law21_awake_v) H rfl rfl (fun v255 H=>?_);conv=>whnf
     exact fb_ H
    conv=>whnf
    refine ixs_c (f:=ItemItem.v) H (fun _=>rfl) (fun x251 H=>?_);conv=>whnf
    refine ixs_c (f:=ItemItem.v) H (fun _=>rfl) (fun x252 H=>?_);conv=>whnf
    refine FootQ.mk ⟨rfl,?_⟩;conv=>whnf
    refine Tst.not ?_
    refine tst_d H (fun b253 H=>?_) (fun b253 H=>?_)
    ·conv=>whnf
     obtain rfl:=Option.some.inj H
     have H:=HQ247
     try dsimp only at H
     exact fb_ H
    conv=>whnf
    refine Ari.w ?_;conv=>whnf
    exact again_c [160,161,162,163,164,165,166,167,168,169,170,171,172,173,174,5,149,151] n248 0 [] (⟨_,H,rfl,rfl⟩) (Nat.lt_succ_self _) (Nat.zero_le _) rfl (by kernel_rfl) (by kernel_rfl) rfl trivial
   conv=>whnf
   refine askF_c (p_item_Sort_v _) H (.cons (.c (fzown (f:=ItemItem.v) (l:=l225) rfl rfl (fun _=>rfl) (fun _=>rfl))) (.nil)) (fun v226 H=>?_);conv=>whnf
   refine ask_c (p_roster_Listed_v _) H rfl rfl (fun v227 H=>?_);conv=>whnf
   iterate 2 (refine LenQ.M ?_;conv=>whnf)
   refine tstF_c H (fun b228 H=>?_);conv=>whnf
   obtain ⟨o230,HL231,HQ232⟩:=bind_c H
   refine loop_c [4,20] [160,161,162,163,164,165,166,167,168,169,170,171,172,173,174,5,149,151] [160,161,162,163,164,165,166,167,168,169,170,171,172,173,174,5,149,151] (fun n vals st=>(∃ y234,p_law21_RosterReplay_l5  v226 v227 n y234=some o230∧vals=[.b false,.i y234]∧st=[])) fuel 0 [] (⟨_,HL231,rfl,rfl⟩) (Nat.zero_le _) rfl (by kernel_rfl) (by kernel_rfl) rfl trivial ?_
   rintro (_ | n233) _ _ (⟨y234,H,rfl,rfl⟩)
   ·rw [p_law21_RosterReplay_l5] at H;cases H
   rw [p_law21_RosterReplay_l5] at H
   conv=>whnf
   refine LenQ.M ?_;conv=>whnf
   refine tst_d H (fun b235 H=>?_) (fun b235 H=>?_)
   ·conv=>whnf
    obtain rfl:=Option.some.inj H
    have H:=HQ232
    try dsimp only at H
    refine ask_c (p_law21_awake_v) H rfl rfl (fun v240 H=>?_);conv=>whnf
    exact fb_ H
   conv=>whnf
   refine ixs_c (f:=ItemItem.v) H (fun _=>rfl) (fun x236 H=>?_);conv=>whnf
   refine ixs_c (f:=ItemItem.v) H (fun _=>rfl) (fun x237 H=>?_);conv=>whnf
   refine FootQ.mk ⟨rfl,?_⟩;conv=>whnf
   refine Tst.not ?_
   refine tst_d H (fun b238 H=>?_) (fun b238 H=>?_)
   ·conv=>whnf
    obtain rfl:=Option.some.inj H
    have H:=HQ232
    try dsimp only at H
    exact fb_ H
   conv=>whnf
   refine Ari.w ?_;conv=>whnf
   exact again_c [160,161,162,163,164,165,166,167,168,169,170,171,172,173,174,5,149,151] n233 0 [] (⟨_,H,rfl,rfl⟩) (Nat.lt_succ_self _) (Nat.zero_le _) rfl (by kernel_rfl) (by kernel_rfl) rfl trivial
  conv=>whnf
  obtain ⟨o185,HL186,HQ187⟩:=bind_c H
  refine loop_c [16,17] [101,102,103,104,105,106,107,108,109,110,111,112,113,114,115,116,117,118,119,120] [101,102,103,104,105,106,107,108,109,110,111,112,113,114,115,116,117,118,119,120] (fun n vals st=>(∃ y189 y190 u191 u192,p_law21_RosterReplay_l3  y100 v92.2.1 y148 n y189 y190=some o185∧vals=[.b y189,.i y190]∧st=[.live [.i y37.Ver,.i y37.Floor,.sl (List.map ItemItem.v y37.Items) u191,.sl (List.map RosterGone.v y37.Gone) u192] 0,.live (cellsM ItemItem.v y147) (cellsM ItemItem.v y147).length])) fuel 2 [] (⟨_,_,_,_,HL186,rfl,rfl⟩) (Nat.zero_le _) rfl (by kernel_rfl) (by kernel_rfl) rfl ⟨⟨rfl,rfl,rfl⟩,wkB_live0 rfl (cellsM_idlt (f:=ItemItem.v) (fun _=>rfl) _) rfl trivial⟩ ?_
  rintro (_ | n188) _ _ (⟨y189,y190,u191,u192,H,rfl,rfl⟩)
  ·rw [p_law21_RosterReplay_l3] at H;cases H
  rw [p_law21_RosterReplay_l3] at H
  conv=>whnf
  refine LenQ.M ?_;conv=>whnf
  refine tst_c H (fun b193 H=>?_) (fun b193 H=>?_)
  ·conv=>whnf
   refine tst_d H (fun b194 H=>?_) (fun b194 H=>?_)
   ·conv=>whnf
    iterate 11 (refine Tst.F ?_;conv=>whnf)
    refine FootQ.mk ⟨rfl,?_⟩;conv=>whnf
    refine Ari.w ?_;conv=>whnf
    exact again_c [101,102,103,104,105,106,107,108,109,110,111,112,113,114,115,116,117,118,119,120] n188 2 [] (⟨_,_,_,_,H,rfl,rfl⟩) (Nat.lt_succ_self _) (Nat.zero_le _) rfl (by kernel_rfl) (by kernel_rfl) rfl ⟨⟨rfl,rfl,rfl⟩,wkB_live0 rfl (cellsM_idlt (f:=ItemItem.v) (fun _=>rfl) _) rfl trivial⟩
   conv=>whnf
   iterate 2 (refine Tst.T ?_;conv=>whnf)
   refine ixs_c (f:=RosterGone.v) H (fun _=>rfl) (fun x195 H=>?_);conv=>whnf
   refine Tst.T ?_;conv=>whnf
   refine lq_ ?_;conv=>whnf
   iterate 4 (refine Tst.T ?_;conv=>whnf)
   refine ixs_c (f:=ItemItem.v) H (fun _=>rfl) (fun x196 H=>?_);conv=>whnf
   refine Tst.T ?_;conv=>whnf
   refine lq_ ?_;conv=>whnf
   iterate 3 (refine Tst.T ?_;conv=>whnf)
   refine FootQ.mk ⟨rfl,?_⟩;conv=>whnf
   refine Ari.w ?_;conv=>whnf
   exact again_c [101,102,103,104,105,106,107,108,109,110,111,112,113,114,115,116,117,118,119,120] n188 2 [] (⟨_,_,_,_,H,rfl,rfl⟩) (Nat.lt_succ_self _) (Nat.zero_le _) rfl (by kernel_rfl) (by kernel_rfl) rfl ⟨⟨rfl,rfl,rfl⟩,wkB_live0 rfl (cellsM_idlt (f:=ItemItem.v) (fun _=>rfl) _) rfl trivial⟩
  conv=>whnf
  obtain rfl:=Option.some.inj H
  have H:=HQ187
  try dsimp only at H
  obtain ⟨o202,HL203,HQ204⟩:=bind_c H
  refine loop_c [16,18] [121,122,123,124,125,126,127,128,129,130,131,132,133,134,135,136,137,138,139,140] [121,122,123,124,125,126,127,128,129,130,131,132,133,134,135,136,137,138,139,140] (fun n vals st=>(∃ y206 y207 u208 u209,p_law21_RosterReplay_l4  y100 v92.1 y148 n y206 y207=some o202∧vals=[.b y206,.i y207]∧st=[.live [.i y37.Ver,.i y37.Floor,.sl (List.map ItemItem.v y37.Items) u208,.sl (List.map RosterGone.v y37.Gone) u209] 0,.live (cellsM ItemItem.v y147) (cellsM ItemItem.v y147).length])) fuel 2 [] (⟨_,_,_,_,HL203,rfl,rfl⟩) (Nat.zero_le _) rfl (by kernel_rfl) (by kernel_rfl) rfl ⟨⟨rfl,rfl,rfl⟩,wkB_live0 rfl (cellsM_idlt (f:=ItemItem.v) (fun _=>rfl) _) rfl trivial⟩ ?_
  rintro (_ | n205) _ _ (⟨y206,y207,u208,u209,H,rfl,rfl⟩)
  ·rw [p_law21_RosterReplay_l4] at H;cases H
  rw [p_law21_RosterReplay_l4] at H
  conv=>whnf
  refine LenQ.M ?_;conv=>whnf
  refine tst_d H (fun b210 H=>?_) (fun b210 H=>?_)
  ·conv=>whnf
   obtain rfl:=Option.some.inj H
   have H:=HQ204
   try dsimp only at H
   refine tst_d H (fun b218 H=>?_) (fun b218 H=>?_)
   ·conv=>whnf
    refine Ari.w ?_;conv=>whnf
    exact again_c [16,17,18,95,96,97,98,99,100,101,102,103,104,105,106,107,108,109,110,111,112,113,114,115,116,117,118,119,120,121,122,123,124,125,126,127,128,129,130,131,132,133,134,135,136,137,138,139,140,141,142,143,144,145,146,147,148] n105 2 [] (.inr (⟨_,_,_,_,H,rfl,rfl⟩)) (Nat.lt_succ_self _) (Nat.zero_le _) rfl (by kernel_rfl) (by kernel_rfl) rfl ⟨⟨rfl,rfl,rfl⟩,wkB_live0 rfl (cellsM_idlt (f:=ItemItem.v) (fun _=>rfl) _) rfl trivial⟩
   conv=>whnf
   refine ixs_c (f:=ItemItem.v) H (fun _=>rfl) (fun x219 H=>?_);conv=>whnf
   refine appO_c (f:=ItemItem.v) H (fun _=>rfl) rfl (Nat.le_refl _) (.v (srcOwn (f:=ItemItem.v) (l:=[x219]) (fun _=>rfl) rfl rfl rfl)) (by decide) rfl (by simp) (fun l220 H=>?_);conv=>whnf
   refine Ari.w ?_;conv=>whnf
   exact again_c [16,17,18,95,96,97,98,99,100,101,102,103,104,105,106,107,108,109,110,111,112,113,114,115,116,117,118,119,120,121,122,123,124,125,126,127,128,129,130,131,132,133,134,135,136,137,138,139,140,141,142,143,144,145,146,147,148] n105 2 [0,3] (.inr (⟨_,_,_,_,H,rfl,rfl⟩)) (Nat.lt_succ_self _) (Nat.zero_le _) rfl (by kernel_rfl) (by kernel_rfl) rfl ⟨⟨rfl,rfl,rfl⟩,wkB_live0 rfl (cellsM_idlt (f:=ItemItem.v) (fun _=>rfl) _) rfl trivial⟩
  conv=>whnf
  refine tst_d H (fun b211 H=>?_) (fun b211 H=>?_)
  ·conv=>whnf
   iterate 11 (refine Tst.F ?_;conv=>whnf)
   refine FootQ.mk ⟨rfl,?_⟩;conv=>whnf
   refine Ari.w ?_;conv=>whnf
   exact again_c [121,122,123,124,125,126,127,128,129,130,131,132,133,134,135,136,137,138,139,140] n205 2 [] (⟨_,_,_,_,H,rfl,rfl⟩) (Nat.lt_succ_self _) (Nat.zero_le _) rfl (by kernel_rfl) (by kernel_rfl) rfl ⟨⟨rfl,rfl,rfl⟩,wkB_live0 rfl (cellsM_idlt (f:=ItemItem.v) (fun _=>rfl) _) rfl trivial⟩
  conv=>whnf
  iterate 2 (refine Tst.T ?_;conv=>whnf)
  refine ixs_c (f:=ItemItem.v) H (fun _=>rfl) (fun x212 H=>?_);conv=>whnf
  refine Tst.T ?_;conv=>whnf
  refine lq_ ?_;conv=>whnf
  iterate 4 (refine Tst.T ?_;conv=>whnf)
  refine ixs_c (f:=ItemItem.v) H (fun _=>rfl) (fun x213 H=>?_);conv=>whnf
  refine Tst.T ?_;conv=>whnf
  refine lq_ ?_;conv=>whnf
  iterate 3 (refine Tst.T ?_;conv=>whnf)
  refine FootQ.mk ⟨rfl,?_⟩;conv=>whnf
  refine Ari.w ?_;conv=>whnf
  exact again_c [121,122,123,124,125,126,127,128,129,130,131,132,133,134,135,136,137,138,139,140] n205 2 [] (⟨_,_,_,_,H,rfl,rfl⟩) (Nat.lt_succ_self _) (Nat.zero_le _) rfl (by kernel_rfl) (by kernel_rfl) rfl ⟨⟨rfl,rfl,rfl⟩,wkB_live0 rfl (cellsM_idlt (f:=ItemItem.v) (fun _=>rfl) _) rfl trivial⟩
 rw [hK5] at H
 try dsimp only at H
 conv=>whnf
 refine ask_c (p_roster_Since_v _ _) H rfl rfl (fun v256 H=>?_);conv=>whnf
 obtain ⟨K257,hK258,o259,HL260,HQ261⟩:=join0_c H
 refine join_c [7,5] [93,94] (fun vals st=>(∃ y264,K257 y264=some true∧vals=[.sl (List.map ItemItem.v y264) false,.ptr 0 0]∧st=[.live [.i y56.Ver,.i y56.Floor,.sl (List.map ItemItem.v y56.Items) u53,.sl (List.map RosterGone.v y56.Gone) u54] 0])∨(K257 []=some true∧vals=[.sl (List.map ItemItem.v []) true,.ptr 0 0]∧st=[.live [.i y56.Ver,.i y56.Floor,.sl (List.map ItemItem.v y56.Items) u53,.sl (List.map RosterGone.v y56.Gone) u54] 0])) ?_ ?_
 ·have H:=HL260
  conv=>whnf
  refine tst_c H (fun b263 H=>?_) (fun b263 H=>?_)
  ·conv=>whnf
   obtain rfl:=Option.some.inj H
   exact arrive_c [93,94] 1 [] (.inl (⟨_,HQ261,rfl,rfl⟩)) (Nat.zero_le _) rfl (by kernel_rfl) (by kernel_rfl) rfl ⟨⟨rfl,rfl,rfl⟩,trivial⟩
  conv=>whnf
  obtain rfl:=Option.some.inj H
  exact arrive_c [93,94] 1 [] (.inr (⟨HQ261,rfl,rfl⟩)) (Nat.zero_le _) rfl (by kernel_rfl) (by kernel_rfl) rfl ⟨⟨rfl,rfl,rfl⟩,trivial⟩
 rintro _ _ (⟨y264,H,rfl,rfl⟩ | ⟨H,rfl,rfl⟩)
 ·rw [hK258] at H
  try dsimp only at H
  conv=>whnf
  obtain ⟨o266,HL267,HQ268⟩:=bind_c H
  refine loop_c [14,15] [16,17,18,95,96,97,98,99,100,101,102,103,104,105,106,107,108,109,110,111,112,113,114,115,116,117,118,119,120,121,122,123,124,125,126,127,128,129,130,131,132,133,134,135,136,137,138,139,140,141,142,143,144,145,146,147,148] [16,17,18,95,96,97,98,99,100,101,102,103,104,105,106,107,108,109,110,111,112,113,114,115,116,117,118,119,120,121,122,123,124,125,126,127,128,129,130,131,132,133,134,135,136,137,138,139,140,141,142,143,144,145,146,147,148] (fun n vals st=>(∃ y270 u271 u272,p_law21_RosterReplay_l2  y264 v256.1 v256.2.1 n [] y270=some o266∧vals=[.sl (List.map ItemItem.v []) true,.i y270]∧st=[.live [.i y56.Ver,.i y56.Floor,.sl (List.map ItemItem.v y56.Items) u271,.sl (List.map RosterGone.v y56.Gone) u272] 0])∨(∃ y311 y312 u313 u314,p_law21_RosterReplay_l2  y264 v256.1 v256.2.1 n y311 y312=some o266∧vals=[.osl 1 0 (List.length y311) 5 false,.i y312]∧st=[.live [.i y56.Ver,.i y56.Floor,.sl (List.map ItemItem.v y56.Items) u313,.sl (List.map RosterGone.v y56.Gone) u314] 0,.live (cellsM ItemItem.v y311) (cellsM ItemItem.v y311).length])) fuel 1 [] (.inl (⟨_,_,_,HL267,rfl,rfl⟩)) (Nat.zero_le _) rfl (by kernel_rfl) (by kernel_rfl) rfl ⟨⟨rfl,rfl,rfl⟩,trivial⟩ ?_
  rintro (_ | n269) _ _ (⟨y270,u271,u272,H,rfl,rfl⟩ | ⟨y311,y312,u313,u314,H,rfl,rfl⟩)
  ·rw [p_law21_RosterReplay_l2] at H;cases H
  ·rw [p_law21_RosterReplay_l2] at H;cases H
  ·rw [p_law21_RosterReplay_l2] at H
   conv=>whnf
   refine LenQ.M ?_;conv=>whnf
   refine tst_d H (fun b273 H=>?_) (fun b273 H=>?_)
   ·conv=>whnf
    obtain rfl:=Option.some.inj H
    have H:=HQ268
    try dsimp only at H
    refine appE_c (f:=ItemItem.v) H (fun _=>rfl) rfl (.v (srcM (f:=ItemItem.v) (fun _=>rfl) _ _)) (by decide) rfl (fun H=>?_) (fun l316 H=>?_)
    ·conv=>whnf
     refine ask_c (p_item_Sort_v _) H rfl rfl (fun v332 H=>?_);conv=>whnf
     refine ask_c (p_roster_Listed_v _) H rfl rfl (fun v333 H=>?_);conv=>whnf
     iterate 2 (refine LenQ.M ?_;conv=>whnf)
     refine tstF_c H (fun b334 H=>?_);conv=>whnf
     obtain ⟨o336,HL337,HQ338⟩:=bind_c H
     refine loop_c [4,20] [160,161,162,163,164,165,166,167,168,169,170,171,172,173,174,5] [160,161,162,163,164,165,166,167,168,169,170,171,172,173,174,5] (fun n vals st=>(∃ y340,p_law21_RosterReplay_l5  v332 v333 n y340=some o336∧vals=[.b false,.i y340]∧st=[])) fuel 0 [] (⟨_,HL337,rfl,rfl⟩) (Nat.zero_le _) rfl (by kernel_rfl) (by kernel_rfl) rfl trivial ?_
     rintro (_ | n339) _ _ (⟨y340,H,rfl,rfl⟩)
     ·rw [p_law21_RosterReplay_l5] at H;cases H
     rw [p_law21_RosterReplay_l5] at H
     conv=>whnf
     refine LenQ.M ?_;conv=>whnf
     refine tst_d H (fun b341 H=>?_) (fun b341 H=>?_)
     ·conv=>whnf
      obtain rfl:=Option.some.inj H
      have H:=HQ338
      try dsimp only at H
      refine ask_c (p_law21_awake_v) H rfl rfl (fun v346 H=>?_);conv=>whnf
      exact fb_ H
     conv=>whnf
     refine ixs_c (f:=ItemItem.v) H (fun _=>rfl) (fun x342 H=>?_);conv=>whnf
     refine ixs_c (f:=ItemItem.v) H (fun _=>rfl) (fun x343 H=>?_);conv=>whnf
     refine FootQ.mk ⟨rfl,?_⟩;conv=>whnf
     refine Tst.not ?_
     refine tst_d H (fun b344 H=>?_) (fun b344 H=>?_)
     ·conv=>whnf
      obtain rfl:=Option.some.inj H
      have H:=HQ338
      try dsimp only at H
      exact fb_ H
     conv=>whnf
     refine Ari.w ?_;conv=>whnf
     exact again_c [160,161,162,163,164,165,166,167,168,169,170,171,172,173,174,5] n339 0 [] (⟨_,H,rfl,rfl⟩) (Nat.lt_succ_self _) (Nat.zero_le _) rfl (by kernel_rfl) (by kernel_rfl) rfl trivial
    conv=>whnf
    refine askF_c (p_item_Sort_v _) H (.cons (.c (fzown (f:=ItemItem.v) (l:=l316) rfl rfl (fun _=>rfl) (fun _=>rfl))) (.nil)) (fun v317 H=>?_);conv=>whnf
    refine ask_c (p_roster_Listed_v _) H rfl rfl (fun v318 H=>?_);conv=>whnf
    iterate 2 (refine LenQ.M ?_;conv=>whnf)
    refine tstF_c H (fun b319 H=>?_);conv=>whnf
    obtain ⟨o321,HL322,HQ323⟩:=bind_c H
    refine loop_c [4,20] [160,161,162,163,164,165,166,167,168,169,170,171,172,173,174,5,151] [160,161,162,163,164,165,166,167,168,169,170,171,172,173,174,5,151] (fun n vals st=>(∃ y325,p_law21_RosterReplay_l5  v317 v318 n y325=some o321∧vals=[.b false,.i y325]∧st=[])) fuel 0 [] (⟨_,HL322,rfl,rfl⟩) (Nat.zero_le _) rfl (by kernel_rfl) (by kernel_rfl) rfl trivial ?_
    rintro (_ | n324) _ _ (⟨y325,H,rfl,rfl⟩)
    ·rw [p_law21_RosterReplay_l5] at H;cases H
    rw [p_law21_RosterReplay_l5] at H
    conv=>whnf
    refine LenQ.M ?_;conv=>whnf
    refine tst_d H (fun b326 H=>?_) (fun b326 H=>?_)
    ·conv=>whnf
     obtain rfl:=Option.some.inj H
     have H:=HQ323
     try dsimp only at H
     refine ask_c (p_law21_awake_v) H rfl rfl (fun v331 H=>?_);conv=>whnf
     exact fb_ H
    conv=>whnf
    refine ixs_c (f:=ItemItem.v) H (fun _=>rfl) (fun x327 H=>?_);conv=>whnf
    refine ixs_c (f:=ItemItem.v) H (fun _=>rfl) (fun x328 H=>?_);conv=>whnf
    refine FootQ.mk ⟨rfl,?_⟩;conv=>whnf
    refine Tst.not ?_
    refine tst_d H (fun b329 H=>?_) (fun b329 H=>?_)
    ·conv=>whnf
     obtain rfl:=Option.some.inj H
     have H:=HQ323
     try dsimp only at H
     exact fb_ H
    conv=>whnf
    refine Ari.w ?_;conv=>whnf
    exact again_c [160,161,162,163,164,165,166,167,168,169,170,171,172,173,174,5,151] n324 0 [] (⟨_,H,rfl,rfl⟩) (Nat.lt_succ_self _) (Nat.zero_le _) rfl (by kernel_rfl) (by kernel_rfl) rfl trivial
   conv=>whnf
   obtain ⟨o275,HL276,HQ277⟩:=bind_c H
   refine loop_c [16,17] [101,102,103,104,105,106,107,108,109,110,111,112,113,114,115,116,117,118,119,120] [101,102,103,104,105,106,107,108,109,110,111,112,113,114,115,116,117,118,119,120] (fun n vals st=>(∃ y279 y280 u281 u282,p_law21_RosterReplay_l3  y264 v256.2.1 y270 n y279 y280=some o275∧vals=[.b y279,.i y280]∧st=[.live [.i y56.Ver,.i y56.Floor,.sl (List.map ItemItem.v y56.Items) u281,.sl (List.map RosterGone.v y56.Gone) u282] 0])) fuel 1 [] (⟨_,_,_,_,HL276,rfl,rfl⟩) (Nat.zero_le _) rfl (by kernel_rfl) (by kernel_rfl) rfl ⟨⟨rfl,rfl,rfl⟩,trivial⟩ ?_
   rintro (_ | n278) _ _ (⟨y279,y280,u281,u282,H,rfl,rfl⟩)
   ·rw [p_law21_RosterReplay_l3] at H;cases H
   rw [p_law21_RosterReplay_l3] at H
   conv=>whnf
   refine LenQ.M ?_;conv=>whnf
   refine tst_c H (fun b283 H=>?_) (fun b283 H=>?_)
   ·conv=>whnf
    refine tst_d H (fun b284 H=>?_) (fun b284 H=>?_)
    ·conv=>whnf
     iterate 11 (refine Tst.F ?_;conv=>whnf)
     refine FootQ.mk ⟨rfl,?_⟩;conv=>whnf
     refine Ari.w ?_;conv=>whnf
     exact again_c [101,102,103,104,105,106,107,108,109,110,111,112,113,114,115,116,117,118,119,120] n278 1 [] (⟨_,_,_,_,H,rfl,rfl⟩) (Nat.lt_succ_self _) (Nat.zero_le _) rfl (by kernel_rfl) (by kernel_rfl) rfl ⟨⟨rfl,rfl,rfl⟩,trivial⟩
    conv=>whnf
    iterate 2 (refine Tst.T ?_;conv=>whnf)
    refine ixs_c (f:=RosterGone.v) H (fun _=>rfl) (fun x285 H=>?_);conv=>whnf
    refine Tst.T ?_;conv=>whnf
    refine lq_ ?_;conv=>whnf
    iterate 4 (refine Tst.T ?_;conv=>whnf)
    refine ixs_c (f:=ItemItem.v) H (fun _=>rfl) (fun x286 H=>?_);conv=>whnf
    refine Tst.T ?_;conv=>whnf
    refine lq_ ?_;conv=>whnf
    iterate 3 (refine Tst.T ?_;conv=>whnf)
    refine FootQ.mk ⟨rfl,?_⟩;conv=>whnf
    refine Ari.w ?_;conv=>whnf
    exact again_c [101,102,103,104,105,106,107,108,109,110,111,112,113,114,115,116,117,118,119,120] n278 1 [] (⟨_,_,_,_,H,rfl,rfl⟩) (Nat.lt_succ_self _) (Nat.zero_le _) rfl (by kernel_rfl) (by kernel_rfl) rfl ⟨⟨rfl,rfl,rfl⟩,trivial⟩
   conv=>whnf
   obtain rfl:=Option.some.inj H
   have H:=HQ277
   try dsimp only at H
   obtain ⟨o292,HL293,HQ294⟩:=bind_c H
   refine loop_c [16,18] [121,122,123,124,125,126,127,128,129,130,131,132,133,134,135,136,137,138,139,140] [121,122,123,124,125,126,127,128,129,130,131,132,133,134,135,136,137,138,139,140] (fun n vals st=>(∃ y296 y297 u298 u299,p_law21_RosterReplay_l4  y264 v256.1 y270 n y296 y297=some o292∧vals=[.b y296,.i y297]∧st=[.live [.i y56.Ver,.i y56.Floor,.sl (List.map ItemItem.v y56.Items) u298,.sl (List.map RosterGone.v y56.Gone) u299] 0])) fuel 1 [] (⟨_,_,_,_,HL293,rfl,rfl⟩) (Nat.zero_le _) rfl (by kernel_rfl) (by kernel_rfl) rfl ⟨⟨rfl,rfl,rfl⟩,trivial⟩ ?_
   rintro (_ | n295) _ _ (⟨y296,y297,u298,u299,H,rfl,rfl⟩)
   ·rw [p_law21_RosterReplay_l4] at H;cases H
   rw [p_law21_RosterReplay_l4] at H
   conv=>whnf
   refine LenQ.M ?_;conv=>whnf
   refine tst_d H (fun b300 H=>?_) (fun b300 H=>?_)
   ·conv=>whnf
    obtain rfl:=Option.some.inj H
    have H:=HQ294
    try dsimp only at H
    refine tst_d H (fun b308 H=>?_) (fun b308 H=>?_)
    ·conv=>whnf
     refine Ari.w ?_;conv=>whnf
     exact again_c [16,17,18,95,96,97,98,99,100,101,102,103,104,105,106,107,108,109,110,111,112,113,114,115,116,117,118,119,120,121,122,123,124,125,126,127,128,129,130,131,132,133,134,135,136,137,138,139,140,141,142,143,144,145,146,147,148] n269 1 [] (.inl (⟨_,_,_,H,rfl,rfl⟩)) (Nat.lt_succ_self _) (Nat.zero_le _) rfl (by kernel_rfl) (by kernel_rfl) rfl ⟨⟨rfl,rfl,rfl⟩,trivial⟩
    conv=>whnf
    refine ixs_c (f:=ItemItem.v) H (fun _=>rfl) (fun x309 H=>?_);conv=>whnf
    refine appN_c (f:=ItemItem.v) H (fun _=>rfl) (srcM (f:=ItemItem.v) (fun _=>rfl) [] true) rfl (.v (srcOwn (f:=ItemItem.v) (l:=[x309]) (fun _=>rfl) rfl rfl rfl)) (by decide) rfl (by simp) (fun l310 H=>?_);conv=>whnf
    refine Ari.w ?_;conv=>whnf
    exact again_c [16,17,18,95,96,97,98,99,100,101,102,103,104,105,106,107,108,109,110,111,112,113,114,115,116,117,118,119,120,121,122,123,124,125,126,127,128,129,130,131,132,133,134,135,136,137,138,139,140,141,142,143,144,145,146,147,148] n269 2 [0,2] (.inr (⟨_,_,_,_,H,rfl,rfl⟩)) (Nat.lt_succ_self _) (Nat.zero_le _) rfl (by kernel_rfl) (by kernel_rfl) rfl ⟨⟨rfl,rfl,rfl⟩,wkB_live0 rfl (cellsM_idlt (f:=ItemItem.v) (fun _=>rfl) _) rfl trivial⟩
   conv=>whnf
   refine tst_d H (fun b301 H=>?_) (fun b301 H=>?_)
   ·conv=>whnf
    iterate 11 (refine Tst.F ?_;conv=>whnf)
    refine FootQ.mk ⟨rfl,?_⟩;conv=>whnf
    refine Ari.w ?_;conv=>whnf
    exact again_c [121,122,123,124,125,126,127,128,129,130,131,132,133,134,135,136,137,138,139,140] n295 1 [] (⟨_,_,_,_,H,rfl,rfl⟩) (Nat.lt_succ_self _) (Nat.zero_le _) rfl (by kernel_rfl) (by kernel_rfl) rfl ⟨⟨rfl,rfl,rfl⟩,trivial⟩
   conv=>whnf
   iterate 2 (refine Tst.T ?_;conv=>whnf)
   refine ixs_c (f:=ItemItem.v) H (fun _=>rfl) (fun x302 H=>?_);conv=>whnf
   refine Tst.T ?_;conv=>whnf
   refine lq_ ?_;conv=>whnf
   iterate 4 (refine Tst.T ?_;conv=>whnf)
   refine ixs_c (f:=ItemItem.v) H (fun _=>rfl) (fun x303 H=>?_);conv=>whnf
   refine Tst.T ?_;conv=>whnf
   refine lq_ ?_;conv=>whnf
   iterate 3 (refine Tst.T ?_;conv=>whnf)
   refine FootQ.mk ⟨rfl,?_⟩;conv=>whnf
   refine Ari.w ?_;conv=>whnf
   exact again_c [121,122,123,124,125,126,127,128,129,130,131,132,133,134,135,136,137,138,139,140] n295 1 [] (⟨_,_,_,_,H,rfl,rfl⟩) (Nat.lt_succ_self _) (Nat.zero_le _) rfl (by kernel_rfl) (by kernel_rfl) rfl ⟨⟨rfl,rfl,rfl⟩,trivial⟩
  rw [p_law21_RosterReplay_l2] at H
  conv=>whnf
  refine LenQ.M ?_;conv=>whnf
  refine tst_d H (fun b347 H=>?_) (fun b347 H=>?_)
  ·conv=>whnf
   obtain rfl:=Option.some.inj H
   have H:=HQ268
   try dsimp only at H
   refine appP_c (f:=ItemItem.v) H (fun _=>rfl) rfl rfl (.v (srcM (f:=ItemItem.v) (fun _=>rfl) _ _)) (by decide) rfl (fun l389 H=>?_) (fun l389 H=>?_)
   ·conv=>whnf
    refine askF_c (p_item_Sort_v _) H (.cons (.c (fzown (f:=ItemItem.v) (l:=l389) rfl rfl (fun _=>rfl) (fun _=>rfl))) (.nil)) (fun v405 H=>?_);conv=>whnf
    refine ask_c (p_roster_Listed_v _) H rfl rfl (fun v406 H=>?_);conv=>whnf
    iterate 2 (refine LenQ.M ?_;conv=>whnf)
    refine tstF_c H (fun b407 H=>?_);conv=>whnf
    obtain ⟨o409,HL410,HQ411⟩:=bind_c H
    refine loop_c [4,20] [160,161,162,163,164,165,166,167,168,169,170,171,172,173,174,5,149,151] [160,161,162,163,164,165,166,167,168,169,170,171,172,173,174,5,149,151] (fun n vals st=>(∃ y413,p_law21_RosterReplay_l5  v405 v406 n y413=some o409∧vals=[.b false,.i y413]∧st=[])) fuel 0 [] (⟨_,HL410,rfl,rfl⟩) (Nat.zero_le _) rfl (by kernel_rfl) (by kernel_rfl) rfl trivial ?_
    rintro (_ | n412) _ _ (⟨y413,H,rfl,rfl⟩)
    ·rw [p_law21_RosterReplay_l5] at H;cases H
    rw [p_law21_RosterReplay_l5] at H
    conv=>whnf
    refine LenQ.M ?_;conv=>whnf
    refine tst_d H (fun b414 H=>?_) (fun b414 H=>?_)
    ·conv=>whnf
     obtain rfl:=Option.some.inj H
     have H:=HQ411
     try dsimp only at H
     refine ask_c (p_law21_awake_v) H rfl rfl (fun v419 H=>?_);conv=>whnf
     exact fb_ H
    conv=>whnf
    refine ixs_c (f:=ItemItem.v) H (fun _=>rfl) (fun x415 H=>?_);conv=>whnf
    refine ixs_c (f:=ItemItem.v) H (fun _=>rfl) (fun x416 H=>?_);conv=>whnf
    refine FootQ.mk ⟨rfl,?_⟩;conv=>whnf
    refine Tst.not ?_
    refine tst_d H (fun b417 H=>?_) (fun b417 H=>?_)
    ·conv=>whnf
     obtain rfl:=Option.some.inj H
     have H:=HQ411
     try dsimp only at H
     exact fb_ H
    conv=>whnf
    refine Ari.w ?_;conv=>whnf
    exact again_c [160,161,162,163,164,165,166,167,168,169,170,171,172,173,174,5,149,151] n412 0 [] (⟨_,H,rfl,rfl⟩) (Nat.lt_succ_self _) (Nat.zero_le _) rfl (by kernel_rfl) (by kernel_rfl) rfl trivial
   conv=>whnf
   refine askF_c (p_item_Sort_v _) H (.cons (.c (fzown (f:=ItemItem.v) (l:=l389) rfl rfl (fun _=>rfl) (fun _=>rfl))) (.nil)) (fun v390 H=>?_);conv=>whnf
   refine ask_c (p_roster_Listed_v _) H rfl rfl (fun v391 H=>?_);conv=>whnf
   iterate 2 (refine LenQ.M ?_;conv=>whnf)
   refine tstF_c H (fun b392 H=>?_);conv=>whnf
   obtain ⟨o394,HL395,HQ396⟩:=bind_c H
   refine loop_c [4,20] [160,161,162,163,164,165,166,167,168,169,170,171,172,173,174,5,149,151] [160,161,162,163,164,165,166,167,168,169,170,171,172,173,174,5,149,151] (fun n vals st=>(∃ y398,p_law21_RosterReplay_l5  v390 v391 n y398=some o394∧vals=[.b false,.i y398]∧st=[])) fuel 0 [] (⟨_,HL395,rfl,rfl⟩) (Nat.zero_le _) rfl (by kernel_rfl) (by kernel_rfl) rfl trivial ?_
   rintro (_ | n397) _ _ (⟨y398,H,rfl,rfl⟩)
   ·rw [p_law21_RosterReplay_l5] at H;cases H
   rw [p_law21_RosterReplay_l5] at H
   conv=>whnf
   refine LenQ.M ?_;conv=>whnf
   refine tst_d H (fun b399 H=>?_) (fun b399 H=>?_)
   ·conv=>whnf
    obtain rfl:=Option.some.inj H
    have H:=HQ396
    try dsimp only at H
    refine ask_c (p_law21_awake_v) H rfl rfl (fun v404 H=>?_);conv=>whnf
    exact fb_ H
   conv=>whnf
   refine ixs_c (f:=ItemItem.v) H (fun _=>rfl) (fun x400 H=>?_);conv=>whnf
   refine ixs_c (f:=ItemItem.v) H (fun _=>rfl) (fun x401 H=>?_);conv=>whnf
   refine FootQ.mk ⟨rfl,?_⟩;conv=>whnf
   refine Tst.not ?_
   refine tst_d H (fun b402 H=>?_) (fun b402 H=>?_)
   ·conv=>whnf
    obtain rfl:=Option.some.inj H
    have H:=HQ396
    try dsimp only at H
    exact fb_ H
   conv=>whnf
   refine Ari.w ?_;conv=>whnf
   exact again_c [160,161,162,163,164,165,166,167,168,169,170,171,172,173,174,5,149,151] n397 0 [] (⟨_,H,rfl,rfl⟩) (Nat.lt_succ_self _) (Nat.zero_le _) rfl (by kernel_rfl) (by kernel_rfl) rfl trivial
  conv=>whnf
  obtain ⟨o349,HL350,HQ351⟩:=bind_c H
  refine loop_c [16,17] [101,102,103,104,105,106,107,108,109,110,111,112,113,114,115,116,117,118,119,120] [101,102,103,104,105,106,107,108,109,110,111,112,113,114,115,116,117,118,119,120] (fun n vals st=>(∃ y353 y354 u355 u356,p_law21_RosterReplay_l3  y264 v256.2.1 y312 n y353 y354=some o349∧vals=[.b y353,.i y354]∧st=[.live [.i y56.Ver,.i y56.Floor,.sl (List.map ItemItem.v y56.Items) u355,.sl (List.map RosterGone.v y56.Gone) u356] 0,.live (cellsM ItemItem.v y311) (cellsM ItemItem.v y311).length])) fuel 2 [] (⟨_,_,_,_,HL350,rfl,rfl⟩) (Nat.zero_le _) rfl (by kernel_rfl) (by kernel_rfl) rfl ⟨⟨rfl,rfl,rfl⟩,wkB_live0 rfl (cellsM_idlt (f:=ItemItem.v) (fun _=>rfl) _) rfl trivial⟩ ?_
  rintro (_ | n352) _ _ (⟨y353,y354,u355,u356,H,rfl,rfl⟩)
  ·rw [p_law21_RosterReplay_l3] at H;cases H
  rw [p_law21_RosterReplay_l3] at H
  conv=>whnf
  refine LenQ.M ?_;conv=>whnf
  refine tst_c H (fun b357 H=>?_) (fun b357 H=>?_)
  ·conv=>whnf
   refine tst_d H (fun b358 H=>?_) (fun b358 H=>?_)
   ·conv=>whnf
    iterate 11 (refine Tst.F ?_;conv=>whnf)
    refine FootQ.mk ⟨rfl,?_⟩;conv=>whnf
    refine Ari.w ?_;conv=>whnf
    exact again_c [101,102,103,104,105,106,107,108,109,110,111,112,113,114,115,116,117,118,119,120] n352 2 [] (⟨_,_,_,_,H,rfl,rfl⟩) (Nat.lt_succ_self _) (Nat.zero_le _) rfl (by kernel_rfl) (by kernel_rfl) rfl ⟨⟨rfl,rfl,rfl⟩,wkB_live0 rfl (cellsM_idlt (f:=ItemItem.v) (fun _=>rfl) _) rfl trivial⟩
   conv=>whnf
   iterate 2 (refine Tst.T ?_;conv=>whnf)
   refine ixs_c (f:=RosterGone.v) H (fun _=>rfl) (fun x359 H=>?_);conv=>whnf
   refine Tst.T ?_;conv=>whnf
   refine lq_ ?_;conv=>whnf
   iterate 4 (refine Tst.T ?_;conv=>whnf)
   refine ixs_c (f:=ItemItem.v) H (fun _=>rfl) (fun x360 H=>?_);conv=>whnf
   refine Tst.T ?_;conv=>whnf
   refine lq_ ?_;conv=>whnf
   iterate 3 (refine Tst.T ?_;conv=>whnf)
   refine FootQ.mk ⟨rfl,?_⟩;conv=>whnf
   refine Ari.w ?_;conv=>whnf
   exact again_c [101,102,103,104,105,106,107,108,109,110,111,112,113,114,115,116,117,118,119,120] n352 2 [] (⟨_,_,_,_,H,rfl,rfl⟩) (Nat.lt_succ_self _) (Nat.zero_le _) rfl (by kernel_rfl) (by kernel_rfl) rfl ⟨⟨rfl,rfl,rfl⟩,wkB_live0 rfl (cellsM_idlt (f:=ItemItem.v) (fun _=>rfl) _) rfl trivial⟩
  conv=>whnf
  obtain rfl:=Option.some.inj H
  have H:=HQ351
  try dsimp only at H
  obtain ⟨o366,HL367,HQ368⟩:=bind_c H
  refine loop_c [16,18] [121,122,123,124,125,126,127,128,129,130,131,132,133,134,135,136,137,138,139,140] [121,122,123,124,125,126,127,128,129,130,131,132,133,134,135,136,137,138,139,140] (fun n vals st=>(∃ y370 y371 u372 u373,p_law21_RosterReplay_l4  y264 v256.1 y312 n y370 y371=some o366∧vals=[.b y370,.i y371]∧st=[.live [.i y56.Ver,.i y56.Floor,.sl (List.map ItemItem.v y56.Items) u372,.sl (List.map RosterGone.v y56.Gone) u373] 0,.live (cellsM ItemItem.v y311) (cellsM ItemItem.v y311).length])) fuel 2 [] (⟨_,_,_,_,HL367,rfl,rfl⟩) (Nat.zero_le _) rfl (by kernel_rfl) (by kernel_rfl) rfl ⟨⟨rfl,rfl,rfl⟩,wkB_live0 rfl (cellsM_idlt (f:=ItemItem.v) (fun _=>rfl) _) rfl trivial⟩ ?_
  rintro (_ | n369) _ _ (⟨y370,y371,u372,u373,H,rfl,rfl⟩)
  ·rw [p_law21_RosterReplay_l4] at H;cases H
  rw [p_law21_RosterReplay_l4] at H
  conv=>whnf
  refine LenQ.M ?_;conv=>whnf
  refine tst_d H (fun b374 H=>?_) (fun b374 H=>?_)
  ·conv=>whnf
   obtain rfl:=Option.some.inj H
   have H:=HQ368
   try dsimp only at H
   refine tst_d H (fun b382 H=>?_) (fun b382 H=>?_)
   ·conv=>whnf
    refine Ari.w ?_;conv=>whnf
    exact again_c [16,17,18,95,96,97,98,99,100,101,102,103,104,105,106,107,108,109,110,111,112,113,114,115,116,117,118,119,120,121,122,123,124,125,126,127,128,129,130,131,132,133,134,135,136,137,138,139,140,141,142,143,144,145,146,147,148] n269 2 [] (.inr (⟨_,_,_,_,H,rfl,rfl⟩)) (Nat.lt_succ_self _) (Nat.zero_le _) rfl (by kernel_rfl) (by kernel_rfl) rfl ⟨⟨rfl,rfl,rfl⟩,wkB_live0 rfl (cellsM_idlt (f:=ItemItem.v) (fun _=>rfl) _) rfl trivial⟩
   conv=>whnf
   refine ixs_c (f:=ItemItem.v) H (fun _=>rfl) (fun x383 H=>?_);conv=>whnf
   refine appO_c (f:=ItemItem.v) H (fun _=>rfl) rfl (Nat.le_refl _) (.v (srcOwn (f:=ItemItem.v) (l:=[x383]) (fun _=>rfl) rfl rfl rfl)) (by decide) rfl (by simp) (fun l384 H=>?_);conv=>whnf
   refine Ari.w ?_;conv=>whnf
   exact again_c [16,17,18,95,96,97,98,99,100,101,102,103,104,105,106,107,108,109,110,111,112,113,114,115,116,117,118,119,120,121,122,123,124,125,126,127,128,129,130,131,132,133,134,135,136,137,138,139,140,141,142,143,144,145,146,147,148] n269 2 [0,3] (.inr (⟨_,_,_,_,H,rfl,rfl⟩)) (Nat.lt_succ_self _) (Nat.zero_le _) rfl (by kernel_rfl) (by kernel_rfl) rfl ⟨⟨rfl,rfl,rfl⟩,wkB_live0 rfl (cellsM_idlt (f:=ItemItem.v) (fun _=>rfl) _) rfl trivial⟩
  conv=>whnf
  refine tst_d H (fun b375 H=>?_) (fun b375 H=>?_)
  ·conv=>whnf
   iterate 11 (refine Tst.F ?_;conv=>whnf)
   refine FootQ.mk ⟨rfl,?_⟩;conv=>whnf
   refine Ari.w ?_;conv=>whnf
   exact again_c [121,122,123,124,125,126,127,128,129,130,131,132,133,134,135,136,137,138,139,140] n369 2 [] (⟨_,_,_,_,H,rfl,rfl⟩) (Nat.lt_succ_self _) (Nat.zero_le _) rfl (by kernel_rfl) (by kernel_rfl) rfl ⟨⟨rfl,rfl,rfl⟩,wkB_live0 rfl (cellsM_idlt (f:=ItemItem.v) (fun _=>rfl) _) rfl trivial⟩
  conv=>whnf
  iterate 2 (refine Tst.T ?_;conv=>whnf)
  refine ixs_c (f:=ItemItem.v) H (fun _=>rfl) (fun x376 H=>?_);conv=>whnf
  refine Tst.T ?_;conv=>whnf
  refine lq_ ?_;conv=>whnf
  iterate 4 (refine Tst.T ?_;conv=>whnf)
  refine ixs_c (f:=ItemItem.v) H (fun _=>rfl) (fun x377 H=>?_);conv=>whnf
  refine Tst.T ?_;conv=>whnf
  refine lq_ ?_;conv=>whnf
  iterate 3 (refine Tst.T ?_;conv=>whnf)
  refine FootQ.mk ⟨rfl,?_⟩;conv=>whnf
  refine Ari.w ?_;conv=>whnf
  exact again_c [121,122,123,124,125,126,127,128,129,130,131,132,133,134,135,136,137,138,139,140] n369 2 [] (⟨_,_,_,_,H,rfl,rfl⟩) (Nat.lt_succ_self _) (Nat.zero_le _) rfl (by kernel_rfl) (by kernel_rfl) rfl ⟨⟨rfl,rfl,rfl⟩,wkB_live0 rfl (cellsM_idlt (f:=ItemItem.v) (fun _=>rfl) _) rfl trivial⟩
 rw [hK258] at H
 try dsimp only at H
 conv=>whnf
 obtain ⟨o421,HL422,HQ423⟩:=bind_c H
 refine loop_c [14,15] [16,17,18,95,96,97,98,99,100,101,102,103,104,105,106,107,108,109,110,111,112,113,114,115,116,117,118,119,120,121,122,123,124,125,126,127,128,129,130,131,132,133,134,135,136,137,138,139,140,141,142,143,144,145,146,147,148] [16,17,18,95,96,97,98,99,100,101,102,103,104,105,106,107,108,109,110,111,112,113,114,115,116,117,118,119,120,121,122,123,124,125,126,127,128,129,130,131,132,133,134,135,136,137,138,139,140,141,142,143,144,145,146,147,148] (fun n vals st=>(∃ y425 u426 u427,p_law21_RosterReplay_l2  [] v256.1 v256.2.1 n [] y425=some o421∧vals=[.sl (List.map ItemItem.v []) true,.i y425]∧st=[.live [.i y56.Ver,.i y56.Floor,.sl (List.map ItemItem.v y56.Items) u426,.sl (List.map RosterGone.v y56.Gone) u427] 0])) fuel 1 [] (⟨_,_,_,HL422,rfl,rfl⟩) (Nat.zero_le _) rfl (by kernel_rfl) (by kernel_rfl) rfl ⟨⟨rfl,rfl,rfl⟩,trivial⟩ ?_
 rintro (_ | n424) _ _ (⟨y425,u426,u427,H,rfl,rfl⟩)
 ·rw [p_law21_RosterReplay_l2] at H;cases H
 rw [p_law21_RosterReplay_l2] at H
 conv=>whnf
 refine LenQ.ok ?_;conv=>whnf
 refine tst_d H (fun b428 H=>?_) (fun b428 H=>?_)
 ·conv=>whnf
  obtain rfl:=Option.some.inj H
  have H:=HQ423
  try dsimp only at H
  refine appE_c (f:=ItemItem.v) H (fun _=>rfl) rfl (.v (srcM (f:=ItemItem.v) (fun _=>rfl) _ _)) (by decide) rfl (fun H=>?_) (fun l459 H=>?_)
  ·conv=>whnf
   refine ask_c (p_item_Sort_v _) H rfl rfl (fun v475 H=>?_);conv=>whnf
   refine ask_c (p_roster_Listed_v _) H rfl rfl (fun v476 H=>?_);conv=>whnf
   iterate 2 (refine LenQ.M ?_;conv=>whnf)
   refine tstF_c H (fun b477 H=>?_);conv=>whnf
   obtain ⟨o479,HL480,HQ481⟩:=bind_c H
   refine loop_c [4,20] [160,161,162,163,164,165,166,167,168,169,170,171,172,173,174,5] [160,161,162,163,164,165,166,167,168,169,170,171,172,173,174,5] (fun n vals st=>(∃ y483,p_law21_RosterReplay_l5  v475 v476 n y483=some o479∧vals=[.b false,.i y483]∧st=[])) fuel 0 [] (⟨_,HL480,rfl,rfl⟩) (Nat.zero_le _) rfl (by kernel_rfl) (by kernel_rfl) rfl trivial ?_
   rintro (_ | n482) _ _ (⟨y483,H,rfl,rfl⟩)
   ·rw [p_law21_RosterReplay_l5] at H;cases H
   rw [p_law21_RosterReplay_l5] at H
   conv=>whnf
   refine LenQ.M ?_;conv=>whnf
   refine tst_d H (fun b484 H=>?_) (fun b484 H=>?_)
   ·conv=>whnf
    obtain rfl:=Option.some.inj H
    have H:=HQ481
    try dsimp only at H
    refine ask_c (p_law21_awake_v) H rfl rfl (fun v489 H=>?_);conv=>whnf
    exact fb_ H
   conv=>whnf
   refine ixs_c (f:=ItemItem.v) H (fun _=>rfl) (fun x485 H=>?_);conv=>whnf
   refine ixs_c (f:=ItemItem.v) H (fun _=>rfl) (fun x486 H=>?_);conv=>whnf
   refine FootQ.mk ⟨rfl,?_⟩;conv=>whnf
   refine Tst.not ?_
   refine tst_d H (fun b487 H=>?_) (fun b487 H=>?_)
   ·conv=>whnf
    obtain rfl:=Option.some.inj H
    have H:=HQ481
    try dsimp only at H
    exact fb_ H
   conv=>whnf
   refine Ari.w ?_;conv=>whnf
   exact again_c [160,161,162,163,164,165,166,167,168,169,170,171,172,173,174,5] n482 0 [] (⟨_,H,rfl,rfl⟩) (Nat.lt_succ_self _) (Nat.zero_le _) rfl (by kernel_rfl) (by kernel_rfl) rfl trivial
  conv=>whnf
  refine askF_c (p_item_Sort_v _) H (.cons (.c (fzown (f:=ItemItem.v) (l:=l459) rfl rfl (fun _=>rfl) (fun _=>rfl))) (.nil)) (fun v460 H=>?_);conv=>whnf
  refine ask_c (p_roster_Listed_v _) H rfl rfl (fun v461 H=>?_);conv=>whnf
  iterate 2 (refine LenQ.M ?_;conv=>whnf)
  refine tstF_c H (fun b462 H=>?_);conv=>whnf
  obtain ⟨o464,HL465,HQ466⟩:=bind_c H
  refine loop_c [4,20] [160,161,162,163,164,165,166,167,168,169,170,171,172,173,174,5,151] [160,161,162,163,164,165,166,167,168,169,170,171,172,173,174,5,151] (fun n vals st=>(∃ y468,p_law21_RosterReplay_l5  v460 v461 n y468=some o464∧vals=[.b false,.i y468]∧st=[])) fuel 0 [] (⟨_,HL465,rfl,rfl⟩) (Nat.zero_le _) rfl (by kernel_rfl) (by kernel_rfl) rfl trivial ?_
  rintro (_ | n467) _ _ (⟨y468,H,rfl,rfl⟩)
  ·rw [p_law21_RosterReplay_l5] at H;cases H
  rw [p_law21_RosterReplay_l5] at H
  conv=>whnf
  refine LenQ.M ?_;conv=>whnf
  refine tst_d H (fun b469 H=>?_) (fun b469 H=>?_)
  ·conv=>whnf
   obtain rfl:=Option.some.inj H
   have H:=HQ466
   try dsimp only at H
   refine ask_c (p_law21_awake_v) H rfl rfl (fun v474 H=>?_);conv=>whnf
   exact fb_ H
  conv=>whnf
  refine ixs_c (f:=ItemItem.v) H (fun _=>rfl) (fun x470 H=>?_);conv=>whnf
  refine ixs_c (f:=ItemItem.v) H (fun _=>rfl) (fun x471 H=>?_);conv=>whnf
  refine FootQ.mk ⟨rfl,?_⟩;conv=>whnf
  refine Tst.not ?_
  refine tst_d H (fun b472 H=>?_) (fun b472 H=>?_)
  ·conv=>whnf
   obtain rfl:=Option.some.inj H
   have H:=HQ466
   try dsimp only at H
   exact fb_ H
  conv=>whnf
  refine Ari.w ?_;conv=>whnf
  exact again_c [160,161,162,163,164,165,166,167,168,169,170,171,172,173,174,5,151] n467 0 [] (⟨_,H,rfl,rfl⟩) (Nat.lt_succ_self _) (Nat.zero_le _) rfl (by kernel_rfl) (by kernel_rfl) rfl trivial
 conv=>whnf
 obtain ⟨o430,HL431,HQ432⟩:=bind_c H
 refine loop_c [16,17] [101,102,103,104,105,106,107,108,109,110,111,112,113,114,115,116,117,118,119,120] [101,102,103,104,105,106,107,108,109,110,111,112,113,114,115,116,117,118,119,120] (fun n vals st=>(∃ y434 y435 u436 u437,p_law21_RosterReplay_l3  [] v256.2.1 y425 n y434 y435=some o430∧vals=[.b y434,.i y435]∧st=[.live [.i y56.Ver,.i y56.Floor,.sl (List.map ItemItem.v y56.Items) u436,.sl (List.map RosterGone.v y56.Gone) u437] 0])) fuel 1 [] (⟨_,_,_,_,HL431,rfl,rfl⟩) (Nat.zero_le _) rfl (by kernel_rfl) (by kernel_rfl) rfl ⟨⟨rfl,rfl,rfl⟩,trivial⟩ ?_
 rintro (_ | n433) _ _ (⟨y434,y435,u436,u437,H,rfl,rfl⟩)
 ·rw [p_law21_RosterReplay_l3] at H;cases H
 rw [p_law21_RosterReplay_l3] at H
 conv=>whnf
 refine LenQ.M ?_;conv=>whnf
 refine tst_c H (fun b438 H=>?_) (fun b438 H=>?_)
 ·conv=>whnf
  refine tst_c H (fun b439 H=>?_) (fun b439 H=>?_)
  ·conv=>whnf
   iterate 2 (refine Tst.T ?_;conv=>whnf)
   refine ixs_c (f:=RosterGone.v) H (fun _=>rfl) (fun x440 H=>?_);conv=>whnf
   refine Tst.T ?_;conv=>whnf
   refine lq_ ?_;conv=>whnf
   iterate 4 (refine Tst.T ?_;conv=>whnf)
   exact nil_at H
  conv=>whnf
  iterate 11 (refine Tst.F ?_;conv=>whnf)
  refine FootQ.mk ⟨rfl,?_⟩;conv=>whnf
  refine Ari.w ?_;conv=>whnf
  exact again_c [101,102,103,104,105,106,107,108,109,110,111,112,113,114,115,116,117,118,119,120] n433 1 [] (⟨_,_,_,_,H,rfl,rfl⟩) (Nat.lt_succ_self _) (Nat.zero_le _) rfl (by kernel_rfl) (by kernel_rfl) rfl ⟨⟨rfl,rfl,rfl⟩,trivial⟩
 conv=>whnf
 obtain rfl:=Option.some.inj H
 have H:=HQ432
 try dsimp only at H
 obtain ⟨o444,HL445,HQ446⟩:=bind_c H
 refine loop_c [16,18] [121,122,123,124,125,126,127,128,129,130,131,132,133,134,135,136,137,138,139,140] [121,122,123,124,125,126,127,128,129,130,131,132,133,134,135,136,137,138,139,140] (fun n vals st=>(∃ y448 y449 u450 u451,p_law21_RosterReplay_l4  [] v256.1 y425 n y448 y449=some o444∧vals=[.b y448,.i y449]∧st=[.live [.i y56.Ver,.i y56.Floor,.sl (List.map ItemItem.v y56.Items) u450,.sl (List.map RosterGone.v y56.Gone) u451] 0])) fuel 1 [] (⟨_,_,_,_,HL445,rfl,rfl⟩) (Nat.zero_le _) rfl (by kernel_rfl) (by kernel_rfl) rfl ⟨⟨rfl,rfl,rfl⟩,trivial⟩ ?_
 rintro (_ | n447) _ _ (⟨y448,y449,u450,u451,H,rfl,rfl⟩)
 ·rw [p_law21_RosterReplay_l4] at H;cases H
 rw [p_law21_RosterReplay_l4] at H
 conv=>whnf
 refine LenQ.M ?_;conv=>whnf
 refine tst_d H (fun b452 H=>?_) (fun b452 H=>?_)
 ·conv=>whnf
  obtain rfl:=Option.some.inj H
  have H:=HQ446
  try dsimp only at H
  refine tst_c H (fun b457 H=>?_) (fun b457 H=>?_)
  ·conv=>whnf
   exact nil_at H
  conv=>whnf
  refine Ari.w ?_;conv=>whnf
  exact again_c [16,17,18,95,96,97,98,99,100,101,102,103,104,105,106,107,108,109,110,111,112,113,114,115,116,117,118,119,120,121,122,123,124,125,126,127,128,129,130,131,132,133,134,135,136,137,138,139,140,141,142,143,144,145,146,147,148] n424 1 [] (⟨_,_,_,H,rfl,rfl⟩) (Nat.lt_succ_self _) (Nat.zero_le _) rfl (by kernel_rfl) (by kernel_rfl) rfl ⟨⟨rfl,rfl,rfl⟩,trivial⟩
 conv=>whnf
 refine tst_c H (fun b453 H=>?_) (fun b453 H=>?_)
 ·conv=>whnf
  iterate 2 (refine Tst.T ?_;conv=>whnf)
  refine ixs_c (f:=ItemItem.v) H (fun _=>rfl) (fun x454 H=>?_);conv=>whnf
  refine Tst.T ?_;conv=>whnf
  refine lq_ ?_;conv=>whnf
  iterate 4 (refine Tst.T ?_;conv=>whnf)
  exact nil_at H
 conv=>whnf
 iterate 11 (refine Tst.F ?_;conv=>whnf)
 refine FootQ.mk ⟨rfl,?_⟩;conv=>whnf
 refine Ari.w ?_;conv=>whnf
 exact again_c [121,122,123,124,125,126,127,128,129,130,131,132,133,134,135,136,137,138,139,140] n447 1 [] (⟨_,_,_,_,H,rfl,rfl⟩) (Nat.lt_succ_self _) (Nat.zero_le _) rfl (by kernel_rfl) (by kernel_rfl) rfl ⟨⟨rfl,rfl,rfl⟩,trivial⟩
end Go.Proofs.YtmmmcpeickfolaaGreat

