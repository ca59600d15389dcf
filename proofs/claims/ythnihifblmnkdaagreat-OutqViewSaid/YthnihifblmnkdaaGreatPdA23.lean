/- A part of the proof: 2 texts joined. -/
import Derived.Test.YthnihifblmnkdaaGreatPdA17
import Derived.Test.YthnihifblmnkdaaGreatPdA15
import Derived.Test.YthnihifblmnkdaaGreatPdA21
import Derived.Test.YthnihifblmnkdaaGreatPdA20
import Derived.Test.YthnihifblmnkdaaGreatPdA22
import Derived.Test.YthnihifblmnkdaaGreatPdA11
import Derived.KernelRfl
import Derived.Test.YthnihifblmnkdaaGreatPdA12
import Derived.Test.YthnihifblmnkdaaGreatRows
set_option linter.all false
namespace Go.Proofs.YthnihifblmnkdaaGreat
open Go.RowKit
set_option maxRecDepth 1000000
set_option maxHeartbeats 4000000
def gc5:BCode:=(.seq (R_ 1 [O_ 3 (.bx (t_ 1)) 0,O_ 4 (.mv (b_ false)) 1]) (.seq (.seq (R_ 0 [O_ 23 (.mv (t_ 0)) 0,O_ 24 (.lens (t_ 23)) 0,O_ 25 (.bin .gtr (t_ 24) (i_ 80)) 0]) (.cond (t_ 25) (.seq (R_ 0 [O_ 26 (.cl 7 []) 0,O_ 4 (.mv (t_ 26)) 0]) .ret) .skip)) (.seq (R_ 1 [O_ 5 (.al (.agg [(.sl [] true),(.sl [] true)])) 0]) (.seq (.seq (R_ 0 [O_ 6 (.mv (i_ 0)) 0]) (.block 0 (.loop (.seq (.seq (R_ 0 [O_ 27 (.mv (t_ 6)) 0,O_ 28 (.bin .lss (t_ 27) (i_ 20)) 0]) (.cond (t_ 28) .skip (.exit 0))) (.seq (.block 1 (.seq (R_ 0 [O_ 31 (.mv (t_ 6)) 0,O_ 32 (.bin .quo (t_ 31) (i_ 8)) 0,O_ 33 (.ixa 3 1 (t_ 3) (t_ 32)) 0,O_ 34 (.ld 1 false (t_ 33)) 0,O_ 35 (.mv (t_ 6)) 0,O_ 36 (.bin .rem (t_ 35) (i_ 8)) 0,O_ 37 (.bin .shr (t_ 34) (t_ 36)) 0,O_ 38 (.bin .and (t_ 37) (.const (.int .u8 1))) 0,O_ 39 (.bin .eql (t_ 38) (.const (.int .u8 1))) 0]) (.cond (t_ 39) (.reg 2 [O_ 40 (.fa 0 (t_ 5)) 0,O_ 41 (.ld 1 false (t_ 40)) 0,O_ 42 (.mv (t_ 6)) 0,O_ 43 (.cvi .u8 (t_ 42)) 0,O_ 44 (.cl 23 [(t_ 43)]) 0,O_ 45 (.bs 1 1 [(.lit (.string ⟨#[]⟩))] [(0,(t_ 44))]) 0,O_ 46 (.ap 1 16 (t_ 41) (t_ 45)) 1,O_ 47 (.fa 0 (t_ 5)) 2,U_ (.st 1 (t_ 47) (t_ 46)) 2] (some [[],[0],[],[2],[2,3],[3,2,4],[4,2,3,5,0,1],[6,5,4,3,2,1,0],[0,1,2,3,4,5,6,7]]) 0 []) .skip))) (R_ 0 [O_ 29 (.mv (t_ 6)) 0,O_ 30 (.bin .add (t_ 29) (i_ 1)) 0,O_ 6 (.mv (t_ 30)) 0])))))) (.seq (R_ 1 [O_ 7 (.al (.agg [(.lit (.int .i64 0)),(.sl [] true)])) 0]) (.seq (R_ 1 [O_ 8 (.al (.agg [(.lit (.bool false)),(.lit (.int .i64 0)),(.lit (.int .i64 0)),(.lit (.int .i64 0)),(.lit (.bool false)),(.lit (.int .i64 0)),(.lit (.int .i64 0)),(.lit (.int .i64 0)),(.lit (.bool false)),(.lit (.int .i64 0)),(.lit (.int .i64 0)),(.lit (.int .i64 0)),(.lit (.bool false)),(.lit (.int .i64 0)),(.lit (.int .i64 0)),(.lit (.int .i64 0)),(.lit (.bool false)),(.lit (.int .i64 0)),(.lit (.int .i64 0)),(.lit (.int .i64 0)),(.lit (.bool false)),(.lit (.int .i64 0)),(.lit (.int .i64 0)),(.lit (.int .i64 0)),(.lit (.bool false)),(.lit (.int .i64 0)),(.lit (.int .i64 0)),(.lit (.int .i64 0)),(.lit (.bool false)),(.lit (.int .i64 0)),(.lit (.int .i64 0)),(.lit (.int .i64 0)),(.lit (.bool false)),(.lit (.int .i64 0)),(.lit (.int .i64 0)),(.lit (.int .i64 0)),(.lit (.bool false)),(.lit (.int .i64 0)),(.lit (.int .i64 0)),(.lit (.int .i64 0)),(.lit (.bool false)),(.lit (.int .i64 0)),(.lit (.int .i64 0)),(.lit (.int .i64 0)),(.lit (.bool false)),(.lit (.int .i64 0)),(.lit (.int .i64 0)),(.lit (.int .i64 0)),(.lit (.bool false)),(.lit (.int .i64 0)),(.lit (.int .i64 0)),(.lit (.int .i64 0)),(.lit (.bool false)),(.lit (.int .i64 0)),(.lit (.int .i64 0)),(.lit (.int .i64 0)),(.lit (.bool false)),(.lit (.int .i64 0)),(.lit (.int .i64 0)),(.lit (.int .i64 0)),(.lit (.bool false)),(.lit (.int .i64 0)),(.lit (.int .i64 0)),(.lit (.int .i64 0)),(.lit (.bool false)),(.lit (.int .i64 0)),(.lit (.int .i64 0)),(.lit (.int .i64 0)),(.lit (.bool false)),(.lit (.int .i64 0)),(.lit (.int .i64 0)),(.lit (.int .i64 0)),(.lit (.bool false)),(.lit (.int .i64 0)),(.lit (.int .i64 0)),(.lit (.int .i64 0)),(.lit (.bool false)),(.lit (.int .i64 0)),(.lit (.int .i64 0)),(.lit (.int .i64 0)),(.lit (.bool false)),(.lit (.bool false)),(.lit (.bool false)),(.lit (.bool false)),(.lit (.bool false)),(.lit (.bool false)),(.lit (.bool false)),(.lit (.bool false)),(.lit (.bool false)),(.lit (.bool false)),(.lit (.bool false)),(.lit (.bool false)),(.lit (.bool false)),(.lit (.bool false)),(.lit (.bool false)),(.lit (.bool false)),(.lit (.bool false)),(.lit (.bool false)),(.lit (.bool false)),(.lit (.bool false)),(.lit (.bool false)),(.lit (.int .i64 0)),(.lit (.int .i64 0)),(.lit (.int .i64 0)),(.lit (.int .i64 0)),(.lit (.int .i64 0)),(.lit (.int .i64 0)),(.lit (.int .i64 0)),(.lit (.int .i64 0)),(.lit (.int .i64 0)),(.lit (.int .i64 0)),(.lit (.int .i64 0)),(.lit (.int .i64 0)),(.lit (.int .i64 0)),(.lit (.int .i64 0)),(.lit (.int .i64 0)),(.lit (.int .i64 0)),(.lit (.int .i64 0)),(.lit (.int .i64 0)),(.lit (.int .i64 0)),(.lit (.int .i64 0))])) 0]) (.seq (R_ 1 [O_ 48 (.bd [(.sl [] true),(.lit (.bool false)),(.lit (.bool false)),(.lit (.string ⟨#[]⟩)),(.lit (.int .i64 0)),(.lit (.int .i64 0)),(.lit (.int .i64 0))] []) 0,O_ 49 (.cl 13 [(t_ 48)]) 0,O_ 9 (.al (.agg [(.sl [] true),(.lit (.bool false)),(.lit (.bool false)),(.lit (.string ⟨#[]⟩)),(.lit (.int .i64 0)),(.lit (.int .i64 0)),(.lit (.int .i64 0))])) 0,U_ (.st 7 (t_ 9) (t_ 49)) 1]) (.seq (.seq (R_ 0 [O_ 10 (.mv (i_ 0)) 0]) (.block 2 (.loop (.seq (.seq (R_ 0 [O_ 50 (.mv (t_ 10)) 0,O_ 51 (.mv (t_ 0)) 0,O_ 52 (.lens (t_ 51)) 0,O_ 53 (.bin .lss (t_ 50) (t_ 52)) 0]) (.cond (t_ 53) .skip (.exit 2))) (.seq (.block 3 (.seq (R_ 0 [O_ 56 (.mv (t_ 0)) 0,O_ 57 (.mv (t_ 10)) 0,O_ 58 (.ixs 5 (t_ 56) (t_ 57)) 0,O_ 59 (.fa 0 (t_ 58)) 0,O_ 60 (.ld 1 false (t_ 59)) 0,O_ 61 (.cl 23 [(t_ 60)]) 0,O_ 11 (.mv (t_ 61)) 0]) (.seq (R_ 1 [O_ 12 (.al (.agg [(.lit (.bool false)),(.lit (.int .i64 0)),(.lit (.int .i64 0)),(.lit (.int .i64 0))])) 0]) (.seq (R_ 0 [O_ 13 (.mv (i_ 0)) 0]) (.join (.seq (R_ 0 [O_ 62 (.mv (t_ 0)) 0,O_ 63 (.mv (t_ 10)) 0,O_ 64 (.ixs 5 (t_ 62) (t_ 63)) 0,O_ 65 (.fa 2 (t_ 64)) 0,O_ 66 (.ld 1 false (t_ 65)) 0]) (.cond (t_ 66) (R_ 0 [O_ 68 (.ld 2 true (t_ 7)) 0,O_ 69 (.mv (t_ 11)) 0,O_ 70 (.cl 24 [(t_ 68),(t_ 69),(.const (.string ⟨#[]⟩))]) 0,O_ 67 (.mv (t_ 70)) 0,O_ 71 (.ex (t_ 67) 0) 0,O_ 72 (.ex (t_ 67) 1) 0,O_ 73 (.ex (t_ 67) 2) 0,U_ (.st 2 (t_ 7) (t_ 71)) 0,U_ (.st 4 (t_ 12) (t_ 72)) 0,O_ 13 (.mv (t_ 73)) 0]) (.reg 0 [O_ 75 (.ld 2 true (t_ 7)) 0,O_ 76 (.mv (t_ 11)) 0,O_ 77 (.mv (t_ 0)) 0,O_ 78 (.mv (t_ 10)) 0,O_ 79 (.ixs 5 (t_ 77) (t_ 78)) 0,O_ 80 (.fa 1 (t_ 79)) 0,O_ 81 (.ld 1 false (t_ 80)) 0,O_ 82 (.bin .rem (t_ 81) (.const (.int .u8 5))) 0,O_ 83 (.cvi .i64 (t_ 82)) 0,O_ 84 (.cl 25 [(t_ 75),(t_ 76),(.const (.string ⟨#[]⟩)),(t_ 83),(i_ 0)]) 0,O_ 74 (.mv (t_ 84)) 0,O_ 85 (.ex (t_ 74) 0) 0,O_ 86 (.ex (t_ 74) 1) 0,O_ 87 (.ex (t_ 74) 2) 0,U_ (.st 2 (t_ 7) (t_ 85)) 0,U_ (.st 4 (t_ 12) (t_ 86)) 0,O_ 13 (.mv (t_ 87)) 0] (some [[],[],[],[],[3,2],[2,3,4],[4,3,2,5],[5,2,3,4,6],[6,4,3,2,5,7],[7,5,2,3,4,6,8,1,0],[0,1,8,6,4,3,2,5,7,9],[9,7,5,2,3,4,6,8,1,0,10],[9,7,5,2,3,4,6,8,1,0,10],[9,7,5,2,3,4,6,8,1,0,10],[10,0,1,8,6,4,3,2,5,7,9,11],[11,14,10,0,1,8,6,4,3,2,5,7,9,12],[12,14,11,15,10,0,1,8,6,4,3,2,5,7,9,13]]) 0 []))) (.join (.seq (R_ 0 [O_ 88 (.mv (t_ 13)) 0,O_ 89 (.bin .eql (t_ 88) (i_ 0)) 0,O_ 90 (.mv (t_ 89)) 0,⟨(some 91),.ld 2 true (t_ 5),(some (90,true)),0⟩,⟨(some 92),.mv (t_ 11),(some (90,true)),0⟩,⟨(some 93),.ld 4 true (t_ 12),(some (90,true)),0⟩,⟨(some 94),.bd [(.lit (.string ⟨#[]⟩)),(.lit (.string ⟨#[]⟩)),(.lit (.bool false)),(.lit (.int .i64 0)),(.lit (.int .i64 0)),(.lit (.int .i64 0))] [(0,1,(t_ 92)),(2,4,(t_ 93))],(some (90,true)),0⟩,⟨(some 95),.cl 28 [(t_ 91),(t_ 94)],(some (90,true)),0⟩,O_ 96 (.pick (t_ 90) (t_ 95) (b_ false)) 0]) (.cond (t_ 96) (.reg 0 [O_ 97 (.ld 7 true (t_ 9)) 0,O_ 98 (.mv (t_ 11)) 0,O_ 99 (.cl 26 [(t_ 98),(.const (.string ⟨#[]⟩))]) 0,O_ 100 (.ld 4 true (t_ 12)) 0,O_ 101 (.cl 11 [(t_ 97),(t_ 99),(t_ 100)]) 0,U_ (.st 7 (t_ 9) (t_ 101)) 0] (some [[],[],[1],[],[3,1,2,0],[0,2,1,3,4]]) 0 []) .skip)) (.join (.seq (R_ 0 [O_ 102 (.mv (t_ 0)) 0,O_ 103 (.mv (t_ 10)) 0,O_ 104 (.ixs 5 (t_ 102) (t_ 103)) 0,O_ 105 (.fa 4 (t_ 104)) 0,O_ 106 (.ld 1 false (t_ 105)) 0]) (.cond (t_ 106) (R_ 0 [O_ 107 (.ld 7 true (t_ 9)) 0,O_ 108 (.cl 13 [(t_ 107)]) 0,U_ (.st 7 (t_ 9) (t_ 108)) 0]) .skip)) (.seq (.reg 1 [O_ 110 (.ld 7 true (t_ 9)) 0,O_ 111 (.ld 2 true (t_ 5)) 0,O_ 112 (.ld 2 true (t_ 7)) 0,O_ 113 (.mv (t_ 0)) 0,O_ 114 (.mv (t_ 10)) 0,O_ 115 (.ixs 5 (t_ 113) (t_ 114)) 0,O_ 116 (.fa 3 (t_ 115)) 0,O_ 117 (.ld 1 false (t_ 116)) 0,O_ 118 (.bin .rem (t_ 117) (.const (.int .u8 8))) 0,O_ 119 (.cvi .i64 (t_ 118)) 0,O_ 120 (.cl 27 [(t_ 110),(t_ 111),(t_ 112),(t_ 119)]) 0,O_ 109 (.mv (t_ 120)) 0,O_ 121 (.ex (t_ 109) 0) 0,O_ 122 (.ex (t_ 109) 1) 0,O_ 14 (.al (.agg [(.sl [] true),(.lit (.bool false)),(.lit (.bool false)),(.lit (.string ⟨#[]⟩)),(.lit (.int .i64 0)),(.lit (.int .i64 0)),(.lit (.int .i64 0))])) 0,U_ (.st 7 (t_ 14) (t_ 121)) 1,O_ 15 (.mv (t_ 122)) 1] (some [[],[],[],[],[],[4,3],[3,4,5],[5,4,3,6],[6,3,4,5,7],[7,5,4,3,6,8],[8,6,3,4,5,7,9,2,1,0],[0,1,2,9,7,5,4,3,6,8,10],[10,8,6,3,4,5,7,9,2,1,0,11],[10,8,6,3,4,5,7,9,2,1,0,11],[],[11,0,1,2,9,7,5,4,3,6,8,10,12,14],[14,12,15,11,0,1,2,9,7,5,4,3,6,8,10,13]]) 0 []) (.seq (.seq (R_ 0 [O_ 16 (.mv (i_ 0)) 0]) (.block 4 (.loop (.seq (.seq (R_ 0 [O_ 123 (.mv (t_ 16)) 0,O_ 124 (.mv (t_ 15)) 0,O_ 125 (.lens (t_ 124)) 0,O_ 126 (.bin .lss (t_ 123) (t_ 125)) 0]) (.cond (t_ 126) .skip (.exit 4))) (.seq (.block 5 (.seq (R_ 0 [O_ 129 (.mv (t_ 15)) 0,O_ 130 (.mv (t_ 16)) 0,O_ 131 (.ixs 8 (t_ 129) (t_ 130)) 0,O_ 132 (.ld 8 true (t_ 131)) 0,O_ 133 (.cl 29 [(t_ 8),(t_ 132)]) 0,O_ 134 (.un .not (t_ 133)) 0]) (.cond (t_ 134) (.seq (R_ 0 [O_ 4 (.mv (b_ false)) 0]) .ret) .skip))) (R_ 0 [O_ 127 (.mv (t_ 16)) 0,O_ 128 (.bin .add (t_ 127) (i_ 1)) 0,O_ 16 (.mv (t_ 128)) 0])))))) (.seq (.seq (R_ 0 [O_ 135 (.ld 7 true (t_ 14)) 0,O_ 136 (.cl 17 [(t_ 135)]) 0,O_ 137 (.bin .neq (t_ 136) (i_ 0)) 0,O_ 138 (.mv (t_ 137)) 0,⟨(some 139),.fa 5 (t_ 14),(some (138,false)),0⟩,⟨(some 140),.ld 1 false (t_ 139),(some (138,false)),0⟩,⟨(some 141),.fa 5 (t_ 9),(some (138,false)),0⟩,⟨(some 142),.ld 1 false (t_ 141),(some (138,false)),0⟩,⟨(some 143),.mv (t_ 15),(some (138,false)),0⟩,⟨(some 144),.lens (t_ 143),(some (138,false)),0⟩,⟨(some 145),.bin .add (t_ 142) (t_ 144),(some (138,false)),0⟩,⟨(some 146),.bin .neq (t_ 140) (t_ 145),(some (138,false)),0⟩,O_ 147 (.pick (t_ 138) (b_ true) (t_ 146)) 0]) (.cond (t_ 147) (.seq (R_ 0 [O_ 4 (.mv (b_ false)) 0]) .ret) .skip)) (R_ 0 [O_ 148 (.ld 7 true (t_ 14)) 0,U_ (.st 7 (t_ 9) (t_ 148)) 0]))))))))))) (R_ 0 [O_ 54 (.mv (t_ 10)) 0,O_ 55 (.bin .add (t_ 54) (i_ 1)) 0,O_ 10 (.mv (t_ 55)) 0])))))) (.seq (R_ 1 [O_ 150 (.ld 7 true (t_ 9)) 0,O_ 151 (.ld 2 true (t_ 5)) 0,O_ 152 (.ld 2 true (t_ 7)) 0,O_ 153 (.cl 27 [(t_ 150),(t_ 151),(t_ 152),(i_ 60)]) 0,O_ 149 (.mv (t_ 153)) 0,O_ 154 (.ex (t_ 149) 0) 0,O_ 155 (.ex (t_ 149) 1) 0,O_ 17 (.al (.agg [(.sl [] true),(.lit (.bool false)),(.lit (.bool false)),(.lit (.string ⟨#[]⟩)),(.lit (.int .i64 0)),(.lit (.int .i64 0)),(.lit (.int .i64 0))])) 0,U_ (.st 7 (t_ 17) (t_ 154)) 1,O_ 18 (.mv (t_ 155)) 1]) (.seq (.seq (R_ 0 [O_ 19 (.mv (i_ 0)) 0]) (.block 6 (.loop (.seq (.seq (R_ 0 [O_ 156 (.mv (t_ 19)) 0,O_ 157 (.mv (t_ 18)) 0,O_ 158 (.lens (t_ 157)) 0,O_ 159 (.bin .lss (t_ 156) (t_ 158)) 0]) (.cond (t_ 159) .skip (.exit 6))) (.seq (.block 7 (.seq (R_ 0 [O_ 162 (.mv (t_ 18)) 0,O_ 163 (.mv (t_ 19)) 0,O_ 164 (.ixs 8 (t_ 162) (t_ 163)) 0,O_ 165 (.ld 8 true (t_ 164)) 0,O_ 166 (.cl 29 [(t_ 8),(t_ 165)]) 0,O_ 167 (.un .not (t_ 166)) 0]) (.cond (t_ 167) (.seq (R_ 0 [O_ 4 (.mv (b_ false)) 0]) .ret) .skip))) (R_ 0 [O_ 160 (.mv (t_ 19)) 0,O_ 161 (.bin .add (t_ 160) (i_ 1)) 0,O_ 19 (.mv (t_ 161)) 0])))))) (.seq (.seq (R_ 0 [O_ 168 (.ld 7 true (t_ 17)) 0,O_ 169 (.cl 19 [(t_ 168)]) 0]) (.cond (t_ 169) (.seq (R_ 0 [O_ 4 (.mv (b_ false)) 0]) .ret) .skip)) (.seq (.seq (R_ 0 [O_ 20 (.mv (i_ 0)) 0]) (.block 8 (.loop (.seq (.seq (R_ 0 [O_ 170 (.mv (t_ 20)) 0,O_ 171 (.bin .lss (t_ 170) (i_ 20)) 0]) (.cond (t_ 171) .skip (.exit 8))) (.seq (.block 9 (.seq (.reg 1 [O_ 175 (.ld 2 true (t_ 7)) 0,O_ 176 (.mv (t_ 20)) 0,O_ 177 (.cvi .u8 (t_ 176)) 0,O_ 178 (.cl 23 [(t_ 177)]) 0,O_ 179 (.cl 30 [(t_ 175),(t_ 178),(.const (.string ⟨#[]⟩))]) 0,O_ 174 (.mv (t_ 179)) 0,O_ 180 (.ex (t_ 174) 0) 0,O_ 181 (.ex (t_ 174) 1) 0,O_ 21 (.al (.agg [(.lit (.bool false)),(.lit (.int .i64 0)),(.lit (.int .i64 0)),(.lit (.int .i64 0))])) 0,U_ (.st 4 (t_ 21) (t_ 180)) 1,O_ 22 (.mv (t_ 181)) 1] (some [[],[],[1],[1,2],[2,1,3,0],[0,3,1,2,4],[4,2,1,3,0,5],[4,2,1,3,0,5],[],[5,0,3,1,2,4,6,8],[8,6,9,5,0,3,1,2,4,7]]) 0 []) (.seq (.seq (.reg 0 [O_ 182 (.ld 2 true (t_ 5)) 0,O_ 183 (.mv (t_ 20)) 0,O_ 184 (.cvi .u8 (t_ 183)) 0,O_ 185 (.cl 23 [(t_ 184)]) 0,O_ 186 (.bd [(.lit (.string ⟨#[]⟩)),(.lit (.string ⟨#[]⟩)),(.lit (.bool false)),(.lit (.int .i64 0)),(.lit (.int .i64 0)),(.lit (.int .i64 0))] [(0,1,(t_ 185))]) 0,O_ 187 (.cl 28 [(t_ 182),(t_ 186)]) 0,O_ 188 (.un .not (t_ 187)) 0] (some [[],[],[1],[1,2],[2,1,3],[3,1,2,4,0],[0,4,2,1,3,5]]) 0 []) (.cond (t_ 188) (R_ 0 [O_ 189 (.bd [(.lit (.bool false)),(.lit (.int .i64 0)),(.lit (.int .i64 0)),(.lit (.int .i64 0))] []) 0,U_ (.st 4 (t_ 21) (t_ 189)) 0]) .skip)) (.seq (.reg 0 [O_ 190 (.mv (t_ 20)) 0,O_ 191 (.fa 0 (t_ 8)) 0,O_ 192 (.ixa 20 4 (t_ 191) (t_ 190)) 0,O_ 193 (.ld 4 true (t_ 192)) 0,O_ 194 (.ld 4 true (t_ 21)) 0,O_ 195 (.eqa true [0,1,1,1] (t_ 193) (t_ 194)) 0] (some [[],[],[0,1],[1,0,2],[],[4,2,0,1,3]]) 0 []) (.cond (t_ 195) (.seq (R_ 0 [O_ 4 (.mv (b_ false)) 0]) .ret) .skip))))) (R_ 0 [O_ 172 (.mv (t_ 20)) 0,O_ 173 (.bin .add (t_ 172) (i_ 1)) 0,O_ 20 (.mv (t_ 173)) 0])))))) (.seq (R_ 0 [O_ 196 (.cl 7 []) 0,O_ 4 (.mv (t_ 196)) 0]) .ret)))))))))))))
theorem gc5_ok:compF Tryz.prog Tryz.f5=some (gc5.er,197,[.tmp 4]):=by unfold gc5;kernel_rfl
theorem p_law27_OutqView_v {u1:Bool} (a0:List Law27Deed) (a1:Ar3_Int_):CallsO Tryz.prog 5 [.sl (List.map Law27Deed.v a0) u1,.agg [.y8 a1.a0,.y8 a1.a1,.y8 a1.a2]] V.b (tru? (p_law27_OutqView a0 a1)):=by
 refine callsO_comp mix Tryz.func5 gc5_ok fun r H=>?_
 have H1:=tru_of H
 clear H
 obtain ⟨rfl,H⟩:=H1
 rw [p_law27_OutqView] at H
 conv=>whnf
 refine LenQ.M ?_;conv=>whnf
 refine tst_c H (fun b1 H=>?_) (fun b1 H=>?_)
 ·conv=>whnf
  refine ask_c (p_law27_awake_v) H rfl rfl (fun v2 H=>?_);conv=>whnf
  exact fb_ H
 conv=>whnf
 obtain ⟨o4,HL5,HQ6⟩:=bind_c H
 refine loop_c [6] [27,28,29,30,31,32,33,34,35,36,37,38,39,40,41,42,43,44,45,46,47] [27,28,29,30,31,32,33,34,35,36,37,38,39,40,41,42,43,44,45,46,47] (fun n vals st=>(∃ y8 y9,p_law27_OutqView_l1  a1 n y8 y9=some o4∧vals=[.i y8]∧st=[.live [.y8 a1.a0,.y8 a1.a1,.y8 a1.a2] 0,.live [.sl (List.map V.s y9.Users) true,.sl (List.map V.s y9.Keys) true] 0])∨(∃ y17 y18,p_law27_OutqView_l1  a1 n y17 y18=some o4∧vals=[.i y17]∧st=[.live [.y8 a1.a0,.y8 a1.a1,.y8 a1.a2] 0,.live [.osl 2 0 (List.length y18.Users) 1 false,.sl (List.map V.s y18.Keys) true] 0,.live (cellsM V.s y18.Users) (cellsM V.s y18.Users).length])) fuel 2 [] (.inl (⟨_,_,HL5,rfl,rfl⟩)) (Nat.zero_le _) rfl (by kernel_rfl) (by kernel_rfl) rfl ⟨⟨rfl,rfl,rfl⟩,⟨⟨rfl,rfl,rfl⟩,trivial⟩⟩ ?_
 rintro (_ | n7) _ _ (⟨y8,y9,H,rfl,rfl⟩ | ⟨y17,y18,H,rfl,rfl⟩)
 ·rw [p_law27_OutqView_l1] at H;cases H
 ·rw [p_law27_OutqView_l1] at H;cases H
 ·rw [p_law27_OutqView_l1] at H
  conv=>whnf
  refine tst_c H (fun b10 H=>?_) (fun b10 H=>?_)
  ·conv=>whnf
   refine ⟨by decide,Ari.w ?_⟩;conv=>whnf
   refine ixa_c (l:=[a1.a0,a1.a1,a1.a2]) H (fun x11 h12 H=>?_);conv=>whnf
   refine ldo_c (l:=[a1.a0,a1.a1,a1.a2]) (f:=V.y8) (es:=1) h12 (fun _=>rfl) 0 (by omega) (by decide) ?_;conv=>whnf
   refine ⟨by decide,?_⟩;conv=>whnf
   refine Shr.ok (pos_c H).1 ((fun H=>?_) (pos_c H).2);conv=>whnf
   refine tst_d H (fun b14 H=>?_) (fun b14 H=>?_)
   ·conv=>whnf
    refine Ari.w ?_;conv=>whnf
    exact again_c [27,28,29,30,31,32,33,34,35,36,37,38,39,40,41,42,43,44,45,46,47] n7 2 [] (.inl (⟨_,_,H,rfl,rfl⟩)) (Nat.lt_succ_self _) (Nat.zero_le _) rfl (by kernel_rfl) (by kernel_rfl) rfl ⟨⟨rfl,rfl,rfl⟩,⟨⟨rfl,rfl,rfl⟩,trivial⟩⟩
   conv=>whnf
   refine Ari.w ?_;conv=>whnf
   refine ask_c (p_law27_who_v _) H rfl rfl (fun v15 H=>?_);conv=>whnf
   refine appN_c (f:=V.s) H (fun _=>rfl) (srcM (f:=V.s) (fun _=>rfl) _ _) rfl (.v (srcOwn (f:=V.s) (l:=[v15]) (fun _=>rfl) rfl rfl rfl)) (by decide) rfl (by simp) (fun l16 H=>?_);conv=>whnf
   refine lq_ ?_;conv=>whnf
   refine FootQ.mk ⟨rfl,?_⟩;conv=>whnf
   refine Ari.w ?_;conv=>whnf
   exact again_c [27,28,29,30,31,32,33,34,35,36,37,38,39,40,41,42,43,44,45,46,47] n7 3 [0,1,3] (.inr (⟨_,_,H,rfl,rfl⟩)) (Nat.lt_succ_self _) (Nat.zero_le _) rfl (by kernel_rfl) (by kernel_rfl) rfl ⟨⟨rfl,rfl,rfl⟩,⟨⟨rfl,rfl,rfl⟩,wkB_live0 rfl (cellsM_idlt (f:=V.s) (fun _=>rfl) _) rfl trivial⟩⟩
  conv=>whnf
  obtain rfl:=Option.some.inj H
  have H:=HQ6
  try dsimp only at H
  refine ask_c (p_outq_Begin_v _) H rfl rfl (fun v21 H=>?_);conv=>whnf
  refine lq_ ?_;conv=>whnf
  obtain ⟨o23,HL24,HQ25⟩:=bind_c H
  refine loop_c [4,10,5,7,8,9] [11,12,13,14,15,16,50,51,52,53,54,55,56,57,58,59,60,61,62,63,64,65,66,67,68,69,70,71,72,73,74,75,76,77,78,79,80,81,82,83,84,85,86,87,88,89,90,91,92,93,94,95,96,97,98,99,100,101,102,103,104,105,106,107,108,109,110,111,112,113,114,115,116,117,118,119,120,121,122,123,124,125,126,127,128,129,130,131,132,133,134,135,136,137,138,139,140,141,142,143,144,145,146,147,148,3] [11,12,13,14,15,16,50,51,52,53,54,55,56,57,58,59,60,61,62,63,64,65,66,67,68,69,70,71,72,73,74,75,76,77,78,79,80,81,82,83,84,85,86,87,88,89,90,91,92,93,94,95,96,97,98,99,100,101,102,103,104,105,106,107,108,109,110,111,112,113,114,115,116,117,118,119,120,121,122,123,124,125,126,127,128,129,130,131,132,133,134,135,136,137,138,139,140,141,142,143,144,145,146,147,148,3] (fun n vals st=>(∃ y27 y28 y29 y30 u31 u32 u33 u34,p_law27_OutqView_l2  a0 y9 n y27 y28 y29 y30=some o23∧vals=[.b false,.i y27,.ptr 0 0,.ptr 1 0,.ptr 2 0,.ptr 3 0]∧st=[.live [.sl (List.map V.s y9.Users) u31,.sl (List.map V.s y9.Keys) u32] 0,.live [.i y28.Seq,.sl (List.map BookRow.v y28.Rows) u33] 0,.live (cellsM PresPres.v y29.has++([.b y29.anew]++(cellsM V.b y29.seen++(cellsM V.i y29.last)))) 0,.live [.sl (List.map MailEntry.v y30.Mail) u34,.b y30.Snap.On,.b y30.Snap.Begun,.s y30.Snap.After,.i y30.Snap.Told,.i y30.Sent,.i y30.Lost] 0])) fuel 4 [1,2,3,4] (⟨_,_,_,_,_,_,_,_,HL24,rfl,rfl⟩) (Nat.zero_le _) rfl (by kernel_rfl) (by kernel_rfl) rfl (by exact ⟨⟨rfl,rfl,rfl⟩,⟨⟨rfl,rfl,rfl⟩,wkB_live0 rfl (belowL_app (cellsM_idlt (f:=PresPres.v) (fun _=>rfl) _) (belowL_app rfl (belowL_app (cellsM_idlt (f:=V.b) (fun _=>rfl) _) (cellsM_idlt (f:=V.i) (fun _=>rfl) _)))) rfl ⟨⟨rfl,rfl,rfl⟩,trivial⟩⟩⟩) ?_
  rintro (_ | n26) _ _ (⟨y27,y28,y29,y30,u31,u32,u33,u34,H,rfl,rfl⟩)
  ·rw [p_law27_OutqView_l2] at H;cases H
  rw [p_law27_OutqView_l2] at H
  conv=>whnf
  refine LenQ.M ?_;conv=>whnf
  refine tst_d H (fun b35 H=>?_) (fun b35 H=>?_)
  ·conv=>whnf
   obtain rfl:=Option.some.inj H
   have H:=HQ25
   try dsimp only at H
   refine ask_c (p_outq_Flush_v _ _ _ _) H rfl rfl (fun v167 H=>?_);conv=>whnf
   refine lq_ ?_;conv=>whnf
   obtain ⟨o169,HL170,HQ171⟩:=bind_c H
   refine loop_c [4,19,17] [156,157,158,159,160,161,162,163,164,165,166,167,9] [156,157,158,159,160,161,162,163,164,165,166,167,9] (fun n vals st=>(∃ y173 y174 u175 u176 u177 u178,p_law27_OutqView_l4  v167.2 n y173 y174=some o169∧vals=[.b false,.i y173,.ptr 3 0]∧st=[.live [.sl (List.map V.s y9.Users) u175,.sl (List.map V.s y9.Keys) u176] 0,.live [.i y28.Seq,.sl (List.map BookRow.v y28.Rows) u177] 0,.live (cellsM PresPres.v y174.has++([.b y174.anew]++(cellsM V.b y174.seen++(cellsM V.i y174.last)))) 0,.live [.sl (List.map MailEntry.v v167.1.Mail) u178,.b v167.1.Snap.On,.b v167.1.Snap.Begun,.s v167.1.Snap.After,.i v167.1.Snap.Told,.i v167.1.Sent,.i v167.1.Lost] 0])) fuel 4 [0,1,2,4] (⟨_,_,_,_,_,_,HL170,rfl,rfl⟩) (Nat.zero_le _) rfl (by kernel_rfl) (by kernel_rfl) rfl (by exact ⟨⟨rfl,rfl,rfl⟩,⟨⟨rfl,rfl,rfl⟩,wkB_live0 rfl (belowL_app (cellsM_idlt (f:=PresPres.v) (fun _=>rfl) _) (belowL_app rfl (belowL_app (cellsM_idlt (f:=V.b) (fun _=>rfl) _) (cellsM_idlt (f:=V.i) (fun _=>rfl) _)))) rfl ⟨⟨rfl,rfl,rfl⟩,trivial⟩⟩⟩) ?_
   rintro (_ | n172) _ _ (⟨y173,y174,u175,u176,u177,u178,H,rfl,rfl⟩)
   ·rw [p_law27_OutqView_l4] at H;cases H
   rw [p_law27_OutqView_l4] at H
   conv=>whnf
   refine LenQ.M ?_;conv=>whnf
   refine tst_c H (fun b179 H=>?_) (fun b179 H=>?_)
   ·conv=>whnf
    refine ixs_c (f:=StanzaStanza.v) H (fun _=>rfl) (fun x180 H=>?_);conv=>whnf
    refine askP_c (fun s hs=>p_law27_view_tell_p4_2 rfl rfl rfl _ _ s hs) H rfl rfl (fun _=>rfl) (fun v181 H=>?_);conv=>whnf
    refine Tst.not ?_
    refine tst_d H (fun b182 H=>?_) (fun b182 H=>?_)
    ·conv=>whnf
     obtain rfl:=Option.some.inj H
     have H:=HQ171
     try dsimp only at H
     exact fb_ H
    conv=>whnf
    refine Ari.w ?_;conv=>whnf
    exact again_c [156,157,158,159,160,161,162,163,164,165,166,167,9] n172 4 [] (⟨_,_,_,_,_,_,H,rfl,rfl⟩) (Nat.lt_succ_self _) (Nat.zero_le _) rfl (by kernel_rfl) (by kernel_rfl) rfl (by exact ⟨⟨rfl,rfl,rfl⟩,⟨⟨rfl,rfl,rfl⟩,wkB_live0 rfl (belowL_app (cellsM_idlt (f:=PresPres.v) (fun _=>rfl) _) (belowL_app rfl (belowL_app (cellsM_idlt (f:=V.b) (fun _=>rfl) _) (cellsM_idlt (f:=V.i) (fun _=>rfl) _)))) rfl ⟨⟨rfl,rfl,rfl⟩,trivial⟩⟩⟩)
   conv=>whnf
   obtain rfl:=Option.some.inj H
   have H:=HQ171
   try dsimp only at H
   refine ask_c (p_outq_Wants_v _) H rfl rfl (fun v185 H=>?_);conv=>whnf
   refine tstF_c H (fun b186 H=>?_);conv=>whnf
   obtain ⟨o188,HL189,HQ190⟩:=bind_c H
   refine loop_c [4,20] [21,22,170,171,172,173,174,175,176,177,178,179,180,181,182,183,184,185,186,187,188,189,190,191,192,193,194,195,17] [21,22,170,171,172,173,174,175,176,177,178,179,180,181,182,183,184,185,186,187,188,189,190,191,192,193,194,195,17] (fun n vals st=>(∃ y192,p_law27_OutqView_l5  y9 y28 y174 n y192=some o188∧vals=[.b false,.i y192]∧st=[.live [.sl (List.map V.s y9.Users) u175,.sl (List.map V.s y9.Keys) u176] 0,.live [.i y28.Seq,.sl (List.map BookRow.v y28.Rows) u177] 0,.live (cellsM PresPres.v y174.has++([.b y174.anew]++(cellsM V.b y174.seen++(cellsM V.i y174.last)))) 0])) fuel 3 [] (⟨_,HL189,rfl,rfl⟩) (Nat.zero_le _) rfl (by kernel_rfl) (by kernel_rfl) rfl (by exact ⟨⟨rfl,rfl,rfl⟩,⟨⟨rfl,rfl,rfl⟩,wkB_live0 rfl (belowL_app (cellsM_idlt (f:=PresPres.v) (fun _=>rfl) _) (belowL_app rfl (belowL_app (cellsM_idlt (f:=V.b) (fun _=>rfl) _) (cellsM_idlt (f:=V.i) (fun _=>rfl) _)))) rfl trivial⟩⟩) ?_
   rintro (_ | n191) _ _ (⟨y192,H,rfl,rfl⟩)
   ·rw [p_law27_OutqView_l5] at H;cases H
   rw [p_law27_OutqView_l5] at H
   conv=>whnf
   refine tst_d H (fun b193 H=>?_) (fun b193 H=>?_)
   ·conv=>whnf
    obtain rfl:=Option.some.inj H
    have H:=HQ190
    try dsimp only at H
    refine ask_c (p_law27_awake_v) H rfl rfl (fun v205 H=>?_);conv=>whnf
    exact fb_ H
   conv=>whnf
   refine Ari.w ?_;conv=>whnf
   refine ask_c (p_law27_who_v _) H rfl rfl (fun v194 H=>?_);conv=>whnf
   refine ask_c (p_book_Get_v _ _ _) H rfl rfl (fun v195 H=>?_);conv=>whnf
   refine lq_ ?_;conv=>whnf
   refine FootQ.mk ⟨rfl,?_⟩;conv=>whnf
   refine Ari.w ?_;conv=>whnf
   refine ask_c (p_law27_who_v _) H rfl rfl (fun v196 H=>?_);conv=>whnf
   refine ask_c (p_snap_Sees_v _ _) H rfl rfl (fun v197 H=>?_);conv=>whnf
   refine FootQ.mk ⟨rfl,?_⟩;conv=>whnf
   refine Tst.not ?_
   refine tst_c H (fun b198 H=>?_) (fun b198 H=>?_)
   ·conv=>whnf
    refine ixa_c H (fun x199 h200 H=>?_);conv=>whnf
    refine ldmo_c (p:=([]:List V)) (f:=PresPres.v) (seg:=y174.has) (m:=([.b y174.anew]++(cellsM V.b y174.seen++(cellsM V.i y174.last)))) (es:=4) (by first | rfl | (simp only [List.append_assoc,List.cons_append,List.nil_append,List.append_nil];done) | simp) h200 (fun _=>rfl) 0 (by simp) (by decide) ?_;conv=>whnf
    refine FootQ.mk ⟨rfl,?_⟩;conv=>whnf
    refine Tst.not ?_
    refine tst_d H (fun b201 H=>?_) (fun b201 H=>?_)
    ·conv=>whnf
     obtain rfl:=Option.some.inj H
     have H:=HQ190
     try dsimp only at H
     exact fb_ H
    conv=>whnf
    refine Ari.w ?_;conv=>whnf
    exact again_c [21,22,170,171,172,173,174,175,176,177,178,179,180,181,182,183,184,185,186,187,188,189,190,191,192,193,194,195,17] n191 3 [] (⟨_,H,rfl,rfl⟩) (Nat.lt_succ_self _) (Nat.zero_le _) rfl (by kernel_rfl) (by kernel_rfl) rfl (by exact ⟨⟨rfl,rfl,rfl⟩,⟨⟨rfl,rfl,rfl⟩,wkB_live0 rfl (belowL_app (cellsM_idlt (f:=PresPres.v) (fun _=>rfl) _) (belowL_app rfl (belowL_app (cellsM_idlt (f:=V.b) (fun _=>rfl) _) (cellsM_idlt (f:=V.i) (fun _=>rfl) _)))) rfl trivial⟩⟩)
   conv=>whnf
   refine lq_ ?_;conv=>whnf
   refine ixa_c H (fun x202 h203 H=>?_);conv=>whnf
   refine ldmo_c (p:=([]:List V)) (f:=PresPres.v) (seg:=y174.has) (m:=([.b y174.anew]++(cellsM V.b y174.seen++(cellsM V.i y174.last)))) (es:=4) (by first | rfl | (simp only [List.append_assoc,List.cons_append,List.nil_append,List.append_nil];done) | simp) h203 (fun _=>rfl) 0 (by simp) (by decide) ?_;conv=>whnf
   refine FootQ.mk ⟨rfl,?_⟩;conv=>whnf
   refine Tst.not ?_
   refine tst_d H (fun b204 H=>?_) (fun b204 H=>?_)
   ·conv=>whnf
    obtain rfl:=Option.some.inj H
    have H:=HQ190
    try dsimp only at H
    exact fb_ H
   conv=>whnf
   refine Ari.w ?_;conv=>whnf
   exact again_c [21,22,170,171,172,173,174,175,176,177,178,179,180,181,182,183,184,185,186,187,188,189,190,191,192,193,194,195,17] n191 3 [] (⟨_,H,rfl,rfl⟩) (Nat.lt_succ_self _) (Nat.zero_le _) rfl (by kernel_rfl) (by kernel_rfl) rfl (by exact ⟨⟨rfl,rfl,rfl⟩,⟨⟨rfl,rfl,rfl⟩,wkB_live0 rfl (belowL_app (cellsM_idlt (f:=PresPres.v) (fun _=>rfl) _) (belowL_app rfl (belowL_app (cellsM_idlt (f:=V.b) (fun _=>rfl) _) (cellsM_idlt (f:=V.i) (fun _=>rfl) _)))) rfl trivial⟩⟩)
  conv=>whnf
  refine ixs_c (f:=Law27Deed.v) H (fun _=>rfl) (fun x36 H=>?_);conv=>whnf
  refine lq_ ?_;conv=>whnf
  refine ask_c (p_law27_who_v _) H rfl rfl (fun v37 H=>?_);conv=>whnf
  obtain ⟨K38,hK39,o40,HL41,HQ42⟩:=join0_c H
  refine join_c [13,5,7,8,9,12] [62,63,64,65,66,67,68,69,70,71,72,73,74,75,76,77,78,79,80,81,82,83,84,85,86,87] (fun vals st=>(∃ y47 y48 y49,K38 (y47,y48,y49)=some o23∧vals=[.i y47,.ptr 0 0,.ptr 1 0,.ptr 2 0,.ptr 3 0,.ptr 4 0]∧st=[.live [.sl (List.map V.s y9.Users) u31,.sl (List.map V.s y9.Keys) u32] 0,.live [.i y49.Seq,.sl (List.map BookRow.v y49.Rows) false] 0,.live (cellsM PresPres.v y29.has++([.b y29.anew]++(cellsM V.b y29.seen++(cellsM V.i y29.last)))) 0,.live [.sl (List.map MailEntry.v y30.Mail) u34,.b y30.Snap.On,.b y30.Snap.Begun,.s y30.Snap.After,.i y30.Snap.Told,.i y30.Sent,.i y30.Lost] 0,.live [.b y48.On,.i y48.Show,.i y48.Prio,.i y48.Seq] 0])) ?_ ?_
  ·have H:=HL41
   conv=>whnf
   refine ixs_c (f:=Law27Deed.v) H (fun _=>rfl) (fun x44 H=>?_);conv=>whnf
   refine lq_ ?_;conv=>whnf
   refine tst_c H (fun b45 H=>?_) (fun b45 H=>?_)
   ·conv=>whnf
    refine ask_c (p_book_Off_v _ _ _) H rfl rfl (fun v46 H=>?_);conv=>whnf
    refine lq_ ?_;conv=>whnf
    refine lq_ ?_;conv=>whnf
    obtain rfl:=Option.some.inj H
    exact arrive_c [62,63,64,65,66,67,68,69,70,71,72,73,74,75,76,77,78,79,80,81,82,83,84,85,86,87] 5 [] (⟨_,_,_,HQ42,rfl,rfl⟩) (Nat.zero_le _) rfl (by kernel_rfl) (by kernel_rfl) rfl (by exact ⟨⟨rfl,rfl,rfl⟩,⟨⟨rfl,rfl,rfl⟩,wkB_live0 rfl (belowL_app (cellsM_idlt (f:=PresPres.v) (fun _=>rfl) _) (belowL_app rfl (belowL_app (cellsM_idlt (f:=V.b) (fun _=>rfl) _) (cellsM_idlt (f:=V.i) (fun _=>rfl) _)))) rfl ⟨⟨rfl,rfl,rfl⟩,⟨⟨rfl,rfl,rfl⟩,trivial⟩⟩⟩⟩)
   conv=>whnf
   refine ixs_c (f:=Law27Deed.v) H (fun _=>rfl) (fun x50 H=>?_);conv=>whnf
   refine lq_ ?_;conv=>whnf
   refine ⟨by decide,?_⟩;conv=>whnf
   refine Ari.w ?_;conv=>whnf
   refine ask_c (p_book_Set_v _ _ _ _ _) H rfl rfl (fun v51 H=>?_);conv=>whnf
   refine lq_ ?_;conv=>whnf
   refine lq_ ?_;conv=>whnf
   refine FootQ.mk ⟨rfl,?_⟩;conv=>whnf
   obtain rfl:=Option.some.inj H
   exact arrive_c [62,63,64,65,66,67,68,69,70,71,72,73,74,75,76,77,78,79,80,81,82,83,84,85,86,87] 5 [] (⟨_,_,_,HQ42,rfl,rfl⟩) (Nat.zero_le _) rfl (by kernel_rfl) (by kernel_rfl) rfl (by exact ⟨⟨rfl,rfl,rfl⟩,⟨⟨rfl,rfl,rfl⟩,wkB_live0 rfl (belowL_app (cellsM_idlt (f:=PresPres.v) (fun _=>rfl) _) (belowL_app rfl (belowL_app (cellsM_idlt (f:=V.b) (fun _=>rfl) _) (cellsM_idlt (f:=V.i) (fun _=>rfl) _)))) rfl ⟨⟨rfl,rfl,rfl⟩,⟨⟨rfl,rfl,rfl⟩,trivial⟩⟩⟩⟩)
  rintro _ _ (⟨y47,y48,y49,H,rfl,rfl⟩)
  rw [hK39] at H
  try dsimp only at H
  conv=>whnf
  obtain ⟨K52,hK53,o54,HL55,HQ56⟩:=join0_c H
  refine join_c [5,7,8,9] [88,89,90,91,92,93,94,95,96,97,98,99,100,101,12] (fun vals st=>(∃ y63,K52 y63=some o23∧vals=[.ptr 0 0,.ptr 1 0,.ptr 2 0,.ptr 3 0]∧st=[.live [.sl (List.map V.s y9.Users) u31,.sl (List.map V.s y9.Keys) u32] 0,.live [.i y49.Seq,.sl (List.map BookRow.v y49.Rows) false] 0,.live (cellsM PresPres.v y29.has++([.b y29.anew]++(cellsM V.b y29.seen++(cellsM V.i y29.last)))) 0,.live [.sl (List.map MailEntry.v y63.Mail) false,.b y63.Snap.On,.b y63.Snap.Begun,.s y63.Snap.After,.i y63.Snap.Told,.i y63.Sent,.i y63.Lost] 0])∨(∃ y64,K52 y64=some o23∧vals=[.ptr 0 0,.ptr 1 0,.ptr 2 0,.ptr 3 0]∧st=[.live [.sl (List.map V.s y9.Users) u31,.sl (List.map V.s y9.Keys) u32] 0,.live [.i y49.Seq,.sl (List.map BookRow.v y49.Rows) false] 0,.live (cellsM PresPres.v y29.has++([.b y29.anew]++(cellsM V.b y29.seen++(cellsM V.i y29.last)))) 0,.live [.sl (List.map MailEntry.v y64.Mail) u34,.b y64.Snap.On,.b y64.Snap.Begun,.s y64.Snap.After,.i y64.Snap.Told,.i y64.Sent,.i y64.Lost] 0])) ?_ ?_
  ·have H:=HL55
   conv=>whnf
   refine tst_d H (fun b58 H=>?_) (fun b58 H=>?_)
   ·conv=>whnf
    iterate 6 (refine Tst.F ?_;conv=>whnf)
    obtain rfl:=Option.some.inj H
    exact arrive_c [88,89,90,91,92,93,94,95,96,97,98,99,100,101,12] 4 [] (.inr (⟨_,HQ56,rfl,rfl⟩)) (Nat.zero_le _) rfl (by kernel_rfl) (by kernel_rfl) rfl (by exact ⟨⟨rfl,rfl,rfl⟩,⟨⟨rfl,rfl,rfl⟩,wkB_live0 rfl (belowL_app (cellsM_idlt (f:=PresPres.v) (fun _=>rfl) _) (belowL_app rfl (belowL_app (cellsM_idlt (f:=V.b) (fun _=>rfl) _) (cellsM_idlt (f:=V.i) (fun _=>rfl) _)))) rfl ⟨⟨rfl,rfl,rfl⟩,trivial⟩⟩⟩)
   conv=>whnf
   iterate 4 (refine Tst.T ?_;conv=>whnf)
   refine ask_c (p_snap_Sees_v _ _) H rfl rfl (fun v59 H=>?_);conv=>whnf
   refine Tst.T ?_;conv=>whnf
   refine tst_d H (fun b60 H=>?_) (fun b60 H=>?_)
   ·conv=>whnf
    obtain rfl:=Option.some.inj H
    exact arrive_c [88,89,90,91,92,93,94,95,96,97,98,99,100,101,12] 4 [] (.inr (⟨_,HQ56,rfl,rfl⟩)) (Nat.zero_le _) rfl (by kernel_rfl) (by kernel_rfl) rfl (by exact ⟨⟨rfl,rfl,rfl⟩,⟨⟨rfl,rfl,rfl⟩,wkB_live0 rfl (belowL_app (cellsM_idlt (f:=PresPres.v) (fun _=>rfl) _) (belowL_app rfl (belowL_app (cellsM_idlt (f:=V.b) (fun _=>rfl) _) (cellsM_idlt (f:=V.i) (fun _=>rfl) _)))) rfl ⟨⟨rfl,rfl,rfl⟩,trivial⟩⟩⟩)
   conv=>whnf
   refine ask_c (p_pres_Key_v _ _) H rfl rfl (fun v61 H=>?_);conv=>whnf
   refine ask_c (p_outq_Add_v _ _ _) H rfl rfl (fun v62 H=>?_);conv=>whnf
   refine lq_ ?_;conv=>whnf
   refine FootQ.mk ⟨rfl,?_⟩;conv=>whnf
   obtain rfl:=Option.some.inj H
   exact arrive_c [88,89,90,91,92,93,94,95,96,97,98,99,100,101,12] 4 [] (.inl (⟨_,HQ56,rfl,rfl⟩)) (Nat.zero_le _) rfl (by kernel_rfl) (by kernel_rfl) rfl (by exact ⟨⟨rfl,rfl,rfl⟩,⟨⟨rfl,rfl,rfl⟩,wkB_live0 rfl (belowL_app (cellsM_idlt (f:=PresPres.v) (fun _=>rfl) _) (belowL_app rfl (belowL_app (cellsM_idlt (f:=V.b) (fun _=>rfl) _) (cellsM_idlt (f:=V.i) (fun _=>rfl) _)))) rfl ⟨⟨rfl,rfl,rfl⟩,trivial⟩⟩⟩)
  rintro _ _ (⟨y63,H,rfl,rfl⟩ | ⟨y64,H,rfl,rfl⟩)
  ·rw [hK53] at H
   try dsimp only at H
   conv=>whnf
   obtain ⟨K65,hK66,o67,HL68,HQ69⟩:=join0_c H
   refine join_c [5,7,8,9] [102,103,104,105,106,107,108] (fun vals st=>(∃ y74,K65 y74=some o23∧vals=[.ptr 0 0,.ptr 1 0,.ptr 2 0,.ptr 3 0]∧st=[.live [.sl (List.map V.s y9.Users) u31,.sl (List.map V.s y9.Keys) u32] 0,.live [.i y49.Seq,.sl (List.map BookRow.v y49.Rows) false] 0,.live (cellsM PresPres.v y29.has++([.b y29.anew]++(cellsM V.b y29.seen++(cellsM V.i y29.last)))) 0,.live [.sl (List.map MailEntry.v y74.Mail) false,.b y74.Snap.On,.b y74.Snap.Begun,.s y74.Snap.After,.i y74.Snap.Told,.i y74.Sent,.i y74.Lost] 0])) ?_ ?_
   ·have H:=HL68
    conv=>whnf
    refine ixs_c (f:=Law27Deed.v) H (fun _=>rfl) (fun x71 H=>?_);conv=>whnf
    refine lq_ ?_;conv=>whnf
    refine tst_d H (fun b72 H=>?_) (fun b72 H=>?_)
    ·conv=>whnf
     obtain rfl:=Option.some.inj H
     exact arrive_c [102,103,104,105,106,107,108] 4 [] (⟨_,HQ69,rfl,rfl⟩) (Nat.zero_le _) rfl (by kernel_rfl) (by kernel_rfl) rfl (by exact ⟨⟨rfl,rfl,rfl⟩,⟨⟨rfl,rfl,rfl⟩,wkB_live0 rfl (belowL_app (cellsM_idlt (f:=PresPres.v) (fun _=>rfl) _) (belowL_app rfl (belowL_app (cellsM_idlt (f:=V.b) (fun _=>rfl) _) (cellsM_idlt (f:=V.i) (fun _=>rfl) _)))) rfl ⟨⟨rfl,rfl,rfl⟩,trivial⟩⟩⟩)
    conv=>whnf
    refine ask_c (p_outq_Begin_v _) H rfl rfl (fun v73 H=>?_);conv=>whnf
    refine lq_ ?_;conv=>whnf
    obtain rfl:=Option.some.inj H
    exact arrive_c [102,103,104,105,106,107,108] 4 [] (⟨_,HQ69,rfl,rfl⟩) (Nat.zero_le _) rfl (by kernel_rfl) (by kernel_rfl) rfl (by exact ⟨⟨rfl,rfl,rfl⟩,⟨⟨rfl,rfl,rfl⟩,wkB_live0 rfl (belowL_app (cellsM_idlt (f:=PresPres.v) (fun _=>rfl) _) (belowL_app rfl (belowL_app (cellsM_idlt (f:=V.b) (fun _=>rfl) _) (cellsM_idlt (f:=V.i) (fun _=>rfl) _)))) rfl ⟨⟨rfl,rfl,rfl⟩,trivial⟩⟩⟩)
   rintro _ _ (⟨y74,H,rfl,rfl⟩)
   rw [hK66] at H
   try dsimp only at H
   conv=>whnf
   refine ixs_c (f:=Law27Deed.v) H (fun _=>rfl) (fun x75 H=>?_);conv=>whnf
   refine lq_ ?_;conv=>whnf
   refine ⟨by decide,?_⟩;conv=>whnf
   refine Ari.w ?_;conv=>whnf
   refine ask_c (p_outq_Flush_v _ _ _ _) H rfl rfl (fun v76 H=>?_);conv=>whnf
   refine lq_ ?_;conv=>whnf
   refine FootQ.mk ⟨rfl,?_⟩;conv=>whnf
   obtain ⟨o78,HL79,HQ80⟩:=bind_c H
   refine loop_c [4,16] [123,124,125,126,127,128,129,130,131,132,133,134] [123,124,125,126,127,128,129,130,131,132,133,134] (fun n vals st=>(∃ y82 y83 u84 u85 u86 u87 u88,p_law27_OutqView_l3  v76.2 n y82 y83=some o78∧vals=[.b false,.i y82]∧st=[.live [.sl (List.map V.s y9.Users) u84,.sl (List.map V.s y9.Keys) u85] 0,.live [.i y49.Seq,.sl (List.map BookRow.v y49.Rows) u86] 0,.live (cellsM PresPres.v y83.has++([.b y83.anew]++(cellsM V.b y83.seen++(cellsM V.i y83.last)))) 0,.live [.sl (List.map MailEntry.v y74.Mail) u87,.b y74.Snap.On,.b y74.Snap.Begun,.s y74.Snap.After,.i y74.Snap.Told,.i y74.Sent,.i y74.Lost] 0,.live [.sl (List.map MailEntry.v v76.1.Mail) u88,.b v76.1.Snap.On,.b v76.1.Snap.Begun,.s v76.1.Snap.After,.i v76.1.Snap.Told,.i v76.1.Sent,.i v76.1.Lost] 0])) fuel 5 [] (⟨_,_,_,_,_,_,_,HL79,rfl,rfl⟩) (Nat.zero_le _) rfl (by kernel_rfl) (by kernel_rfl) rfl (by exact ⟨⟨rfl,rfl,rfl⟩,⟨⟨rfl,rfl,rfl⟩,wkB_live0 rfl (belowL_app (cellsM_idlt (f:=PresPres.v) (fun _=>rfl) _) (belowL_app rfl (belowL_app (cellsM_idlt (f:=V.b) (fun _=>rfl) _) (cellsM_idlt (f:=V.i) (fun _=>rfl) _)))) rfl ⟨⟨rfl,rfl,rfl⟩,⟨⟨rfl,rfl,rfl⟩,trivial⟩⟩⟩⟩) ?_
   rintro (_ | n81) _ _ (⟨y82,y83,u84,u85,u86,u87,u88,H,rfl,rfl⟩)
   ·rw [p_law27_OutqView_l3] at H;cases H
   rw [p_law27_OutqView_l3] at H
   conv=>whnf
   refine LenQ.M ?_;conv=>whnf
   refine tst_c H (fun b89 H=>?_) (fun b89 H=>?_)
   ·conv=>whnf
    refine ixs_c (f:=StanzaStanza.v) H (fun _=>rfl) (fun x90 H=>?_);conv=>whnf
    refine askP_c (fun s hs=>p_law27_view_tell_p5_2 rfl rfl rfl rfl _ _ s hs) H rfl rfl (fun _=>rfl) (fun v91 H=>?_);conv=>whnf
    refine Tst.not ?_
    refine tst_d H (fun b92 H=>?_) (fun b92 H=>?_)
    ·conv=>whnf
     obtain rfl:=Option.some.inj H
     have H:=HQ80
     try dsimp only at H
     obtain rfl:=Option.some.inj H
     have H:=HQ25
     try dsimp only at H
     exact fb_ H
    conv=>whnf
    refine Ari.w ?_;conv=>whnf
    exact again_c [123,124,125,126,127,128,129,130,131,132,133,134] n81 5 [] (⟨_,_,_,_,_,_,_,H,rfl,rfl⟩) (Nat.lt_succ_self _) (Nat.zero_le _) rfl (by kernel_rfl) (by kernel_rfl) rfl (by exact ⟨⟨rfl,rfl,rfl⟩,⟨⟨rfl,rfl,rfl⟩,wkB_live0 rfl (belowL_app (cellsM_idlt (f:=PresPres.v) (fun _=>rfl) _) (belowL_app rfl (belowL_app (cellsM_idlt (f:=V.b) (fun _=>rfl) _) (cellsM_idlt (f:=V.i) (fun _=>rfl) _)))) rfl ⟨⟨rfl,rfl,rfl⟩,⟨⟨rfl,rfl,rfl⟩,trivial⟩⟩⟩⟩)
   conv=>whnf
   obtain rfl:=Option.some.inj H
   have H:=HQ80
   try dsimp only at H
   refine ask_c (p_outq_Check_v _) H rfl rfl (fun v95 H=>?_);conv=>whnf
   refine tst_c H (fun b96 H=>?_) (fun b96 H=>?_)
   ·conv=>whnf
    iterate 9 (refine Tst.T ?_;conv=>whnf)
    obtain rfl:=Option.some.inj H
    have H:=HQ25
    try dsimp only at H
    exact fb_ H
   conv=>whnf
   iterate 5 (refine Tst.F ?_;conv=>whnf)
   refine LenQ.M ?_;conv=>whnf
   refine Tst.F ?_;conv=>whnf
   refine Ari.w ?_;conv=>whnf
   iterate 2 (refine Tst.F ?_;conv=>whnf)
   refine tst_c H (fun b97 H=>?_) (fun b97 H=>?_)
   ·conv=>whnf
    obtain rfl:=Option.some.inj H
    have H:=HQ25
    try dsimp only at H
    exact fb_ H
   conv=>whnf
   refine lq_ ?_;conv=>whnf
   refine Ari.w ?_;conv=>whnf
   exact again_c [11,12,13,14,15,16,50,51,52,53,54,55,56,57,58,59,60,61,62,63,64,65,66,67,68,69,70,71,72,73,74,75,76,77,78,79,80,81,82,83,84,85,86,87,88,89,90,91,92,93,94,95,96,97,98,99,100,101,102,103,104,105,106,107,108,109,110,111,112,113,114,115,116,117,118,119,120,121,122,123,124,125,126,127,128,129,130,131,132,133,134,135,136,137,138,139,140,141,142,143,144,145,146,147,148,3] n26 4 [] (⟨_,_,_,_,_,_,_,_,H,rfl,rfl⟩) (Nat.lt_succ_self _) (Nat.zero_le _) rfl (by kernel_rfl) (by kernel_rfl) rfl (by exact ⟨⟨rfl,rfl,rfl⟩,⟨⟨rfl,rfl,rfl⟩,wkB_live0 rfl (belowL_app (cellsM_idlt (f:=PresPres.v) (fun _=>rfl) _) (belowL_app rfl (belowL_app (cellsM_idlt (f:=V.b) (fun _=>rfl) _) (cellsM_idlt (f:=V.i) (fun _=>rfl) _)))) rfl ⟨⟨rfl,rfl,rfl⟩,trivial⟩⟩⟩)
  rw [hK53] at H
  try dsimp only at H
  conv=>whnf
  obtain ⟨K102,hK103,o104,HL105,HQ106⟩:=join0_c H
  refine join_c [5,7,8,9] [102,103,104,105,106,107,108] (fun vals st=>(∃ y111,K102 y111=some o23∧vals=[.ptr 0 0,.ptr 1 0,.ptr 2 0,.ptr 3 0]∧st=[.live [.sl (List.map V.s y9.Users) u31,.sl (List.map V.s y9.Keys) u32] 0,.live [.i y49.Seq,.sl (List.map BookRow.v y49.Rows) false] 0,.live (cellsM PresPres.v y29.has++([.b y29.anew]++(cellsM V.b y29.seen++(cellsM V.i y29.last)))) 0,.live [.sl (List.map MailEntry.v y111.Mail) false,.b y111.Snap.On,.b y111.Snap.Begun,.s y111.Snap.After,.i y111.Snap.Told,.i y111.Sent,.i y111.Lost] 0])∨(∃ y112,K102 y112=some o23∧vals=[.ptr 0 0,.ptr 1 0,.ptr 2 0,.ptr 3 0]∧st=[.live [.sl (List.map V.s y9.Users) u31,.sl (List.map V.s y9.Keys) u32] 0,.live [.i y49.Seq,.sl (List.map BookRow.v y49.Rows) false] 0,.live (cellsM PresPres.v y29.has++([.b y29.anew]++(cellsM V.b y29.seen++(cellsM V.i y29.last)))) 0,.live [.sl (List.map MailEntry.v y112.Mail) u34,.b y112.Snap.On,.b y112.Snap.Begun,.s y112.Snap.After,.i y112.Snap.Told,.i y112.Sent,.i y112.Lost] 0])) ?_ ?_
  ·have H:=HL105
   conv=>whnf
   refine ixs_c (f:=Law27Deed.v) H (fun _=>rfl) (fun x108 H=>?_);conv=>whnf
   refine lq_ ?_;conv=>whnf
   refine tst_d H (fun b109 H=>?_) (fun b109 H=>?_)
   ·conv=>whnf
    obtain rfl:=Option.some.inj H
    exact arrive_c [102,103,104,105,106,107,108] 4 [] (.inr (⟨_,HQ106,rfl,rfl⟩)) (Nat.zero_le _) rfl (by kernel_rfl) (by kernel_rfl) rfl (by exact ⟨⟨rfl,rfl,rfl⟩,⟨⟨rfl,rfl,rfl⟩,wkB_live0 rfl (belowL_app (cellsM_idlt (f:=PresPres.v) (fun _=>rfl) _) (belowL_app rfl (belowL_app (cellsM_idlt (f:=V.b) (fun _=>rfl) _) (cellsM_idlt (f:=V.i) (fun _=>rfl) _)))) rfl ⟨⟨rfl,rfl,rfl⟩,trivial⟩⟩⟩)
   conv=>whnf
   refine ask_c (p_outq_Begin_v _) H rfl rfl (fun v110 H=>?_);conv=>whnf
   refine lq_ ?_;conv=>whnf
   obtain rfl:=Option.some.inj H
   exact arrive_c [102,103,104,105,106,107,108] 4 [] (.inl (⟨_,HQ106,rfl,rfl⟩)) (Nat.zero_le _) rfl (by kernel_rfl) (by kernel_rfl) rfl (by exact ⟨⟨rfl,rfl,rfl⟩,⟨⟨rfl,rfl,rfl⟩,wkB_live0 rfl (belowL_app (cellsM_idlt (f:=PresPres.v) (fun _=>rfl) _) (belowL_app rfl (belowL_app (cellsM_idlt (f:=V.b) (fun _=>rfl) _) (cellsM_idlt (f:=V.i) (fun _=>rfl) _)))) rfl ⟨⟨rfl,rfl,rfl⟩,trivial⟩⟩⟩)
  rintro _ _ (⟨y111,H,rfl,rfl⟩ | ⟨y112,H,rfl,rfl⟩)
  ·rw [hK103] at H
   try dsimp only at H
   conv=>whnf
   refine ixs_c (f:=Law27Deed.v) H (fun _=>rfl) (fun x113 H=>?_);conv=>whnf
   refine lq_ ?_;conv=>whnf
   refine ⟨by decide,?_⟩;conv=>whnf
   refine Ari.w ?_;conv=>whnf
   refine ask_c (p_outq_Flush_v _ _ _ _) H rfl rfl (fun v114 H=>?_);conv=>whnf
   refine lq_ ?_;conv=>whnf
   refine FootQ.mk ⟨rfl,?_⟩;conv=>whnf
   obtain ⟨o116,HL117,HQ118⟩:=bind_c H
   refine loop_c [4,16] [123,124,125,126,127,128,129,130,131,132,133,134] [123,124,125,126,127,128,129,130,131,132,133,134] (fun n vals st=>(∃ y120 y121 u122 u123 u124 u125 u126,p_law27_OutqView_l3  v114.2 n y120 y121=some o116∧vals=[.b false,.i y120]∧st=[.live [.sl (List.map V.s y9.Users) u122,.sl (List.map V.s y9.Keys) u123] 0,.live [.i y49.Seq,.sl (List.map BookRow.v y49.Rows) u124] 0,.live (cellsM PresPres.v y121.has++([.b y121.anew]++(cellsM V.b y121.seen++(cellsM V.i y121.last)))) 0,.live [.sl (List.map MailEntry.v y111.Mail) u125,.b y111.Snap.On,.b y111.Snap.Begun,.s y111.Snap.After,.i y111.Snap.Told,.i y111.Sent,.i y111.Lost] 0,.live [.sl (List.map MailEntry.v v114.1.Mail) u126,.b v114.1.Snap.On,.b v114.1.Snap.Begun,.s v114.1.Snap.After,.i v114.1.Snap.Told,.i v114.1.Sent,.i v114.1.Lost] 0])) fuel 5 [] (⟨_,_,_,_,_,_,_,HL117,rfl,rfl⟩) (Nat.zero_le _) rfl (by kernel_rfl) (by kernel_rfl) rfl (by exact ⟨⟨rfl,rfl,rfl⟩,⟨⟨rfl,rfl,rfl⟩,wkB_live0 rfl (belowL_app (cellsM_idlt (f:=PresPres.v) (fun _=>rfl) _) (belowL_app rfl (belowL_app (cellsM_idlt (f:=V.b) (fun _=>rfl) _) (cellsM_idlt (f:=V.i) (fun _=>rfl) _)))) rfl ⟨⟨rfl,rfl,rfl⟩,⟨⟨rfl,rfl,rfl⟩,trivial⟩⟩⟩⟩) ?_
   rintro (_ | n119) _ _ (⟨y120,y121,u122,u123,u124,u125,u126,H,rfl,rfl⟩)
   ·rw [p_law27_OutqView_l3] at H;cases H
   rw [p_law27_OutqView_l3] at H
   conv=>whnf
   refine LenQ.M ?_;conv=>whnf
   refine tst_c H (fun b127 H=>?_) (fun b127 H=>?_)
   ·conv=>whnf
    refine ixs_c (f:=StanzaStanza.v) H (fun _=>rfl) (fun x128 H=>?_);conv=>whnf
    refine askP_c (fun s hs=>p_law27_view_tell_p5_2 rfl rfl rfl rfl _ _ s hs) H rfl rfl (fun _=>rfl) (fun v129 H=>?_);conv=>whnf
    refine Tst.not ?_
    refine tst_d H (fun b130 H=>?_) (fun b130 H=>?_)
    ·conv=>whnf
     obtain rfl:=Option.some.inj H
     have H:=HQ118
     try dsimp only at H
     obtain rfl:=Option.some.inj H
     have H:=HQ25
     try dsimp only at H
     exact fb_ H
    conv=>whnf
    refine Ari.w ?_;conv=>whnf
    exact again_c [123,124,125,126,127,128,129,130,131,132,133,134] n119 5 [] (⟨_,_,_,_,_,_,_,H,rfl,rfl⟩) (Nat.lt_succ_self _) (Nat.zero_le _) rfl (by kernel_rfl) (by kernel_rfl) rfl (by exact ⟨⟨rfl,rfl,rfl⟩,⟨⟨rfl,rfl,rfl⟩,wkB_live0 rfl (belowL_app (cellsM_idlt (f:=PresPres.v) (fun _=>rfl) _) (belowL_app rfl (belowL_app (cellsM_idlt (f:=V.b) (fun _=>rfl) _) (cellsM_idlt (f:=V.i) (fun _=>rfl) _)))) rfl ⟨⟨rfl,rfl,rfl⟩,⟨⟨rfl,rfl,rfl⟩,trivial⟩⟩⟩⟩)
   conv=>whnf
   obtain rfl:=Option.some.inj H
   have H:=HQ118
   try dsimp only at H
   refine ask_c (p_outq_Check_v _) H rfl rfl (fun v133 H=>?_);conv=>whnf
   refine tst_c H (fun b134 H=>?_) (fun b134 H=>?_)
   ·conv=>whnf
    iterate 9 (refine Tst.T ?_;conv=>whnf)
    obtain rfl:=Option.some.inj H
    have H:=HQ25
    try dsimp only at H
    exact fb_ H
   conv=>whnf
   iterate 5 (refine Tst.F ?_;conv=>whnf)
   refine LenQ.M ?_;conv=>whnf
   refine Tst.F ?_;conv=>whnf
   refine Ari.w ?_;conv=>whnf
   iterate 2 (refine Tst.F ?_;conv=>whnf)
   refine tst_c H (fun b135 H=>?_) (fun b135 H=>?_)
   ·conv=>whnf
    obtain rfl:=Option.some.inj H
    have H:=HQ25
    try dsimp only at H
    exact fb_ H
   conv=>whnf
   refine lq_ ?_;conv=>whnf
   refine Ari.w ?_;conv=>whnf
   exact again_c [11,12,13,14,15,16,50,51,52,53,54,55,56,57,58,59,60,61,62,63,64,65,66,67,68,69,70,71,72,73,74,75,76,77,78,79,80,81,82,83,84,85,86,87,88,89,90,91,92,93,94,95,96,97,98,99,100,101,102,103,104,105,106,107,108,109,110,111,112,113,114,115,116,117,118,119,120,121,122,123,124,125,126,127,128,129,130,131,132,133,134,135,136,137,138,139,140,141,142,143,144,145,146,147,148,3] n26 4 [] (⟨_,_,_,_,_,_,_,_,H,rfl,rfl⟩) (Nat.lt_succ_self _) (Nat.zero_le _) rfl (by kernel_rfl) (by kernel_rfl) rfl (by exact ⟨⟨rfl,rfl,rfl⟩,⟨⟨rfl,rfl,rfl⟩,wkB_live0 rfl (belowL_app (cellsM_idlt (f:=PresPres.v) (fun _=>rfl) _) (belowL_app rfl (belowL_app (cellsM_idlt (f:=V.b) (fun _=>rfl) _) (cellsM_idlt (f:=V.i) (fun _=>rfl) _)))) rfl ⟨⟨rfl,rfl,rfl⟩,trivial⟩⟩⟩)
  rw [hK103] at H
  try dsimp only at H
  conv=>whnf
  refine ixs_c (f:=Law27Deed.v) H (fun _=>rfl) (fun x140 H=>?_);conv=>whnf
  refine lq_ ?_;conv=>whnf
  refine ⟨by decide,?_⟩;conv=>whnf
  refine Ari.w ?_;conv=>whnf
  refine ask_c (p_outq_Flush_v _ _ _ _) H rfl rfl (fun v141 H=>?_);conv=>whnf
  refine lq_ ?_;conv=>whnf
  refine FootQ.mk ⟨rfl,?_⟩;conv=>whnf
  obtain ⟨o143,HL144,HQ145⟩:=bind_c H
  refine loop_c [4,16] [123,124,125,126,127,128,129,130,131,132,133,134] [123,124,125,126,127,128,129,130,131,132,133,134] (fun n vals st=>(∃ y147 y148 u149 u150 u151 u152 u153,p_law27_OutqView_l3  v141.2 n y147 y148=some o143∧vals=[.b false,.i y147]∧st=[.live [.sl (List.map V.s y9.Users) u149,.sl (List.map V.s y9.Keys) u150] 0,.live [.i y49.Seq,.sl (List.map BookRow.v y49.Rows) u151] 0,.live (cellsM PresPres.v y148.has++([.b y148.anew]++(cellsM V.b y148.seen++(cellsM V.i y148.last)))) 0,.live [.sl (List.map MailEntry.v y112.Mail) u152,.b y112.Snap.On,.b y112.Snap.Begun,.s y112.Snap.After,.i y112.Snap.Told,.i y112.Sent,.i y112.Lost] 0,.live [.sl (List.map MailEntry.v v141.1.Mail) u153,.b v141.1.Snap.On,.b v141.1.Snap.Begun,.s v141.1.Snap.After,.i v141.1.Snap.Told,.i v141.1.Sent,.i v141.1.Lost] 0])) fuel 5 [] (⟨_,_,_,_,_,_,_,HL144,rfl,rfl⟩) (Nat.zero_le _) rfl (by kernel_rfl) (by kernel_rfl) rfl (by exact ⟨⟨rfl,rfl,rfl⟩,⟨⟨rfl,rfl,rfl⟩,wkB_live0 rfl (belowL_app (cellsM_idlt (f:=PresPres.v) (fun _=>rfl) _) (belowL_app rfl (belowL_app (cellsM_idlt (f:=V.b) (fun _=>rfl) _) (cellsM_idlt (f:=V.i) (fun _=>rfl) _)))) rfl ⟨⟨rfl,rfl,rfl⟩,⟨⟨rfl,rfl,rfl⟩,trivial⟩⟩⟩⟩) ?_
  rintro (_ | n146) _ _ (⟨y147,y148,u149,u150,u151,u152,u153,H,rfl,rfl⟩)
  ·rw [p_law27_OutqView_l3] at H;cases H
  rw [p_law27_OutqView_l3] at H
  conv=>whnf
  refine LenQ.M ?_;conv=>whnf
  refine tst_c H (fun b154 H=>?_) (fun b154 H=>?_)
  ·conv=>whnf
   refine ixs_c (f:=StanzaStanza.v) H (fun _=>rfl) (fun x155 H=>?_);conv=>whnf
   refine askP_c (fun s hs=>p_law27_view_tell_p5_2 rfl rfl rfl rfl _ _ s hs) H rfl rfl (fun _=>rfl) (fun v156 H=>?_);conv=>whnf
   refine Tst.not ?_
   refine tst_d H (fun b157 H=>?_) (fun b157 H=>?_)
   ·conv=>whnf
    obtain rfl:=Option.some.inj H
    have H:=HQ145
    try dsimp only at H
    obtain rfl:=Option.some.inj H
    have H:=HQ25
    try dsimp only at H
    exact fb_ H
   conv=>whnf
   refine Ari.w ?_;conv=>whnf
   exact again_c [123,124,125,126,127,128,129,130,131,132,133,134] n146 5 [] (⟨_,_,_,_,_,_,_,H,rfl,rfl⟩) (Nat.lt_succ_self _) (Nat.zero_le _) rfl (by kernel_rfl) (by kernel_rfl) rfl (by exact ⟨⟨rfl,rfl,rfl⟩,⟨⟨rfl,rfl,rfl⟩,wkB_live0 rfl (belowL_app (cellsM_idlt (f:=PresPres.v) (fun _=>rfl) _) (belowL_app rfl (belowL_app (cellsM_idlt (f:=V.b) (fun _=>rfl) _) (cellsM_idlt (f:=V.i) (fun _=>rfl) _)))) rfl ⟨⟨rfl,rfl,rfl⟩,⟨⟨rfl,rfl,rfl⟩,trivial⟩⟩⟩⟩)
  conv=>whnf
  obtain rfl:=Option.some.inj H
  have H:=HQ145
  try dsimp only at H
  refine ask_c (p_outq_Check_v _) H rfl rfl (fun v160 H=>?_);conv=>whnf
  refine tst_c H (fun b161 H=>?_) (fun b161 H=>?_)
  ·conv=>whnf
   iterate 9 (refine Tst.T ?_;conv=>whnf)
   obtain rfl:=Option.some.inj H
   have H:=HQ25
   try dsimp only at H
   exact fb_ H
  conv=>whnf
  iterate 5 (refine Tst.F ?_;conv=>whnf)
  refine LenQ.M ?_;conv=>whnf
  refine Tst.F ?_;conv=>whnf
  refine Ari.w ?_;conv=>whnf
  iterate 2 (refine Tst.F ?_;conv=>whnf)
  refine tst_c H (fun b162 H=>?_) (fun b162 H=>?_)
  ·conv=>whnf
   obtain rfl:=Option.some.inj H
   have H:=HQ25
   try dsimp only at H
   exact fb_ H
  conv=>whnf
  refine lq_ ?_;conv=>whnf
  refine Ari.w ?_;conv=>whnf
  exact again_c [11,12,13,14,15,16,50,51,52,53,54,55,56,57,58,59,60,61,62,63,64,65,66,67,68,69,70,71,72,73,74,75,76,77,78,79,80,81,82,83,84,85,86,87,88,89,90,91,92,93,94,95,96,97,98,99,100,101,102,103,104,105,106,107,108,109,110,111,112,113,114,115,116,117,118,119,120,121,122,123,124,125,126,127,128,129,130,131,132,133,134,135,136,137,138,139,140,141,142,143,144,145,146,147,148,3] n26 4 [] (⟨_,_,_,_,_,_,_,_,H,rfl,rfl⟩) (Nat.lt_succ_self _) (Nat.zero_le _) rfl (by kernel_rfl) (by kernel_rfl) rfl (by exact ⟨⟨rfl,rfl,rfl⟩,⟨⟨rfl,rfl,rfl⟩,wkB_live0 rfl (belowL_app (cellsM_idlt (f:=PresPres.v) (fun _=>rfl) _) (belowL_app rfl (belowL_app (cellsM_idlt (f:=V.b) (fun _=>rfl) _) (cellsM_idlt (f:=V.i) (fun _=>rfl) _)))) rfl ⟨⟨rfl,rfl,rfl⟩,trivial⟩⟩⟩)
 rw [p_law27_OutqView_l1] at H
 conv=>whnf
 refine tst_c H (fun b206 H=>?_) (fun b206 H=>?_)
 ·conv=>whnf
  refine ⟨by decide,Ari.w ?_⟩;conv=>whnf
  refine ixa_c (l:=[a1.a0,a1.a1,a1.a2]) H (fun x207 h208 H=>?_);conv=>whnf
  refine ldo_c (l:=[a1.a0,a1.a1,a1.a2]) (f:=V.y8) (es:=1) h208 (fun _=>rfl) 0 (by omega) (by decide) ?_;conv=>whnf
  refine ⟨by decide,?_⟩;conv=>whnf
  refine Shr.ok (pos_c H).1 ((fun H=>?_) (pos_c H).2);conv=>whnf
  refine tst_d H (fun b210 H=>?_) (fun b210 H=>?_)
  ·conv=>whnf
   refine Ari.w ?_;conv=>whnf
   exact again_c [27,28,29,30,31,32,33,34,35,36,37,38,39,40,41,42,43,44,45,46,47] n7 3 [] (.inr (⟨_,_,H,rfl,rfl⟩)) (Nat.lt_succ_self _) (Nat.zero_le _) rfl (by kernel_rfl) (by kernel_rfl) rfl ⟨⟨rfl,rfl,rfl⟩,⟨⟨rfl,rfl,rfl⟩,wkB_live0 rfl (cellsM_idlt (f:=V.s) (fun _=>rfl) _) rfl trivial⟩⟩
  conv=>whnf
  refine Ari.w ?_;conv=>whnf
  refine ask_c (p_law27_who_v _) H rfl rfl (fun v211 H=>?_);conv=>whnf
  refine appO_c (f:=V.s) H (fun _=>rfl) rfl (Nat.le_refl _) (.v (srcOwn (f:=V.s) (l:=[v211]) (fun _=>rfl) rfl rfl rfl)) (by decide) rfl (by simp) (fun l212 H=>?_);conv=>whnf
  refine lq_ ?_;conv=>whnf
  refine FootQ.mk ⟨rfl,?_⟩;conv=>whnf
  refine Ari.w ?_;conv=>whnf
  exact again_c [27,28,29,30,31,32,33,34,35,36,37,38,39,40,41,42,43,44,45,46,47] n7 3 [0,1,4] (.inr (⟨_,_,H,rfl,rfl⟩)) (Nat.lt_succ_self _) (Nat.zero_le _) rfl (by kernel_rfl) (by kernel_rfl) rfl ⟨⟨rfl,rfl,rfl⟩,⟨⟨rfl,rfl,rfl⟩,wkB_live0 rfl (cellsM_idlt (f:=V.s) (fun _=>rfl) _) rfl trivial⟩⟩
 conv=>whnf
 obtain rfl:=Option.some.inj H
 have H:=HQ6
 try dsimp only at H
 refine ask_c (p_outq_Begin_v _) H rfl rfl (fun v213 H=>?_);conv=>whnf
 refine lq_ ?_;conv=>whnf
 obtain ⟨o215,HL216,HQ217⟩:=bind_c H
 refine loop_c [4,10,5,7,8,9] [11,12,13,14,15,16,50,51,52,53,54,55,56,57,58,59,60,61,62,63,64,65,66,67,68,69,70,71,72,73,74,75,76,77,78,79,80,81,82,83,84,85,86,87,88,89,90,91,92,93,94,95,96,97,98,99,100,101,102,103,104,105,106,107,108,109,110,111,112,113,114,115,116,117,118,119,120,121,122,123,124,125,126,127,128,129,130,131,132,133,134,135,136,137,138,139,140,141,142,143,144,145,146,147,148,3] [11,12,13,14,15,16,50,51,52,53,54,55,56,57,58,59,60,61,62,63,64,65,66,67,68,69,70,71,72,73,74,75,76,77,78,79,80,81,82,83,84,85,86,87,88,89,90,91,92,93,94,95,96,97,98,99,100,101,102,103,104,105,106,107,108,109,110,111,112,113,114,115,116,117,118,119,120,121,122,123,124,125,126,127,128,129,130,131,132,133,134,135,136,137,138,139,140,141,142,143,144,145,146,147,148,3] (fun n vals st=>(∃ y219 y220 y221 y222 u223 u224 u225,p_law27_OutqView_l2  a0 y18 n y219 y220 y221 y222=some o215∧vals=[.b false,.i y219,.ptr 0 0,.ptr 2 0,.ptr 3 0,.ptr 4 0]∧st=[.live [.osl 1 0 (List.length y18.Users) 1 false,.sl (List.map V.s y18.Keys) u223] 0,.live (cellsM V.s y18.Users) (cellsM V.s y18.Users).length,.live [.i y220.Seq,.sl (List.map BookRow.v y220.Rows) u224] 0,.live (cellsM PresPres.v y221.has++([.b y221.anew]++(cellsM V.b y221.seen++(cellsM V.i y221.last)))) 0,.live [.sl (List.map MailEntry.v y222.Mail) u225,.b y222.Snap.On,.b y222.Snap.Begun,.s y222.Snap.After,.i y222.Snap.Told,.i y222.Sent,.i y222.Lost] 0])) fuel 5 [1,2,3,4,5] (⟨_,_,_,_,_,_,_,HL216,rfl,rfl⟩) (Nat.zero_le _) rfl (by kernel_rfl) (by kernel_rfl) rfl (by exact ⟨⟨rfl,rfl,rfl⟩,wkB_live0 rfl (cellsM_idlt (f:=V.s) (fun _=>rfl) _) rfl ⟨⟨rfl,rfl,rfl⟩,wkB_live0 rfl (belowL_app (cellsM_idlt (f:=PresPres.v) (fun _=>rfl) _) (belowL_app rfl (belowL_app (cellsM_idlt (f:=V.b) (fun _=>rfl) _) (cellsM_idlt (f:=V.i) (fun _=>rfl) _)))) rfl ⟨⟨rfl,rfl,rfl⟩,trivial⟩⟩⟩) ?_
 rintro (_ | n218) _ _ (⟨y219,y220,y221,y222,u223,u224,u225,H,rfl,rfl⟩)
 ·rw [p_law27_OutqView_l2] at H;cases H
 rw [p_law27_OutqView_l2] at H
 conv=>whnf
 refine LenQ.M ?_;conv=>whnf
 refine tst_d H (fun b226 H=>?_) (fun b226 H=>?_)
 ·conv=>whnf
  obtain rfl:=Option.some.inj H
  have H:=HQ217
  try dsimp only at H
  refine askF_c (p_outq_Flush_v _ _ _ _) H (.cons (fzagg (.cons (.slw) (.cons (.id rfl) (.cons (.id rfl) (.cons (.id rfl) (.cons (.id rfl) (.cons (.id rfl) (.cons (.id rfl) (.nil)))))))) rfl) (.cons (fzagg (.cons (fzown (f:=V.s) (l:=y18.Users) rfl rfl (fun _=>rfl) (fun _=>rfl)) (.cons (.slw) (.nil))) rfl) (.cons (fzagg (.cons (.id rfl) (.cons (.slw) (.nil))) rfl) (.cons (.c (.id rfl)) (.nil))))) (fun v355 H=>?_);conv=>whnf
  refine lq_ ?_;conv=>whnf
  obtain ⟨o357,HL358,HQ359⟩:=bind_c H
  refine loop_c [4,19,17] [156,157,158,159,160,161,162,163,164,165,166,167,9,151] [156,157,158,159,160,161,162,163,164,165,166,167,9,151] (fun n vals st=>(∃ y361 y362 u363 u364 u365,p_law27_OutqView_l4  v355.2 n y361 y362=some o357∧vals=[.b false,.i y361,.ptr 4 0]∧st=[.live [.osl 1 0 (List.length y18.Users) 1 false,.sl (List.map V.s y18.Keys) u363] 0,.live (cellsM V.s y18.Users) (cellsM V.s y18.Users).length,.live [.i y220.Seq,.sl (List.map BookRow.v y220.Rows) u364] 0,.live (cellsM PresPres.v y362.has++([.b y362.anew]++(cellsM V.b y362.seen++(cellsM V.i y362.last)))) 0,.live [.sl (List.map MailEntry.v v355.1.Mail) u365,.b v355.1.Snap.On,.b v355.1.Snap.Begun,.s v355.1.Snap.After,.i v355.1.Snap.Told,.i v355.1.Sent,.i v355.1.Lost] 0])) fuel 5 [0,1,2,3,5] (⟨_,_,_,_,_,HL358,rfl,rfl⟩) (Nat.zero_le _) rfl (by kernel_rfl) (by kernel_rfl) rfl (by exact ⟨⟨rfl,rfl,rfl⟩,wkB_live0 rfl (cellsM_idlt (f:=V.s) (fun _=>rfl) _) rfl ⟨⟨rfl,rfl,rfl⟩,wkB_live0 rfl (belowL_app (cellsM_idlt (f:=PresPres.v) (fun _=>rfl) _) (belowL_app rfl (belowL_app (cellsM_idlt (f:=V.b) (fun _=>rfl) _) (cellsM_idlt (f:=V.i) (fun _=>rfl) _)))) rfl ⟨⟨rfl,rfl,rfl⟩,trivial⟩⟩⟩) ?_
  rintro (_ | n360) _ _ (⟨y361,y362,u363,u364,u365,H,rfl,rfl⟩)
  ·rw [p_law27_OutqView_l4] at H;cases H
  rw [p_law27_OutqView_l4] at H
  conv=>whnf
  refine LenQ.M ?_;conv=>whnf
  refine tst_c H (fun b366 H=>?_) (fun b366 H=>?_)
  ·conv=>whnf
   refine ixs_c (f:=StanzaStanza.v) H (fun _=>rfl) (fun x367 H=>?_);conv=>whnf
   refine askP_c (fun s hs=>p_law27_view_tell_p5_3 rfl (okN_M (cellsM_idlt (f:=V.s) (fun _=>rfl) _)) rfl rfl _ _ s hs) H rfl rfl (fun _=>rfl) (fun v368 H=>?_);conv=>whnf
   refine Tst.not ?_
   refine tst_d H (fun b369 H=>?_) (fun b369 H=>?_)
   ·conv=>whnf
    obtain rfl:=Option.some.inj H
    have H:=HQ359
    try dsimp only at H
    exact fb_ H
   conv=>whnf
   refine Ari.w ?_;conv=>whnf
   exact again_c [156,157,158,159,160,161,162,163,164,165,166,167,9,151] n360 5 [] (⟨_,_,_,_,_,H,rfl,rfl⟩) (Nat.lt_succ_self _) (Nat.zero_le _) rfl (by kernel_rfl) (by kernel_rfl) rfl (by exact ⟨⟨rfl,rfl,rfl⟩,wkB_live0 rfl (cellsM_idlt (f:=V.s) (fun _=>rfl) _) rfl ⟨⟨rfl,rfl,rfl⟩,wkB_live0 rfl (belowL_app (cellsM_idlt (f:=PresPres.v) (fun _=>rfl) _) (belowL_app rfl (belowL_app (cellsM_idlt (f:=V.b) (fun _=>rfl) _) (cellsM_idlt (f:=V.i) (fun _=>rfl) _)))) rfl ⟨⟨rfl,rfl,rfl⟩,trivial⟩⟩⟩)
  conv=>whnf
  obtain rfl:=Option.some.inj H
  have H:=HQ359
  try dsimp only at H
  refine ask_c (p_outq_Wants_v _) H rfl rfl (fun v372 H=>?_);conv=>whnf
  refine tstF_c H (fun b373 H=>?_);conv=>whnf
  obtain ⟨o375,HL376,HQ377⟩:=bind_c H
  refine loop_c [4,20] [21,22,170,171,172,173,174,175,176,177,178,179,180,181,182,183,184,185,186,187,188,189,190,191,192,193,194,195,17] [21,22,170,171,172,173,174,175,176,177,178,179,180,181,182,183,184,185,186,187,188,189,190,191,192,193,194,195,17] (fun n vals st=>(∃ y379 u380 u381,p_law27_OutqView_l5  y18 y220 y362 n y379=some o375∧vals=[.b false,.i y379]∧st=[.live [.osl 1 0 (List.length y18.Users) 1 false,.sl (List.map V.s y18.Keys) u380] 0,.live (cellsM V.s y18.Users) (cellsM V.s y18.Users).length,.live [.i y220.Seq,.sl (List.map BookRow.v y220.Rows) u381] 0,.live (cellsM PresPres.v y362.has++([.b y362.anew]++(cellsM V.b y362.seen++(cellsM V.i y362.last)))) 0])) fuel 4 [] (⟨_,_,_,HL376,rfl,rfl⟩) (Nat.zero_le _) rfl (by kernel_rfl) (by kernel_rfl) rfl (by exact ⟨⟨rfl,rfl,rfl⟩,wkB_live0 rfl (cellsM_idlt (f:=V.s) (fun _=>rfl) _) rfl ⟨⟨rfl,rfl,rfl⟩,wkB_live0 rfl (belowL_app (cellsM_idlt (f:=PresPres.v) (fun _=>rfl) _) (belowL_app rfl (belowL_app (cellsM_idlt (f:=V.b) (fun _=>rfl) _) (cellsM_idlt (f:=V.i) (fun _=>rfl) _)))) rfl trivial⟩⟩) ?_
  rintro (_ | n378) _ _ (⟨y379,u380,u381,H,rfl,rfl⟩)
  ·rw [p_law27_OutqView_l5] at H;cases H
  rw [p_law27_OutqView_l5] at H
  conv=>whnf
  refine tst_d H (fun b382 H=>?_) (fun b382 H=>?_)
  ·conv=>whnf
   obtain rfl:=Option.some.inj H
   have H:=HQ377
   try dsimp only at H
   refine ask_c (p_law27_awake_v) H rfl rfl (fun v396 H=>?_);conv=>whnf
   exact fb_ H
  conv=>whnf
  refine Ari.w ?_;conv=>whnf
  refine ask_c (p_law27_who_v _) H rfl rfl (fun v383 H=>?_);conv=>whnf
  refine ask_c (p_book_Get_v _ _ _) H rfl rfl (fun v384 H=>?_);conv=>whnf
  refine lq_ ?_;conv=>whnf
  refine FootQ.mk ⟨rfl,?_⟩;conv=>whnf
  refine Ari.w ?_;conv=>whnf
  refine ask_c (p_law27_who_v _) H rfl rfl (fun v385 H=>?_);conv=>whnf
  refine askF_c (p_snap_Sees_v _ _) H (.cons (fzagg (.cons (fzown (f:=V.s) (l:=y18.Users) rfl rfl (fun _=>rfl) (fun _=>rfl)) (.cons (.slw) (.nil))) rfl) (.cons (fzagg (.cons (.id rfl) (.cons (.id rfl) (.cons (.id rfl) (.cons (.id rfl) (.cons (.id rfl) (.cons (.id rfl) (.nil))))))) rfl) (.nil))) (fun v386 H=>?_);conv=>whnf
  refine FootQ.mk ⟨rfl,?_⟩;conv=>whnf
  refine Tst.not ?_
  refine tst_c H (fun b387 H=>?_) (fun b387 H=>?_)
  ·conv=>whnf
   refine ixa_c H (fun x388 h389 H=>?_);conv=>whnf
   refine ldmo_c (p:=([]:List V)) (f:=PresPres.v) (seg:=y362.has) (m:=([.b y362.anew]++(cellsM V.b y362.seen++(cellsM V.i y362.last)))) (es:=4) (by first | rfl | (simp only [List.append_assoc,List.cons_append,List.nil_append,List.append_nil];done) | simp) h389 (fun _=>rfl) 0 (by simp) (by decide) ?_;conv=>whnf
   refine FootQ.mk ⟨rfl,?_⟩;conv=>whnf
   refine Tst.not ?_
   refine tst_d H (fun b390 H=>?_) (fun b390 H=>?_)
   ·conv=>whnf
    obtain rfl:=Option.some.inj H
    have H:=HQ377
    try dsimp only at H
    exact fb_ H
   conv=>whnf
   refine Ari.w ?_;conv=>whnf
   exact again_c [21,22,170,171,172,173,174,175,176,177,178,179,180,181,182,183,184,185,186,187,188,189,190,191,192,193,194,195,17] n378 4 [] (⟨_,_,_,H,rfl,rfl⟩) (Nat.lt_succ_self _) (Nat.zero_le _) rfl (by kernel_rfl) (by kernel_rfl) rfl (by exact ⟨⟨rfl,rfl,rfl⟩,wkB_live0 rfl (cellsM_idlt (f:=V.s) (fun _=>rfl) _) rfl ⟨⟨rfl,rfl,rfl⟩,wkB_live0 rfl (belowL_app (cellsM_idlt (f:=PresPres.v) (fun _=>rfl) _) (belowL_app rfl (belowL_app (cellsM_idlt (f:=V.b) (fun _=>rfl) _) (cellsM_idlt (f:=V.i) (fun _=>rfl) _)))) rfl trivial⟩⟩)
  conv=>whnf
  refine lq_ ?_;conv=>whnf
  refine ixa_c H (fun x392 h393 H=>?_);conv=>whnf
  refine ldmo_c (p:=([]:List V)) (f:=PresPres.v) (seg:=y362.has) (m:=([.b y362.anew]++(cellsM V.b y362.seen++(cellsM V.i y362.last)))) (es:=4) (by first | rfl | (simp only [List.append_assoc,List.cons_append,List.nil_append,List.append_nil];done) | simp) h393 (fun _=>rfl) 0 (by simp) (by decide) ?_;conv=>whnf
  refine FootQ.mk ⟨rfl,?_⟩;conv=>whnf
  refine Tst.not ?_
  refine tst_d H (fun b394 H=>?_) (fun b394 H=>?_)
  ·conv=>whnf
   obtain rfl:=Option.some.inj H
   have H:=HQ377
   try dsimp only at H
   exact fb_ H
  conv=>whnf
  refine Ari.w ?_;conv=>whnf
  exact again_c [21,22,170,171,172,173,174,175,176,177,178,179,180,181,182,183,184,185,186,187,188,189,190,191,192,193,194,195,17] n378 4 [] (⟨_,_,_,H,rfl,rfl⟩) (Nat.lt_succ_self _) (Nat.zero_le _) rfl (by kernel_rfl) (by kernel_rfl) rfl (by exact ⟨⟨rfl,rfl,rfl⟩,wkB_live0 rfl (cellsM_idlt (f:=V.s) (fun _=>rfl) _) rfl ⟨⟨rfl,rfl,rfl⟩,wkB_live0 rfl (belowL_app (cellsM_idlt (f:=PresPres.v) (fun _=>rfl) _) (belowL_app rfl (belowL_app (cellsM_idlt (f:=V.b) (fun _=>rfl) _) (cellsM_idlt (f:=V.i) (fun _=>rfl) _)))) rfl trivial⟩⟩)
 conv=>whnf
 refine ixs_c (f:=Law27Deed.v) H (fun _=>rfl) (fun x227 H=>?_);conv=>whnf
 refine lq_ ?_;conv=>whnf
 refine ask_c (p_law27_who_v _) H rfl rfl (fun v228 H=>?_);conv=>whnf
 obtain ⟨K229,hK230,o231,HL232,HQ233⟩:=join0_c H
 refine join_c [13,5,7,8,9,12] [62,63,64,65,66,67,68,69,70,71,72,73,74,75,76,77,78,79,80,81,82,83,84,85,86,87] (fun vals st=>(∃ y238 y239 y240,K229 (y238,y239,y240)=some o215∧vals=[.i y238,.ptr 0 0,.ptr 2 0,.ptr 3 0,.ptr 4 0,.ptr 5 0]∧st=[.live [.osl 1 0 (List.length y18.Users) 1 false,.sl (List.map V.s y18.Keys) u223] 0,.live (cellsM V.s y18.Users) (cellsM V.s y18.Users).length,.live [.i y240.Seq,.sl (List.map BookRow.v y240.Rows) false] 0,.live (cellsM PresPres.v y221.has++([.b y221.anew]++(cellsM V.b y221.seen++(cellsM V.i y221.last)))) 0,.live [.sl (List.map MailEntry.v y222.Mail) u225,.b y222.Snap.On,.b y222.Snap.Begun,.s y222.Snap.After,.i y222.Snap.Told,.i y222.Sent,.i y222.Lost] 0,.live [.b y239.On,.i y239.Show,.i y239.Prio,.i y239.Seq] 0])) ?_ ?_
 ·have H:=HL232
  conv=>whnf
  refine ixs_c (f:=Law27Deed.v) H (fun _=>rfl) (fun x235 H=>?_);conv=>whnf
  refine lq_ ?_;conv=>whnf
  refine tst_c H (fun b236 H=>?_) (fun b236 H=>?_)
  ·conv=>whnf
   refine ask_c (p_book_Off_v _ _ _) H rfl rfl (fun v237 H=>?_);conv=>whnf
   refine lq_ ?_;conv=>whnf
   refine lq_ ?_;conv=>whnf
   obtain rfl:=Option.some.inj H
   exact arrive_c [62,63,64,65,66,67,68,69,70,71,72,73,74,75,76,77,78,79,80,81,82,83,84,85,86,87] 6 [] (⟨_,_,_,HQ233,rfl,rfl⟩) (Nat.zero_le _) rfl (by kernel_rfl) (by kernel_rfl) rfl (by exact ⟨⟨rfl,rfl,rfl⟩,wkB_live0 rfl (cellsM_idlt (f:=V.s) (fun _=>rfl) _) rfl ⟨⟨rfl,rfl,rfl⟩,wkB_live0 rfl (belowL_app (cellsM_idlt (f:=PresPres.v) (fun _=>rfl) _) (belowL_app rfl (belowL_app (cellsM_idlt (f:=V.b) (fun _=>rfl) _) (cellsM_idlt (f:=V.i) (fun _=>rfl) _)))) rfl ⟨⟨rfl,rfl,rfl⟩,⟨⟨rfl,rfl,rfl⟩,trivial⟩⟩⟩⟩)
  conv=>whnf
  refine ixs_c (f:=Law27Deed.v) H (fun _=>rfl) (fun x241 H=>?_);conv=>whnf
  refine lq_ ?_;conv=>whnf
  refine ⟨by decide,?_⟩;conv=>whnf
  refine Ari.w ?_;conv=>whnf
  refine ask_c (p_book_Set_v _ _ _ _ _) H rfl rfl (fun v242 H=>?_);conv=>whnf
  refine lq_ ?_;conv=>whnf
  refine lq_ ?_;conv=>whnf
  refine FootQ.mk ⟨rfl,?_⟩;conv=>whnf
  obtain rfl:=Option.some.inj H
  exact arrive_c [62,63,64,65,66,67,68,69,70,71,72,73,74,75,76,77,78,79,80,81,82,83,84,85,86,87] 6 [] (⟨_,_,_,HQ233,rfl,rfl⟩) (Nat.zero_le _) rfl (by kernel_rfl) (by kernel_rfl) rfl (by exact ⟨⟨rfl,rfl,rfl⟩,wkB_live0 rfl (cellsM_idlt (f:=V.s) (fun _=>rfl) _) rfl ⟨⟨rfl,rfl,rfl⟩,wkB_live0 rfl (belowL_app (cellsM_idlt (f:=PresPres.v) (fun _=>rfl) _) (belowL_app rfl (belowL_app (cellsM_idlt (f:=V.b) (fun _=>rfl) _) (cellsM_idlt (f:=V.i) (fun _=>rfl) _)))) rfl ⟨⟨rfl,rfl,rfl⟩,⟨⟨rfl,rfl,rfl⟩,trivial⟩⟩⟩⟩)
 rintro _ _ (⟨y238,y239,y240,H,rfl,rfl⟩)
 rw [hK230] at H
 try dsimp only at H
 conv=>whnf
 obtain ⟨K243,hK244,o245,HL246,HQ247⟩:=join0_c H
 refine join_c [5,7,8,9] [88,89,90,91,92,93,94,95,96,97,98,99,100,101,12] (fun vals st=>(∃ y254,K243 y254=some o215∧vals=[.ptr 0 0,.ptr 2 0,.ptr 3 0,.ptr 4 0]∧st=[.live [.osl 1 0 (List.length y18.Users) 1 false,.sl (List.map V.s y18.Keys) u223] 0,.live (cellsM V.s y18.Users) (cellsM V.s y18.Users).length,.live [.i y240.Seq,.sl (List.map BookRow.v y240.Rows) false] 0,.live (cellsM PresPres.v y221.has++([.b y221.anew]++(cellsM V.b y221.seen++(cellsM V.i y221.last)))) 0,.live [.sl (List.map MailEntry.v y254.Mail) false,.b y254.Snap.On,.b y254.Snap.Begun,.s y254.Snap.After,.i y254.Snap.Told,.i y254.Sent,.i y254.Lost] 0])∨(∃ y255,K243 y255=some o215∧vals=[.ptr 0 0,.ptr 2 0,.ptr 3 0,.ptr 4 0]∧st=[.live [.osl 1 0 (List.length y18.Users) 1 false,.sl (List.map V.s y18.Keys) u223] 0,.live (cellsM V.s y18.Users) (cellsM V.s y18.Users).length,.live [.i y240.Seq,.sl (List.map BookRow.v y240.Rows) false] 0,.live (cellsM PresPres.v y221.has++([.b y221.anew]++(cellsM V.b y221.seen++(cellsM V.i y221.last)))) 0,.live [.sl (List.map MailEntry.v y255.Mail) u225,.b y255.Snap.On,.b y255.Snap.Begun,.s y255.Snap.After,.i y255.Snap.Told,.i y255.Sent,.i y255.Lost] 0])) ?_ ?_
 ·have H:=HL246
  conv=>whnf
  refine tst_d H (fun b249 H=>?_) (fun b249 H=>?_)
  ·conv=>whnf
   iterate 6 (refine Tst.F ?_;conv=>whnf)
   obtain rfl:=Option.some.inj H
   exact arrive_c [88,89,90,91,92,93,94,95,96,97,98,99,100,101,12] 5 [] (.inr (⟨_,HQ247,rfl,rfl⟩)) (Nat.zero_le _) rfl (by kernel_rfl) (by kernel_rfl) rfl (by exact ⟨⟨rfl,rfl,rfl⟩,wkB_live0 rfl (cellsM_idlt (f:=V.s) (fun _=>rfl) _) rfl ⟨⟨rfl,rfl,rfl⟩,wkB_live0 rfl (belowL_app (cellsM_idlt (f:=PresPres.v) (fun _=>rfl) _) (belowL_app rfl (belowL_app (cellsM_idlt (f:=V.b) (fun _=>rfl) _) (cellsM_idlt (f:=V.i) (fun _=>rfl) _)))) rfl ⟨⟨rfl,rfl,rfl⟩,trivial⟩⟩⟩)
  conv=>whnf
  iterate 4 (refine Tst.T ?_;conv=>whnf)
  refine askF_c (p_snap_Sees_v _ _) H (.cons (fzagg (.cons (fzown (f:=V.s) (l:=y18.Users) rfl rfl (fun _=>rfl) (fun _=>rfl)) (.cons (.slw) (.nil))) rfl) (.cons (fzagg (.cons (.id rfl) (.cons (.id rfl) (.cons (.id rfl) (.cons (.id rfl) (.cons (.id rfl) (.cons (.id rfl) (.nil))))))) rfl) (.nil))) (fun v250 H=>?_);conv=>whnf
  refine Tst.T ?_;conv=>whnf
  refine tst_d H (fun b251 H=>?_) (fun b251 H=>?_)
  ·conv=>whnf
   obtain rfl:=Option.some.inj H
   exact arrive_c [88,89,90,91,92,93,94,95,96,97,98,99,100,101,12] 5 [] (.inr (⟨_,HQ247,rfl,rfl⟩)) (Nat.zero_le _) rfl (by kernel_rfl) (by kernel_rfl) rfl (by exact ⟨⟨rfl,rfl,rfl⟩,wkB_live0 rfl (cellsM_idlt (f:=V.s) (fun _=>rfl) _) rfl ⟨⟨rfl,rfl,rfl⟩,wkB_live0 rfl (belowL_app (cellsM_idlt (f:=PresPres.v) (fun _=>rfl) _) (belowL_app rfl (belowL_app (cellsM_idlt (f:=V.b) (fun _=>rfl) _) (cellsM_idlt (f:=V.i) (fun _=>rfl) _)))) rfl ⟨⟨rfl,rfl,rfl⟩,trivial⟩⟩⟩)
  conv=>whnf
  refine ask_c (p_pres_Key_v _ _) H rfl rfl (fun v252 H=>?_);conv=>whnf
  refine ask_c (p_outq_Add_v _ _ _) H rfl rfl (fun v253 H=>?_);conv=>whnf
  refine lq_ ?_;conv=>whnf
  refine FootQ.mk ⟨rfl,?_⟩;conv=>whnf
  obtain rfl:=Option.some.inj H
  exact arrive_c [88,89,90,91,92,93,94,95,96,97,98,99,100,101,12] 5 [] (.inl (⟨_,HQ247,rfl,rfl⟩)) (Nat.zero_le _) rfl (by kernel_rfl) (by kernel_rfl) rfl (by exact ⟨⟨rfl,rfl,rfl⟩,wkB_live0 rfl (cellsM_idlt (f:=V.s) (fun _=>rfl) _) rfl ⟨⟨rfl,rfl,rfl⟩,wkB_live0 rfl (belowL_app (cellsM_idlt (f:=PresPres.v) (fun _=>rfl) _) (belowL_app rfl (belowL_app (cellsM_idlt (f:=V.b) (fun _=>rfl) _) (cellsM_idlt (f:=V.i) (fun _=>rfl) _)))) rfl ⟨⟨rfl,rfl,rfl⟩,trivial⟩⟩⟩)
 rintro _ _ (⟨y254,H,rfl,rfl⟩ | ⟨y255,H,rfl,rfl⟩)
 ·rw [hK244] at H
  try dsimp only at H
  conv=>whnf
  obtain ⟨K256,hK257,o258,HL259,HQ260⟩:=join0_c H
  refine join_c [5,7,8,9] [102,103,104,105,106,107,108] (fun vals st=>(∃ y265,K256 y265=some o215∧vals=[.ptr 0 0,.ptr 2 0,.ptr 3 0,.ptr 4 0]∧st=[.live [.osl 1 0 (List.length y18.Users) 1 false,.sl (List.map V.s y18.Keys) u223] 0,.live (cellsM V.s y18.Users) (cellsM V.s y18.Users).length,.live [.i y240.Seq,.sl (List.map BookRow.v y240.Rows) false] 0,.live (cellsM PresPres.v y221.has++([.b y221.anew]++(cellsM V.b y221.seen++(cellsM V.i y221.last)))) 0,.live [.sl (List.map MailEntry.v y265.Mail) false,.b y265.Snap.On,.b y265.Snap.Begun,.s y265.Snap.After,.i y265.Snap.Told,.i y265.Sent,.i y265.Lost] 0])) ?_ ?_
  ·have H:=HL259
   conv=>whnf
   refine ixs_c (f:=Law27Deed.v) H (fun _=>rfl) (fun x262 H=>?_);conv=>whnf
   refine lq_ ?_;conv=>whnf
   refine tst_d H (fun b263 H=>?_) (fun b263 H=>?_)
   ·conv=>whnf
    obtain rfl:=Option.some.inj H
    exact arrive_c [102,103,104,105,106,107,108] 5 [] (⟨_,HQ260,rfl,rfl⟩) (Nat.zero_le _) rfl (by kernel_rfl) (by kernel_rfl) rfl (by exact ⟨⟨rfl,rfl,rfl⟩,wkB_live0 rfl (cellsM_idlt (f:=V.s) (fun _=>rfl) _) rfl ⟨⟨rfl,rfl,rfl⟩,wkB_live0 rfl (belowL_app (cellsM_idlt (f:=PresPres.v) (fun _=>rfl) _) (belowL_app rfl (belowL_app (cellsM_idlt (f:=V.b) (fun _=>rfl) _) (cellsM_idlt (f:=V.i) (fun _=>rfl) _)))) rfl ⟨⟨rfl,rfl,rfl⟩,trivial⟩⟩⟩)
   conv=>whnf
   refine ask_c (p_outq_Begin_v _) H rfl rfl (fun v264 H=>?_);conv=>whnf
   refine lq_ ?_;conv=>whnf
   obtain rfl:=Option.some.inj H
   exact arrive_c [102,103,104,105,106,107,108] 5 [] (⟨_,HQ260,rfl,rfl⟩) (Nat.zero_le _) rfl (by kernel_rfl) (by kernel_rfl) rfl (by exact ⟨⟨rfl,rfl,rfl⟩,wkB_live0 rfl (cellsM_idlt (f:=V.s) (fun _=>rfl) _) rfl ⟨⟨rfl,rfl,rfl⟩,wkB_live0 rfl (belowL_app (cellsM_idlt (f:=PresPres.v) (fun _=>rfl) _) (belowL_app rfl (belowL_app (cellsM_idlt (f:=V.b) (fun _=>rfl) _) (cellsM_idlt (f:=V.i) (fun _=>rfl) _)))) rfl ⟨⟨rfl,rfl,rfl⟩,trivial⟩⟩⟩)
  rintro _ _ (⟨y265,H,rfl,rfl⟩)
  rw [hK257] at H
  try dsimp only at H
  conv=>whnf
  refine ixs_c (f:=Law27Deed.v) H (fun _=>rfl) (fun x266 H=>?_);conv=>whnf
  refine lq_ ?_;conv=>whnf
  refine ⟨by decide,?_⟩;conv=>whnf
  refine Ari.w ?_;conv=>whnf
  refine askF_c (p_outq_Flush_v _ _ _ _) H (.cons (fzagg (.cons (.id rfl) (.cons (.id rfl) (.cons (.id rfl) (.cons (.id rfl) (.cons (.id rfl) (.cons (.id rfl) (.cons (.id rfl) (.nil)))))))) rfl) (.cons (fzagg (.cons (fzown (f:=V.s) (l:=y18.Users) rfl rfl (fun _=>rfl) (fun _=>rfl)) (.cons (.slw) (.nil))) rfl) (.cons (fzagg (.cons (.id rfl) (.cons (.id rfl) (.nil))) rfl) (.cons (.c (.id rfl)) (.nil))))) (fun v267 H=>?_);conv=>whnf
  refine lq_ ?_;conv=>whnf
  refine FootQ.mk ⟨rfl,?_⟩;conv=>whnf
  obtain ⟨o269,HL270,HQ271⟩:=bind_c H
  refine loop_c [4,16] [123,124,125,126,127,128,129,130,131,132,133,134,111] [123,124,125,126,127,128,129,130,131,132,133,134,111] (fun n vals st=>(∃ y273 y274 u275 u276 u277 u278,p_law27_OutqView_l3  v267.2 n y273 y274=some o269∧vals=[.b false,.i y273]∧st=[.live [.osl 1 0 (List.length y18.Users) 1 false,.sl (List.map V.s y18.Keys) u275] 0,.live (cellsM V.s y18.Users) (cellsM V.s y18.Users).length,.live [.i y240.Seq,.sl (List.map BookRow.v y240.Rows) u276] 0,.live (cellsM PresPres.v y274.has++([.b y274.anew]++(cellsM V.b y274.seen++(cellsM V.i y274.last)))) 0,.live [.sl (List.map MailEntry.v y265.Mail) u277,.b y265.Snap.On,.b y265.Snap.Begun,.s y265.Snap.After,.i y265.Snap.Told,.i y265.Sent,.i y265.Lost] 0,.live [.sl (List.map MailEntry.v v267.1.Mail) u278,.b v267.1.Snap.On,.b v267.1.Snap.Begun,.s v267.1.Snap.After,.i v267.1.Snap.Told,.i v267.1.Sent,.i v267.1.Lost] 0])) fuel 6 [] (⟨_,_,_,_,_,_,HL270,rfl,rfl⟩) (Nat.zero_le _) rfl (by kernel_rfl) (by kernel_rfl) rfl (by exact ⟨⟨rfl,rfl,rfl⟩,wkB_live0 rfl (cellsM_idlt (f:=V.s) (fun _=>rfl) _) rfl ⟨⟨rfl,rfl,rfl⟩,wkB_live0 rfl (belowL_app (cellsM_idlt (f:=PresPres.v) (fun _=>rfl) _) (belowL_app rfl (belowL_app (cellsM_idlt (f:=V.b) (fun _=>rfl) _) (cellsM_idlt (f:=V.i) (fun _=>rfl) _)))) rfl ⟨⟨rfl,rfl,rfl⟩,⟨⟨rfl,rfl,rfl⟩,trivial⟩⟩⟩⟩) ?_
  rintro (_ | n272) _ _ (⟨y273,y274,u275,u276,u277,u278,H,rfl,rfl⟩)
  ·rw [p_law27_OutqView_l3] at H;cases H
  rw [p_law27_OutqView_l3] at H
  conv=>whnf
  refine LenQ.M ?_;conv=>whnf
  refine tst_c H (fun b279 H=>?_) (fun b279 H=>?_)
  ·conv=>whnf
   refine ixs_c (f:=StanzaStanza.v) H (fun _=>rfl) (fun x280 H=>?_);conv=>whnf
   refine askP_c (fun s hs=>p_law27_view_tell_p6_3 rfl (okN_M (cellsM_idlt (f:=V.s) (fun _=>rfl) _)) rfl rfl rfl _ _ s hs) H rfl rfl (fun _=>rfl) (fun v281 H=>?_);conv=>whnf
   refine Tst.not ?_
   refine tst_d H (fun b282 H=>?_) (fun b282 H=>?_)
   ·conv=>whnf
    obtain rfl:=Option.some.inj H
    have H:=HQ271
    try dsimp only at H
    obtain rfl:=Option.some.inj H
    have H:=HQ217
    try dsimp only at H
    exact fb_ H
   conv=>whnf
   refine Ari.w ?_;conv=>whnf
   exact again_c [123,124,125,126,127,128,129,130,131,132,133,134,111] n272 6 [] (⟨_,_,_,_,_,_,H,rfl,rfl⟩) (Nat.lt_succ_self _) (Nat.zero_le _) rfl (by kernel_rfl) (by kernel_rfl) rfl (by exact ⟨⟨rfl,rfl,rfl⟩,wkB_live0 rfl (cellsM_idlt (f:=V.s) (fun _=>rfl) _) rfl ⟨⟨rfl,rfl,rfl⟩,wkB_live0 rfl (belowL_app (cellsM_idlt (f:=PresPres.v) (fun _=>rfl) _) (belowL_app rfl (belowL_app (cellsM_idlt (f:=V.b) (fun _=>rfl) _) (cellsM_idlt (f:=V.i) (fun _=>rfl) _)))) rfl ⟨⟨rfl,rfl,rfl⟩,⟨⟨rfl,rfl,rfl⟩,trivial⟩⟩⟩⟩)
  conv=>whnf
  obtain rfl:=Option.some.inj H
  have H:=HQ271
  try dsimp only at H
  refine ask_c (p_outq_Check_v _) H rfl rfl (fun v285 H=>?_);conv=>whnf
  refine tst_c H (fun b286 H=>?_) (fun b286 H=>?_)
  ·conv=>whnf
   iterate 9 (refine Tst.T ?_;conv=>whnf)
   obtain rfl:=Option.some.inj H
   have H:=HQ217
   try dsimp only at H
   exact fb_ H
  conv=>whnf
  iterate 5 (refine Tst.F ?_;conv=>whnf)
  refine LenQ.M ?_;conv=>whnf
  refine Tst.F ?_;conv=>whnf
  refine Ari.w ?_;conv=>whnf
  iterate 2 (refine Tst.F ?_;conv=>whnf)
  refine tst_c H (fun b287 H=>?_) (fun b287 H=>?_)
  ·conv=>whnf
   obtain rfl:=Option.some.inj H
   have H:=HQ217
   try dsimp only at H
   exact fb_ H
  conv=>whnf
  refine lq_ ?_;conv=>whnf
  refine Ari.w ?_;conv=>whnf
  exact again_c [11,12,13,14,15,16,50,51,52,53,54,55,56,57,58,59,60,61,62,63,64,65,66,67,68,69,70,71,72,73,74,75,76,77,78,79,80,81,82,83,84,85,86,87,88,89,90,91,92,93,94,95,96,97,98,99,100,101,102,103,104,105,106,107,108,109,110,111,112,113,114,115,116,117,118,119,120,121,122,123,124,125,126,127,128,129,130,131,132,133,134,135,136,137,138,139,140,141,142,143,144,145,146,147,148,3] n218 5 [] (⟨_,_,_,_,_,_,_,H,rfl,rfl⟩) (Nat.lt_succ_self _) (Nat.zero_le _) rfl (by kernel_rfl) (by kernel_rfl) rfl (by exact ⟨⟨rfl,rfl,rfl⟩,wkB_live0 rfl (cellsM_idlt (f:=V.s) (fun _=>rfl) _) rfl ⟨⟨rfl,rfl,rfl⟩,wkB_live0 rfl (belowL_app (cellsM_idlt (f:=PresPres.v) (fun _=>rfl) _) (belowL_app rfl (belowL_app (cellsM_idlt (f:=V.b) (fun _=>rfl) _) (cellsM_idlt (f:=V.i) (fun _=>rfl) _)))) rfl ⟨⟨rfl,rfl,rfl⟩,trivial⟩⟩⟩)
 rw [hK244] at H
 try dsimp only at H
 conv=>whnf
 obtain ⟨K292,hK293,o294,HL295,HQ296⟩:=join0_c H
 refine join_c [5,7,8,9] [102,103,104,105,106,107,108] (fun vals st=>(∃ y301,K292 y301=some o215∧vals=[.ptr 0 0,.ptr 2 0,.ptr 3 0,.ptr 4 0]∧st=[.live [.osl 1 0 (List.length y18.Users) 1 false,.sl (List.map V.s y18.Keys) u223] 0,.live (cellsM V.s y18.Users) (cellsM V.s y18.Users).length,.live [.i y240.Seq,.sl (List.map BookRow.v y240.Rows) false] 0,.live (cellsM PresPres.v y221.has++([.b y221.anew]++(cellsM V.b y221.seen++(cellsM V.i y221.last)))) 0,.live [.sl (List.map MailEntry.v y301.Mail) false,.b y301.Snap.On,.b y301.Snap.Begun,.s y301.Snap.After,.i y301.Snap.Told,.i y301.Sent,.i y301.Lost] 0])∨(∃ y302,K292 y302=some o215∧vals=[.ptr 0 0,.ptr 2 0,.ptr 3 0,.ptr 4 0]∧st=[.live [.osl 1 0 (List.length y18.Users) 1 false,.sl (List.map V.s y18.Keys) u223] 0,.live (cellsM V.s y18.Users) (cellsM V.s y18.Users).length,.live [.i y240.Seq,.sl (List.map BookRow.v y240.Rows) false] 0,.live (cellsM PresPres.v y221.has++([.b y221.anew]++(cellsM V.b y221.seen++(cellsM V.i y221.last)))) 0,.live [.sl (List.map MailEntry.v y302.Mail) u225,.b y302.Snap.On,.b y302.Snap.Begun,.s y302.Snap.After,.i y302.Snap.Told,.i y302.Sent,.i y302.Lost] 0])) ?_ ?_
 ·have H:=HL295
  conv=>whnf
  refine ixs_c (f:=Law27Deed.v) H (fun _=>rfl) (fun x298 H=>?_);conv=>whnf
  refine lq_ ?_;conv=>whnf
  refine tst_d H (fun b299 H=>?_) (fun b299 H=>?_)
  ·conv=>whnf
   obtain rfl:=Option.some.inj H
   exact arrive_c [102,103,104,105,106,107,108] 5 [] (.inr (⟨_,HQ296,rfl,rfl⟩)) (Nat.zero_le _) rfl (by kernel_rfl) (by kernel_rfl) rfl (by exact ⟨⟨rfl,rfl,rfl⟩,wkB_live0 rfl (cellsM_idlt (f:=V.s) (fun _=>rfl) _) rfl ⟨⟨rfl,rfl,rfl⟩,wkB_live0 rfl (belowL_app (cellsM_idlt (f:=PresPres.v) (fun _=>rfl) _) (belowL_app rfl (belowL_app (cellsM_idlt (f:=V.b) (fun _=>rfl) _) (cellsM_idlt (f:=V.i) (fun _=>rfl) _)))) rfl ⟨⟨rfl,rfl,rfl⟩,trivial⟩⟩⟩)
  conv=>whnf
  refine ask_c (p_outq_Begin_v _) H rfl rfl (fun v300 H=>?_);conv=>whnf
  refine lq_ ?_;conv=>whnf
  obtain rfl:=Option.some.inj H
  exact arrive_c [102,103,104,105,106,107,108] 5 [] (.inl (⟨_,HQ296,rfl,rfl⟩)) (Nat.zero_le _) rfl (by kernel_rfl) (by kernel_rfl) rfl (by exact ⟨⟨rfl,rfl,rfl⟩,wkB_live0 rfl (cellsM_idlt (f:=V.s) (fun _=>rfl) _) rfl ⟨⟨rfl,rfl,rfl⟩,wkB_live0 rfl (belowL_app (cellsM_idlt (f:=PresPres.v) (fun _=>rfl) _) (belowL_app rfl (belowL_app (cellsM_idlt (f:=V.b) (fun _=>rfl) _) (cellsM_idlt (f:=V.i) (fun _=>rfl) _)))) rfl ⟨⟨rfl,rfl,rfl⟩,trivial⟩⟩⟩)
 rintro _ _ (⟨y301,H,rfl,rfl⟩ | ⟨y302,H,rfl,rfl⟩)
 ·rw [hK293] at H
  try dsimp only at H
  conv=>whnf
  refine ixs_c (f:=Law27Deed.v) H (fun _=>rfl) (fun x303 H=>?_);conv=>whnf
  refine lq_ ?_;conv=>whnf
  refine ⟨by decide,?_⟩;conv=>whnf
  refine Ari.w ?_;conv=>whnf
  refine askF_c (p_outq_Flush_v _ _ _ _) H (.cons (fzagg (.cons (.id rfl) (.cons (.id rfl) (.cons (.id rfl) (.cons (.id rfl) (.cons (.id rfl) (.cons (.id rfl) (.cons (.id rfl) (.nil)))))))) rfl) (.cons (fzagg (.cons (fzown (f:=V.s) (l:=y18.Users) rfl rfl (fun _=>rfl) (fun _=>rfl)) (.cons (.slw) (.nil))) rfl) (.cons (fzagg (.cons (.id rfl) (.cons (.id rfl) (.nil))) rfl) (.cons (.c (.id rfl)) (.nil))))) (fun v304 H=>?_);conv=>whnf
  refine lq_ ?_;conv=>whnf
  refine FootQ.mk ⟨rfl,?_⟩;conv=>whnf
  obtain ⟨o306,HL307,HQ308⟩:=bind_c H
  refine loop_c [4,16] [123,124,125,126,127,128,129,130,131,132,133,134,111] [123,124,125,126,127,128,129,130,131,132,133,134,111] (fun n vals st=>(∃ y310 y311 u312 u313 u314 u315,p_law27_OutqView_l3  v304.2 n y310 y311=some o306∧vals=[.b false,.i y310]∧st=[.live [.osl 1 0 (List.length y18.Users) 1 false,.sl (List.map V.s y18.Keys) u312] 0,.live (cellsM V.s y18.Users) (cellsM V.s y18.Users).length,.live [.i y240.Seq,.sl (List.map BookRow.v y240.Rows) u313] 0,.live (cellsM PresPres.v y311.has++([.b y311.anew]++(cellsM V.b y311.seen++(cellsM V.i y311.last)))) 0,.live [.sl (List.map MailEntry.v y301.Mail) u314,.b y301.Snap.On,.b y301.Snap.Begun,.s y301.Snap.After,.i y301.Snap.Told,.i y301.Sent,.i y301.Lost] 0,.live [.sl (List.map MailEntry.v v304.1.Mail) u315,.b v304.1.Snap.On,.b v304.1.Snap.Begun,.s v304.1.Snap.After,.i v304.1.Snap.Told,.i v304.1.Sent,.i v304.1.Lost] 0])) fuel 6 [] (⟨_,_,_,_,_,_,HL307,rfl,rfl⟩) (Nat.zero_le _) rfl (by kernel_rfl) (by kernel_rfl) rfl (by exact ⟨⟨rfl,rfl,rfl⟩,wkB_live0 rfl (cellsM_idlt (f:=V.s) (fun _=>rfl) _) rfl ⟨⟨rfl,rfl,rfl⟩,wkB_live0 rfl (belowL_app (cellsM_idlt (f:=PresPres.v) (fun _=>rfl) _) (belowL_app rfl (belowL_app (cellsM_idlt (f:=V.b) (fun _=>rfl) _) (cellsM_idlt (f:=V.i) (fun _=>rfl) _)))) rfl ⟨⟨rfl,rfl,rfl⟩,⟨⟨rfl,rfl,rfl⟩,trivial⟩⟩⟩⟩) ?_
  rintro (_ | n309) _ _ (⟨y310,y311,u312,u313,u314,u315,H,rfl,rfl⟩)
  ·rw [p_law27_OutqView_l3] at H;cases H
  rw [p_law27_OutqView_l3] at H
  conv=>whnf
  refine LenQ.M ?_;conv=>whnf
  refine tst_c H (fun b316 H=>?_) (fun b316 H=>?_)
  ·conv=>whnf
   refine ixs_c (f:=StanzaStanza.v) H (fun _=>rfl) (fun x317 H=>?_);conv=>whnf
   refine askP_c (fun s hs=>p_law27_view_tell_p6_3 rfl (okN_M (cellsM_idlt (f:=V.s) (fun _=>rfl) _)) rfl rfl rfl _ _ s hs) H rfl rfl (fun _=>rfl) (fun v318 H=>?_);conv=>whnf
   refine Tst.not ?_
   refine tst_d H (fun b319 H=>?_) (fun b319 H=>?_)
   ·conv=>whnf
    obtain rfl:=Option.some.inj H
    have H:=HQ308
    try dsimp only at H
    obtain rfl:=Option.some.inj H
    have H:=HQ217
    try dsimp only at H
    exact fb_ H
   conv=>whnf
   refine Ari.w ?_;conv=>whnf
   exact again_c [123,124,125,126,127,128,129,130,131,132,133,134,111] n309 6 [] (⟨_,_,_,_,_,_,H,rfl,rfl⟩) (Nat.lt_succ_self _) (Nat.zero_le _) rfl (by kernel_rfl) (by kernel_rfl) rfl (by exact ⟨⟨rfl,rfl,rfl⟩,wkB_live0 rfl (cellsM_idlt (f:=V.s) (fun _=>rfl) _) rfl ⟨⟨rfl,rfl,rfl⟩,wkB_live0 rfl (belowL_app (cellsM_idlt (f:=PresPres.v) (fun _=>rfl) _) (belowL_app rfl (belowL_app (cellsM_idlt (f:=V.b) (fun _=>rfl) _) (cellsM_idlt (f:=V.i) (fun _=>rfl) _)))) rfl ⟨⟨rfl,rfl,rfl⟩,⟨⟨rfl,rfl,rfl⟩,trivial⟩⟩⟩⟩)
  conv=>whnf
  obtain rfl:=Option.some.inj H
  have H:=HQ308
  try dsimp only at H
  refine ask_c (p_outq_Check_v _) H rfl rfl (fun v322 H=>?_);conv=>whnf
  refine tst_c H (fun b323 H=>?_) (fun b323 H=>?_)
  ·conv=>whnf
   iterate 9 (refine Tst.T ?_;conv=>whnf)
   obtain rfl:=Option.some.inj H
   have H:=HQ217
   try dsimp only at H
   exact fb_ H
  conv=>whnf
  iterate 5 (refine Tst.F ?_;conv=>whnf)
  refine LenQ.M ?_;conv=>whnf
  refine Tst.F ?_;conv=>whnf
  refine Ari.w ?_;conv=>whnf
  iterate 2 (refine Tst.F ?_;conv=>whnf)
  refine tst_c H (fun b324 H=>?_) (fun b324 H=>?_)
  ·conv=>whnf
   obtain rfl:=Option.some.inj H
   have H:=HQ217
   try dsimp only at H
   exact fb_ H
  conv=>whnf
  refine lq_ ?_;conv=>whnf
  refine Ari.w ?_;conv=>whnf
  exact again_c [11,12,13,14,15,16,50,51,52,53,54,55,56,57,58,59,60,61,62,63,64,65,66,67,68,69,70,71,72,73,74,75,76,77,78,79,80,81,82,83,84,85,86,87,88,89,90,91,92,93,94,95,96,97,98,99,100,101,102,103,104,105,106,107,108,109,110,111,112,113,114,115,116,117,118,119,120,121,122,123,124,125,126,127,128,129,130,131,132,133,134,135,136,137,138,139,140,141,142,143,144,145,146,147,148,3] n218 5 [] (⟨_,_,_,_,_,_,_,H,rfl,rfl⟩) (Nat.lt_succ_self _) (Nat.zero_le _) rfl (by kernel_rfl) (by kernel_rfl) rfl (by exact ⟨⟨rfl,rfl,rfl⟩,wkB_live0 rfl (cellsM_idlt (f:=V.s) (fun _=>rfl) _) rfl ⟨⟨rfl,rfl,rfl⟩,wkB_live0 rfl (belowL_app (cellsM_idlt (f:=PresPres.v) (fun _=>rfl) _) (belowL_app rfl (belowL_app (cellsM_idlt (f:=V.b) (fun _=>rfl) _) (cellsM_idlt (f:=V.i) (fun _=>rfl) _)))) rfl ⟨⟨rfl,rfl,rfl⟩,trivial⟩⟩⟩)
 rw [hK293] at H
 try dsimp only at H
 conv=>whnf
 refine ixs_c (f:=Law27Deed.v) H (fun _=>rfl) (fun x329 H=>?_);conv=>whnf
 refine lq_ ?_;conv=>whnf
 refine ⟨by decide,?_⟩;conv=>whnf
 refine Ari.w ?_;conv=>whnf
 refine askF_c (p_outq_Flush_v _ _ _ _) H (.cons (fzagg (.cons (.slw) (.cons (.id rfl) (.cons (.id rfl) (.cons (.id rfl) (.cons (.id rfl) (.cons (.id rfl) (.cons (.id rfl) (.nil)))))))) rfl) (.cons (fzagg (.cons (fzown (f:=V.s) (l:=y18.Users) rfl rfl (fun _=>rfl) (fun _=>rfl)) (.cons (.slw) (.nil))) rfl) (.cons (fzagg (.cons (.id rfl) (.cons (.id rfl) (.nil))) rfl) (.cons (.c (.id rfl)) (.nil))))) (fun v330 H=>?_);conv=>whnf
 refine lq_ ?_;conv=>whnf
 refine FootQ.mk ⟨rfl,?_⟩;conv=>whnf
 obtain ⟨o332,HL333,HQ334⟩:=bind_c H
 refine loop_c [4,16] [123,124,125,126,127,128,129,130,131,132,133,134,111] [123,124,125,126,127,128,129,130,131,132,133,134,111] (fun n vals st=>(∃ y336 y337 u338 u339 u340 u341,p_law27_OutqView_l3  v330.2 n y336 y337=some o332∧vals=[.b false,.i y336]∧st=[.live [.osl 1 0 (List.length y18.Users) 1 false,.sl (List.map V.s y18.Keys) u338] 0,.live (cellsM V.s y18.Users) (cellsM V.s y18.Users).length,.live [.i y240.Seq,.sl (List.map BookRow.v y240.Rows) u339] 0,.live (cellsM PresPres.v y337.has++([.b y337.anew]++(cellsM V.b y337.seen++(cellsM V.i y337.last)))) 0,.live [.sl (List.map MailEntry.v y302.Mail) u340,.b y302.Snap.On,.b y302.Snap.Begun,.s y302.Snap.After,.i y302.Snap.Told,.i y302.Sent,.i y302.Lost] 0,.live [.sl (List.map MailEntry.v v330.1.Mail) u341,.b v330.1.Snap.On,.b v330.1.Snap.Begun,.s v330.1.Snap.After,.i v330.1.Snap.Told,.i v330.1.Sent,.i v330.1.Lost] 0])) fuel 6 [] (⟨_,_,_,_,_,_,HL333,rfl,rfl⟩) (Nat.zero_le _) rfl (by kernel_rfl) (by kernel_rfl) rfl (by exact ⟨⟨rfl,rfl,rfl⟩,wkB_live0 rfl (cellsM_idlt (f:=V.s) (fun _=>rfl) _) rfl ⟨⟨rfl,rfl,rfl⟩,wkB_live0 rfl (belowL_app (cellsM_idlt (f:=PresPres.v) (fun _=>rfl) _) (belowL_app rfl (belowL_app (cellsM_idlt (f:=V.b) (fun _=>rfl) _) (cellsM_idlt (f:=V.i) (fun _=>rfl) _)))) rfl ⟨⟨rfl,rfl,rfl⟩,⟨⟨rfl,rfl,rfl⟩,trivial⟩⟩⟩⟩) ?_
 rintro (_ | n335) _ _ (⟨y336,y337,u338,u339,u340,u341,H,rfl,rfl⟩)
 ·rw [p_law27_OutqView_l3] at H;cases H
 rw [p_law27_OutqView_l3] at H
 conv=>whnf
 refine LenQ.M ?_;conv=>whnf
 refine tst_c H (fun b342 H=>?_) (fun b342 H=>?_)
 ·conv=>whnf
  refine ixs_c (f:=StanzaStanza.v) H (fun _=>rfl) (fun x343 H=>?_);conv=>whnf
  refine askP_c (fun s hs=>p_law27_view_tell_p6_3 rfl (okN_M (cellsM_idlt (f:=V.s) (fun _=>rfl) _)) rfl rfl rfl _ _ s hs) H rfl rfl (fun _=>rfl) (fun v344 H=>?_);conv=>whnf
  refine Tst.not ?_
  refine tst_d H (fun b345 H=>?_) (fun b345 H=>?_)
  ·conv=>whnf
   obtain rfl:=Option.some.inj H
   have H:=HQ334
   try dsimp only at H
   obtain rfl:=Option.some.inj H
   have H:=HQ217
   try dsimp only at H
   exact fb_ H
  conv=>whnf
  refine Ari.w ?_;conv=>whnf
  exact again_c [123,124,125,126,127,128,129,130,131,132,133,134,111] n335 6 [] (⟨_,_,_,_,_,_,H,rfl,rfl⟩) (Nat.lt_succ_self _) (Nat.zero_le _) rfl (by kernel_rfl) (by kernel_rfl) rfl (by exact ⟨⟨rfl,rfl,rfl⟩,wkB_live0 rfl (cellsM_idlt (f:=V.s) (fun _=>rfl) _) rfl ⟨⟨rfl,rfl,rfl⟩,wkB_live0 rfl (belowL_app (cellsM_idlt (f:=PresPres.v) (fun _=>rfl) _) (belowL_app rfl (belowL_app (cellsM_idlt (f:=V.b) (fun _=>rfl) _) (cellsM_idlt (f:=V.i) (fun _=>rfl) _)))) rfl ⟨⟨rfl,rfl,rfl⟩,⟨⟨rfl,rfl,rfl⟩,trivial⟩⟩⟩⟩)
 conv=>whnf
 obtain rfl:=Option.some.inj H
 have H:=HQ334
 try dsimp only at H
 refine ask_c (p_outq_Check_v _) H rfl rfl (fun v348 H=>?_);conv=>whnf
 refine tst_c H (fun b349 H=>?_) (fun b349 H=>?_)
 ·conv=>whnf
  iterate 9 (refine Tst.T ?_;conv=>whnf)
  obtain rfl:=Option.some.inj H
  have H:=HQ217
  try dsimp only at H
  exact fb_ H
 conv=>whnf
 iterate 5 (refine Tst.F ?_;conv=>whnf)
 refine LenQ.M ?_;conv=>whnf
 refine Tst.F ?_;conv=>whnf
 refine Ari.w ?_;conv=>whnf
 iterate 2 (refine Tst.F ?_;conv=>whnf)
 refine tst_c H (fun b350 H=>?_) (fun b350 H=>?_)
 ·conv=>whnf
  obtain rfl:=Option.some.inj H
  have H:=HQ217
  try dsimp only at H
  exact fb_ H
 conv=>whnf
 refine lq_ ?_;conv=>whnf
 refine Ari.w ?_;conv=>whnf
 exact again_c [11,12,13,14,15,16,50,51,52,53,54,55,56,57,58,59,60,61,62,63,64,65,66,67,68,69,70,71,72,73,74,75,76,77,78,79,80,81,82,83,84,85,86,87,88,89,90,91,92,93,94,95,96,97,98,99,100,101,102,103,104,105,106,107,108,109,110,111,112,113,114,115,116,117,118,119,120,121,122,123,124,125,126,127,128,129,130,131,132,133,134,135,136,137,138,139,140,141,142,143,144,145,146,147,148,3] n218 5 [] (⟨_,_,_,_,_,_,_,H,rfl,rfl⟩) (Nat.lt_succ_self _) (Nat.zero_le _) rfl (by kernel_rfl) (by kernel_rfl) rfl (by exact ⟨⟨rfl,rfl,rfl⟩,wkB_live0 rfl (cellsM_idlt (f:=V.s) (fun _=>rfl) _) rfl ⟨⟨rfl,rfl,rfl⟩,wkB_live0 rfl (belowL_app (cellsM_idlt (f:=PresPres.v) (fun _=>rfl) _) (belowL_app rfl (belowL_app (cellsM_idlt (f:=V.b) (fun _=>rfl) _) (cellsM_idlt (f:=V.i) (fun _=>rfl) _)))) rfl ⟨⟨rfl,rfl,rfl⟩,trivial⟩⟩⟩)
end Go.Proofs.YthnihifblmnkdaaGreat

namespace Go.Proofs.YthnihifblmnkdaaGreat
open Go.ChangeShapes Go.WideShapes Go.ChangeAt Go.RowKit Go.Joins Go.Deep
theorem outqView_named:Tryz.pinned.checked.prog.funcNamed Rows.outqViewRow.func=some 5:=by kernel_rfl
theorem outqView_closed:joinedFacts Tryz.pinned.checked.prog 5 Tryz.f5 Rows.outqViewSpec Rows.outqViewRow=true:=by kernel_rfl
end Go.Proofs.YthnihifblmnkdaaGreat

