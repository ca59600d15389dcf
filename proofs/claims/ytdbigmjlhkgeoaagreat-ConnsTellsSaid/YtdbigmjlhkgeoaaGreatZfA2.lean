/- ConnsTells: for every input the call returns true, and its arguments read as they did. -/
import Derived.Test.YtdbigmjlhkgeoaaGreatZeA18
import Derived.Test.YtdbigmjlhkgeoaaGreatZeA22
import Derived.Test.YtdbigmjlhkgeoaaGreatZeA20
import Derived.Test.YtdbigmjlhkgeoaaGreatZeA21
import Derived.Test.YtdbigmjlhkgeoaaGreatZeA23
import Derived.Test.YtdbigmjlhkgeoaaGreatZeA11
import Derived.KernelRfl
import Derived.Test.YtdbigmjlhkgeoaaGreatZeA12
import Derived.Test.YtdbigmjlhkgeoaaGreatRows
import Derived.Test.YtdbigmjlhkgeoaaGreatZfA1
set_option linter.all false
namespace Go.Proofs.YtdbigmjlhkgeoaaGreat
open Go.RowKit
set_option maxRecDepth 1000000
set_option maxHeartbeats 4000000
def gc4:BCode:=(.seq (R_ 1 [O_ 5 (.bx (t_ 2)) 0,O_ 6 (.mv (b_ false)) 1]) (.join (.seq (R_ 0 [O_ 16 (.mv (t_ 0)) 0,O_ 17 (.cl 7 [(t_ 16)]) 0,O_ 18 (.un .not (t_ 17)) 0,O_ 19 (.mv (t_ 18)) 0,⟨(some 20),.mv (t_ 1),(some (19,false)),0⟩,⟨(some 21),.cl 7 [(t_ 20)],(some (19,false)),0⟩,⟨(some 22),.un .not (t_ 21),(some (19,false)),0⟩,O_ 23 (.pick (t_ 19) (b_ true) (t_ 22)) 0,O_ 24 (.mv (t_ 23)) 0,⟨(some 25),.fa 2 (t_ 5),(some (24,false)),0⟩,⟨(some 26),.ld 1 false (t_ 25),(some (24,false)),0⟩,⟨(some 27),.lent (t_ 26),(some (24,false)),0⟩,⟨(some 28),.bin .gtr (t_ 27) (i_ 100),(some (24,false)),0⟩,O_ 29 (.pick (t_ 24) (b_ true) (t_ 28)) 0,O_ 30 (.mv (t_ 29)) 0,⟨(some 31),.fa 3 (t_ 5),(some (30,false)),0⟩,⟨(some 32),.ld 1 false (t_ 31),(some (30,false)),0⟩,⟨(some 33),.lent (t_ 32),(some (30,false)),0⟩,⟨(some 34),.bin .gtr (t_ 33) (i_ 100),(some (30,false)),0⟩,O_ 35 (.pick (t_ 30) (b_ true) (t_ 34)) 0]) (.cond (t_ 35) (.seq (R_ 0 [O_ 36 (.cl 8 []) 0,O_ 6 (.mv (t_ 36)) 0]) .ret) .skip)) (.seq (R_ 0 [O_ 37 (.mv (t_ 0)) 0,O_ 38 (.cl 9 [(t_ 37)]) 0,O_ 7 (.mv (t_ 38)) 0]) (.seq (R_ 1 [O_ 40 (.mv (t_ 7)) 0,O_ 41 (.fa 0 (t_ 5)) 0,O_ 42 (.ld 1 false (t_ 41)) 0,O_ 43 (.cl 26 [(t_ 40),(t_ 42)]) 0,O_ 39 (.mv (t_ 43)) 0,O_ 44 (.ex (t_ 39) 0) 0,O_ 45 (.ex (t_ 39) 1) 0,O_ 8 (.al (.agg [(.lit (.int .i64 0)),(.lit (.int .i64 0)),(.lit (.string ⟨#[]⟩)),(.lit (.string ⟨#[]⟩)),(.lit (.int .i64 0)),(.lit (.string ⟨#[]⟩)),(.lit (.int .i64 0)),(.lit (.int .i64 0))])) 0,U_ (.st 8 (t_ 8) (t_ 44)) 1,O_ 9 (.mv (t_ 45)) 1]) (.seq (R_ 1 [O_ 47 (.mv (t_ 0)) 0,O_ 48 (.fa 0 (t_ 5)) 0,O_ 49 (.ld 1 false (t_ 48)) 0,O_ 50 (.cl 27 [(t_ 47),(t_ 49)]) 0,O_ 46 (.mv (t_ 50)) 0,O_ 51 (.ex (t_ 46) 0) 0,O_ 52 (.ex (t_ 46) 1) 0,O_ 10 (.al (.agg [(.lit (.int .i64 0)),(.lit (.int .i64 0)),(.lit (.string ⟨#[]⟩)),(.lit (.string ⟨#[]⟩)),(.lit (.int .i64 0)),(.lit (.string ⟨#[]⟩)),(.lit (.int .i64 0)),(.lit (.int .i64 0))])) 0,U_ (.st 8 (t_ 10) (t_ 51)) 1,O_ 11 (.mv (t_ 52)) 1]) (.seq (R_ 0 [O_ 54 (.mv (t_ 7)) 0,O_ 55 (.fa 2 (t_ 5)) 0,O_ 56 (.ld 1 false (t_ 55)) 0,O_ 57 (.bin .add (t_ 56) (.const (.string ⟨#[32]⟩))) 0,O_ 58 (.fa 3 (t_ 5)) 0,O_ 59 (.ld 1 false (t_ 58)) 0,O_ 60 (.bin .add (t_ 57) (t_ 59)) 0,O_ 61 (.cl 28 [(t_ 54),(t_ 60)]) 0,O_ 53 (.mv (t_ 61)) 0,O_ 62 (.ex (t_ 53) 0) 0,O_ 63 (.ex (t_ 53) 1) 0,O_ 12 (.mv (t_ 62)) 0,O_ 13 (.mv (t_ 63)) 0]) (.seq (R_ 0 [O_ 65 (.mv (t_ 0)) 0,O_ 66 (.fa 2 (t_ 5)) 0,O_ 67 (.ld 1 false (t_ 66)) 0,O_ 68 (.bin .add (t_ 67) (.const (.string ⟨#[32]⟩))) 0,O_ 69 (.fa 3 (t_ 5)) 0,O_ 70 (.ld 1 false (t_ 69)) 0,O_ 71 (.bin .add (t_ 68) (t_ 70)) 0,O_ 72 (.cl 29 [(t_ 65),(t_ 71)]) 0,O_ 64 (.mv (t_ 72)) 0,O_ 73 (.ex (t_ 64) 0) 0,O_ 74 (.ex (t_ 64) 1) 0,O_ 14 (.mv (t_ 73)) 0,O_ 15 (.mv (t_ 74)) 0]) (.seq (.reg 1 [O_ 75 (.mv (t_ 7)) 0,O_ 76 (.cl 30 [(t_ 75)]) 0,O_ 77 (.mv (t_ 0)) 0,O_ 78 (.cl 31 [(t_ 77)]) 0,O_ 79 (.bin .eql (t_ 76) (t_ 78)) 0,O_ 80 (.mv (t_ 79)) 0,⟨(some 81),.ld 8 true (t_ 8),(some (80,true)),0⟩,⟨(some 82),.bs 8 1 [(.lit (.int .i64 0)),(.lit (.int .i64 0)),(.lit (.string ⟨#[]⟩)),(.lit (.string ⟨#[]⟩)),(.lit (.int .i64 0)),(.lit (.string ⟨#[]⟩)),(.lit (.int .i64 0)),(.lit (.int .i64 0))] [(0,(t_ 81))],(some (80,true)),0⟩,⟨(some 83),.cl 17 [(t_ 82)],(some (80,true)),1⟩,⟨(some 84),.ixs 8 (t_ 83) (i_ 0),(some (80,true)),1⟩,⟨(some 85),.ld 8 true (t_ 84),(some (80,true)),1⟩,⟨(some 86),.ld 8 true (t_ 10),(some (80,true)),1⟩,⟨(some 87),.eqa false [1,1,2,2,1,2,1,1] (t_ 85) (t_ 86),(some (80,true)),1⟩,O_ 88 (.pick (t_ 80) (t_ 87) (b_ false)) 1,O_ 89 (.mv (t_ 88)) 1,⟨(some 90),.mv (t_ 9),(some (89,true)),1⟩,⟨(some 91),.mv (t_ 11),(some (89,true)),1⟩,⟨(some 92),.binb false (t_ 90) (t_ 91),(some (89,true)),1⟩,O_ 93 (.pick (t_ 89) (t_ 92) (b_ false)) 1,O_ 94 (.mv (t_ 93)) 1,⟨(some 95),.mv (t_ 12),(some (94,true)),1⟩,⟨(some 96),.mv (t_ 14),(some (94,true)),1⟩,⟨(some 97),.bin .eql (t_ 95) (t_ 96),(some (94,true)),1⟩,O_ 98 (.pick (t_ 94) (t_ 97) (b_ false)) 1,O_ 99 (.mv (t_ 98)) 1,⟨(some 100),.mv (t_ 13),(some (99,true)),1⟩,⟨(some 101),.mv (t_ 15),(some (99,true)),1⟩,⟨(some 102),.binb false (t_ 100) (t_ 101),(some (99,true)),1⟩,O_ 103 (.pick (t_ 99) (t_ 102) (b_ false)) 1,O_ 104 (.mv (t_ 103)) 1,⟨(some 105),.mv (t_ 7),(some (104,true)),1⟩,⟨(some 106),.fa 2 (t_ 5),(some (104,true)),1⟩,⟨(some 107),.ld 1 false (t_ 106),(some (104,true)),1⟩,⟨(some 108),.cl 33 [(t_ 105),(t_ 107)],(some (104,true)),1⟩,⟨(some 109),.mv (t_ 0),(some (104,true)),1⟩,⟨(some 110),.fa 2 (t_ 5),(some (104,true)),1⟩,⟨(some 111),.ld 1 false (t_ 110),(some (104,true)),1⟩,⟨(some 112),.cl 34 [(t_ 109),(t_ 111)],(some (104,true)),1⟩,⟨(some 113),.cl 32 [(t_ 108),(t_ 112)],(some (104,true)),1⟩,O_ 114 (.pick (t_ 104) (t_ 113) (b_ false)) 1,O_ 115 (.mv (t_ 114)) 1,⟨(some 116),.ld 8 true (t_ 8),(some (115,true)),1⟩,⟨(some 117),.cl 35 [(t_ 116)],(some (115,true)),1⟩,⟨(some 118),.ld 8 true (t_ 10),(some (115,true)),1⟩,⟨(some 119),.cl 36 [(t_ 118)],(some (115,true)),1⟩,⟨(some 120),.bin .eql (t_ 117) (t_ 119),(some (115,true)),1⟩,O_ 121 (.pick (t_ 115) (t_ 120) (b_ false)) 1,O_ 122 (.mv (t_ 121)) 1,⟨(some 123),.mv (t_ 7),(some (122,true)),1⟩,⟨(some 124),.mv (t_ 1),(some (122,true)),1⟩,⟨(some 125),.cl 9 [(t_ 124)],(some (122,true)),1⟩,⟨(some 126),.cl 37 [(t_ 123),(t_ 125)],(some (122,true)),1⟩,⟨(some 127),.mv (t_ 0),(some (122,true)),1⟩,⟨(some 128),.mv (t_ 1),(some (122,true)),1⟩,⟨(some 129),.cl 16 [(t_ 127),(t_ 128)],(some (122,true)),1⟩,⟨(some 130),.binb false (t_ 126) (t_ 129),(some (122,true)),1⟩,O_ 131 (.pick (t_ 122) (t_ 130) (b_ false)) 1,O_ 132 (.mv (t_ 131)) 1,⟨(some 133),.cl 8 [],(some (132,true)),1⟩,O_ 134 (.pick (t_ 132) (t_ 133) (b_ false)) 1,O_ 6 (.mv (t_ 134)) 1] (some [[],[0],[],[0,1,2],[2,3,0,1],[1,0,3,2,4],[4,2,3,0,1,5],[5,1,0,3,2,4,6],[6,4,2,3,0,1,5,7],[7,5,1,0,3,2,4,6,8],[8,6,4,2,3,0,1,5,7,9],[4,2,3,0,1,5],[11,9,7,5,1,0,3,2,4,6,8,10],[10,8,6,7,9,11,12,4,2,3,0,1,5],[5,1,0,3,2,4,12,11,9,7,6,8,10,13],[13,10,8,6,7,9,11,12,4,2,3,0,1,5,14],[13,10,8,6,7,9,11,12,4,2,3,0,1,5,14],[16,14,5,1,0,3,2,4,12,11,9,7,6,8,10,13,15],[15,16,17,13,10,8,6,7,9,11,12,4,2,3,0,1,5,14],[14,5,1,0,3,2,4,12,11,9,7,6,8,10,13,17,16,15,18],[18,15,16,17,13,10,8,6,7,9,11,12,4,2,3,0,1,5,14,19],[18,15,16,17,13,10,8,6,7,9,11,12,4,2,3,0,1,5,14,19],[21,19,14,5,1,0,3,2,4,12,11,9,7,6,8,10,13,17,16,15,18,20],[20,21,22,18,15,16,17,13,10,8,6,7,9,11,12,4,2,3,0,1,5,14,19],[19,14,5,1,0,3,2,4,12,11,9,7,6,8,10,13,17,16,15,18,22,21,20,23],[23,20,21,22,18,15,16,17,13,10,8,6,7,9,11,12,4,2,3,0,1,5,14,19,24],[23,20,21,22,18,15,16,17,13,10,8,6,7,9,11,12,4,2,3,0,1,5,14,19,24],[26,24,19,14,5,1,0,3,2,4,12,11,9,7,6,8,10,13,17,16,15,18,22,21,20,23,25],[25,26,27,23,20,21,22,18,15,16,17,13,10,8,6,7,9,11,12,4,2,3,0,1,5,14,19,24],[24,19,14,5,1,0,3,2,4,12,11,9,7,6,8,10,13,17,16,15,18,22,21,20,23,27,26,25,28],[28,25,26,27,23,20,21,22,18,15,16,17,13,10,8,6,7,9,11,12,4,2,3,0,1,5,14,19,24,29],[28,25,26,27,23,20,21,22,18,15,16,17,13,10,8,6,7,9,11,12,4,2,3,0,1,5,14,19,24,29],[29,24,19,14,5,1,0,3,2,4,12,11,9,7,6,8,10,13,17,16,15,18,22,21,20,23,27,26,25,28,31],[31,32,29,24,19,14,5,1,0,3,2,4,12,11,9,7,6,8,10,13,17,16,15,18,22,21,20,23,27,26,25,28,30],[28,25,26,27,23,20,21,22,18,15,16,17,13,10,8,6,7,9,11,12,4,2,3,0,1,5,14,19,24,29],[28,25,26,27,23,20,21,22,18,15,16,17,13,10,8,6,7,9,11,12,4,2,3,0,1,5,14,19,24,29],[29,24,19,14,5,1,0,3,2,4,12,11,9,7,6,8,10,13,17,16,15,18,22,21,20,23,27,26,25,28,35],[30,32,31,33,35,36,29,24,19,14,5,1,0,3,2,4,12,11,9,7,6,8,10,13,17,16,15,18,22,21,20,23,27,26,25,28,34],[34,36,35,37,30,28,25,26,27,23,20,21,22,18,15,16,17,13,10,8,6,7,9,11,12,4,2,3,0,1,5,14,19,24,29,32,31,33],[33,31,32,30,37,35,36,34,38,28,25,26,27,23,20,21,22,18,15,16,17,13,10,8,6,7,9,11,12,4,2,3,0,1,5,14,19,24,29],[29,24,19,14,5,1,0,3,2,4,12,11,9,7,6,8,10,13,17,16,15,18,22,21,20,23,27,26,25,28,38,34,36,35,37,30,32,31,33,39],[39,33,31,32,30,37,35,36,34,38,28,25,26,27,23,20,21,22,18,15,16,17,13,10,8,6,7,9,11,12,4,2,3,0,1,5,14,19,24,29,40],[40,29,24,19,14,5,1,0,3,2,4,12,11,9,7,6,8,10,13,17,16,15,18,22,21,20,23,27,26,25,28,38,34,36,35,37,30,32,31,33,39,41],[39,33,31,32,30,37,35,36,34,38,28,25,26,27,23,20,21,22,18,15,16,17,13,10,8,6,7,9,11,12,4,2,3,0,1,5,14,19,24,29,40],[41,42,40,29,24,19,14,5,1,0,3,2,4,12,11,9,7,6,8,10,13,17,16,15,18,22,21,20,23,27,26,25,28,38,34,36,35,37,30,32,31,33,39,43],[43,44,41,39,33,31,32,30,37,35,36,34,38,28,25,26,27,23,20,21,22,18,15,16,17,13,10,8,6,7,9,11,12,4,2,3,0,1,5,14,19,24,29,40,42],[42,41,44,43,45,39,33,31,32,30,37,35,36,34,38,28,25,26,27,23,20,21,22,18,15,16,17,13,10,8,6,7,9,11,12,4,2,3,0,1,5,14,19,24,29,40],[40,29,24,19,14,5,1,0,3,2,4,12,11,9,7,6,8,10,13,17,16,15,18,22,21,20,23,27,26,25,28,38,34,36,35,37,30,32,31,33,39,45,43,44,41,42,46],[46,42,41,44,43,45,39,33,31,32,30,37,35,36,34,38,28,25,26,27,23,20,21,22,18,15,16,17,13,10,8,6,7,9,11,12,4,2,3,0,1,5,14,19,24,29,40,47],[46,42,41,44,43,45,39,33,31,32,30,37,35,36,34,38,28,25,26,27,23,20,21,22,18,15,16,17,13,10,8,6,7,9,11,12,4,2,3,0,1,5,14,19,24,29,40,47],[47,40,29,24,19,14,5,1,0,3,2,4,12,11,9,7,6,8,10,13,17,16,15,18,22,21,20,23,27,26,25,28,38,34,36,35,37,30,32,31,33,39,45,43,44,41,42,46,49],[49,50,47,40,29,24,19,14,5,1,0,3,2,4,12,11,9,7,6,8,10,13,17,16,15,18,22,21,20,23,27,26,25,28,38,34,36,35,37,30,32,31,33,39,45,43,44,41,42,46,48],[46,42,41,44,43,45,39,33,31,32,30,37,35,36,34,38,28,25,26,27,23,20,21,22,18,15,16,17,13,10,8,6,7,9,11,12,4,2,3,0,1,5,14,19,24,29,40,47],[46,42,41,44,43,45,39,33,31,32,30,37,35,36,34,38,28,25,26,27,23,20,21,22,18,15,16,17,13,10,8,6,7,9,11,12,4,2,3,0,1,5,14,19,24,29,40,47],[48,50,49,51,53,47,40,29,24,19,14,5,1,0,3,2,4,12,11,9,7,6,8,10,13,17,16,15,18,22,21,20,23,27,26,25,28,38,34,36,35,37,30,32,31,33,39,45,43,44,41,42,46,52],[52,53,54,48,46,42,41,44,43,45,39,33,31,32,30,37,35,36,34,38,28,25,26,27,23,20,21,22,18,15,16,17,13,10,8,6,7,9,11,12,4,2,3,0,1,5,14,19,24,29,40,47,50,49,51],[51,49,50,48,54,53,52,55,46,42,41,44,43,45,39,33,31,32,30,37,35,36,34,38,28,25,26,27,23,20,21,22,18,15,16,17,13,10,8,6,7,9,11,12,4,2,3,0,1,5,14,19,24,29,40,47],[47,40,29,24,19,14,5,1,0,3,2,4,12,11,9,7,6,8,10,13,17,16,15,18,22,21,20,23,27,26,25,28,38,34,36,35,37,30,32,31,33,39,45,43,44,41,42,46,55,52,53,54,48,50,49,51,56],[56,51,49,50,48,54,53,52,55,46,42,41,44,43,45,39,33,31,32,30,37,35,36,34,38,28,25,26,27,23,20,21,22,18,15,16,17,13,10,8,6,7,9,11,12,4,2,3,0,1,5,14,19,24,29,40,47,57],[58,56,51,49,50,48,54,53,52,55,46,42,41,44,43,45,39,33,31,32,30,37,35,36,34,38,28,25,26,27,23,20,21,22,18,15,16,17,13,10,8,6,7,9,11,12,4,2,3,0,1,5,14,19,24,29,40,47,57],[57,47,40,29,24,19,14,5,1,0,3,2,4,12,11,9,7,6,8,10,13,17,16,15,18,22,21,20,23,27,26,25,28,38,34,36,35,37,30,32,31,33,39,45,43,44,41,42,46,55,52,53,54,48,50,49,51,56,58,59]]) 0 []) .ret))))))))
theorem gc4_ok:compF Tryz.prog Tryz.f4=some (gc4.er,135,[.tmp 6]):=by unfold gc4;kernel_rfl
theorem p_law31_ConnsTells_v {u1 u2:Bool} (a0:List ConnsConn) (a1:List ConnsConn) (a2:Law31Ask):CallsO Tryz.prog 4 [.sl (List.map ConnsConn.v a0) u1,.sl (List.map ConnsConn.v a1) u2,.agg [.i a2.ID,.i a2.N,.s a2.User,.s a2.Res,.s a2.Bytes]] V.b (tru? (p_law31_ConnsTells a0 a1 a2)):=by
 refine callsO_comp mix Tryz.func4 gc4_ok fun r H=>?_
 have H1:=tru_of H
 clear H
 obtain ⟨rfl,H⟩:=H1
 rw [p_law31_ConnsTells] at H
 conv=>whnf
 obtain ⟨K1,hK2,o3,HL4,HQ5⟩:=join0_c H
 refine join_c [6,5] [16,17,18,19,20,21,22,23,24,25,26,27,28,29,30,31,32,33,34,35,36] (fun vals st=>(K1 (.inr ())=some true∧vals=[.b false,.ptr 0 0]∧st=[.live [.i a2.ID,.i a2.N,.s a2.User,.s a2.Res,.s a2.Bytes] 0])) ?_ ?_
 ·have H:=HL4
  conv=>whnf
  refine ask_c (p_ref31_Light_v _) H rfl rfl (fun v7 H=>?_);conv=>whnf
  refine Tst.not ?_
  refine tst_d H (fun b8 H=>?_) (fun b8 H=>?_)
  ·conv=>whnf
   iterate 14 (refine Tst.T ?_;conv=>whnf)
   refine ask_c (p_law31_awake_v) H rfl rfl (fun v16 H=>?_);conv=>whnf
   obtain rfl:=Option.some.inj H
   have H:=HQ5
   rw [hK2] at H
   try dsimp only at H
   exact fb_ H
  conv=>whnf
  refine Tst.F ?_;conv=>whnf
  refine ask_c (p_ref31_Light_v _) H rfl rfl (fun v9 H=>?_);conv=>whnf
  iterate 2 (refine Tst.F ?_;conv=>whnf)
  refine Tst.not ?_
  refine tst_d H (fun b10 H=>?_) (fun b10 H=>?_)
  ·conv=>whnf
   iterate 10 (refine Tst.T ?_;conv=>whnf)
   refine ask_c (p_law31_awake_v) H rfl rfl (fun v15 H=>?_);conv=>whnf
   obtain rfl:=Option.some.inj H
   have H:=HQ5
   rw [hK2] at H
   try dsimp only at H
   exact fb_ H
  conv=>whnf
  iterate 4 (refine Tst.F ?_;conv=>whnf)
  refine tst_c H (fun b11 H=>?_) (fun b11 H=>?_)
  ·conv=>whnf
   iterate 5 (refine Tst.T ?_;conv=>whnf)
   refine ask_c (p_law31_awake_v) H rfl rfl (fun v12 H=>?_);conv=>whnf
   obtain rfl:=Option.some.inj H
   have H:=HQ5
   rw [hK2] at H
   try dsimp only at H
   exact fb_ H
  conv=>whnf
  iterate 4 (refine Tst.F ?_;conv=>whnf)
  refine tst_c H (fun b13 H=>?_) (fun b13 H=>?_)
  ·conv=>whnf
   refine ask_c (p_law31_awake_v) H rfl rfl (fun v14 H=>?_);conv=>whnf
   obtain rfl:=Option.some.inj H
   have H:=HQ5
   rw [hK2] at H
   try dsimp only at H
   exact fb_ H
  conv=>whnf
  obtain rfl:=Option.some.inj H
  exact arrive_c [16,17,18,19,20,21,22,23,24,25,26,27,28,29,30,31,32,33,34,35,36] 1 [] (⟨HQ5,rfl,rfl⟩) (Nat.zero_le _) rfl (by kernel_rfl) (by kernel_rfl) rfl ⟨⟨rfl,rfl,rfl⟩,trivial⟩
 rintro _ _ (⟨H,rfl,rfl⟩)
 rw [hK2] at H
 try dsimp only at H
 conv=>whnf
 refine ask_c (p_law31_own_v _) H rfl rfl (fun v17 H=>?_);conv=>whnf
 refine ask_c (p_conns_Find_v _ _) H rfl rfl (fun v18 H=>?_);conv=>whnf
 refine lq_ ?_;conv=>whnf
 refine ask_c (p_ref31_Find_v _ _) H rfl rfl (fun v19 H=>?_);conv=>whnf
 refine lq_ ?_;conv=>whnf
 refine cat_c H (fun s20 H=>?_);conv=>whnf
 refine cat_c H (fun s21 H=>?_);conv=>whnf
 refine ask_c (p_conns_ByKey_v _ _) H rfl rfl (fun v22 H=>?_);conv=>whnf
 refine cat_c H (fun s23 H=>?_);conv=>whnf
 refine cat_c H (fun s24 H=>?_);conv=>whnf
 refine ask_c (p_ref31_ByKey_v _ _) H rfl rfl (fun v25 H=>?_);conv=>whnf
 refine ask_c (p_conns_Check_v _) H rfl rfl (fun v26 H=>?_);conv=>whnf
 refine ask_c (p_ref31_Check_v _) H rfl rfl (fun v27 H=>?_);conv=>whnf
 refine tstT_c H (fun b28 H=>?_);conv=>whnf
 iterate 2 (refine Tst.T ?_;conv=>whnf)
 refine askF_c (p_law31_Back_v _) H (.cons (.c (fzown (f:=ConnsConn.v) (l:=[v18.1]) rfl rfl (fun _=>rfl) (fun _=>rfl))) (.nil)) (fun v29 H=>?_);conv=>whnf
 refine Tst.T ?_;conv=>whnf
 refine ixs_c (f:=ConnsConn.v) H (fun _=>rfl) (fun x30 H=>?_);conv=>whnf
 iterate 4 (refine Tst.T ?_;conv=>whnf)
 refine tstT_c H (fun b31 H=>?_);conv=>whnf
 iterate 3 (refine Tst.T ?_;conv=>whnf)
 refine tstT_c H (fun b32 H=>?_);conv=>whnf
 iterate 3 (refine Tst.T ?_;conv=>whnf)
 refine tstT_c H (fun b33 H=>?_);conv=>whnf
 iterate 3 (refine Tst.T ?_;conv=>whnf)
 refine tstT_c H (fun b34 H=>?_);conv=>whnf
 iterate 3 (refine Tst.T ?_;conv=>whnf)
 refine ask_c (p_conns_Sessions_v _ _) H rfl rfl (fun v35 H=>?_);conv=>whnf
 iterate 4 (refine Tst.T ?_;conv=>whnf)
 refine ask_c (p_ref31_Sessions_v _ _) H rfl rfl (fun v36 H=>?_);conv=>whnf
 refine Tst.T ?_;conv=>whnf
 refine ask_c (p_ref01_SameInts_v _ _) H rfl rfl (fun v37 H=>?_);conv=>whnf
 refine Tst.T ?_;conv=>whnf
 refine tstT_c H (fun b38 H=>?_);conv=>whnf
 refine Tst.T ?_;conv=>whnf
 refine ask_c (p_conns_Key_v _) H rfl rfl (fun v39 H=>?_);conv=>whnf
 iterate 2 (refine Tst.T ?_;conv=>whnf)
 refine ask_c (p_ref31_Key_v _) H rfl rfl (fun v40 H=>?_);conv=>whnf
 iterate 2 (refine Tst.T ?_;conv=>whnf)
 refine tstT_c H (fun b41 H=>?_);conv=>whnf
 iterate 2 (refine Tst.T ?_;conv=>whnf)
 refine ask_c (p_law31_own_v _) H rfl rfl (fun v42 H=>?_);conv=>whnf
 refine Tst.T ?_;conv=>whnf
 refine ask_c (p_conns_Same_v _ _) H rfl rfl (fun v43 H=>?_);conv=>whnf
 iterate 3 (refine Tst.T ?_;conv=>whnf)
 refine ask_c (p_ref31_Same_v _ _) H rfl rfl (fun v44 H=>?_);conv=>whnf
 iterate 2 (refine Tst.T ?_;conv=>whnf)
 refine tstT_c H (fun b45 H=>?_);conv=>whnf
 refine ask_c (p_law31_awake_v) H rfl rfl (fun v46 H=>?_);conv=>whnf
 refine Tst.T ?_;conv=>whnf
 refine FootQ.mk ⟨rfl,?_⟩;conv=>whnf
 exact fb_ H
end Go.Proofs.YtdbigmjlhkgeoaaGreat

namespace Go.Proofs.YtdbigmjlhkgeoaaGreat
open Go.ChangeShapes Go.WideShapes Go.ChangeAt Go.RowKit Go.Joins Go.Deep
theorem connsTells_named:Tryz.pinned.checked.prog.funcNamed Rows.connsTellsRow.func=some 4:=by kernel_rfl
theorem connsTells_closed:joinedFacts Tryz.pinned.checked.prog 4 Tryz.f4 Rows.connsTellsSpec Rows.connsTellsRow=true:=by kernel_rfl
end Go.Proofs.YtdbigmjlhkgeoaaGreat

namespace Go.Proofs.YtdbigmjlhkgeoaaGreat
open Go.ChangeShapes Go.WideShapes Go.ChangeAt Go.RowKit Go.Joins Go.Deep
set_option maxRecDepth 100000 in
theorem connsTells_lifted (os:Os) (started:os.Started) (H:Type) (enc:TypeId × Value→H) :
  ReturnsInHanded {} Tryz.checked os 4 .any (Rows.connsTellsSpec.pre6 enc Tryz.prog Tryz.f4 Rows.connsTellsRow.domain false) (Rows.connsTellsSpec.post enc Tryz.prog Tryz.f4 false true false false):=by
 refine returnsInHanded_of_change_shaped (C:=Tryz.checked) own0 started (by kernel_rfl) Tryz.func4
  (ChangeSpec.witness6 (enc:=enc) (C:=Tryz.checked) false ⟨#[],#[.slice none 0 0,.slice none 0 0,.agg #[.int .i64 0,.int .i64 0,.string ⟨#[]⟩,.string ⟨#[]⟩,.string ⟨#[]⟩]],[]⟩ 8 (by kernel_rfl) (by kernel_rfl) (by kernel_rfl) (by kernel_rfl)) ?_
 intro W base args ds gs before hval0 hW hcnd _ hsh _
 have hval:∀ (j:Nat) t v,Tryz.f4.params[j]?=some t→args[j]?=some v→Value.okWide Tryz.prog W .any base t v:=hval0
 have hW':=hW
 obtain ⟨p,q,hA0,hV,rfl,hfz,hnd⟩:=hW
 have hA:DataW.TrodAll enc Tryz.prog W 0 (fun _=>true) true Tryz.f4.params.toList args.toList ds p:=hA0
 rw [Tryz.params4] at hA hval
 have hA2:=hA
 obtain ⟨v0,v1,v2,d0,d1,d2,p0,p1,p2,rfl,rfl,hp,h0,h1,h2⟩:=trodAll_three hA
 obtain ⟨rfl,rfl⟩:=trodVars_none hV
 obtain ⟨fu0,hf0⟩:=h0
 obtain ⟨q0,l0,k0,rfl⟩:=okWide_slice Tryz.underlying22 (hval 0 _ v0 rfl rfl)
 obtain ⟨a0,w0,r0⟩:=rd_T22 hf0
 have hx0:Rep (MW W) noBk _ _:=r0.2 0 (by simp [Value.cells]) (by simp)
 obtain ⟨fu1,hf1⟩:=h1
 obtain ⟨q1,l1,k1,rfl⟩:=okWide_slice Tryz.underlying22 (hval 1 _ v1 rfl rfl)
 obtain ⟨a1,w1,r1⟩:=rd_T22 hf1
 have hx1:Rep (MW W) noBk _ _:=r1.2 0 (by simp [Value.cells]) (by simp)
 obtain ⟨fu2,hf2⟩:=h2
 obtain ⟨cs2,rfl,_⟩:=okWide_struct Tryz.underlying24 (hval 2 _ v2 rfl rfl)
 obtain ⟨a2,w2,r2⟩:=rd_T24 hf2
 have hx2:Rep (MW W) noBk (.agg cs2) (.agg [.i a2.ID,.i a2.N,.s a2.User,.s a2.Res,.s a2.Bytes]):=rep_aggL r2 (by intro u hu;simp only [List.mem_cons,List.not_mem_nil,or_false] at hu;rcases hu with rfl | rfl | rfl | rfl | rfl <;> rfl)
 refine (rep_one (callsO_true (p_law31_ConnsTells_v a0 a1 a2) (tru_ok (connsTells_all a0 a1 a2))) (maxLen_cell W hsh) (repAr3 hx0 hx1 hx2)).mono ?_
 rintro e W' ⟨rfl,bel⟩
 refine ⟨_,rfl,_,_,_,[],p,[],hW',?_,?_,?_,?_,?_⟩
 ·exact trodAll_mk1 (shut_bool Tryz.underlying4 true)
 ·exact trodAll_below laid0 bel (by
   intro t ht
   simp at ht
   rcases ht with rfl | rfl <;> exact ⟨by kernel_rfl,of_decide_eq_true (by kernel_rfl)⟩) hA2
 ·rfl
 ·exact bel.frame _
 ·exact fun h=>by cases h
theorem connsTells_holds:Rows.ConnsTellsSaid :=
 OpenClaim.holds_of_wide 4 Tryz.f4 rfl rfl rfl rfl rfl rfl rfl ⟨rfl,rfl,rfl,rfl,rfl⟩ rfl rfl rfl rfl rfl connsTells_named Tryz.func4 connsTells_closed
  (of_decide_eq_true (by kernel_rfl)) (by unfold Func.isWrapper;first | (rw [if_pos (by decide +kernel)];kernel_rfl) | (rw [if_neg (by decide +kernel)];exact ⟨rfl,rfl⟩))
  (fun os started H enc _=>connsTells_lifted os started H enc)
#print axioms connsTells_holds
end Go.Proofs.YtdbigmjlhkgeoaaGreat

