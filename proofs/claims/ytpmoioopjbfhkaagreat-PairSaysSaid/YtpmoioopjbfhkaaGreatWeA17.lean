/- PairSays: for every input the call returns true, and its arguments read as they did. -/
import Derived.Test.YtpmoioopjbfhkaaGreatWeA6
import Derived.Test.YtpmoioopjbfhkaaGreatWeA9
import Derived.Test.YtpmoioopjbfhkaaGreatWeA10
import Derived.Test.YtpmoioopjbfhkaaGreatWeA13
import Derived.Test.YtpmoioopjbfhkaaGreatWeA15
import Derived.Test.YtpmoioopjbfhkaaGreatWeA16
import Derived.Test.YtpmoioopjbfhkaaGreatWeA5
import Derived.KernelRfl
import Derived.Test.YtpmoioopjbfhkaaGreatRows
set_option linter.all false
namespace Go.Proofs.YtpmoioopjbfhkaaGreat
open Go.ChangeShapes Go.WideShapes Go.ChangeAt Go.RowKit Go.Joins Go.Deep
set_option maxRecDepth 100000 in
theorem rd_T91 {H:Type} {enc:TypeId × Value→H} {W:World} {spare:Nat→Bool} {held:Bool} {fuel:Nat} {cs:List Value} {y:DataW H × List MemPlace} (h:DataW.trod enc Tryz.prog W 0 spare held fuel 91 cs=some y):∃ x:Ref22Names,RepL (MW W) noBk cs [.s x.A,.s x.B]:=by
 obtain ⟨xs,n,_,_,hl,hx,hall⟩:=DataW.trod_struct Tryz.underlying91 h
 have hce:Tryz.prog.cellsOf 91=2:=by kernel_rfl
 rw [hce] at hl
 match cs,hl,hall with
 | [c0,c1],_,hall =>
  obtain ⟨y0,hy0⟩:=get_some hx (show 0 < 2 by omega)
  have g0:DataW.trod enc Tryz.prog W 0 spare held n 9 [c0]=some y0:=by
   have hz:Tryz.prog.cellsOf 9=1:=by kernel_rfl
   have g:DataW.trod enc Tryz.prog W 0 spare held n 9 (([c0,c1].drop 0).take (Tryz.prog.cellsOf 9))=some y0:=(hall 0 _ rfl).trans hy0
   rw [hz] at g;exact g
  obtain ⟨x0,r0⟩:=rd_string Tryz.underlying9 g0
  obtain ⟨y1,hy1⟩:=get_some hx (show 1 < 2 by omega)
  have g1:DataW.trod enc Tryz.prog W 0 spare held n 9 [c1]=some y1:=by
   have hz:Tryz.prog.cellsOf 9=1:=by kernel_rfl
   have g:DataW.trod enc Tryz.prog W 0 spare held n 9 (([c0,c1].drop 1).take (Tryz.prog.cellsOf 9))=some y1:=(hall 1 _ rfl).trans hy1
   rw [hz] at g;exact g
  obtain ⟨x1,r1⟩:=rd_string Tryz.underlying9 g1
  exact ⟨⟨x0,x1⟩,repL_app r0 (repL_app r1 (repL_nil))⟩
structure ItemItem.Wf (x:ItemItem):Prop where
 Sub:(Lit.int .i64 x.Sub).wf=true
 Ver:(Lit.int .i64 x.Ver).wf=true
set_option maxRecDepth 100000 in
theorem rd_T23 {H:Type} {enc:TypeId × Value→H} {W:World} {spare:Nat→Bool} {held:Bool} {fuel:Nat} {cs:List Value} {y:DataW H × List MemPlace} (h:DataW.trod enc Tryz.prog W 0 spare held fuel 23 cs=some y):∃ x:ItemItem,ItemItem.Wf x∧RepL (MW W) noBk cs [.s x.Contact,.s x.Name,.i x.Sub,.i x.Ver,.b x.Own]:=by
 obtain ⟨xs,n,_,_,hl,hx,hall⟩:=DataW.trod_struct Tryz.underlying23 h
 have hce:Tryz.prog.cellsOf 23=5:=by kernel_rfl
 rw [hce] at hl
 match cs,hl,hall with
 | [c0,c1,c2,c3,c4],_,hall =>
  obtain ⟨y0,hy0⟩:=get_some hx (show 0 < 5 by omega)
  have g0:DataW.trod enc Tryz.prog W 0 spare held n 9 [c0]=some y0:=by
   have hz:Tryz.prog.cellsOf 9=1:=by kernel_rfl
   have g:DataW.trod enc Tryz.prog W 0 spare held n 9 (([c0,c1,c2,c3,c4].drop 0).take (Tryz.prog.cellsOf 9))=some y0:=(hall 0 _ rfl).trans hy0
   rw [hz] at g;exact g
  obtain ⟨x0,r0⟩:=rd_string Tryz.underlying9 g0
  obtain ⟨y1,hy1⟩:=get_some hx (show 1 < 5 by omega)
  have g1:DataW.trod enc Tryz.prog W 0 spare held n 9 [c1]=some y1:=by
   have hz:Tryz.prog.cellsOf 9=1:=by kernel_rfl
   have g:DataW.trod enc Tryz.prog W 0 spare held n 9 (([c0,c1,c2,c3,c4].drop 1).take (Tryz.prog.cellsOf 9))=some y1:=(hall 1 _ rfl).trans hy1
   rw [hz] at g;exact g
  obtain ⟨x1,r1⟩:=rd_string Tryz.underlying9 g1
  obtain ⟨y2,hy2⟩:=get_some hx (show 2 < 5 by omega)
  have g2:DataW.trod enc Tryz.prog W 0 spare held n 3 [c2]=some y2:=by
   have hz:Tryz.prog.cellsOf 3=1:=by kernel_rfl
   have g:DataW.trod enc Tryz.prog W 0 spare held n 3 (([c0,c1,c2,c3,c4].drop 2).take (Tryz.prog.cellsOf 3))=some y2:=(hall 2 _ rfl).trans hy2
   rw [hz] at g;exact g
  obtain ⟨x2,w2,r2⟩:=rd_int Tryz.underlying3 g2
  obtain ⟨y3,hy3⟩:=get_some hx (show 3 < 5 by omega)
  have g3:DataW.trod enc Tryz.prog W 0 spare held n 3 [c3]=some y3:=by
   have hz:Tryz.prog.cellsOf 3=1:=by kernel_rfl
   have g:DataW.trod enc Tryz.prog W 0 spare held n 3 (([c0,c1,c2,c3,c4].drop 3).take (Tryz.prog.cellsOf 3))=some y3:=(hall 3 _ rfl).trans hy3
   rw [hz] at g;exact g
  obtain ⟨x3,w3,r3⟩:=rd_int Tryz.underlying3 g3
  obtain ⟨y4,hy4⟩:=get_some hx (show 4 < 5 by omega)
  have g4:DataW.trod enc Tryz.prog W 0 spare held n 4 [c4]=some y4:=by
   have hz:Tryz.prog.cellsOf 4=1:=by kernel_rfl
   have g:DataW.trod enc Tryz.prog W 0 spare held n 4 (([c0,c1,c2,c3,c4].drop 4).take (Tryz.prog.cellsOf 4))=some y4:=(hall 4 _ rfl).trans hy4
   rw [hz] at g;exact g
  obtain ⟨x4,r4⟩:=rd_bool Tryz.underlying4 g4
  exact ⟨⟨x0,x1,x2,x3,x4⟩,⟨w2,w3⟩,repL_app r0 (repL_app r1 (repL_app r2 (repL_app r3 (repL_app r4 (repL_nil)))))⟩
theorem rd_T42 {H:Type} {enc:TypeId × Value→H} {W:World} {spare:Nat→Bool} {held:Bool} {fuel:Nat} {cs:List Value} {y:DataW H × List MemPlace} (h:DataW.trod enc Tryz.prog W 0 spare held fuel 42 cs=some y):∃ x:List ItemItem,(∀ z ∈ x,ItemItem.Wf z)∧RepL (MW W) noBk cs [(fun l:List ItemItem=>V.sl (l.map ItemItem.v) false) x] :=
 rd_slice (f:=ItemItem.v) (es:=5) (wf:=ItemItem.Wf) Tryz.underlying42 (fun _=>rfl) (by intro a v hv;simp [V.cells] at hv;first | (subst hv;rfl) | (rcases hv with rfl | rfl | rfl | rfl | rfl <;> rfl)) (by omega) (by kernel_rfl) (fun n cs y h=>rd_T23 h) h
structure RosterGone.Wf (x:RosterGone):Prop where
 Ver:(Lit.int .i64 x.Ver).wf=true
set_option maxRecDepth 100000 in
theorem rd_T180 {H:Type} {enc:TypeId × Value→H} {W:World} {spare:Nat→Bool} {held:Bool} {fuel:Nat} {cs:List Value} {y:DataW H × List MemPlace} (h:DataW.trod enc Tryz.prog W 0 spare held fuel 180 cs=some y):∃ x:RosterGone,RosterGone.Wf x∧RepL (MW W) noBk cs [.s x.Contact,.i x.Ver]:=by
 obtain ⟨xs,n,_,_,hl,hx,hall⟩:=DataW.trod_struct Tryz.underlying180 h
 have hce:Tryz.prog.cellsOf 180=2:=by kernel_rfl
 rw [hce] at hl
 match cs,hl,hall with
 | [c0,c1],_,hall =>
  obtain ⟨y0,hy0⟩:=get_some hx (show 0 < 2 by omega)
  have g0:DataW.trod enc Tryz.prog W 0 spare held n 9 [c0]=some y0:=by
   have hz:Tryz.prog.cellsOf 9=1:=by kernel_rfl
   have g:DataW.trod enc Tryz.prog W 0 spare held n 9 (([c0,c1].drop 0).take (Tryz.prog.cellsOf 9))=some y0:=(hall 0 _ rfl).trans hy0
   rw [hz] at g;exact g
  obtain ⟨x0,r0⟩:=rd_string Tryz.underlying9 g0
  obtain ⟨y1,hy1⟩:=get_some hx (show 1 < 2 by omega)
  have g1:DataW.trod enc Tryz.prog W 0 spare held n 3 [c1]=some y1:=by
   have hz:Tryz.prog.cellsOf 3=1:=by kernel_rfl
   have g:DataW.trod enc Tryz.prog W 0 spare held n 3 (([c0,c1].drop 1).take (Tryz.prog.cellsOf 3))=some y1:=(hall 1 _ rfl).trans hy1
   rw [hz] at g;exact g
  obtain ⟨x1,w1,r1⟩:=rd_int Tryz.underlying3 g1
  exact ⟨⟨x0,x1⟩,⟨w1⟩,repL_app r0 (repL_app r1 (repL_nil))⟩
theorem rd_T54 {H:Type} {enc:TypeId × Value→H} {W:World} {spare:Nat→Bool} {held:Bool} {fuel:Nat} {cs:List Value} {y:DataW H × List MemPlace} (h:DataW.trod enc Tryz.prog W 0 spare held fuel 54 cs=some y):∃ x:List RosterGone,(∀ z ∈ x,RosterGone.Wf z)∧RepL (MW W) noBk cs [(fun l:List RosterGone=>V.sl (l.map RosterGone.v) false) x] :=
 rd_slice (f:=RosterGone.v) (es:=2) (wf:=RosterGone.Wf) Tryz.underlying54 (fun _=>rfl) (by intro a v hv;simp [V.cells] at hv;first | (subst hv;rfl) | (rcases hv with rfl | rfl <;> rfl)) (by omega) (by kernel_rfl) (fun n cs y h=>rd_T180 h) h
structure RosterState.Wf (x:RosterState):Prop where
 Ver:(Lit.int .i64 x.Ver).wf=true
 Floor:(Lit.int .i64 x.Floor).wf=true
 Items:∀ z ∈ x.Items,ItemItem.Wf z
 Gone:∀ z ∈ x.Gone,RosterGone.Wf z
set_option maxRecDepth 100000 in
theorem rd_T56 {H:Type} {enc:TypeId × Value→H} {W:World} {spare:Nat→Bool} {held:Bool} {fuel:Nat} {cs:List Value} {y:DataW H × List MemPlace} (h:DataW.trod enc Tryz.prog W 0 spare held fuel 56 cs=some y):∃ x:RosterState,RosterState.Wf x∧RepL (MW W) noBk cs [.i x.Ver,.i x.Floor,.sl (List.map ItemItem.v x.Items) false,.sl (List.map RosterGone.v x.Gone) false]:=by
 obtain ⟨xs,n,_,_,hl,hx,hall⟩:=DataW.trod_struct Tryz.underlying56 h
 have hce:Tryz.prog.cellsOf 56=4:=by kernel_rfl
 rw [hce] at hl
 match cs,hl,hall with
 | [c0,c1,c2,c3],_,hall =>
  obtain ⟨y0,hy0⟩:=get_some hx (show 0 < 4 by omega)
  have g0:DataW.trod enc Tryz.prog W 0 spare held n 3 [c0]=some y0:=by
   have hz:Tryz.prog.cellsOf 3=1:=by kernel_rfl
   have g:DataW.trod enc Tryz.prog W 0 spare held n 3 (([c0,c1,c2,c3].drop 0).take (Tryz.prog.cellsOf 3))=some y0:=(hall 0 _ rfl).trans hy0
   rw [hz] at g;exact g
  obtain ⟨x0,w0,r0⟩:=rd_int Tryz.underlying3 g0
  obtain ⟨y1,hy1⟩:=get_some hx (show 1 < 4 by omega)
  have g1:DataW.trod enc Tryz.prog W 0 spare held n 3 [c1]=some y1:=by
   have hz:Tryz.prog.cellsOf 3=1:=by kernel_rfl
   have g:DataW.trod enc Tryz.prog W 0 spare held n 3 (([c0,c1,c2,c3].drop 1).take (Tryz.prog.cellsOf 3))=some y1:=(hall 1 _ rfl).trans hy1
   rw [hz] at g;exact g
  obtain ⟨x1,w1,r1⟩:=rd_int Tryz.underlying3 g1
  obtain ⟨y2,hy2⟩:=get_some hx (show 2 < 4 by omega)
  have g2:DataW.trod enc Tryz.prog W 0 spare held n 42 [c2]=some y2:=by
   have hz:Tryz.prog.cellsOf 42=1:=by kernel_rfl
   have g:DataW.trod enc Tryz.prog W 0 spare held n 42 (([c0,c1,c2,c3].drop 2).take (Tryz.prog.cellsOf 42))=some y2:=(hall 2 _ rfl).trans hy2
   rw [hz] at g;exact g
  obtain ⟨x2,w2,r2⟩:=rd_T42 g2
  obtain ⟨y3,hy3⟩:=get_some hx (show 3 < 4 by omega)
  have g3:DataW.trod enc Tryz.prog W 0 spare held n 54 [c3]=some y3:=by
   have hz:Tryz.prog.cellsOf 54=1:=by kernel_rfl
   have g:DataW.trod enc Tryz.prog W 0 spare held n 54 (([c0,c1,c2,c3].drop 3).take (Tryz.prog.cellsOf 54))=some y3:=(hall 3 _ rfl).trans hy3
   rw [hz] at g;exact g
  obtain ⟨x3,w3,r3⟩:=rd_T54 g3
  exact ⟨⟨x0,x1,x2,x3⟩,⟨w0,w1,w2,w3⟩,repL_app r0 (repL_app r1 (repL_app r2 (repL_app r3 (repL_nil))))⟩
structure Ref22State.Wf (x:Ref22State):Prop where
 A:RosterState.Wf x.A
 B:RosterState.Wf x.B
set_option maxRecDepth 100000 in
theorem rd_T93 {H:Type} {enc:TypeId × Value→H} {W:World} {spare:Nat→Bool} {held:Bool} {fuel:Nat} {cs:List Value} {y:DataW H × List MemPlace} (h:DataW.trod enc Tryz.prog W 0 spare held fuel 93 cs=some y):∃ x:Ref22State,Ref22State.Wf x∧RepL (MW W) noBk cs [.i x.A.Ver,.i x.A.Floor,.sl (List.map ItemItem.v x.A.Items) false,.sl (List.map RosterGone.v x.A.Gone) false,.i x.B.Ver,.i x.B.Floor,.sl (List.map ItemItem.v x.B.Items) false,.sl (List.map RosterGone.v x.B.Gone) false]:=by
 obtain ⟨xs,n,_,_,hl,hx,hall⟩:=DataW.trod_struct Tryz.underlying93 h
 have hce:Tryz.prog.cellsOf 93=8:=by kernel_rfl
 rw [hce] at hl
 match cs,hl,hall with
 | [c0,c1,c2,c3,c4,c5,c6,c7],_,hall =>
  obtain ⟨y0,hy0⟩:=get_some hx (show 0 < 2 by omega)
  have g0:DataW.trod enc Tryz.prog W 0 spare held n 56 [c0,c1,c2,c3]=some y0:=by
   have hz:Tryz.prog.cellsOf 56=4:=by kernel_rfl
   have g:DataW.trod enc Tryz.prog W 0 spare held n 56 (([c0,c1,c2,c3,c4,c5,c6,c7].drop 0).take (Tryz.prog.cellsOf 56))=some y0:=(hall 0 _ rfl).trans hy0
   rw [hz] at g;exact g
  obtain ⟨x0,w0,r0⟩:=rd_T56 g0
  obtain ⟨y1,hy1⟩:=get_some hx (show 1 < 2 by omega)
  have g1:DataW.trod enc Tryz.prog W 0 spare held n 56 [c4,c5,c6,c7]=some y1:=by
   have hz:Tryz.prog.cellsOf 56=4:=by kernel_rfl
   have g:DataW.trod enc Tryz.prog W 0 spare held n 56 (([c0,c1,c2,c3,c4,c5,c6,c7].drop 4).take (Tryz.prog.cellsOf 56))=some y1:=(hall 1 _ rfl).trans hy1
   rw [hz] at g;exact g
  obtain ⟨x1,w1,r1⟩:=rd_T56 g1
  exact ⟨⟨x0,x1⟩,⟨w0,w1⟩,repL_app r0 (repL_app r1 (repL_nil))⟩
end Go.Proofs.YtpmoioopjbfhkaaGreat

namespace Go.Proofs.YtpmoioopjbfhkaaGreat
open Go.RowKit
set_option maxRecDepth 1000000
set_option maxHeartbeats 4000000
def gc7:BCode:=(.seq (R_ 2 [O_ 3 (.bx (t_ 0)) 0,O_ 4 (.bx (t_ 1)) 1,O_ 6 (.mv (b_ false)) 2]) (.seq (.seq (R_ 0 [O_ 25 (.ld 2 true (t_ 3)) 0,O_ 26 (.ld 8 true (t_ 4)) 0,O_ 27 (.cl 53 [(t_ 25),(t_ 26)]) 0,O_ 28 (.un .not (t_ 27)) 0]) (.cond (t_ 28) (.seq (R_ 0 [O_ 29 (.cl 54 []) 0,O_ 6 (.mv (t_ 29)) 0]) .ret) .skip)) (.seq (.reg 2 [O_ 30 (.ld 2 true (t_ 3)) 0,O_ 31 (.ld 8 true (t_ 4)) 0,O_ 32 (.cl 55 [(t_ 31)]) 0,O_ 7 (.al (.agg [(.lit (.string ⟨#[]⟩)),(.lit (.string ⟨#[]⟩))])) 0,O_ 8 (.al (.agg [(.lit (.int .i64 0)),(.lit (.int .i64 0)),(.sl [] true),(.sl [] true),(.lit (.int .i64 0)),(.lit (.int .i64 0)),(.sl [] true),(.sl [] true)])) 1,U_ (.st 2 (t_ 7) (t_ 30)) 2,U_ (.st 8 (t_ 8) (t_ 32)) 2] (some [[],[],[1],[],[],[4,1,2,0,3],[3,0,5,1,2,4]]) 0 []) (.seq (R_ 2 [O_ 34 (.ld 2 true (t_ 7)) 0,O_ 35 (.ld 8 true (t_ 8)) 0,O_ 36 (.mv (t_ 2)) 0,O_ 37 (.cl 56 [(t_ 34),(t_ 35),(t_ 36)]) 0,O_ 33 (.mv (t_ 37)) 0,O_ 38 (.ex (t_ 33) 0) 0,O_ 39 (.ex (t_ 33) 1) 0,O_ 40 (.ex (t_ 33) 2) 0,O_ 9 (.al (.agg [(.lit (.int .i64 0)),(.lit (.int .i64 0)),(.sl [] true),(.sl [] true),(.lit (.int .i64 0)),(.lit (.int .i64 0)),(.sl [] true),(.sl [] true)])) 0,O_ 10 (.al (.agg [(.lit (.bool false)),(.lit (.bool false)),(.lit (.bool false)),(.lit (.bool false))])) 1,U_ (.st 8 (t_ 9) (t_ 38)) 2,U_ (.st 4 (t_ 10) (t_ 39)) 2,O_ 11 (.mv (t_ 40)) 2]) (.seq (R_ 2 [O_ 42 (.ld 2 true (t_ 3)) 0,O_ 43 (.ld 8 true (t_ 4)) 0,O_ 44 (.mv (t_ 2)) 0,O_ 45 (.cl 57 [(t_ 42),(t_ 43),(t_ 44)]) 0,O_ 41 (.mv (t_ 45)) 0,O_ 46 (.ex (t_ 41) 0) 0,O_ 47 (.ex (t_ 41) 1) 0,O_ 48 (.ex (t_ 41) 2) 0,O_ 12 (.al (.agg [(.lit (.int .i64 0)),(.lit (.int .i64 0)),(.sl [] true),(.sl [] true),(.lit (.int .i64 0)),(.lit (.int .i64 0)),(.sl [] true),(.sl [] true)])) 0,O_ 13 (.al (.agg [(.lit (.bool false)),(.lit (.bool false)),(.lit (.bool false)),(.lit (.bool false))])) 1,U_ (.st 8 (t_ 12) (t_ 46)) 2,U_ (.st 4 (t_ 13) (t_ 47)) 2,O_ 14 (.mv (t_ 48)) 2]) (.seq (R_ 2 [O_ 50 (.ld 2 true (t_ 7)) 0,O_ 51 (.ld 8 true (t_ 8)) 0,O_ 52 (.cl 58 [(t_ 50),(t_ 51)]) 0,O_ 49 (.mv (t_ 52)) 0,O_ 53 (.ex (t_ 49) 0) 0,O_ 54 (.ex (t_ 49) 1) 0,O_ 55 (.ex (t_ 49) 2) 0,O_ 15 (.al (.agg [(.lit (.int .i64 0)),(.lit (.int .i64 0)),(.sl [] true),(.sl [] true),(.lit (.int .i64 0)),(.lit (.int .i64 0)),(.sl [] true),(.sl [] true)])) 0,O_ 16 (.al (.agg [(.lit (.bool false)),(.lit (.bool false))])) 1,U_ (.st 8 (t_ 15) (t_ 53)) 2,U_ (.st 2 (t_ 16) (t_ 54)) 2,O_ 17 (.mv (t_ 55)) 2]) (.seq (R_ 2 [O_ 57 (.ld 2 true (t_ 3)) 0,O_ 58 (.ld 8 true (t_ 4)) 0,O_ 59 (.cl 59 [(t_ 57),(t_ 58)]) 0,O_ 56 (.mv (t_ 59)) 0,O_ 60 (.ex (t_ 56) 0) 0,O_ 61 (.ex (t_ 56) 1) 0,O_ 62 (.ex (t_ 56) 2) 0,O_ 18 (.al (.agg [(.lit (.int .i64 0)),(.lit (.int .i64 0)),(.sl [] true),(.sl [] true),(.lit (.int .i64 0)),(.lit (.int .i64 0)),(.sl [] true),(.sl [] true)])) 0,O_ 19 (.al (.agg [(.lit (.bool false)),(.lit (.bool false))])) 1,U_ (.st 8 (t_ 18) (t_ 60)) 2,U_ (.st 2 (t_ 19) (t_ 61)) 2,O_ 20 (.mv (t_ 62)) 2]) (.seq (R_ 2 [O_ 64 (.ld 2 true (t_ 7)) 0,O_ 65 (.ld 8 true (t_ 8)) 0,O_ 66 (.cl 60 [(t_ 64),(t_ 65)]) 0,O_ 63 (.mv (t_ 66)) 0,O_ 67 (.ex (t_ 63) 0) 0,O_ 68 (.ex (t_ 63) 1) 0,O_ 21 (.al (.agg [(.lit (.string ⟨#[]⟩)),(.lit (.string ⟨#[]⟩))])) 0,O_ 22 (.al (.agg [(.lit (.int .i64 0)),(.lit (.int .i64 0)),(.sl [] true),(.sl [] true),(.lit (.int .i64 0)),(.lit (.int .i64 0)),(.sl [] true),(.sl [] true)])) 1,U_ (.st 2 (t_ 21) (t_ 67)) 2,U_ (.st 8 (t_ 22) (t_ 68)) 2]) (.seq (R_ 2 [O_ 70 (.ld 2 true (t_ 3)) 0,O_ 71 (.ld 8 true (t_ 4)) 0,O_ 72 (.cl 61 [(t_ 70),(t_ 71)]) 0,O_ 69 (.mv (t_ 72)) 0,O_ 73 (.ex (t_ 69) 0) 0,O_ 74 (.ex (t_ 69) 1) 0,O_ 23 (.al (.agg [(.lit (.string ⟨#[]⟩)),(.lit (.string ⟨#[]⟩))])) 0,O_ 24 (.al (.agg [(.lit (.int .i64 0)),(.lit (.int .i64 0)),(.sl [] true),(.sl [] true),(.lit (.int .i64 0)),(.lit (.int .i64 0)),(.sl [] true),(.sl [] true)])) 1,U_ (.st 2 (t_ 23) (t_ 73)) 2,U_ (.st 8 (t_ 24) (t_ 74)) 2]) (.seq (.reg 0 [O_ 75 (.ld 8 true (t_ 9)) 0,O_ 76 (.cl 63 [(t_ 75)]) 0,O_ 77 (.ld 8 true (t_ 12)) 0,O_ 78 (.cl 62 [(t_ 76),(t_ 77)]) 0,O_ 79 (.mv (t_ 78)) 0,⟨(some 80),.ld 4 true (t_ 10),(some (79,true)),0⟩,⟨(some 81),.ld 4 true (t_ 13),(some (79,true)),0⟩,⟨(some 82),.eqa false [0,0,0,0] (t_ 80) (t_ 81),(some (79,true)),0⟩,O_ 83 (.pick (t_ 79) (t_ 82) (b_ false)) 0,O_ 84 (.mv (t_ 83)) 0,⟨(some 85),.mv (t_ 11),(some (84,true)),0⟩,⟨(some 86),.mv (t_ 14),(some (84,true)),0⟩,⟨(some 87),.bin .eql (t_ 85) (t_ 86),(some (84,true)),0⟩,O_ 88 (.pick (t_ 84) (t_ 87) (b_ false)) 0,O_ 89 (.mv (t_ 88)) 0,⟨(some 90),.ld 8 true (t_ 15),(some (89,true)),0⟩,⟨(some 91),.cl 63 [(t_ 90)],(some (89,true)),0⟩,⟨(some 92),.ld 8 true (t_ 18),(some (89,true)),0⟩,⟨(some 93),.cl 62 [(t_ 91),(t_ 92)],(some (89,true)),0⟩,O_ 94 (.pick (t_ 89) (t_ 93) (b_ false)) 0,O_ 95 (.mv (t_ 94)) 0,⟨(some 96),.ld 2 true (t_ 16),(some (95,true)),0⟩,⟨(some 97),.ld 2 true (t_ 19),(some (95,true)),0⟩,⟨(some 98),.eqa false [0,0] (t_ 96) (t_ 97),(some (95,true)),0⟩,O_ 99 (.pick (t_ 95) (t_ 98) (b_ false)) 0,O_ 100 (.mv (t_ 99)) 0,⟨(some 101),.mv (t_ 17),(some (100,true)),0⟩,⟨(some 102),.mv (t_ 20),(some (100,true)),0⟩,⟨(some 103),.bin .eql (t_ 101) (t_ 102),(some (100,true)),0⟩,O_ 104 (.pick (t_ 100) (t_ 103) (b_ false)) 0,O_ 105 (.mv (t_ 104)) 0,⟨(some 106),.ld 2 true (t_ 21),(some (105,true)),0⟩,⟨(some 107),.ld 2 true (t_ 23),(some (105,true)),0⟩,⟨(some 108),.eqa false [2,2] (t_ 106) (t_ 107),(some (105,true)),0⟩,O_ 109 (.pick (t_ 105) (t_ 108) (b_ false)) 0,O_ 110 (.mv (t_ 109)) 0,⟨(some 111),.ld 8 true (t_ 22),(some (110,true)),0⟩,⟨(some 112),.cl 63 [(t_ 111)],(some (110,true)),0⟩,⟨(some 113),.ld 8 true (t_ 24),(some (110,true)),0⟩,⟨(some 114),.cl 62 [(t_ 112),(t_ 113)],(some (110,true)),0⟩,O_ 115 (.pick (t_ 110) (t_ 114) (b_ false)) 0,O_ 116 (.mv (t_ 115)) 0,⟨(some 117),.ld 2 true (t_ 7),(some (116,true)),0⟩,⟨(some 118),.ld 8 true (t_ 8),(some (116,true)),0⟩,⟨(some 119),.cl 64 [(t_ 117),(t_ 118)],(some (116,true)),0⟩,⟨(some 120),.ld 2 true (t_ 3),(some (116,true)),0⟩,⟨(some 121),.ld 8 true (t_ 4),(some (116,true)),0⟩,⟨(some 122),.cl 65 [(t_ 120),(t_ 121)],(some (116,true)),0⟩,⟨(some 123),.bin .eql (t_ 119) (t_ 122),(some (116,true)),0⟩,O_ 124 (.pick (t_ 116) (t_ 123) (b_ false)) 0,O_ 125 (.mv (t_ 124)) 0,⟨(some 126),.ld 2 true (t_ 7),(some (125,true)),0⟩,⟨(some 127),.ld 8 true (t_ 8),(some (125,true)),0⟩,⟨(some 128),.cl 66 [(t_ 126),(t_ 127)],(some (125,true)),0⟩,⟨(some 129),.ld 2 true (t_ 3),(some (125,true)),0⟩,⟨(some 130),.ld 8 true (t_ 4),(some (125,true)),0⟩,⟨(some 131),.cl 67 [(t_ 129),(t_ 130)],(some (125,true)),0⟩,⟨(some 132),.binb false (t_ 128) (t_ 131),(some (125,true)),0⟩,O_ 133 (.pick (t_ 125) (t_ 132) (b_ false)) 0,O_ 134 (.mv (t_ 133)) 0,⟨(some 135),.ld 2 true (t_ 7),(some (134,true)),0⟩,⟨(some 136),.ld 8 true (t_ 8),(some (134,true)),0⟩,⟨(some 137),.cl 68 [(t_ 135),(t_ 136)],(some (134,true)),0⟩,⟨(some 138),.ld 2 true (t_ 3),(some (134,true)),0⟩,⟨(some 139),.ld 8 true (t_ 4),(some (134,true)),0⟩,⟨(some 140),.cl 69 [(t_ 138),(t_ 139)],(some (134,true)),0⟩,⟨(some 141),.binb false (t_ 137) (t_ 140),(some (134,true)),0⟩,O_ 142 (.pick (t_ 134) (t_ 141) (b_ false)) 0,O_ 143 (.mv (t_ 142)) 0,⟨(some 144),.ld 8 true (t_ 8),(some (143,true)),0⟩,⟨(some 145),.cl 63 [(t_ 144)],(some (143,true)),0⟩,⟨(some 146),.ld 8 true (t_ 4),(some (143,true)),0⟩,⟨(some 147),.cl 62 [(t_ 145),(t_ 146)],(some (143,true)),0⟩,O_ 148 (.pick (t_ 143) (t_ 147) (b_ false)) 0,O_ 149 (.mv (t_ 148)) 0,⟨(some 150),.cl 54 [],(some (149,true)),0⟩,O_ 151 (.pick (t_ 149) (t_ 150) (b_ false)) 0,O_ 6 (.mv (t_ 151)) 0] (some [[],[0],[],[2,0,1],[1,0,2,3],[3,2,0,1,4],[3,2,0,1,4],[6,4,1,0,2,3,5],[5,6,7,3,2,0,1,4],[4,1,0,2,3,7,6,5,8],[8,5,6,7,3,2,0,1,4,9],[8,5,6,7,3,2,0,1,4,9],[11,9,4,1,0,2,3,7,6,5,8,10],[10,11,12,8,5,6,7,3,2,0,1,4,9],[9,4,1,0,2,3,7,6,5,8,12,11,10,13],[13,10,11,12,8,5,6,7,3,2,0,1,4,9,14],[14,9,4,1,0,2,3,7,6,5,8,12,11,10,13,15],[13,10,11,12,8,5,6,7,3,2,0,1,4,9,14],[17,15,13,10,11,12,8,5,6,7,3,2,0,1,4,9,14,16],[16,15,17,18,13,10,11,12,8,5,6,7,3,2,0,1,4,9,14],[14,9,4,1,0,2,3,7,6,5,8,12,11,10,13,18,17,15,16,19],[19,16,15,17,18,13,10,11,12,8,5,6,7,3,2,0,1,4,9,14,20],[19,16,15,17,18,13,10,11,12,8,5,6,7,3,2,0,1,4,9,14,20],[22,20,14,9,4,1,0,2,3,7,6,5,8,12,11,10,13,18,17,15,16,19,21],[21,22,23,19,16,15,17,18,13,10,11,12,8,5,6,7,3,2,0,1,4,9,14,20],[20,14,9,4,1,0,2,3,7,6,5,8,12,11,10,13,18,17,15,16,19,23,22,21,24],[24,21,22,23,19,16,15,17,18,13,10,11,12,8,5,6,7,3,2,0,1,4,9,14,20,25],[24,21,22,23,19,16,15,17,18,13,10,11,12,8,5,6,7,3,2,0,1,4,9,14,20,25],[27,25,20,14,9,4,1,0,2,3,7,6,5,8,12,11,10,13,18,17,15,16,19,23,22,21,24,26],[26,27,28,24,21,22,23,19,16,15,17,18,13,10,11,12,8,5,6,7,3,2,0,1,4,9,14,20,25],[25,20,14,9,4,1,0,2,3,7,6,5,8,12,11,10,13,18,17,15,16,19,23,22,21,24,28,27,26,29],[29,26,27,28,24,21,22,23,19,16,15,17,18,13,10,11,12,8,5,6,7,3,2,0,1,4,9,14,20,25,30],[29,26,27,28,24,21,22,23,19,16,15,17,18,13,10,11,12,8,5,6,7,3,2,0,1,4,9,14,20,25,30],[32,30,25,20,14,9,4,1,0,2,3,7,6,5,8,12,11,10,13,18,17,15,16,19,23,22,21,24,28,27,26,29,31],[31,32,33,29,26,27,28,24,21,22,23,19,16,15,17,18,13,10,11,12,8,5,6,7,3,2,0,1,4,9,14,20,25,30],[30,25,20,14,9,4,1,0,2,3,7,6,5,8,12,11,10,13,18,17,15,16,19,23,22,21,24,28,27,26,29,33,32,31,34],[34,31,32,33,29,26,27,28,24,21,22,23,19,16,15,17,18,13,10,11,12,8,5,6,7,3,2,0,1,4,9,14,20,25,30,35],[35,30,25,20,14,9,4,1,0,2,3,7,6,5,8,12,11,10,13,18,17,15,16,19,23,22,21,24,28,27,26,29,33,32,31,34,36],[34,31,32,33,29,26,27,28,24,21,22,23,19,16,15,17,18,13,10,11,12,8,5,6,7,3,2,0,1,4,9,14,20,25,30,35],[38,36,34,31,32,33,29,26,27,28,24,21,22,23,19,16,15,17,18,13,10,11,12,8,5,6,7,3,2,0,1,4,9,14,20,25,30,35,37],[37,36,38,39,34,31,32,33,29,26,27,28,24,21,22,23,19,16,15,17,18,13,10,11,12,8,5,6,7,3,2,0,1,4,9,14,20,25,30,35],[35,30,25,20,14,9,4,1,0,2,3,7,6,5,8,12,11,10,13,18,17,15,16,19,23,22,21,24,28,27,26,29,33,32,31,34,39,38,36,37,40],[40,37,36,38,39,34,31,32,33,29,26,27,28,24,21,22,23,19,16,15,17,18,13,10,11,12,8,5,6,7,3,2,0,1,4,9,14,20,25,30,35,41],[40,37,36,38,39,34,31,32,33,29,26,27,28,24,21,22,23,19,16,15,17,18,13,10,11,12,8,5,6,7,3,2,0,1,4,9,14,20,25,30,35,41],[43,41,35,30,25,20,14,9,4,1,0,2,3,7,6,5,8,12,11,10,13,18,17,15,16,19,23,22,21,24,28,27,26,29,33,32,31,34,39,38,36,37,40,42],[40,37,36,38,39,34,31,32,33,29,26,27,28,24,21,22,23,19,16,15,17,18,13,10,11,12,8,5,6,7,3,2,0,1,4,9,14,20,25,30,35,41],[40,37,36,38,39,34,31,32,33,29,26,27,28,24,21,22,23,19,16,15,17,18,13,10,11,12,8,5,6,7,3,2,0,1,4,9,14,20,25,30,35,41],[42,43,44,46,41,35,30,25,20,14,9,4,1,0,2,3,7,6,5,8,12,11,10,13,18,17,15,16,19,23,22,21,24,28,27,26,29,33,32,31,34,39,38,36,37,40,45],[45,46,47,42,40,37,36,38,39,34,31,32,33,29,26,27,28,24,21,22,23,19,16,15,17,18,13,10,11,12,8,5,6,7,3,2,0,1,4,9,14,20,25,30,35,41,43,44],[44,43,42,47,46,45,48,40,37,36,38,39,34,31,32,33,29,26,27,28,24,21,22,23,19,16,15,17,18,13,10,11,12,8,5,6,7,3,2,0,1,4,9,14,20,25,30,35,41],[41,35,30,25,20,14,9,4,1,0,2,3,7,6,5,8,12,11,10,13,18,17,15,16,19,23,22,21,24,28,27,26,29,33,32,31,34,39,38,36,37,40,48,45,46,47,42,43,44,49],[49,44,43,42,47,46,45,48,40,37,36,38,39,34,31,32,33,29,26,27,28,24,21,22,23,19,16,15,17,18,13,10,11,12,8,5,6,7,3,2,0,1,4,9,14,20,25,30,35,41,50],[49,44,43,42,47,46,45,48,40,37,36,38,39,34,31,32,33,29,26,27,28,24,21,22,23,19,16,15,17,18,13,10,11,12,8,5,6,7,3,2,0,1,4,9,14,20,25,30,35,41,50],[52,50,41,35,30,25,20,14,9,4,1,0,2,3,7,6,5,8,12,11,10,13,18,17,15,16,19,23,22,21,24,28,27,26,29,33,32,31,34,39,38,36,37,40,48,45,46,47,42,43,44,49,51],[49,44,43,42,47,46,45,48,40,37,36,38,39,34,31,32,33,29,26,27,28,24,21,22,23,19,16,15,17,18,13,10,11,12,8,5,6,7,3,2,0,1,4,9,14,20,25,30,35,41,50],[49,44,43,42,47,46,45,48,40,37,36,38,39,34,31,32,33,29,26,27,28,24,21,22,23,19,16,15,17,18,13,10,11,12,8,5,6,7,3,2,0,1,4,9,14,20,25,30,35,41,50],[51,52,53,55,50,41,35,30,25,20,14,9,4,1,0,2,3,7,6,5,8,12,11,10,13,18,17,15,16,19,23,22,21,24,28,27,26,29,33,32,31,34,39,38,36,37,40,48,45,46,47,42,43,44,49,54],[54,55,56,51,49,44,43,42,47,46,45,48,40,37,36,38,39,34,31,32,33,29,26,27,28,24,21,22,23,19,16,15,17,18,13,10,11,12,8,5,6,7,3,2,0,1,4,9,14,20,25,30,35,41,50,52,53],[53,52,51,56,55,54,57,49,44,43,42,47,46,45,48,40,37,36,38,39,34,31,32,33,29,26,27,28,24,21,22,23,19,16,15,17,18,13,10,11,12,8,5,6,7,3,2,0,1,4,9,14,20,25,30,35,41,50],[50,41,35,30,25,20,14,9,4,1,0,2,3,7,6,5,8,12,11,10,13,18,17,15,16,19,23,22,21,24,28,27,26,29,33,32,31,34,39,38,36,37,40,48,45,46,47,42,43,44,49,57,54,55,56,51,52,53,58],[58,53,52,51,56,55,54,57,49,44,43,42,47,46,45,48,40,37,36,38,39,34,31,32,33,29,26,27,28,24,21,22,23,19,16,15,17,18,13,10,11,12,8,5,6,7,3,2,0,1,4,9,14,20,25,30,35,41,50,59],[58,53,52,51,56,55,54,57,49,44,43,42,47,46,45,48,40,37,36,38,39,34,31,32,33,29,26,27,28,24,21,22,23,19,16,15,17,18,13,10,11,12,8,5,6,7,3,2,0,1,4,9,14,20,25,30,35,41,50,59],[61,59,50,41,35,30,25,20,14,9,4,1,0,2,3,7,6,5,8,12,11,10,13,18,17,15,16,19,23,22,21,24,28,27,26,29,33,32,31,34,39,38,36,37,40,48,45,46,47,42,43,44,49,57,54,55,56,51,52,53,58,60],[58,53,52,51,56,55,54,57,49,44,43,42,47,46,45,48,40,37,36,38,39,34,31,32,33,29,26,27,28,24,21,22,23,19,16,15,17,18,13,10,11,12,8,5,6,7,3,2,0,1,4,9,14,20,25,30,35,41,50,59],[58,53,52,51,56,55,54,57,49,44,43,42,47,46,45,48,40,37,36,38,39,34,31,32,33,29,26,27,28,24,21,22,23,19,16,15,17,18,13,10,11,12,8,5,6,7,3,2,0,1,4,9,14,20,25,30,35,41,50,59],[60,61,62,64,59,50,41,35,30,25,20,14,9,4,1,0,2,3,7,6,5,8,12,11,10,13,18,17,15,16,19,23,22,21,24,28,27,26,29,33,32,31,34,39,38,36,37,40,48,45,46,47,42,43,44,49,57,54,55,56,51,52,53,58,63],[63,64,65,60,58,53,52,51,56,55,54,57,49,44,43,42,47,46,45,48,40,37,36,38,39,34,31,32,33,29,26,27,28,24,21,22,23,19,16,15,17,18,13,10,11,12,8,5,6,7,3,2,0,1,4,9,14,20,25,30,35,41,50,59,61,62],[62,61,60,65,64,63,66,58,53,52,51,56,55,54,57,49,44,43,42,47,46,45,48,40,37,36,38,39,34,31,32,33,29,26,27,28,24,21,22,23,19,16,15,17,18,13,10,11,12,8,5,6,7,3,2,0,1,4,9,14,20,25,30,35,41,50,59],[59,50,41,35,30,25,20,14,9,4,1,0,2,3,7,6,5,8,12,11,10,13,18,17,15,16,19,23,22,21,24,28,27,26,29,33,32,31,34,39,38,36,37,40,48,45,46,47,42,43,44,49,57,54,55,56,51,52,53,58,66,63,64,65,60,61,62,67],[67,62,61,60,65,64,63,66,58,53,52,51,56,55,54,57,49,44,43,42,47,46,45,48,40,37,36,38,39,34,31,32,33,29,26,27,28,24,21,22,23,19,16,15,17,18,13,10,11,12,8,5,6,7,3,2,0,1,4,9,14,20,25,30,35,41,50,59,68],[68,59,50,41,35,30,25,20,14,9,4,1,0,2,3,7,6,5,8,12,11,10,13,18,17,15,16,19,23,22,21,24,28,27,26,29,33,32,31,34,39,38,36,37,40,48,45,46,47,42,43,44,49,57,54,55,56,51,52,53,58,66,63,64,65,60,61,62,67,69],[67,62,61,60,65,64,63,66,58,53,52,51,56,55,54,57,49,44,43,42,47,46,45,48,40,37,36,38,39,34,31,32,33,29,26,27,28,24,21,22,23,19,16,15,17,18,13,10,11,12,8,5,6,7,3,2,0,1,4,9,14,20,25,30,35,41,50,59,68],[71,69,67,62,61,60,65,64,63,66,58,53,52,51,56,55,54,57,49,44,43,42,47,46,45,48,40,37,36,38,39,34,31,32,33,29,26,27,28,24,21,22,23,19,16,15,17,18,13,10,11,12,8,5,6,7,3,2,0,1,4,9,14,20,25,30,35,41,50,59,68,70],[70,69,71,72,67,62,61,60,65,64,63,66,58,53,52,51,56,55,54,57,49,44,43,42,47,46,45,48,40,37,36,38,39,34,31,32,33,29,26,27,28,24,21,22,23,19,16,15,17,18,13,10,11,12,8,5,6,7,3,2,0,1,4,9,14,20,25,30,35,41,50,59,68],[68,59,50,41,35,30,25,20,14,9,4,1,0,2,3,7,6,5,8,12,11,10,13,18,17,15,16,19,23,22,21,24,28,27,26,29,33,32,31,34,39,38,36,37,40,48,45,46,47,42,43,44,49,57,54,55,56,51,52,53,58,66,63,64,65,60,61,62,67,72,71,69,70,73],[73,70,69,71,72,67,62,61,60,65,64,63,66,58,53,52,51,56,55,54,57,49,44,43,42,47,46,45,48,40,37,36,38,39,34,31,32,33,29,26,27,28,24,21,22,23,19,16,15,17,18,13,10,11,12,8,5,6,7,3,2,0,1,4,9,14,20,25,30,35,41,50,59,68,74],[75,73,70,69,71,72,67,62,61,60,65,64,63,66,58,53,52,51,56,55,54,57,49,44,43,42,47,46,45,48,40,37,36,38,39,34,31,32,33,29,26,27,28,24,21,22,23,19,16,15,17,18,13,10,11,12,8,5,6,7,3,2,0,1,4,9,14,20,25,30,35,41,50,59,68,74],[74,68,59,50,41,35,30,25,20,14,9,4,1,0,2,3,7,6,5,8,12,11,10,13,18,17,15,16,19,23,22,21,24,28,27,26,29,33,32,31,34,39,38,36,37,40,48,45,46,47,42,43,44,49,57,54,55,56,51,52,53,58,66,63,64,65,60,61,62,67,72,71,69,70,73,75,76]]) 0 []) .ret))))))))))
theorem gc7_ok:compF Tryz.prog Tryz.f7=some (gc7.er,152,[.tmp 6]):=by unfold gc7;kernel_rfl
theorem p_law22_PairSays_v {u1 u2 u3 u4:Bool} (a0:Ref22Names) (a1:Ref22State) (a2:Int):CallsO Tryz.prog 7 [.agg [.s a0.A,.s a0.B],.agg [.i a1.A.Ver,.i a1.A.Floor,.sl (List.map ItemItem.v a1.A.Items) u1,.sl (List.map RosterGone.v a1.A.Gone) u2,.i a1.B.Ver,.i a1.B.Floor,.sl (List.map ItemItem.v a1.B.Items) u3,.sl (List.map RosterGone.v a1.B.Gone) u4],.y8 a2] V.b (tru? (p_law22_PairSays a0 a1 a2)):=by
 refine callsO_comp mix Tryz.func7 gc7_ok fun r H=>?_
 have H1:=tru_of H
 clear H
 obtain ⟨rfl,H⟩:=H1
 rw [p_law22_PairSays] at H
 conv=>whnf
 refine ask_c (p_law22_fits_v _ _) H rfl rfl (fun v1 H=>?_);conv=>whnf
 refine Tst.not ?_
 refine tst_d H (fun b2 H=>?_) (fun b2 H=>?_)
 ·conv=>whnf
  refine ask_c (p_law22_awake_v) H rfl rfl (fun v37 H=>?_);conv=>whnf
  exact fb_ H
 conv=>whnf
 refine ask_c (p_law22_own_v _) H rfl rfl (fun v3 H=>?_);conv=>whnf
 refine lq_ ?_;conv=>whnf
 refine lq_ ?_;conv=>whnf
 refine FootQ.mk ⟨rfl,?_⟩;conv=>whnf
 refine ask_c (p_pair_Say_v _ _ _) H rfl rfl (fun v4 H=>?_);conv=>whnf
 refine lq_ ?_;conv=>whnf
 refine lq_ ?_;conv=>whnf
 refine ask_c (p_ref22_Say_v _ _ _) H rfl rfl (fun v5 H=>?_);conv=>whnf
 refine lq_ ?_;conv=>whnf
 refine lq_ ?_;conv=>whnf
 refine ask_c (p_pair_Remove_v _ _) H rfl rfl (fun v6 H=>?_);conv=>whnf
 refine lq_ ?_;conv=>whnf
 refine lq_ ?_;conv=>whnf
 refine ask_c (p_ref22_Remove_v _ _) H rfl rfl (fun v7 H=>?_);conv=>whnf
 refine lq_ ?_;conv=>whnf
 refine lq_ ?_;conv=>whnf
 refine ask_c (p_pair_Turn_v _ _) H rfl rfl (fun v8 H=>?_);conv=>whnf
 refine lq_ ?_;conv=>whnf
 refine lq_ ?_;conv=>whnf
 refine ask_c (p_ref22_Turn_v _ _) H rfl rfl (fun v9 H=>?_);conv=>whnf
 refine lq_ ?_;conv=>whnf
 refine lq_ ?_;conv=>whnf
 refine ask_c (p_law22_back_v _) H rfl rfl (fun v10 H=>?_);conv=>whnf
 refine ask_c (p_ref22_Same_v _ _) H rfl rfl (fun v11 H=>?_);conv=>whnf
 refine tstT_c H (fun b12 H=>?_);conv=>whnf
 iterate 3 (refine Tst.T ?_;conv=>whnf)
 refine tstT_c H (fun b13 H=>?_);conv=>whnf
 iterate 3 (refine Tst.T ?_;conv=>whnf)
 refine tstT_c H (fun b14 H=>?_);conv=>whnf
 refine Tst.T ?_;conv=>whnf
 refine ask_c (p_law22_back_v _) H rfl rfl (fun v15 H=>?_);conv=>whnf
 iterate 2 (refine Tst.T ?_;conv=>whnf)
 refine ask_c (p_ref22_Same_v _ _) H rfl rfl (fun v16 H=>?_);conv=>whnf
 refine Tst.T ?_;conv=>whnf
 refine tstT_c H (fun b17 H=>?_);conv=>whnf
 iterate 3 (refine Tst.T ?_;conv=>whnf)
 refine tstT_c H (fun b18 H=>?_);conv=>whnf
 iterate 3 (refine Tst.T ?_;conv=>whnf)
 refine tstT_c H (fun b19 H=>?_);conv=>whnf
 iterate 3 (refine Tst.T ?_;conv=>whnf)
 refine tstT_c H (fun b20 H=>?_);conv=>whnf
 refine Tst.T ?_;conv=>whnf
 refine ask_c (p_law22_back_v _) H rfl rfl (fun v21 H=>?_);conv=>whnf
 iterate 2 (refine Tst.T ?_;conv=>whnf)
 refine ask_c (p_ref22_Same_v _ _) H rfl rfl (fun v22 H=>?_);conv=>whnf
 refine Tst.T ?_;conv=>whnf
 refine tstT_c H (fun b23 H=>?_);conv=>whnf
 iterate 2 (refine Tst.T ?_;conv=>whnf)
 refine ask_c (p_pair_Check_v _ _) H rfl rfl (fun v24 H=>?_);conv=>whnf
 iterate 3 (refine Tst.T ?_;conv=>whnf)
 refine ask_c (p_ref22_Check_v _ _) H rfl rfl (fun v25 H=>?_);conv=>whnf
 iterate 2 (refine Tst.T ?_;conv=>whnf)
 refine tstT_c H (fun b26 H=>?_);conv=>whnf
 iterate 2 (refine Tst.T ?_;conv=>whnf)
 refine ask_c (p_pair_Agree_v _ _) H rfl rfl (fun v27 H=>?_);conv=>whnf
 iterate 3 (refine Tst.T ?_;conv=>whnf)
 refine ask_c (p_ref22_Agree_v _ _) H rfl rfl (fun v28 H=>?_);conv=>whnf
 iterate 2 (refine Tst.T ?_;conv=>whnf)
 refine tstT_c H (fun b29 H=>?_);conv=>whnf
 iterate 2 (refine Tst.T ?_;conv=>whnf)
 refine ask_c (p_pair_Sees_v _ _) H rfl rfl (fun v30 H=>?_);conv=>whnf
 iterate 3 (refine Tst.T ?_;conv=>whnf)
 refine ask_c (p_ref22_Sees_v _ _) H rfl rfl (fun v31 H=>?_);conv=>whnf
 iterate 2 (refine Tst.T ?_;conv=>whnf)
 refine tstT_c H (fun b32 H=>?_);conv=>whnf
 refine Tst.T ?_;conv=>whnf
 refine ask_c (p_law22_back_v _) H rfl rfl (fun v33 H=>?_);conv=>whnf
 iterate 2 (refine Tst.T ?_;conv=>whnf)
 refine ask_c (p_ref22_Same_v _ _) H rfl rfl (fun v34 H=>?_);conv=>whnf
 refine Tst.T ?_;conv=>whnf
 refine tstT_c H (fun b35 H=>?_);conv=>whnf
 refine ask_c (p_law22_awake_v) H rfl rfl (fun v36 H=>?_);conv=>whnf
 refine Tst.T ?_;conv=>whnf
 refine FootQ.mk ⟨rfl,?_⟩;conv=>whnf
 exact fb_ H
end Go.Proofs.YtpmoioopjbfhkaaGreat

namespace Go.Proofs.YtpmoioopjbfhkaaGreat
open Go.ChangeShapes Go.WideShapes Go.ChangeAt Go.RowKit Go.Joins Go.Deep
theorem pairSays_named:Tryz.pinned.checked.prog.funcNamed Rows.pairSaysRow.func=some 7:=by kernel_rfl
theorem pairSays_closed:joinedFacts Tryz.pinned.checked.prog 7 Tryz.f7 Rows.pairSaysSpec Rows.pairSaysRow=true:=by kernel_rfl
end Go.Proofs.YtpmoioopjbfhkaaGreat

namespace Go.Proofs.YtpmoioopjbfhkaaGreat
open Go.ChangeShapes Go.WideShapes Go.ChangeAt Go.RowKit Go.Joins Go.Deep
set_option maxRecDepth 100000 in
theorem pairSays_lifted (os:Os) (started:os.Started) (H:Type) (enc:TypeId × Value→H) :
  ReturnsInHanded {} Tryz.checked os 7 .any (Rows.pairSaysSpec.pre6 enc Tryz.prog Tryz.f7 Rows.pairSaysRow.domain false) (Rows.pairSaysSpec.post enc Tryz.prog Tryz.f7 false true false false):=by
 refine returnsInHanded_of_change_shaped (C:=Tryz.checked) own0 started (by kernel_rfl) Tryz.func7
  (ChangeSpec.witness6 (enc:=enc) (C:=Tryz.checked) false ⟨#[],#[.agg #[.string ⟨#[]⟩,.string ⟨#[]⟩],.agg #[.int .i64 0,.int .i64 0,.slice none 0 0,.slice none 0 0,.int .i64 0,.int .i64 0,.slice none 0 0,.slice none 0 0],.int .u8 0],[]⟩ 8 (by kernel_rfl) (by kernel_rfl) (by kernel_rfl) (by kernel_rfl)) ?_
 intro W base args ds gs before hval0 hW hcnd _ hsh _
 have hval:∀ (j:Nat) t v,Tryz.f7.params[j]?=some t→args[j]?=some v→Value.okWide Tryz.prog W .any base t v:=hval0
 have hW':=hW
 obtain ⟨p,q,hA0,hV,rfl,hfz,hnd⟩:=hW
 have hA:DataW.TrodAll enc Tryz.prog W 0 (fun _=>true) true Tryz.f7.params.toList args.toList ds p:=hA0
 rw [Tryz.params7] at hA hval
 have hA2:=hA
 obtain ⟨v0,v1,v2,d0,d1,d2,p0,p1,p2,rfl,rfl,hp,h0,h1,h2⟩:=trodAll_three hA
 obtain ⟨rfl,rfl⟩:=trodVars_none hV
 obtain ⟨fu0,hf0⟩:=h0
 obtain ⟨cs0,rfl,_⟩:=okWide_struct Tryz.underlying91 (hval 0 _ v0 rfl rfl)
 obtain ⟨a0,r0⟩:=rd_T91 hf0
 have hx0:Rep (MW W) noBk (.agg cs0) (.agg [.s a0.A,.s a0.B]):=rep_aggL r0 (by intro u hu;simp only [List.mem_cons,List.not_mem_nil,or_false] at hu;rcases hu with rfl | rfl <;> rfl)
 obtain ⟨fu1,hf1⟩:=h1
 obtain ⟨cs1,rfl,_⟩:=okWide_struct Tryz.underlying93 (hval 1 _ v1 rfl rfl)
 obtain ⟨a1,w1,r1⟩:=rd_T93 hf1
 have hx1:Rep (MW W) noBk (.agg cs1) (.agg [.i a1.A.Ver,.i a1.A.Floor,.sl (List.map ItemItem.v a1.A.Items) false,.sl (List.map RosterGone.v a1.A.Gone) false,.i a1.B.Ver,.i a1.B.Floor,.sl (List.map ItemItem.v a1.B.Items) false,.sl (List.map RosterGone.v a1.B.Gone) false]):=rep_aggL r1 (by intro u hu;simp only [List.mem_cons,List.not_mem_nil,or_false] at hu;rcases hu with rfl | rfl | rfl | rfl | rfl | rfl | rfl | rfl <;> rfl)
 obtain ⟨fu2,hf2⟩:=h2
 obtain ⟨q2,rfl⟩:=okWide_int Tryz.underlying5 (hval 2 _ v2 rfl rfl)
 obtain ⟨a2,w2,r2⟩:=rd_int Tryz.underlying5 hf2
 have hx2:Rep (MW W) noBk _ _:=r2.2 0 (by simp [Value.cells]) (by simp)
 refine (rep_one (callsO_true (p_law22_PairSays_v a0 a1 a2) (tru_ok (pairSays_all a0 a1 a2))) (maxLen_cell W hsh) (repAr3 hx0 hx1 hx2)).mono ?_
 rintro e W' ⟨rfl,bel⟩
 refine ⟨_,rfl,_,_,_,[],p,[],hW',?_,?_,?_,?_,?_⟩
 ·exact trodAll_mk1 (shut_bool Tryz.underlying4 true)
 ·exact trodAll_below laid0 bel (by
   intro t ht
   simp at ht
   rcases ht with rfl | rfl | rfl <;> exact ⟨by kernel_rfl,of_decide_eq_true (by kernel_rfl)⟩) hA2
 ·rfl
 ·exact bel.frame _
 ·exact fun h=>by cases h
theorem pairSays_holds:Rows.PairSaysSaid :=
 OpenClaim.holds_of_wide 7 Tryz.f7 rfl rfl rfl rfl rfl rfl rfl ⟨rfl,rfl,rfl,rfl,rfl⟩ rfl rfl rfl rfl rfl pairSays_named Tryz.func7 pairSays_closed
  (of_decide_eq_true (by kernel_rfl)) (by unfold Func.isWrapper;first | (rw [if_pos (by decide +kernel)];kernel_rfl) | (rw [if_neg (by decide +kernel)];exact ⟨rfl,rfl⟩))
  (fun os started H enc _=>pairSays_lifted os started H enc)
#print axioms pairSays_holds
end Go.Proofs.YtpmoioopjbfhkaaGreat

