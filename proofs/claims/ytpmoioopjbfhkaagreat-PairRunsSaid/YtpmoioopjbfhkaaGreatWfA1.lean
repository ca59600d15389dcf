/- A part of the proof: 9 texts joined. -/
import Derived.Test.YtpmoioopjbfhkaaGreatWeA6
import Derived.Test.YtpmoioopjbfhkaaGreatWeA8
import Derived.Test.YtpmoioopjbfhkaaGreatWeA15
import Derived.Test.YtpmoioopjbfhkaaGreatWeA9
import Derived.Test.YtpmoioopjbfhkaaGreatWeA10
import Derived.Test.YtpmoioopjbfhkaaGreatWeA5
import Derived.KernelRfl
import Derived.Test.YtpmoioopjbfhkaaGreatWeA13
import Derived.Test.YtpmoioopjbfhkaaGreatRows
set_option linter.all false
namespace Go.Proofs.YtpmoioopjbfhkaaGreat
open Go.ChangeShapes Go.WideShapes Go.ChangeAt Go.RowKit Go.Joins Go.Deep
set_option maxRecDepth 100000 in
theorem rd_T91 {H:Type} {enc:TypeId × Value→H} {W:World} {spare:Nat→Bool} {held:Bool} {fuel:Nat} {cs:List Value} {y:DataW H × List MemPlace} (h:DataW.trod enc Tryz.prog W 0 spare held fuel 91 cs=some y):∃ x:Ref22Names,RepL (MW W) noBk cs [.s x.A,.s x.B]:=by
 obtain ⟨xs,n,_,_,hl,hx,hall⟩:=DataW.trod_struct Tryz.underlying91 h
 have hce:Tryz.prog.cellsOf 91=2:=by kernel_rfl
 rw [hce] at hl
 match cs,hl,hall with
 | [c0,c1],_,hall =>
  obtain ⟨y0,hy0⟩:=get_some hx (show 0 < 2 by omega)
  have g0:DataW.trod enc Tryz.prog W 0 spare held n 9 [c0]=some y0:=by
   have hz:Tryz.prog.cellsOf 9=1:=by kernel_rfl
   have g:DataW.trod enc Tryz.prog W 0 spare held n 9 (([c0,c1].drop 0).take (Tryz.prog.cellsOf 9))=some y0:=(hall 0 _ rfl).trans hy0
   rw [hz] at g;exact g
  obtain ⟨x0,r0⟩:=rd_string Tryz.underlying9 g0
  obtain ⟨y1,hy1⟩:=get_some hx (show 1 < 2 by omega)
  have g1:DataW.trod enc Tryz.prog W 0 spare held n 9 [c1]=some y1:=by
   have hz:Tryz.prog.cellsOf 9=1:=by kernel_rfl
   have g:DataW.trod enc Tryz.prog W 0 spare held n 9 (([c0,c1].drop 1).take (Tryz.prog.cellsOf 9))=some y1:=(hall 1 _ rfl).trans hy1
   rw [hz] at g;exact g
  obtain ⟨x1,r1⟩:=rd_string Tryz.underlying9 g1
  exact ⟨⟨x0,x1⟩,repL_app r0 (repL_app r1 (repL_nil))⟩
structure ItemItem.Wf (x:ItemItem):Prop where
 Sub:(Lit.int .i64 x.Sub).wf=true
 Ver:(Lit.int .i64 x.Ver).wf=true
set_option maxRecDepth 100000 in
theorem rd_T23 {H:Type} {enc:TypeId × Value→H} {W:World} {spare:Nat→Bool} {held:Bool} {fuel:Nat} {cs:List Value} {y:DataW H × List MemPlace} (h:DataW.trod enc Tryz.prog W 0 spare held fuel 23 cs=some y):∃ x:ItemItem,ItemItem.Wf x∧RepL (MW W) noBk cs [.s x.Contact,.s x.Name,.i x.Sub,.i x.Ver,.b x.Own]:=by
 obtain ⟨xs,n,_,_,hl,hx,hall⟩:=DataW.trod_struct Tryz.underlying23 h
 have hce:Tryz.prog.cellsOf 23=5:=by kernel_rfl
 rw [hce] at hl
 match cs,hl,hall with
 | [c0,c1,c2,c3,c4],_,hall =>
  obtain ⟨y0,hy0⟩:=get_some hx (show 0 < 5 by omega)
  have g0:DataW.trod enc Tryz.prog W 0 spare held n 9 [c0]=some y0:=by
   have hz:Tryz.prog.cellsOf 9=1:=by kernel_rfl
   have g:DataW.trod enc Tryz.prog W 0 spare held n 9 (([c0,c1,c2,c3,c4].drop 0).take (Tryz.prog.cellsOf 9))=some y0:=(hall 0 _ rfl).trans hy0
   rw [hz] at g;exact g
  obtain ⟨x0,r0⟩:=rd_string Tryz.underlying9 g0
  obtain ⟨y1,hy1⟩:=get_some hx (show 1 < 5 by omega)
  have g1:DataW.trod enc Tryz.prog W 0 spare held n 9 [c1]=some y1:=by
   have hz:Tryz.prog.cellsOf 9=1:=by kernel_rfl
   have g:DataW.trod enc Tryz.prog W 0 spare held n 9 (([c0,c1,c2,c3,c4].drop 1).take (Tryz.prog.cellsOf 9))=some y1:=(hall 1 _ rfl).trans hy1
   rw [hz] at g;exact g
  obtain ⟨x1,r1⟩:=rd_string Tryz.underlying9 g1
  obtain ⟨y2,hy2⟩:=get_some hx (show 2 < 5 by omega)
  have g2:DataW.trod enc Tryz.prog W 0 spare held n 3 [c2]=some y2:=by
   have hz:Tryz.prog.cellsOf 3=1:=by kernel_rfl
   have g:DataW.trod enc Tryz.prog W 0 spare held n 3 (([c0,c1,c2,c3,c4].drop 2).take (Tryz.prog.cellsOf 3))=some y2:=(hall 2 _ rfl).trans hy2
   rw [hz] at g;exact g
  obtain ⟨x2,w2,r2⟩:=rd_int Tryz.underlying3 g2
  obtain ⟨y3,hy3⟩:=get_some hx (show 3 < 5 by omega)
  have g3:DataW.trod enc Tryz.prog W 0 spare held n 3 [c3]=some y3:=by
   have hz:Tryz.prog.cellsOf 3=1:=by kernel_rfl
   have g:DataW.trod enc Tryz.prog W 0 spare held n 3 (([c0,c1,c2,c3,c4].drop 3).take (Tryz.prog.cellsOf 3))=some y3:=(hall 3 _ rfl).trans hy3
   rw [hz] at g;exact g
  obtain ⟨x3,w3,r3⟩:=rd_int Tryz.underlying3 g3
  obtain ⟨y4,hy4⟩:=get_some hx (show 4 < 5 by omega)
  have g4:DataW.trod enc Tryz.prog W 0 spare held n 4 [c4]=some y4:=by
   have hz:Tryz.prog.cellsOf 4=1:=by kernel_rfl
   have g:DataW.trod enc Tryz.prog W 0 spare held n 4 (([c0,c1,c2,c3,c4].drop 4).take (Tryz.prog.cellsOf 4))=some y4:=(hall 4 _ rfl).trans hy4
   rw [hz] at g;exact g
  obtain ⟨x4,r4⟩:=rd_bool Tryz.underlying4 g4
  exact ⟨⟨x0,x1,x2,x3,x4⟩,⟨w2,w3⟩,repL_app r0 (repL_app r1 (repL_app r2 (repL_app r3 (repL_app r4 (repL_nil)))))⟩
theorem rd_T42 {H:Type} {enc:TypeId × Value→H} {W:World} {spare:Nat→Bool} {held:Bool} {fuel:Nat} {cs:List Value} {y:DataW H × List MemPlace} (h:DataW.trod enc Tryz.prog W 0 spare held fuel 42 cs=some y):∃ x:List ItemItem,(∀ z ∈ x,ItemItem.Wf z)∧RepL (MW W) noBk cs [(fun l:List ItemItem=>V.sl (l.map ItemItem.v) false) x] :=
 rd_slice (f:=ItemItem.v) (es:=5) (wf:=ItemItem.Wf) Tryz.underlying42 (fun _=>rfl) (by intro a v hv;simp [V.cells] at hv;first | (subst hv;rfl) | (rcases hv with rfl | rfl | rfl | rfl | rfl <;> rfl)) (by omega) (by kernel_rfl) (fun n cs y h=>rd_T23 h) h
structure RosterGone.Wf (x:RosterGone):Prop where
 Ver:(Lit.int .i64 x.Ver).wf=true
set_option maxRecDepth 100000 in
theorem rd_T180 {H:Type} {enc:TypeId × Value→H} {W:World} {spare:Nat→Bool} {held:Bool} {fuel:Nat} {cs:List Value} {y:DataW H × List MemPlace} (h:DataW.trod enc Tryz.prog W 0 spare held fuel 180 cs=some y):∃ x:RosterGone,RosterGone.Wf x∧RepL (MW W) noBk cs [.s x.Contact,.i x.Ver]:=by
 obtain ⟨xs,n,_,_,hl,hx,hall⟩:=DataW.trod_struct Tryz.underlying180 h
 have hce:Tryz.prog.cellsOf 180=2:=by kernel_rfl
 rw [hce] at hl
 match cs,hl,hall with
 | [c0,c1],_,hall =>
  obtain ⟨y0,hy0⟩:=get_some hx (show 0 < 2 by omega)
  have g0:DataW.trod enc Tryz.prog W 0 spare held n 9 [c0]=some y0:=by
   have hz:Tryz.prog.cellsOf 9=1:=by kernel_rfl
   have g:DataW.trod enc Tryz.prog W 0 spare held n 9 (([c0,c1].drop 0).take (Tryz.prog.cellsOf 9))=some y0:=(hall 0 _ rfl).trans hy0
   rw [hz] at g;exact g
  obtain ⟨x0,r0⟩:=rd_string Tryz.underlying9 g0
  obtain ⟨y1,hy1⟩:=get_some hx (show 1 < 2 by omega)
  have g1:DataW.trod enc Tryz.prog W 0 spare held n 3 [c1]=some y1:=by
   have hz:Tryz.prog.cellsOf 3=1:=by kernel_rfl
   have g:DataW.trod enc Tryz.prog W 0 spare held n 3 (([c0,c1].drop 1).take (Tryz.prog.cellsOf 3))=some y1:=(hall 1 _ rfl).trans hy1
   rw [hz] at g;exact g
  obtain ⟨x1,w1,r1⟩:=rd_int Tryz.underlying3 g1
  exact ⟨⟨x0,x1⟩,⟨w1⟩,repL_app r0 (repL_app r1 (repL_nil))⟩
theorem rd_T54 {H:Type} {enc:TypeId × Value→H} {W:World} {spare:Nat→Bool} {held:Bool} {fuel:Nat} {cs:List Value} {y:DataW H × List MemPlace} (h:DataW.trod enc Tryz.prog W 0 spare held fuel 54 cs=some y):∃ x:List RosterGone,(∀ z ∈ x,RosterGone.Wf z)∧RepL (MW W) noBk cs [(fun l:List RosterGone=>V.sl (l.map RosterGone.v) false) x] :=
 rd_slice (f:=RosterGone.v) (es:=2) (wf:=RosterGone.Wf) Tryz.underlying54 (fun _=>rfl) (by intro a v hv;simp [V.cells] at hv;first | (subst hv;rfl) | (rcases hv with rfl | rfl <;> rfl)) (by omega) (by kernel_rfl) (fun n cs y h=>rd_T180 h) h
structure RosterState.Wf (x:RosterState):Prop where
 Ver:(Lit.int .i64 x.Ver).wf=true
 Floor:(Lit.int .i64 x.Floor).wf=true
 Items:∀ z ∈ x.Items,ItemItem.Wf z
 Gone:∀ z ∈ x.Gone,RosterGone.Wf z
set_option maxRecDepth 100000 in
theorem rd_T56 {H:Type} {enc:TypeId × Value→H} {W:World} {spare:Nat→Bool} {held:Bool} {fuel:Nat} {cs:List Value} {y:DataW H × List MemPlace} (h:DataW.trod enc Tryz.prog W 0 spare held fuel 56 cs=some y):∃ x:RosterState,RosterState.Wf x∧RepL (MW W) noBk cs [.i x.Ver,.i x.Floor,.sl (List.map ItemItem.v x.Items) false,.sl (List.map RosterGone.v x.Gone) false]:=by
 obtain ⟨xs,n,_,_,hl,hx,hall⟩:=DataW.trod_struct Tryz.underlying56 h
 have hce:Tryz.prog.cellsOf 56=4:=by kernel_rfl
 rw [hce] at hl
 match cs,hl,hall with
 | [c0,c1,c2,c3],_,hall =>
  obtain ⟨y0,hy0⟩:=get_some hx (show 0 < 4 by omega)
  have g0:DataW.trod enc Tryz.prog W 0 spare held n 3 [c0]=some y0:=by
   have hz:Tryz.prog.cellsOf 3=1:=by kernel_rfl
   have g:DataW.trod enc Tryz.prog W 0 spare held n 3 (([c0,c1,c2,c3].drop 0).take (Tryz.prog.cellsOf 3))=some y0:=(hall 0 _ rfl).trans hy0
   rw [hz] at g;exact g
  obtain ⟨x0,w0,r0⟩:=rd_int Tryz.underlying3 g0
  obtain ⟨y1,hy1⟩:=get_some hx (show 1 < 4 by omega)
  have g1:DataW.trod enc Tryz.prog W 0 spare held n 3 [c1]=some y1:=by
   have hz:Tryz.prog.cellsOf 3=1:=by kernel_rfl
   have g:DataW.trod enc Tryz.prog W 0 spare held n 3 (([c0,c1,c2,c3].drop 1).take (Tryz.prog.cellsOf 3))=some y1:=(hall 1 _ rfl).trans hy1
   rw [hz] at g;exact g
  obtain ⟨x1,w1,r1⟩:=rd_int Tryz.underlying3 g1
  obtain ⟨y2,hy2⟩:=get_some hx (show 2 < 4 by omega)
  have g2:DataW.trod enc Tryz.prog W 0 spare held n 42 [c2]=some y2:=by
   have hz:Tryz.prog.cellsOf 42=1:=by kernel_rfl
   have g:DataW.trod enc Tryz.prog W 0 spare held n 42 (([c0,c1,c2,c3].drop 2).take (Tryz.prog.cellsOf 42))=some y2:=(hall 2 _ rfl).trans hy2
   rw [hz] at g;exact g
  obtain ⟨x2,w2,r2⟩:=rd_T42 g2
  obtain ⟨y3,hy3⟩:=get_some hx (show 3 < 4 by omega)
  have g3:DataW.trod enc Tryz.prog W 0 spare held n 54 [c3]=some y3:=by
   have hz:Tryz.prog.cellsOf 54=1:=by kernel_rfl
   have g:DataW.trod enc Tryz.prog W 0 spare held n 54 (([c0,c1,c2,c3].drop 3).take (Tryz.prog.cellsOf 54))=some y3:=(hall 3 _ rfl).trans hy3
   rw [hz] at g;exact g
  obtain ⟨x3,w3,r3⟩:=rd_T54 g3
  exact ⟨⟨x0,x1,x2,x3⟩,⟨w0,w1,w2,w3⟩,repL_app r0 (repL_app r1 (repL_app r2 (repL_app r3 (repL_nil))))⟩
structure Ref22State.Wf (x:Ref22State):Prop where
 A:RosterState.Wf x.A
 B:RosterState.Wf x.B
set_option maxRecDepth 100000 in
theorem rd_T93 {H:Type} {enc:TypeId × Value→H} {W:World} {spare:Nat→Bool} {held:Bool} {fuel:Nat} {cs:List Value} {y:DataW H × List MemPlace} (h:DataW.trod enc Tryz.prog W 0 spare held fuel 93 cs=some y):∃ x:Ref22State,Ref22State.Wf x∧RepL (MW W) noBk cs [.i x.A.Ver,.i x.A.Floor,.sl (List.map ItemItem.v x.A.Items) false,.sl (List.map RosterGone.v x.A.Gone) false,.i x.B.Ver,.i x.B.Floor,.sl (List.map ItemItem.v x.B.Items) false,.sl (List.map RosterGone.v x.B.Gone) false]:=by
 obtain ⟨xs,n,_,_,hl,hx,hall⟩:=DataW.trod_struct Tryz.underlying93 h
 have hce:Tryz.prog.cellsOf 93=8:=by kernel_rfl
 rw [hce] at hl
 match cs,hl,hall with
 | [c0,c1,c2,c3,c4,c5,c6,c7],_,hall =>
  obtain ⟨y0,hy0⟩:=get_some hx (show 0 < 2 by omega)
  have g0:DataW.trod enc Tryz.prog W 0 spare held n 56 [c0,c1,c2,c3]=some y0:=by
   have hz:Tryz.prog.cellsOf 56=4:=by kernel_rfl
   have g:DataW.trod enc Tryz.prog W 0 spare held n 56 (([c0,c1,c2,c3,c4,c5,c6,c7].drop 0).take (Tryz.prog.cellsOf 56))=some y0:=(hall 0 _ rfl).trans hy0
   rw [hz] at g;exact g
  obtain ⟨x0,w0,r0⟩:=rd_T56 g0
  obtain ⟨y1,hy1⟩:=get_some hx (show 1 < 2 by omega)
  have g1:DataW.trod enc Tryz.prog W 0 spare held n 56 [c4,c5,c6,c7]=some y1:=by
   have hz:Tryz.prog.cellsOf 56=4:=by kernel_rfl
   have g:DataW.trod enc Tryz.prog W 0 spare held n 56 (([c0,c1,c2,c3,c4,c5,c6,c7].drop 4).take (Tryz.prog.cellsOf 56))=some y1:=(hall 1 _ rfl).trans hy1
   rw [hz] at g;exact g
  obtain ⟨x1,w1,r1⟩:=rd_T56 g1
  exact ⟨⟨x0,x1⟩,⟨w0,w1⟩,repL_app r0 (repL_app r1 (repL_nil))⟩
structure PairAct.Wf (x:PairAct):Prop where
 Kind:(Lit.int .u8 x.Kind).wf=true
set_option maxRecDepth 100000 in
theorem rd_T125 {H:Type} {enc:TypeId × Value→H} {W:World} {spare:Nat→Bool} {held:Bool} {fuel:Nat} {cs:List Value} {y:DataW H × List MemPlace} (h:DataW.trod enc Tryz.prog W 0 spare held fuel 125 cs=some y):∃ x:PairAct,PairAct.Wf x∧RepL (MW W) noBk cs [.y8 x.Kind,.b x.Back]:=by
 obtain ⟨xs,n,_,_,hl,hx,hall⟩:=DataW.trod_struct Tryz.underlying125 h
 have hce:Tryz.prog.cellsOf 125=2:=by kernel_rfl
 rw [hce] at hl
 match cs,hl,hall with
 | [c0,c1],_,hall =>
  obtain ⟨y0,hy0⟩:=get_some hx (show 0 < 2 by omega)
  have g0:DataW.trod enc Tryz.prog W 0 spare held n 5 [c0]=some y0:=by
   have hz:Tryz.prog.cellsOf 5=1:=by kernel_rfl
   have g:DataW.trod enc Tryz.prog W 0 spare held n 5 (([c0,c1].drop 0).take (Tryz.prog.cellsOf 5))=some y0:=(hall 0 _ rfl).trans hy0
   rw [hz] at g;exact g
  obtain ⟨x0,w0,r0⟩:=rd_int Tryz.underlying5 g0
  obtain ⟨y1,hy1⟩:=get_some hx (show 1 < 2 by omega)
  have g1:DataW.trod enc Tryz.prog W 0 spare held n 4 [c1]=some y1:=by
   have hz:Tryz.prog.cellsOf 4=1:=by kernel_rfl
   have g:DataW.trod enc Tryz.prog W 0 spare held n 4 (([c0,c1].drop 1).take (Tryz.prog.cellsOf 4))=some y1:=(hall 1 _ rfl).trans hy1
   rw [hz] at g;exact g
  obtain ⟨x1,r1⟩:=rd_bool Tryz.underlying4 g1
  exact ⟨⟨x0,x1⟩,⟨w0⟩,repL_app r0 (repL_app r1 (repL_nil))⟩
theorem rd_T121 {H:Type} {enc:TypeId × Value→H} {W:World} {spare:Nat→Bool} {held:Bool} {fuel:Nat} {cs:List Value} {y:DataW H × List MemPlace} (h:DataW.trod enc Tryz.prog W 0 spare held fuel 121 cs=some y):∃ x:List PairAct,(∀ z ∈ x,PairAct.Wf z)∧RepL (MW W) noBk cs [(fun l:List PairAct=>V.sl (l.map PairAct.v) false) x] :=
 rd_slice (f:=PairAct.v) (es:=2) (wf:=PairAct.Wf) Tryz.underlying121 (fun _=>rfl) (by intro a v hv;simp [V.cells] at hv;first | (subst hv;rfl) | (rcases hv with rfl | rfl <;> rfl)) (by omega) (by kernel_rfl) (fun n cs y h=>rd_T125 h) h
end Go.Proofs.YtpmoioopjbfhkaaGreat

namespace Go.Proofs.YtpmoioopjbfhkaaGreat
open Go.RowKit
set_option maxRecDepth 100000
set_option maxHeartbeats 4000000
def gc114:BCode:=(.seq (R_ 0 [O_ 4 (.mv (b_ false)) 0]) (.seq (.seq (R_ 0 [O_ 6 (.mv (t_ 0)) 0,O_ 7 (.lens (t_ 6)) 0,O_ 8 (.mv (t_ 1)) 0,O_ 9 (.lens (t_ 8)) 0,O_ 10 (.bin .neq (t_ 7) (t_ 9)) 0]) (.cond (t_ 10) (.seq (R_ 0 [O_ 4 (.mv (b_ false)) 0]) .ret) .skip)) (.seq (.seq (R_ 0 [O_ 5 (.mv (i_ 0)) 0]) (.block 0 (.loop (.seq (.seq (R_ 0 [O_ 11 (.mv (t_ 5)) 0,O_ 12 (.mv (t_ 0)) 0,O_ 13 (.lens (t_ 12)) 0,O_ 14 (.bin .lss (t_ 11) (t_ 13)) 0]) (.cond (t_ 14) .skip (.exit 0))) (.seq (.block 1 (.seq (.reg 0 [O_ 17 (.mv (t_ 0)) 0,O_ 18 (.mv (t_ 5)) 0,O_ 19 (.ixs 2 (t_ 17) (t_ 18)) 0,O_ 20 (.ld 2 true (t_ 19)) 0,O_ 21 (.mv (t_ 1)) 0,O_ 22 (.mv (t_ 5)) 0,O_ 23 (.ixs 2 (t_ 21) (t_ 22)) 0,O_ 24 (.ld 2 true (t_ 23)) 0,O_ 25 (.eqa true [2,1] (t_ 20) (t_ 24)) 0] (some [[],[],[1,0],[0,1,2],[],[],[5,4],[4,5,6],[6,5,4,7,2,1,0,3]]) 0 []) (.cond (t_ 25) (.seq (R_ 0 [O_ 4 (.mv (b_ false)) 0]) .ret) .skip))) (R_ 0 [O_ 15 (.mv (t_ 5)) 0,O_ 16 (.bin .add (t_ 15) (i_ 1)) 0,O_ 5 (.mv (t_ 16)) 0])))))) (.seq (R_ 0 [O_ 4 (.mv (b_ true)) 0]) .ret))))
theorem gc114_ok:compF Tryz.prog Tryz.f114=some (gc114.er,26,[.tmp 4]):=by unfold gc114;kernel_rfl
theorem p_ref21_SameGone_v {u1 u2:Bool} (a0:List RosterGone) (a1:List RosterGone):CallsO Tryz.prog 114 [.sl (List.map RosterGone.v a0) u1,.sl (List.map RosterGone.v a1) u2] V.b (p_ref21_SameGone a0 a1):=by
 refine callsO_comp mix Tryz.func114 gc114_ok fun r H=>?_
 rw [p_ref21_SameGone] at H
 conv=>whnf
 iterate 2 (refine LenQ.M ?_;conv=>whnf)
 refine tst_c H (fun b1 H=>?_) (fun b1 H=>?_)
 ·conv=>whnf
  exact fb_ H
 conv=>whnf
 obtain ⟨o3,HL4,HQ5⟩:=bind_c H
 refine loop_c [4,5] [11,12,13,14,15,16,17,18,19,20,21,22,23,24,25] [11,12,13,14,15,16,17,18,19,20,21,22,23,24,25] (fun n vals st=>(∃ y7,p_ref21_SameGone_l1  a0 a1 n y7=some o3∧vals=[.b false,.i y7]∧st=[])) fuel 0 [] (⟨_,HL4,rfl,rfl⟩) (Nat.zero_le _) rfl (by kernel_rfl) (by kernel_rfl) rfl trivial ?_
 rintro (_ | n6) _ _ (⟨y7,H,rfl,rfl⟩)
 ·rw [p_ref21_SameGone_l1] at H;cases H
 rw [p_ref21_SameGone_l1] at H
 conv=>whnf
 refine LenQ.M ?_;conv=>whnf
 refine tst_d H (fun b8 H=>?_) (fun b8 H=>?_)
 ·conv=>whnf
  obtain rfl:=Option.some.inj H
  have H:=HQ5
  try dsimp only at H
  exact fb_ H
 conv=>whnf
 refine ixs_c (f:=RosterGone.v) H (fun _=>rfl) (fun x9 H=>?_);conv=>whnf
 refine ixs_c (f:=RosterGone.v) H (fun _=>rfl) (fun x10 H=>?_);conv=>whnf
 refine FootQ.mk ⟨rfl,?_⟩;conv=>whnf
 refine Tst.not ?_
 refine tst_d H (fun b11 H=>?_) (fun b11 H=>?_)
 ·conv=>whnf
  obtain rfl:=Option.some.inj H
  have H:=HQ5
  try dsimp only at H
  exact fb_ H
 conv=>whnf
 refine Ari.w ?_;conv=>whnf
 exact again_c [11,12,13,14,15,16,17,18,19,20,21,22,23,24,25] n6 0 [] (⟨_,H,rfl,rfl⟩) (Nat.lt_succ_self _) (Nat.zero_le _) rfl (by kernel_rfl) (by kernel_rfl) rfl trivial
def gc45:BCode:=(.seq (R_ 2 [O_ 2 (.bx (t_ 0)) 0,O_ 3 (.bx (t_ 1)) 1,O_ 4 (.mv (b_ false)) 2]) (.seq (R_ 0 [O_ 5 (.fa 0 (t_ 2)) 0,O_ 6 (.ld 1 false (t_ 5)) 0,O_ 7 (.fa 0 (t_ 3)) 0,O_ 8 (.ld 1 false (t_ 7)) 0,O_ 9 (.bin .eql (t_ 6) (t_ 8)) 0,O_ 10 (.mv (t_ 9)) 0,⟨(some 11),.fa 1 (t_ 2),(some (10,true)),0⟩,⟨(some 12),.ld 1 false (t_ 11),(some (10,true)),0⟩,⟨(some 13),.fa 1 (t_ 3),(some (10,true)),0⟩,⟨(some 14),.ld 1 false (t_ 13),(some (10,true)),0⟩,⟨(some 15),.bin .eql (t_ 12) (t_ 14),(some (10,true)),0⟩,O_ 16 (.pick (t_ 10) (t_ 15) (b_ false)) 0,O_ 17 (.mv (t_ 16)) 0,⟨(some 18),.fa 2 (t_ 2),(some (17,true)),0⟩,⟨(some 19),.ld 1 false (t_ 18),(some (17,true)),0⟩,⟨(some 20),.fa 2 (t_ 3),(some (17,true)),0⟩,⟨(some 21),.ld 1 false (t_ 20),(some (17,true)),0⟩,⟨(some 22),.cl 32 [(t_ 19),(t_ 21)],(some (17,true)),0⟩,O_ 23 (.pick (t_ 17) (t_ 22) (b_ false)) 0,O_ 24 (.mv (t_ 23)) 0,⟨(some 25),.fa 3 (t_ 2),(some (24,true)),0⟩,⟨(some 26),.ld 1 false (t_ 25),(some (24,true)),0⟩,⟨(some 27),.fa 3 (t_ 3),(some (24,true)),0⟩,⟨(some 28),.ld 1 false (t_ 27),(some (24,true)),0⟩,⟨(some 29),.cl 114 [(t_ 26),(t_ 28)],(some (24,true)),0⟩,O_ 30 (.pick (t_ 24) (t_ 29) (b_ false)) 0,O_ 4 (.mv (t_ 30)) 0]) .ret))
theorem gc45_ok:compF Tryz.prog Tryz.f45=some (gc45.er,31,[.tmp 4]):=by unfold gc45;kernel_rfl
theorem p_ref21_Same_v {u1 u2 u3 u4:Bool} (a0:RosterState) (a1:RosterState):CallsO Tryz.prog 45 [.agg [.i a0.Ver,.i a0.Floor,.sl (List.map ItemItem.v a0.Items) u1,.sl (List.map RosterGone.v a0.Gone) u2],.agg [.i a1.Ver,.i a1.Floor,.sl (List.map ItemItem.v a1.Items) u3,.sl (List.map RosterGone.v a1.Gone) u4]] V.b (p_ref21_Same a0 a1):=by
 refine callsO_comp mix Tryz.func45 gc45_ok fun r H=>?_
 rw [p_ref21_Same] at H
 conv=>whnf
 refine tst_d H (fun b1 H=>?_) (fun b1 H=>?_)
 ·conv=>whnf
  iterate 17 (refine Tst.F ?_;conv=>whnf)
  exact fb_ H
 conv=>whnf
 iterate 5 (refine Tst.T ?_;conv=>whnf)
 refine tst_d H (fun b2 H=>?_) (fun b2 H=>?_)
 ·conv=>whnf
  iterate 11 (refine Tst.F ?_;conv=>whnf)
  exact fb_ H
 conv=>whnf
 iterate 4 (refine Tst.T ?_;conv=>whnf)
 refine ask_c (p_ref20_SameItems_v _ _) H rfl rfl (fun v3 H=>?_);conv=>whnf
 refine Tst.T ?_;conv=>whnf
 refine tst_d H (fun b4 H=>?_) (fun b4 H=>?_)
 ·conv=>whnf
  iterate 5 (refine Tst.F ?_;conv=>whnf)
  exact fb_ H
 conv=>whnf
 iterate 4 (refine Tst.T ?_;conv=>whnf)
 refine ask_c (p_ref21_SameGone_v _ _) H rfl rfl (fun v5 H=>?_);conv=>whnf
 refine Tst.T ?_;conv=>whnf
 exact fb_ H
end Go.Proofs.YtpmoioopjbfhkaaGreat

namespace Go.Proofs.YtpmoioopjbfhkaaGreat
open Go.RowKit
set_option maxRecDepth 100000
set_option maxHeartbeats 4000000
def gc60:BCode:=(.seq (R_ 4 [O_ 2 (.bx (t_ 0)) 0,O_ 3 (.bx (t_ 1)) 1,O_ 4 (.al (.agg [(.lit (.string ⟨#[]⟩)),(.lit (.string ⟨#[]⟩))])) 2,O_ 5 (.al (.agg [(.lit (.int .i64 0)),(.lit (.int .i64 0)),(.sl [] true),(.sl [] true),(.lit (.int .i64 0)),(.lit (.int .i64 0)),(.sl [] true),(.sl [] true)])) 3]) (.seq (.reg 0 [O_ 6 (.ld 2 true (t_ 2)) 0,O_ 7 (.cl 129 [(t_ 6)]) 0,O_ 8 (.ld 8 true (t_ 3)) 0,O_ 9 (.cl 128 [(t_ 8)]) 0,U_ (.st 2 (t_ 4) (t_ 7)) 0,U_ (.st 8 (t_ 5) (t_ 9)) 0] (some [[],[0],[],[0,1,2],[2,3,0,1],[4,2,1,0,3]]) 0 []) .ret))
theorem gc60_ok:compF Tryz.prog Tryz.f60=some (gc60.er,10,[.cell 4 2 true,.cell 5 8 true]):=by unfold gc60;kernel_rfl
theorem p_pair_Turn_v {u1 u2 u3 u4:Bool} (a0:Ref22Names) (a1:Ref22State):CallsO Tryz.prog 60 [.agg [.s a0.A,.s a0.B],.agg [.i a1.A.Ver,.i a1.A.Floor,.sl (List.map ItemItem.v a1.A.Items) u1,.sl (List.map RosterGone.v a1.A.Gone) u2,.i a1.B.Ver,.i a1.B.Floor,.sl (List.map ItemItem.v a1.B.Items) u3,.sl (List.map RosterGone.v a1.B.Gone) u4]] (fun r:Ref22Names × Ref22State=>.tup [Ref22Names.v r.1,Ref22State.v r.2]) (p_pair_Turn a0 a1):=by
 refine callsO_comp mix Tryz.func60 gc60_ok fun r H=>?_
 rw [p_pair_Turn] at H
 conv=>whnf
 refine ask_c (p_pair_Names_turn_v _) H rfl rfl (fun v1 H=>?_);conv=>whnf
 refine ask_c (p_pair_State_turn_v _) H rfl rfl (fun v2 H=>?_);conv=>whnf
 refine lq_ ?_;conv=>whnf
 refine lq_ ?_;conv=>whnf
 refine FootQ.mk ⟨rfl,?_⟩;conv=>whnf
 exact fin0_c (enc:=(fun r:Ref22Names × Ref22State=>.tup [Ref22Names.v r.1,Ref22State.v r.2])) H (.inr rfl) (.cons (.cell rfl rfl (Nat.le_of_ble_eq_true rfl)) (.cons (.cell rfl rfl (Nat.le_of_ble_eq_true rfl)) (.nil))) rfl rfl
def gc61:BCode:=(.seq (R_ 4 [O_ 2 (.bx (t_ 0)) 0,O_ 3 (.bx (t_ 1)) 1,O_ 4 (.al (.agg [(.lit (.string ⟨#[]⟩)),(.lit (.string ⟨#[]⟩))])) 2,O_ 5 (.al (.agg [(.lit (.int .i64 0)),(.lit (.int .i64 0)),(.sl [] true),(.sl [] true),(.lit (.int .i64 0)),(.lit (.int .i64 0)),(.sl [] true),(.sl [] true)])) 3]) (.seq (.reg 0 [O_ 6 (.fa 1 (t_ 2)) 0,O_ 7 (.ld 1 false (t_ 6)) 0,O_ 8 (.fa 0 (t_ 2)) 0,O_ 9 (.ld 1 false (t_ 8)) 0,O_ 10 (.bd [(.lit (.string ⟨#[]⟩)),(.lit (.string ⟨#[]⟩))] [(0,1,(t_ 7)),(1,1,(t_ 9))]) 0,O_ 11 (.fa 4 (t_ 3)) 0,O_ 12 (.ld 4 true (t_ 11)) 0,O_ 13 (.fa 0 (t_ 3)) 0,O_ 14 (.ld 4 true (t_ 13)) 0,O_ 15 (.bd [(.lit (.int .i64 0)),(.lit (.int .i64 0)),(.sl [] true),(.sl [] true),(.lit (.int .i64 0)),(.lit (.int .i64 0)),(.sl [] true),(.sl [] true)] [(0,4,(t_ 12)),(4,4,(t_ 14))]) 0,U_ (.st 2 (t_ 4) (t_ 10)) 0,U_ (.st 8 (t_ 5) (t_ 15)) 0] (some [[],[0],[],[2],[2,3,0,1],[],[5],[],[7],[7,8,5,6],[1,0,3,2,4],[4,2,3,0,1,10,6,5,8,7,9]]) 0 []) .ret))
theorem gc61_ok:compF Tryz.prog Tryz.f61=some (gc61.er,16,[.cell 4 2 true,.cell 5 8 true]):=by unfold gc61;kernel_rfl
theorem p_ref22_Turn_v {u1 u2 u3 u4:Bool} (a0:Ref22Names) (a1:Ref22State):CallsO Tryz.prog 61 [.agg [.s a0.A,.s a0.B],.agg [.i a1.A.Ver,.i a1.A.Floor,.sl (List.map ItemItem.v a1.A.Items) u1,.sl (List.map RosterGone.v a1.A.Gone) u2,.i a1.B.Ver,.i a1.B.Floor,.sl (List.map ItemItem.v a1.B.Items) u3,.sl (List.map RosterGone.v a1.B.Gone) u4]] (fun r:Ref22Names × Ref22State=>.tup [Ref22Names.v r.1,Ref22State.v r.2]) (p_ref22_Turn a0 a1):=by
 refine callsO_comp mix Tryz.func61 gc61_ok fun r H=>?_
 rw [p_ref22_Turn] at H
 conv=>whnf
 refine lq_ ?_;conv=>whnf
 refine lq_ ?_;conv=>whnf
 refine FootQ.mk ⟨rfl,?_⟩;conv=>whnf
 refine finR_c (enc:=(fun r:Ref22Names × Ref22State=>.tup [Ref22Names.v r.1,Ref22State.v r.2])) H ?_;conv=>whnf
 exact ⟨_,.tup (.cons (fzagg (.cons (.id rfl) (.cons (.id rfl) (.nil))) rfl) (.cons (fzagg (.cons (.id rfl) (.cons (.id rfl) (.cons (.slw) (.cons (.slw) (.cons (.id rfl) (.cons (.id rfl) (.cons (.slw) (.cons (.slw) (.nil))))))))) rfl) (.nil)))⟩
def gc63:BCode:=(.seq (R_ 2 [O_ 1 (.bx (t_ 0)) 0,O_ 2 (.al (.agg [(.lit (.int .i64 0)),(.lit (.int .i64 0)),(.sl [] true),(.sl [] true),(.lit (.int .i64 0)),(.lit (.int .i64 0)),(.sl [] true),(.sl [] true)])) 1]) (.seq (.reg 0 [O_ 3 (.fa 0 (t_ 1)) 0,O_ 4 (.ld 4 true (t_ 3)) 0,O_ 5 (.cl 46 [(t_ 4)]) 0,O_ 6 (.fa 4 (t_ 1)) 0,O_ 7 (.ld 4 true (t_ 6)) 0,O_ 8 (.cl 46 [(t_ 7)]) 0,O_ 9 (.bd [(.lit (.int .i64 0)),(.lit (.int .i64 0)),(.sl [] true),(.sl [] true),(.lit (.int .i64 0)),(.lit (.int .i64 0)),(.sl [] true),(.sl [] true)] [(0,4,(t_ 5)),(4,4,(t_ 8))]) 0,U_ (.st 8 (t_ 2) (t_ 9)) 0] (some [[],[0],[0,1],[],[3],[1,0,2,3,4],[4,3,5,1,0,2],[2,0,1,5,3,4,6]]) 0 []) .ret))
theorem gc63_ok:compF Tryz.prog Tryz.f63=some (gc63.er,10,[.cell 2 8 true]):=by unfold gc63;kernel_rfl
theorem p_law22_back_v {u1 u2 u3 u4:Bool} (a0:Ref22State):CallsO Tryz.prog 63 [.agg [.i a0.A.Ver,.i a0.A.Floor,.sl (List.map ItemItem.v a0.A.Items) u1,.sl (List.map RosterGone.v a0.A.Gone) u2,.i a0.B.Ver,.i a0.B.Floor,.sl (List.map ItemItem.v a0.B.Items) u3,.sl (List.map RosterGone.v a0.B.Gone) u4]] Ref22State.v (p_law22_back a0):=by
 refine callsO_comp mix Tryz.func63 gc63_ok fun r H=>?_
 rw [p_law22_back] at H
 conv=>whnf
 refine ask_c (p_law21_Back_v _) H rfl rfl (fun v1 H=>?_);conv=>whnf
 refine ask_c (p_law21_Back_v _) H rfl rfl (fun v2 H=>?_);conv=>whnf
 refine lq_ ?_;conv=>whnf
 refine FootQ.mk ⟨rfl,?_⟩;conv=>whnf
 exact fin0_c (enc:=Ref22State.v) H (.inr rfl) (.cons (.cell rfl rfl (Nat.le_of_ble_eq_true rfl)) (.nil)) rfl rfl
def gc62:BCode:=(.seq (R_ 2 [O_ 2 (.bx (t_ 0)) 0,O_ 3 (.bx (t_ 1)) 1,O_ 4 (.mv (b_ false)) 2]) (.seq (R_ 0 [O_ 5 (.fa 0 (t_ 2)) 0,O_ 6 (.ld 4 true (t_ 5)) 0,O_ 7 (.fa 0 (t_ 3)) 0,O_ 8 (.ld 4 true (t_ 7)) 0,O_ 9 (.cl 45 [(t_ 6),(t_ 8)]) 0,O_ 10 (.mv (t_ 9)) 0,⟨(some 11),.fa 4 (t_ 2),(some (10,true)),0⟩,⟨(some 12),.ld 4 true (t_ 11),(some (10,true)),0⟩,⟨(some 13),.fa 4 (t_ 3),(some (10,true)),0⟩,⟨(some 14),.ld 4 true (t_ 13),(some (10,true)),0⟩,⟨(some 15),.cl 45 [(t_ 12),(t_ 14)],(some (10,true)),0⟩,O_ 16 (.pick (t_ 10) (t_ 15) (b_ false)) 0,O_ 4 (.mv (t_ 16)) 0]) .ret))
theorem gc62_ok:compF Tryz.prog Tryz.f62=some (gc62.er,17,[.tmp 4]):=by unfold gc62;kernel_rfl
theorem p_ref22_Same_v {u1 u2 u3 u4 u5 u6 u7 u8:Bool} (a0:Ref22State) (a1:Ref22State):CallsO Tryz.prog 62 [.agg [.i a0.A.Ver,.i a0.A.Floor,.sl (List.map ItemItem.v a0.A.Items) u1,.sl (List.map RosterGone.v a0.A.Gone) u2,.i a0.B.Ver,.i a0.B.Floor,.sl (List.map ItemItem.v a0.B.Items) u3,.sl (List.map RosterGone.v a0.B.Gone) u4],.agg [.i a1.A.Ver,.i a1.A.Floor,.sl (List.map ItemItem.v a1.A.Items) u5,.sl (List.map RosterGone.v a1.A.Gone) u6,.i a1.B.Ver,.i a1.B.Floor,.sl (List.map ItemItem.v a1.B.Items) u7,.sl (List.map RosterGone.v a1.B.Gone) u8]] V.b (p_ref22_Same a0 a1):=by
 refine callsO_comp mix Tryz.func62 gc62_ok fun r H=>?_
 rw [p_ref22_Same] at H
 conv=>whnf
 refine ask_c (p_ref21_Same_v _ _) H rfl rfl (fun v1 H=>?_);conv=>whnf
 refine tst_d H (fun b2 H=>?_) (fun b2 H=>?_)
 ·conv=>whnf
  iterate 5 (refine Tst.F ?_;conv=>whnf)
  exact fb_ H
 conv=>whnf
 iterate 4 (refine Tst.T ?_;conv=>whnf)
 refine ask_c (p_ref21_Same_v _ _) H rfl rfl (fun v3 H=>?_);conv=>whnf
 refine Tst.T ?_;conv=>whnf
 exact fb_ H
def gc203:BCode:=(.seq (R_ 0 [O_ 2 (.mv (i_ 0)) 0]) (.seq (.seq (R_ 0 [O_ 3 (.mv (t_ 0)) 0,O_ 4 (.cl 86 [(t_ 3)]) 0,O_ 5 (.bin .neq (t_ 4) (i_ 0)) 0]) (.cond (t_ 5) (.seq (R_ 0 [O_ 2 (.mv (i_ 0)) 0]) .ret) .skip)) (.seq (R_ 0 [O_ 6 (.mv (t_ 0)) 0,O_ 7 (.bin .and (t_ 6) (i_ 5)) 0,O_ 8 (.bin .shl (t_ 7) (.const (.int .u64 1))) 0,O_ 9 (.mv (t_ 0)) 0,O_ 10 (.bin .and (t_ 9) (i_ 10)) 0,O_ 11 (.bin .shr (t_ 10) (.const (.int .u64 1))) 0,O_ 12 (.bin .or (t_ 8) (t_ 11)) 0,O_ 2 (.mv (t_ 12)) 0]) .ret)))
theorem gc203_ok:compF Tryz.prog Tryz.f203=some (gc203.er,13,[.tmp 2]):=by unfold gc203;kernel_rfl
theorem p_subs_Mirror_v (a0:Int):CallsO Tryz.prog 203 [.i a0] V.i (p_subs_Mirror a0):=by
 refine callsO_comp mix Tryz.func203 gc203_ok fun r H=>?_
 rw [p_subs_Mirror] at H
 conv=>whnf
 refine ask_c (p_subs_Check_v _) H rfl rfl (fun v1 H=>?_);conv=>whnf
 refine tst_c H (fun b2 H=>?_) (fun b2 H=>?_)
 ·conv=>whnf
  exact fi_ H
 conv=>whnf
 refine Shl.ok (by decide) ?_;conv=>whnf
 refine Shr.ok (by decide) ?_;conv=>whnf
 exact fi_ H
def gc136:BCode:=(.seq (R_ 0 [O_ 4 (.mv (b_ false)) 0]) (.seq (R_ 0 [O_ 5 (.mv (t_ 0)) 0,O_ 6 (.cl 86 [(t_ 5)]) 0,O_ 7 (.bin .eql (t_ 6) (i_ 0)) 0,O_ 8 (.mv (t_ 7)) 0,⟨(some 9),.mv (t_ 1),(some (8,true)),0⟩,⟨(some 10),.cl 86 [(t_ 9)],(some (8,true)),0⟩,⟨(some 11),.bin .eql (t_ 10) (i_ 0),(some (8,true)),0⟩,O_ 12 (.pick (t_ 8) (t_ 11) (b_ false)) 0,O_ 13 (.mv (t_ 12)) 0,⟨(some 14),.mv (t_ 0),(some (13,true)),0⟩,⟨(some 15),.cl 203 [(t_ 14)],(some (13,true)),0⟩,⟨(some 16),.mv (t_ 1),(some (13,true)),0⟩,⟨(some 17),.bin .eql (t_ 15) (t_ 16),(some (13,true)),0⟩,O_ 18 (.pick (t_ 13) (t_ 17) (b_ false)) 0,O_ 4 (.mv (t_ 18)) 0]) .ret))
theorem gc136_ok:compF Tryz.prog Tryz.f136=some (gc136.er,19,[.tmp 4]):=by unfold gc136;kernel_rfl
theorem p_subs_Agree_v (a0:Int) (a1:Int):CallsO Tryz.prog 136 [.i a0,.i a1] V.b (p_subs_Agree a0 a1):=by
 refine callsO_comp mix Tryz.func136 gc136_ok fun r H=>?_
 rw [p_subs_Agree] at H
 conv=>whnf
 refine ask_c (p_subs_Check_v _) H rfl rfl (fun v1 H=>?_);conv=>whnf
 refine tst_d H (fun b2 H=>?_) (fun b2 H=>?_)
 ·conv=>whnf
  iterate 8 (refine Tst.F ?_;conv=>whnf)
  exact fb_ H
 conv=>whnf
 refine Tst.T ?_;conv=>whnf
 refine ask_c (p_subs_Check_v _) H rfl rfl (fun v3 H=>?_);conv=>whnf
 iterate 2 (refine Tst.T ?_;conv=>whnf)
 refine tst_d H (fun b4 H=>?_) (fun b4 H=>?_)
 ·conv=>whnf
  iterate 4 (refine Tst.F ?_;conv=>whnf)
  exact fb_ H
 conv=>whnf
 refine Tst.T ?_;conv=>whnf
 refine ask_c (p_subs_Mirror_v _) H rfl rfl (fun v5 H=>?_);conv=>whnf
 iterate 3 (refine Tst.T ?_;conv=>whnf)
 exact fb_ H
def gc66:BCode:=(.seq (R_ 2 [O_ 2 (.bx (t_ 0)) 0,O_ 3 (.bx (t_ 1)) 1,O_ 4 (.mv (b_ false)) 2]) (.seq (.reg 0 [O_ 5 (.ld 2 true (t_ 2)) 0,O_ 6 (.ld 8 true (t_ 3)) 0,O_ 7 (.cl 64 [(t_ 5),(t_ 6)]) 0,O_ 8 (.bin .eql (t_ 7) (i_ 0)) 0,O_ 9 (.mv (t_ 8)) 0,⟨(some 10),.ld 8 true (t_ 3),(some (9,true)),0⟩,⟨(some 11),.ld 2 true (t_ 2),(some (9,true)),0⟩,⟨(some 12),.cl 127 [(t_ 10),(t_ 11)],(some (9,true)),0⟩,⟨(some 13),.ld 8 true (t_ 3),(some (9,true)),0⟩,⟨(some 14),.cl 128 [(t_ 13)],(some (9,true)),0⟩,⟨(some 15),.ld 2 true (t_ 2),(some (9,true)),0⟩,⟨(some 16),.cl 129 [(t_ 15)],(some (9,true)),0⟩,⟨(some 17),.cl 127 [(t_ 14),(t_ 16)],(some (9,true)),0⟩,⟨(some 18),.cl 136 [(t_ 12),(t_ 17)],(some (9,true)),0⟩,O_ 19 (.pick (t_ 9) (t_ 18) (b_ false)) 0,O_ 4 (.mv (t_ 19)) 0] (some [[],[],[1,0],[0,1,2],[2,1,0,3],[3,0,1,2,4],[3,0,1,2,4],[6,4,2,1,0,3,5],[3,0,1,2,4],[5,6,7,4,2,1,0,3,8],[3,0,1,2,4],[8,7,6,5,9,4,2,1,0,3,10],[10,11,8,3,0,1,2,4,7,6,5,9],[9,8,11,10,12,5,3,0,1,2,4,6,7],[7,6,5,12,10,11,8,9,13,3,0,1,2,4],[4,2,1,0,3,13,9,8,11,10,12,5,6,7,14]]) 0 []) .ret))
theorem gc66_ok:compF Tryz.prog Tryz.f66=some (gc66.er,20,[.tmp 4]):=by unfold gc66;kernel_rfl
theorem p_pair_Agree_v {u1 u2 u3 u4:Bool} (a0:Ref22Names) (a1:Ref22State):CallsO Tryz.prog 66 [.agg [.s a0.A,.s a0.B],.agg [.i a1.A.Ver,.i a1.A.Floor,.sl (List.map ItemItem.v a1.A.Items) u1,.sl (List.map RosterGone.v a1.A.Gone) u2,.i a1.B.Ver,.i a1.B.Floor,.sl (List.map ItemItem.v a1.B.Items) u3,.sl (List.map RosterGone.v a1.B.Gone) u4]] V.b (p_pair_Agree a0 a1):=by
 refine callsO_comp mix Tryz.func66 gc66_ok fun r H=>?_
 rw [p_pair_Agree] at H
 conv=>whnf
 refine ask_c (p_pair_Check_v _ _) H rfl rfl (fun v1 H=>?_);conv=>whnf
 refine tst_d H (fun b2 H=>?_) (fun b2 H=>?_)
 ·conv=>whnf
  iterate 9 (refine Tst.F ?_;conv=>whnf)
  refine FootQ.mk ⟨rfl,?_⟩;conv=>whnf
  exact fb_ H
 conv=>whnf
 iterate 2 (refine Tst.T ?_;conv=>whnf)
 refine ask_c (p_pair_State_has_v _ _) H rfl rfl (fun v3 H=>?_);conv=>whnf
 iterate 2 (refine Tst.T ?_;conv=>whnf)
 refine ask_c (p_pair_State_turn_v _) H rfl rfl (fun v4 H=>?_);conv=>whnf
 iterate 2 (refine Tst.T ?_;conv=>whnf)
 refine ask_c (p_pair_Names_turn_v _) H rfl rfl (fun v5 H=>?_);conv=>whnf
 refine Tst.T ?_;conv=>whnf
 refine ask_c (p_pair_State_has_v _ _) H rfl rfl (fun v6 H=>?_);conv=>whnf
 refine Tst.T ?_;conv=>whnf
 refine ask_c (p_subs_Agree_v _ _) H rfl rfl (fun v7 H=>?_);conv=>whnf
 refine Tst.T ?_;conv=>whnf
 refine FootQ.mk ⟨rfl,?_⟩;conv=>whnf
 exact fb_ H
end Go.Proofs.YtpmoioopjbfhkaaGreat

namespace Go.Proofs.YtpmoioopjbfhkaaGreat
open Go.RowKit
set_option maxRecDepth 100000
set_option maxHeartbeats 4000000
def gc68:BCode:=(.seq (R_ 2 [O_ 2 (.bx (t_ 0)) 0,O_ 3 (.bx (t_ 1)) 1,O_ 4 (.mv (b_ false)) 2]) (.seq (R_ 0 [O_ 5 (.ld 2 true (t_ 2)) 0,O_ 6 (.ld 8 true (t_ 3)) 0,O_ 7 (.cl 64 [(t_ 5),(t_ 6)]) 0,O_ 8 (.bin .eql (t_ 7) (i_ 0)) 0,O_ 9 (.mv (t_ 8)) 0,⟨(some 10),.ld 8 true (t_ 3),(some (9,true)),0⟩,⟨(some 11),.ld 2 true (t_ 2),(some (9,true)),0⟩,⟨(some 12),.cl 127 [(t_ 10),(t_ 11)],(some (9,true)),0⟩,⟨(some 13),.bin .and (t_ 12) (i_ 1),(some (9,true)),0⟩,⟨(some 14),.bin .neq (t_ 13) (i_ 0),(some (9,true)),0⟩,O_ 15 (.pick (t_ 9) (t_ 14) (b_ false)) 0,O_ 4 (.mv (t_ 15)) 0]) .ret))
theorem gc68_ok:compF Tryz.prog Tryz.f68=some (gc68.er,16,[.tmp 4]):=by unfold gc68;kernel_rfl
theorem p_pair_Sees_v {u1 u2 u3 u4:Bool} (a0:Ref22Names) (a1:Ref22State):CallsO Tryz.prog 68 [.agg [.s a0.A,.s a0.B],.agg [.i a1.A.Ver,.i a1.A.Floor,.sl (List.map ItemItem.v a1.A.Items) u1,.sl (List.map RosterGone.v a1.A.Gone) u2,.i a1.B.Ver,.i a1.B.Floor,.sl (List.map ItemItem.v a1.B.Items) u3,.sl (List.map RosterGone.v a1.B.Gone) u4]] V.b (p_pair_Sees a0 a1):=by
 refine callsO_comp mix Tryz.func68 gc68_ok fun r H=>?_
 rw [p_pair_Sees] at H
 conv=>whnf
 refine ask_c (p_pair_Check_v _ _) H rfl rfl (fun v1 H=>?_);conv=>whnf
 refine tst_d H (fun b2 H=>?_) (fun b2 H=>?_)
 ·conv=>whnf
  iterate 5 (refine Tst.F ?_;conv=>whnf)
  exact fb_ H
 conv=>whnf
 iterate 2 (refine Tst.T ?_;conv=>whnf)
 refine ask_c (p_pair_State_has_v _ _) H rfl rfl (fun v3 H=>?_);conv=>whnf
 iterate 3 (refine Tst.T ?_;conv=>whnf)
 exact fb_ H
def gc70:BCode:=(.seq (R_ 3 [O_ 3 (.bx (t_ 0)) 0,O_ 4 (.bx (t_ 1)) 1,O_ 6 (.al (.agg [(.lit (.int .i64 0)),(.lit (.int .i64 0)),(.sl [] true),(.sl [] true),(.lit (.int .i64 0)),(.lit (.int .i64 0)),(.sl [] true),(.sl [] true)])) 2,O_ 7 (.mv (.const (.slice none 0 0))) 3]) (.seq (R_ 0 [O_ 14 (.ld 2 true (t_ 3)) 0,O_ 15 (.mf (.yield 129) [(t_ 14)]) 0,O_ 8 (.mv (t_ 15)) 0]) (.seq (R_ 0 [O_ 9 (.mv (.const (.slice none 0 0))) 0]) (.seq (.seq (R_ 0 [O_ 16 (.mv (t_ 2)) 0,O_ 17 (.lens (t_ 16)) 0,O_ 18 (.mv (i_ 0)) 0]) (.block 0 (.loop (.seq (R_ 0 [O_ 19 (.bin .lss (t_ 18) (t_ 17)) 0]) (.seq (.cond (t_ 19) .skip (.exit 0)) (.seq (.block 1 (.seq (R_ 1 [O_ 20 (.ixs 2 (t_ 16) (t_ 18)) 0,O_ 21 (.ld 2 true (t_ 20)) 0,O_ 11 (.al (.agg [(.lit (.int .u8 0)),(.lit (.bool false))])) 0,U_ (.st 2 (t_ 11) (t_ 21)) 1]) (.seq (R_ 1 [O_ 12 (.al (.agg [(.lit (.bool false)),(.lit (.bool false)),(.lit (.bool false)),(.lit (.bool false))])) 0]) (.seq (.seq (R_ 0 [O_ 22 (.fa 1 (t_ 11)) 0,O_ 23 (.ld 1 false (t_ 22)) 0]) (.cond (t_ 23) (.seq (R_ 1 [O_ 13 (.al (.agg [(.lit (.int .i64 0)),(.lit (.int .i64 0)),(.sl [] true),(.sl [] true),(.lit (.int .i64 0)),(.lit (.int .i64 0)),(.sl [] true),(.sl [] true)])) 0]) (.seq (.reg 0 [O_ 25 (.mv (t_ 8)) 0,O_ 26 (.cv (t_ 25) []) 0,O_ 27 (.ld 8 true (t_ 4)) 0,O_ 28 (.cl 128 [(t_ 27)]) 0,O_ 29 (.fa 0 (t_ 11)) 0,O_ 30 (.ld 1 false (t_ 29)) 0,O_ 31 (.cl 56 [(t_ 26),(t_ 28),(t_ 30)]) 0,O_ 24 (.mv (t_ 31)) 0,O_ 32 (.ex (t_ 24) 0) 0,O_ 33 (.ex (t_ 24) 1) 0,O_ 34 (.ex (t_ 24) 2) 0,U_ (.st 8 (t_ 13) (t_ 32)) 0,U_ (.st 4 (t_ 12) (t_ 33)) 0] (some [[],[0],[],[0,1,2],[],[4],[4,5,2,3,0,1],[1,0,3,2,5,4,6],[6,4,5,2,3,0,1,7],[6,4,5,2,3,0,1,7],[6,4,5,2,3,0,1,7],[7,1,0,3,2,5,4,6,8],[8,11,7,1,0,3,2,5,4,6,9]]) 0 []) (R_ 0 [O_ 35 (.ld 8 true (t_ 13)) 0,O_ 36 (.cl 128 [(t_ 35)]) 0,U_ (.st 8 (t_ 4) (t_ 36)) 0]))) (R_ 0 [O_ 38 (.ld 2 true (t_ 3)) 0,O_ 39 (.ld 8 true (t_ 4)) 0,O_ 40 (.fa 0 (t_ 11)) 0,O_ 41 (.ld 1 false (t_ 40)) 0,O_ 42 (.cl 56 [(t_ 38),(t_ 39),(t_ 41)]) 0,O_ 37 (.mv (t_ 42)) 0,O_ 43 (.ex (t_ 37) 0) 0,O_ 44 (.ex (t_ 37) 1) 0,O_ 45 (.ex (t_ 37) 2) 0,U_ (.st 8 (t_ 4) (t_ 43)) 0,U_ (.st 4 (t_ 12) (t_ 44)) 0]))) (R_ 2 [O_ 46 (.mv (t_ 9)) 0,O_ 47 (.ld 4 true (t_ 12)) 0,O_ 48 (.bs 4 1 [(.lit (.bool false)),(.lit (.bool false)),(.lit (.bool false)),(.lit (.bool false))] [(0,(t_ 47))]) 0,O_ 49 (.ap 4 4 (t_ 46) (t_ 48)) 1,O_ 9 (.mv (t_ 49)) 2]))))) (R_ 0 [O_ 50 (.bin .add (t_ 18) (i_ 1)) 0,O_ 18 (.mv (t_ 50)) 0]))))))) (.seq (R_ 0 [O_ 51 (.ld 8 true (t_ 4)) 0,O_ 52 (.mv (t_ 9)) 0,U_ (.st 8 (t_ 6) (t_ 51)) 0,O_ 7 (.mv (t_ 52)) 0]) .ret)))))
theorem gc70_ok:compF Tryz.prog Tryz.f70=some (gc70.er,53,[.cell 6 8 true,.tmp 7]):=by unfold gc70;kernel_rfl
theorem p_pair_Run_v {u1 u2 u3 u4 u5:Bool} (a0:Ref22Names) (a1:Ref22State) (a2:List PairAct):CallsO Tryz.prog 70 [.agg [.s a0.A,.s a0.B],.agg [.i a1.A.Ver,.i a1.A.Floor,.sl (List.map ItemItem.v a1.A.Items) u1,.sl (List.map RosterGone.v a1.A.Gone) u2,.i a1.B.Ver,.i a1.B.Floor,.sl (List.map ItemItem.v a1.B.Items) u3,.sl (List.map RosterGone.v a1.B.Gone) u4],.sl (List.map PairAct.v a2) u5] (fun r:Ref22State × (List PairDone)=>.tup [Ref22State.v r.1,(fun l:List PairDone=>V.sl (l.map PairDone.v) false) r.2]) (p_pair_Run a0 a1 a2):=by
 refine callsO_comp mix Tryz.func70 gc70_ok fun r H=>?_
 rw [p_pair_Run] at H
 conv=>whnf
 refine LenQ.M ?_;conv=>whnf
 obtain ⟨o2,HL3,HQ4⟩:=bind_c H
 refine loop_c [9,18] [11,12,13,19,20,21,22,23,24,25,26,27,28,29,30,31,32,33,34,35,36,37,38,39,40,41,42,43,44,45,46,47,48,49,50] [11,12,13,19,20,21,22,23,24,25,26,27,28,29,30,31,32,33,34,35,36,37,38,39,40,41,42,43,44,45,46,47,48,49,50] (fun n vals st=>(∃ y6 y7,p_pair_Run_l1  a0.A a0.B a2 (a2.length:Int) a0 n [] y6 y7=some o2∧vals=[.sl (List.map PairDone.v []) true,.i y6]∧st=[.live [.s a0.A,.s a0.B] 0,.live [.i y7.A.Ver,.i y7.A.Floor,.sl (List.map ItemItem.v y7.A.Items) u1,.sl (List.map RosterGone.v y7.A.Gone) u2,.i y7.B.Ver,.i y7.B.Floor,.sl (List.map ItemItem.v y7.B.Items) u3,.sl (List.map RosterGone.v y7.B.Gone) u4] 0,.live [.i (0:Int),.i (0:Int),.sl (List.map ItemItem.v []) true,.sl (List.map RosterGone.v []) true,.i (0:Int),.i (0:Int),.sl (List.map ItemItem.v []) true,.sl (List.map RosterGone.v []) true] 0])∨(∃ y16 y17 y18,p_pair_Run_l1  a0.A a0.B a2 (a2.length:Int) a0 n y16 y17 y18=some o2∧vals=[.osl 3 0 (List.length y16) 4 false,.i y17]∧st=[.live [.s a0.A,.s a0.B] 0,.live [.i y18.A.Ver,.i y18.A.Floor,.sl (List.map ItemItem.v y18.A.Items) false,.sl (List.map RosterGone.v y18.A.Gone) false,.i y18.B.Ver,.i y18.B.Floor,.sl (List.map ItemItem.v y18.B.Items) false,.sl (List.map RosterGone.v y18.B.Gone) false] 0,.live [.i (0:Int),.i (0:Int),.sl (List.map ItemItem.v []) true,.sl (List.map RosterGone.v []) true,.i (0:Int),.i (0:Int),.sl (List.map ItemItem.v []) true,.sl (List.map RosterGone.v []) true] 0,.live (cellsM PairDone.v y16) (cellsM PairDone.v y16).length])) fuel 3 [] (.inl (⟨_,_,HL3,rfl,rfl⟩)) (Nat.zero_le _) rfl (by kernel_rfl) (by kernel_rfl) rfl ⟨⟨rfl,rfl,rfl⟩,⟨⟨rfl,rfl,rfl⟩,⟨⟨rfl,rfl,rfl⟩,trivial⟩⟩⟩ ?_
 rintro (_ | n5) _ _ (⟨y6,y7,H,rfl,rfl⟩ | ⟨y16,y17,y18,H,rfl,rfl⟩)
 ·rw [p_pair_Run_l1] at H;cases H
 ·rw [p_pair_Run_l1] at H;cases H
 ·rw [p_pair_Run_l1] at H
  conv=>whnf
  refine tst_d H (fun b8 H=>?_) (fun b8 H=>?_)
  ·conv=>whnf
   obtain rfl:=Option.some.inj H
   have H:=HQ4
   try dsimp only at H
   refine lq_ ?_;conv=>whnf
   refine finR_c (enc:=(fun r:Ref22State × (List PairDone)=>.tup [Ref22State.v r.1,(fun l:List PairDone=>V.sl (l.map PairDone.v) false) r.2])) H ?_;conv=>whnf
   exact ⟨_,.tup (.cons (fzagg (.cons (.id rfl) (.cons (.id rfl) (.cons (.slw) (.cons (.slw) (.cons (.id rfl) (.cons (.id rfl) (.cons (.slw) (.cons (.slw) (.nil))))))))) rfl) (.cons (.c (.slw)) (.nil)))⟩
  conv=>whnf
  refine ixs_c (f:=PairAct.v) H (fun _=>rfl) (fun x9 H=>?_);conv=>whnf
  refine lq_ ?_;conv=>whnf
  refine tst_d H (fun b10 H=>?_) (fun b10 H=>?_)
  ·conv=>whnf
   refine ask_c (p_pair_Say_v _ _ _) H rfl rfl (fun v19 H=>?_);conv=>whnf
   refine lq_ ?_;conv=>whnf
   refine lq_ ?_;conv=>whnf
   refine appN_c (f:=PairDone.v) H (fun _=>rfl) (srcM (f:=PairDone.v) (fun _=>rfl) [] true) rfl (.v (srcOwn (f:=PairDone.v) (l:=[v19.2.1]) (fun _=>rfl) rfl rfl rfl)) (by decide) rfl (by simp) (fun l20 H=>?_);conv=>whnf
   refine Ari.w ?_;conv=>whnf
   exact again_c [11,12,13,19,20,21,22,23,24,25,26,27,28,29,30,31,32,33,34,35,36,37,38,39,40,41,42,43,44,45,46,47,48,49,50] n5 4 [0,1,2,6] (.inr (⟨_,_,_,H,rfl,rfl⟩)) (Nat.lt_succ_self _) (Nat.zero_le _) rfl (by kernel_rfl) (by kernel_rfl) rfl ⟨⟨rfl,rfl,rfl⟩,⟨⟨rfl,rfl,rfl⟩,⟨⟨rfl,rfl,rfl⟩,wkB_live0 rfl (cellsM_idlt (f:=PairDone.v) (fun _=>rfl) _) rfl trivial⟩⟩⟩
  conv=>whnf
  refine ⟨⟨_,Tryz.func129,by kernel_rfl,by kernel_rfl⟩,ask_c (p_pair_Names_turn_v _) H rfl rfl (fun v11 H=>?_)⟩;conv=>whnf
  refine ask_c (p_pair_State_turn_v _) H rfl rfl (fun v12 H=>?_);conv=>whnf
  refine ask_c (p_pair_Say_v _ _ _) H rfl rfl (fun v13 H=>?_);conv=>whnf
  refine lq_ ?_;conv=>whnf
  refine lq_ ?_;conv=>whnf
  refine FootQ.mk ⟨rfl,?_⟩;conv=>whnf
  refine ask_c (p_pair_State_turn_v _) H rfl rfl (fun v14 H=>?_);conv=>whnf
  refine lq_ ?_;conv=>whnf
  refine appN_c (f:=PairDone.v) H (fun _=>rfl) (srcM (f:=PairDone.v) (fun _=>rfl) [] true) rfl (.v (srcOwn (f:=PairDone.v) (l:=[v13.2.1]) (fun _=>rfl) rfl rfl rfl)) (by decide) rfl (by simp) (fun l15 H=>?_);conv=>whnf
  refine Ari.w ?_;conv=>whnf
  exact again_c [11,12,13,19,20,21,22,23,24,25,26,27,28,29,30,31,32,33,34,35,36,37,38,39,40,41,42,43,44,45,46,47,48,49,50] n5 4 [0,1,2,7] (.inr (⟨_,_,_,H,rfl,rfl⟩)) (Nat.lt_succ_self _) (Nat.zero_le _) rfl (by kernel_rfl) (by kernel_rfl) rfl ⟨⟨rfl,rfl,rfl⟩,⟨⟨rfl,rfl,rfl⟩,⟨⟨rfl,rfl,rfl⟩,wkB_live0 rfl (cellsM_idlt (f:=PairDone.v) (fun _=>rfl) _) rfl trivial⟩⟩⟩
 rw [p_pair_Run_l1] at H
 conv=>whnf
 refine tst_d H (fun b21 H=>?_) (fun b21 H=>?_)
 ·conv=>whnf
  obtain rfl:=Option.some.inj H
  have H:=HQ4
  try dsimp only at H
  refine lq_ ?_;conv=>whnf
  refine finR_c (enc:=(fun r:Ref22State × (List PairDone)=>.tup [Ref22State.v r.1,(fun l:List PairDone=>V.sl (l.map PairDone.v) false) r.2])) H ?_;conv=>whnf
  exact ⟨_,.tup (.cons (fzagg (.cons (.id rfl) (.cons (.id rfl) (.cons (.id rfl) (.cons (.id rfl) (.cons (.id rfl) (.cons (.id rfl) (.cons (.id rfl) (.cons (.id rfl) (.nil))))))))) rfl) (.cons (.c (fzown (f:=PairDone.v) (l:=y16) rfl rfl (fun _=>rfl) (fun _=>rfl))) (.nil)))⟩
 conv=>whnf
 refine ixs_c (f:=PairAct.v) H (fun _=>rfl) (fun x22 H=>?_);conv=>whnf
 refine lq_ ?_;conv=>whnf
 refine tst_d H (fun b23 H=>?_) (fun b23 H=>?_)
 ·conv=>whnf
  refine ask_c (p_pair_Say_v _ _ _) H rfl rfl (fun v29 H=>?_);conv=>whnf
  refine lq_ ?_;conv=>whnf
  refine lq_ ?_;conv=>whnf
  refine appO_c (f:=PairDone.v) H (fun _=>rfl) rfl (Nat.le_refl _) (.v (srcOwn (f:=PairDone.v) (l:=[v29.2.1]) (fun _=>rfl) rfl rfl rfl)) (by decide) rfl (by simp) (fun l30 H=>?_);conv=>whnf
  refine Ari.w ?_;conv=>whnf
  exact again_c [11,12,13,19,20,21,22,23,24,25,26,27,28,29,30,31,32,33,34,35,36,37,38,39,40,41,42,43,44,45,46,47,48,49,50] n5 4 [0,1,2,7] (.inr (⟨_,_,_,H,rfl,rfl⟩)) (Nat.lt_succ_self _) (Nat.zero_le _) rfl (by kernel_rfl) (by kernel_rfl) rfl ⟨⟨rfl,rfl,rfl⟩,⟨⟨rfl,rfl,rfl⟩,⟨⟨rfl,rfl,rfl⟩,wkB_live0 rfl (cellsM_idlt (f:=PairDone.v) (fun _=>rfl) _) rfl trivial⟩⟩⟩
 conv=>whnf
 refine ⟨⟨_,Tryz.func129,by kernel_rfl,by kernel_rfl⟩,ask_c (p_pair_Names_turn_v _) H rfl rfl (fun v24 H=>?_)⟩;conv=>whnf
 refine ask_c (p_pair_State_turn_v _) H rfl rfl (fun v25 H=>?_);conv=>whnf
 refine ask_c (p_pair_Say_v _ _ _) H rfl rfl (fun v26 H=>?_);conv=>whnf
 refine lq_ ?_;conv=>whnf
 refine lq_ ?_;conv=>whnf
 refine FootQ.mk ⟨rfl,?_⟩;conv=>whnf
 refine ask_c (p_pair_State_turn_v _) H rfl rfl (fun v27 H=>?_);conv=>whnf
 refine lq_ ?_;conv=>whnf
 refine appO_c (f:=PairDone.v) H (fun _=>rfl) rfl (Nat.le_refl _) (.v (srcOwn (f:=PairDone.v) (l:=[v26.2.1]) (fun _=>rfl) rfl rfl rfl)) (by decide) rfl (by simp) (fun l28 H=>?_);conv=>whnf
 refine Ari.w ?_;conv=>whnf
 exact again_c [11,12,13,19,20,21,22,23,24,25,26,27,28,29,30,31,32,33,34,35,36,37,38,39,40,41,42,43,44,45,46,47,48,49,50] n5 4 [0,1,2,8] (.inr (⟨_,_,_,H,rfl,rfl⟩)) (Nat.lt_succ_self _) (Nat.zero_le _) rfl (by kernel_rfl) (by kernel_rfl) rfl ⟨⟨rfl,rfl,rfl⟩,⟨⟨rfl,rfl,rfl⟩,⟨⟨rfl,rfl,rfl⟩,wkB_live0 rfl (cellsM_idlt (f:=PairDone.v) (fun _=>rfl) _) rfl trivial⟩⟩⟩
def gc73:BCode:=(.seq (R_ 0 [O_ 2 (.mv (.const (.slice none 0 0))) 0]) (.seq (R_ 0 [O_ 3 (.mv (.const (.slice none 0 0))) 0]) (.seq (.seq (R_ 0 [O_ 4 (.mv (i_ 0)) 0]) (.block 0 (.loop (.seq (.seq (R_ 0 [O_ 5 (.mv (t_ 4)) 0,O_ 6 (.mv (t_ 0)) 0,O_ 7 (.lens (t_ 6)) 0,O_ 8 (.bin .lss (t_ 5) (t_ 7)) 0]) (.cond (t_ 8) .skip (.exit 0))) (.seq (.block 1 (R_ 2 [O_ 11 (.mv (t_ 3)) 0,O_ 12 (.mv (t_ 0)) 0,O_ 13 (.mv (t_ 4)) 0,O_ 14 (.ixs 4 (t_ 12) (t_ 13)) 0,O_ 15 (.ld 4 true (t_ 14)) 0,O_ 16 (.bs 4 1 [(.lit (.bool false)),(.lit (.bool false)),(.lit (.bool false)),(.lit (.bool false))] [(0,(t_ 15))]) 0,O_ 17 (.ap 4 4 (t_ 11) (t_ 16)) 1,O_ 3 (.mv (t_ 17)) 2])) (R_ 0 [O_ 9 (.mv (t_ 4)) 0,O_ 10 (.bin .add (t_ 9) (i_ 1)) 0,O_ 4 (.mv (t_ 10)) 0])))))) (.seq (R_ 0 [O_ 18 (.mv (t_ 3)) 0,O_ 2 (.mv (t_ 18)) 0]) .ret))))
theorem gc73_ok:compF Tryz.prog Tryz.f73=some (gc73.er,19,[.tmp 2]):=by unfold gc73;kernel_rfl
theorem p_law22_done_v {u1:Bool} (a0:List PairDone):CallsO Tryz.prog 73 [.sl (List.map PairDone.v a0) u1] (fun l:List PairDone=>V.sl (l.map PairDone.v) false) (p_law22_done a0):=by
 refine callsO_comp mix Tryz.func73 gc73_ok fun r H=>?_
 rw [p_law22_done] at H
 conv=>whnf
 obtain ⟨o2,HL3,HQ4⟩:=bind_c H
 refine loop_c [3,4] [5,6,7,8,9,10,11,12,13,14,15,16,17] [5,6,7,8,9,10,11,12,13,14,15,16,17] (fun n vals st=>(∃ y6,p_law22_done_l1  a0 n [] y6=some o2∧vals=[.sl (List.map PairDone.v []) true,.i y6]∧st=[])∨(∃ y10 y11,p_law22_done_l1  a0 n y10 y11=some o2∧vals=[.osl 0 0 (List.length y10) 4 false,.i y11]∧st=[.live (cellsM PairDone.v y10) (cellsM PairDone.v y10).length])) fuel 0 [] (.inl (⟨_,HL3,rfl,rfl⟩)) (Nat.zero_le _) rfl (by kernel_rfl) (by kernel_rfl) rfl trivial ?_
 rintro (_ | n5) _ _ (⟨y6,H,rfl,rfl⟩ | ⟨y10,y11,H,rfl,rfl⟩)
 ·rw [p_law22_done_l1] at H;cases H
 ·rw [p_law22_done_l1] at H;cases H
 ·rw [p_law22_done_l1] at H
  conv=>whnf
  refine LenQ.M ?_;conv=>whnf
  refine tst_d H (fun b7 H=>?_) (fun b7 H=>?_)
  ·conv=>whnf
   obtain rfl:=Option.some.inj H
   have H:=HQ4
   try dsimp only at H
   refine finR_c (enc:=(fun l:List PairDone=>V.sl (l.map PairDone.v) false)) H ?_;conv=>whnf
   exact ⟨_,.v (.c (.slw))⟩
  conv=>whnf
  refine ixs_c (f:=PairDone.v) H (fun _=>rfl) (fun x8 H=>?_);conv=>whnf
  refine appN_c (f:=PairDone.v) H (fun _=>rfl) (srcM (f:=PairDone.v) (fun _=>rfl) [] true) rfl (.v (srcOwn (f:=PairDone.v) (l:=[x8]) (fun _=>rfl) rfl rfl rfl)) (by decide) rfl (by simp) (fun l9 H=>?_);conv=>whnf
  refine Ari.w ?_;conv=>whnf
  exact again_c [5,6,7,8,9,10,11,12,13,14,15,16,17] n5 1 [1] (.inr (⟨_,_,H,rfl,rfl⟩)) (Nat.lt_succ_self _) (Nat.zero_le _) rfl (by kernel_rfl) (by kernel_rfl) rfl (wkB_live0 rfl (cellsM_idlt (f:=PairDone.v) (fun _=>rfl) _) rfl trivial)
 rw [p_law22_done_l1] at H
 conv=>whnf
 refine LenQ.M ?_;conv=>whnf
 refine tst_d H (fun b12 H=>?_) (fun b12 H=>?_)
 ·conv=>whnf
  obtain rfl:=Option.some.inj H
  have H:=HQ4
  try dsimp only at H
  refine finR_c (enc:=(fun l:List PairDone=>V.sl (l.map PairDone.v) false)) H ?_;conv=>whnf
  exact ⟨_,.v (.c (fzown (f:=PairDone.v) (l:=y10) rfl rfl (fun _=>rfl) (fun _=>rfl)))⟩
 conv=>whnf
 refine ixs_c (f:=PairDone.v) H (fun _=>rfl) (fun x13 H=>?_);conv=>whnf
 refine appO_c (f:=PairDone.v) H (fun _=>rfl) rfl (Nat.le_refl _) (.v (srcOwn (f:=PairDone.v) (l:=[x13]) (fun _=>rfl) rfl rfl rfl)) (by decide) rfl (by simp) (fun l14 H=>?_);conv=>whnf
 refine Ari.w ?_;conv=>whnf
 exact again_c [5,6,7,8,9,10,11,12,13,14,15,16,17] n5 1 [2] (.inr (⟨_,_,H,rfl,rfl⟩)) (Nat.lt_succ_self _) (Nat.zero_le _) rfl (by kernel_rfl) (by kernel_rfl) rfl (wkB_live0 rfl (cellsM_idlt (f:=PairDone.v) (fun _=>rfl) _) rfl trivial)
end Go.Proofs.YtpmoioopjbfhkaaGreat

namespace Go.Proofs.YtpmoioopjbfhkaaGreat
open Go.RowKit
set_option maxRecDepth 1000000
set_option maxHeartbeats 4000000
def gc72:BCode:=(.seq (R_ 0 [O_ 4 (.mv (b_ false)) 0]) (.seq (.seq (R_ 0 [O_ 6 (.mv (t_ 0)) 0,O_ 7 (.lens (t_ 6)) 0,O_ 8 (.mv (t_ 1)) 0,O_ 9 (.lens (t_ 8)) 0,O_ 10 (.bin .neq (t_ 7) (t_ 9)) 0]) (.cond (t_ 10) (.seq (R_ 0 [O_ 4 (.mv (b_ false)) 0]) .ret) .skip)) (.seq (.seq (R_ 0 [O_ 5 (.mv (i_ 0)) 0]) (.block 0 (.loop (.seq (.seq (R_ 0 [O_ 11 (.mv (t_ 5)) 0,O_ 12 (.mv (t_ 0)) 0,O_ 13 (.lens (t_ 12)) 0,O_ 14 (.bin .lss (t_ 11) (t_ 13)) 0]) (.cond (t_ 14) .skip (.exit 0))) (.seq (.block 1 (.seq (.reg 0 [O_ 17 (.mv (t_ 0)) 0,O_ 18 (.mv (t_ 5)) 0,O_ 19 (.ixs 4 (t_ 17) (t_ 18)) 0,O_ 20 (.ld 4 true (t_ 19)) 0,O_ 21 (.mv (t_ 1)) 0,O_ 22 (.mv (t_ 5)) 0,O_ 23 (.ixs 4 (t_ 21) (t_ 22)) 0,O_ 24 (.ld 4 true (t_ 23)) 0,O_ 25 (.eqa true [0,0,0,0] (t_ 20) (t_ 24)) 0] (some [[],[],[1,0],[0,1,2],[],[],[5,4],[4,5,6],[6,5,4,7,2,1,0,3]]) 0 []) (.cond (t_ 25) (.seq (R_ 0 [O_ 4 (.mv (b_ false)) 0]) .ret) .skip))) (R_ 0 [O_ 15 (.mv (t_ 5)) 0,O_ 16 (.bin .add (t_ 15) (i_ 1)) 0,O_ 5 (.mv (t_ 16)) 0])))))) (.seq (R_ 0 [O_ 4 (.mv (b_ true)) 0]) .ret))))
theorem gc72_ok:compF Tryz.prog Tryz.f72=some (gc72.er,26,[.tmp 4]):=by unfold gc72;kernel_rfl
theorem p_ref22_SameDone_v {u1 u2:Bool} (a0:List PairDone) (a1:List PairDone):CallsO Tryz.prog 72 [.sl (List.map PairDone.v a0) u1,.sl (List.map PairDone.v a1) u2] V.b (p_ref22_SameDone a0 a1):=by
 refine callsO_comp mix Tryz.func72 gc72_ok fun r H=>?_
 rw [p_ref22_SameDone] at H
 conv=>whnf
 iterate 2 (refine LenQ.M ?_;conv=>whnf)
 refine tst_c H (fun b1 H=>?_) (fun b1 H=>?_)
 ·conv=>whnf
  exact fb_ H
 conv=>whnf
 obtain ⟨o3,HL4,HQ5⟩:=bind_c H
 refine loop_c [4,5] [11,12,13,14,15,16,17,18,19,20,21,22,23,24,25] [11,12,13,14,15,16,17,18,19,20,21,22,23,24,25] (fun n vals st=>(∃ y7,p_ref22_SameDone_l1  a0 a1 n y7=some o3∧vals=[.b false,.i y7]∧st=[])) fuel 0 [] (⟨_,HL4,rfl,rfl⟩) (Nat.zero_le _) rfl (by kernel_rfl) (by kernel_rfl) rfl trivial ?_
 rintro (_ | n6) _ _ (⟨y7,H,rfl,rfl⟩)
 ·rw [p_ref22_SameDone_l1] at H;cases H
 rw [p_ref22_SameDone_l1] at H
 conv=>whnf
 refine LenQ.M ?_;conv=>whnf
 refine tst_d H (fun b8 H=>?_) (fun b8 H=>?_)
 ·conv=>whnf
  obtain rfl:=Option.some.inj H
  have H:=HQ5
  try dsimp only at H
  exact fb_ H
 conv=>whnf
 refine ixs_c (f:=PairDone.v) H (fun _=>rfl) (fun x9 H=>?_);conv=>whnf
 refine ixs_c (f:=PairDone.v) H (fun _=>rfl) (fun x10 H=>?_);conv=>whnf
 refine FootQ.mk ⟨rfl,?_⟩;conv=>whnf
 refine Tst.not ?_
 refine tst_d H (fun b11 H=>?_) (fun b11 H=>?_)
 ·conv=>whnf
  obtain rfl:=Option.some.inj H
  have H:=HQ5
  try dsimp only at H
  exact fb_ H
 conv=>whnf
 refine Ari.w ?_;conv=>whnf
 exact again_c [11,12,13,14,15,16,17,18,19,20,21,22,23,24,25] n6 0 [] (⟨_,H,rfl,rfl⟩) (Nat.lt_succ_self _) (Nat.zero_le _) rfl (by kernel_rfl) (by kernel_rfl) rfl trivial
def gc54:BCode:=(.seq (R_ 0 [O_ 0 (.mv (b_ false)) 0]) (.seq (R_ 1 [O_ 15 (.bd [(.lit (.string ⟨#[]⟩)),(.lit (.string ⟨#[]⟩))] [(0,1,(.const (.string ⟨#[97,64,120]⟩))),(1,1,(.const (.string ⟨#[98,64,120]⟩)))]) 0,O_ 1 (.al (.agg [(.lit (.string ⟨#[]⟩)),(.lit (.string ⟨#[]⟩))])) 0,U_ (.st 2 (t_ 1) (t_ 15)) 1]) (.seq (R_ 2 [O_ 17 (.ld 2 true (t_ 1)) 0,O_ 18 (.bd [(.lit (.int .i64 0)),(.lit (.int .i64 0)),(.sl [] true),(.sl [] true),(.lit (.int .i64 0)),(.lit (.int .i64 0)),(.sl [] true),(.sl [] true)] []) 0,O_ 19 (.bd [(.lit (.int .u8 0)),(.lit (.bool false))] [(0,1,(.const (.int .u8 7)))]) 0,O_ 20 (.bd [(.lit (.int .u8 0)),(.lit (.bool false))] [(0,1,(.const (.int .u8 8))),(1,1,(b_ true))]) 0,O_ 21 (.bd [(.lit (.int .u8 0)),(.lit (.bool false))] [(0,1,(.const (.int .u8 8)))]) 0,O_ 22 (.bs 2 3 [(.lit (.int .u8 0)),(.lit (.bool false)),(.lit (.int .u8 0)),(.lit (.bool false)),(.lit (.int .u8 0)),(.lit (.bool false))] [(0,(t_ 19)),(1,(t_ 20)),(2,(t_ 21))]) 0,O_ 23 (.cl 70 [(t_ 17),(t_ 18),(t_ 22)]) 1,O_ 16 (.mv (t_ 23)) 1,O_ 24 (.ex (t_ 16) 0) 1,O_ 25 (.ex (t_ 16) 1) 1,O_ 2 (.al (.agg [(.lit (.int .i64 0)),(.lit (.int .i64 0)),(.sl [] true),(.sl [] true),(.lit (.int .i64 0)),(.lit (.int .i64 0)),(.sl [] true),(.sl [] true)])) 1,U_ (.st 8 (t_ 2) (t_ 24)) 2,O_ 3 (.mv (t_ 25)) 2]) (.seq (R_ 2 [O_ 27 (.ld 2 true (t_ 1)) 0,O_ 28 (.ld 8 true (t_ 2)) 0,O_ 29 (.cl 58 [(t_ 27),(t_ 28)]) 0,O_ 26 (.mv (t_ 29)) 0,O_ 30 (.ex (t_ 26) 0) 0,O_ 31 (.ex (t_ 26) 1) 0,O_ 32 (.ex (t_ 26) 2) 0,O_ 4 (.al (.agg [(.lit (.int .i64 0)),(.lit (.int .i64 0)),(.sl [] true),(.sl [] true),(.lit (.int .i64 0)),(.lit (.int .i64 0)),(.sl [] true),(.sl [] true)])) 0,O_ 5 (.al (.agg [(.lit (.bool false)),(.lit (.bool false))])) 1,U_ (.st 8 (t_ 4) (t_ 30)) 2,U_ (.st 2 (t_ 5) (t_ 31)) 2,O_ 6 (.mv (t_ 32)) 2]) (.seq (R_ 2 [O_ 34 (.ld 2 true (t_ 1)) 0,O_ 35 (.ld 8 true (t_ 2)) 0,O_ 36 (.cl 60 [(t_ 34),(t_ 35)]) 0,O_ 33 (.mv (t_ 36)) 0,O_ 37 (.ex (t_ 33) 0) 0,O_ 38 (.ex (t_ 33) 1) 0,O_ 7 (.al (.agg [(.lit (.string ⟨#[]⟩)),(.lit (.string ⟨#[]⟩))])) 0,O_ 8 (.al (.agg [(.lit (.int .i64 0)),(.lit (.int .i64 0)),(.sl [] true),(.sl [] true),(.lit (.int .i64 0)),(.lit (.int .i64 0)),(.sl [] true),(.sl [] true)])) 1,U_ (.st 2 (t_ 7) (t_ 37)) 2,U_ (.st 8 (t_ 8) (t_ 38)) 2]) (.seq (R_ 2 [O_ 40 (.ld 2 true (t_ 1)) 0,O_ 41 (.ld 8 true (t_ 4)) 0,O_ 42 (.cl 58 [(t_ 40),(t_ 41)]) 0,O_ 39 (.mv (t_ 42)) 0,O_ 43 (.ex (t_ 39) 0) 0,O_ 44 (.ex (t_ 39) 1) 0,O_ 45 (.ex (t_ 39) 2) 0,O_ 9 (.al (.agg [(.lit (.int .i64 0)),(.lit (.int .i64 0)),(.sl [] true),(.sl [] true),(.lit (.int .i64 0)),(.lit (.int .i64 0)),(.sl [] true),(.sl [] true)])) 0,O_ 10 (.al (.agg [(.lit (.bool false)),(.lit (.bool false))])) 1,U_ (.st 8 (t_ 9) (t_ 43)) 2,U_ (.st 2 (t_ 10) (t_ 44)) 2,O_ 11 (.mv (t_ 45)) 2]) (.seq (R_ 2 [O_ 47 (.ld 2 true (t_ 1)) 0,O_ 48 (.ld 8 true (t_ 2)) 0,O_ 49 (.cl 56 [(t_ 47),(t_ 48),(.const (.int .u8 15))]) 0,O_ 46 (.mv (t_ 49)) 0,O_ 50 (.ex (t_ 46) 0) 0,O_ 51 (.ex (t_ 46) 1) 0,O_ 52 (.ex (t_ 46) 2) 0,O_ 12 (.al (.agg [(.lit (.int .i64 0)),(.lit (.int .i64 0)),(.sl [] true),(.sl [] true),(.lit (.int .i64 0)),(.lit (.int .i64 0)),(.sl [] true),(.sl [] true)])) 0,O_ 13 (.al (.agg [(.lit (.bool false)),(.lit (.bool false)),(.lit (.bool false)),(.lit (.bool false))])) 1,U_ (.st 8 (t_ 12) (t_ 50)) 2,U_ (.st 4 (t_ 13) (t_ 51)) 2,O_ 14 (.mv (t_ 52)) 2]) (.seq (R_ 1 [O_ 53 (.mv (t_ 3)) 0,O_ 54 (.cl 73 [(t_ 53)]) 0,O_ 55 (.bd [(.lit (.bool false)),(.lit (.bool false)),(.lit (.bool false)),(.lit (.bool false))] [(0,1,(b_ true)),(1,1,(b_ true)),(2,1,(b_ true)),(3,1,(b_ true))]) 0,O_ 56 (.bd [(.lit (.bool false)),(.lit (.bool false)),(.lit (.bool false)),(.lit (.bool false))] [(0,1,(b_ true)),(1,1,(b_ true)),(2,1,(b_ true)),(3,1,(b_ true))]) 0,O_ 57 (.bd [(.lit (.bool false)),(.lit (.bool false)),(.lit (.bool false)),(.lit (.bool false))] []) 0,O_ 58 (.bs 4 3 [(.lit (.bool false)),(.lit (.bool false)),(.lit (.bool false)),(.lit (.bool false)),(.lit (.bool false)),(.lit (.bool false)),(.lit (.bool false)),(.lit (.bool false)),(.lit (.bool false)),(.lit (.bool false)),(.lit (.bool false)),(.lit (.bool false))] [(0,(t_ 55)),(1,(t_ 56)),(2,(t_ 57))]) 0,O_ 59 (.cl 72 [(t_ 54),(t_ 58)]) 1,O_ 60 (.mv (t_ 59)) 1,⟨(some 61),.ld 2 true (t_ 1),(some (60,true)),1⟩,⟨(some 62),.ld 8 true (t_ 2),(some (60,true)),1⟩,⟨(some 63),.cl 68 [(t_ 61),(t_ 62)],(some (60,true)),1⟩,O_ 64 (.pick (t_ 60) (t_ 63) (b_ false)) 1,O_ 65 (.mv (t_ 64)) 1,⟨(some 66),.ld 2 true (t_ 7),(some (65,true)),1⟩,⟨(some 67),.ld 8 true (t_ 8),(some (65,true)),1⟩,⟨(some 68),.cl 68 [(t_ 66),(t_ 67)],(some (65,true)),1⟩,⟨(some 69),.un .not (t_ 68),(some (65,true)),1⟩,O_ 70 (.pick (t_ 65) (t_ 69) (b_ false)) 1,O_ 71 (.mv (t_ 70)) 1,⟨(some 72),.ld 2 true (t_ 1),(some (71,true)),1⟩,⟨(some 73),.ld 8 true (t_ 2),(some (71,true)),1⟩,⟨(some 74),.cl 66 [(t_ 72),(t_ 73)],(some (71,true)),1⟩,O_ 75 (.pick (t_ 71) (t_ 74) (b_ false)) 1,O_ 76 (.mv (t_ 75)) 1,⟨(some 77),.mv (t_ 6),(some (76,true)),1⟩,⟨(some 78),.bin .eql (t_ 77) (i_ 0),(some (76,true)),1⟩,O_ 79 (.pick (t_ 76) (t_ 78) (b_ false)) 1,O_ 80 (.mv (t_ 79)) 1,⟨(some 81),.ld 2 true (t_ 5),(some (80,true)),1⟩,⟨(some 82),.bd [(.lit (.bool false)),(.lit (.bool false))] [(0,1,(b_ true)),(1,1,(b_ false))],(some (80,true)),1⟩,⟨(some 83),.eqa false [0,0] (t_ 81) (t_ 82),(some (80,true)),1⟩,O_ 84 (.pick (t_ 80) (t_ 83) (b_ false)) 1,O_ 85 (.mv (t_ 84)) 1,⟨(some 86),.ld 2 true (t_ 1),(some (85,true)),1⟩,⟨(some 87),.ld 8 true (t_ 4),(some (85,true)),1⟩,⟨(some 88),.cl 68 [(t_ 86),(t_ 87)],(some (85,true)),1⟩,⟨(some 89),.un .not (t_ 88),(some (85,true)),1⟩,O_ 90 (.pick (t_ 85) (t_ 89) (b_ false)) 1,O_ 91 (.mv (t_ 90)) 1,⟨(some 92),.mv (t_ 11),(some (91,true)),1⟩,⟨(some 93),.bin .eql (t_ 92) (i_ 6),(some (91,true)),1⟩,O_ 94 (.pick (t_ 91) (t_ 93) (b_ false)) 1,O_ 95 (.mv (t_ 94)) 1,⟨(some 96),.mv (t_ 14),(some (95,true)),1⟩,⟨(some 97),.bin .eql (t_ 96) (i_ 12),(some (95,true)),1⟩,O_ 98 (.pick (t_ 95) (t_ 97) (b_ false)) 1,O_ 99 (.mv (t_ 98)) 1,⟨(some 100),.ld 2 true (t_ 1),(some (99,true)),1⟩,⟨(some 101),.ld 8 true (t_ 4),(some (99,true)),1⟩,⟨(some 102),.cl 64 [(t_ 100),(t_ 101)],(some (99,true)),1⟩,⟨(some 103),.bin .eql (t_ 102) (i_ 0),(some (99,true)),1⟩,O_ 104 (.pick (t_ 99) (t_ 103) (b_ false)) 1,O_ 105 (.mv (t_ 104)) 1,⟨(some 106),.bd [(.lit (.string ⟨#[]⟩)),(.lit (.string ⟨#[]⟩))] [(0,1,(.const (.string ⟨#[97,64,120]⟩))),(1,1,(.const (.string ⟨#[97,64,120]⟩)))],(some (105,true)),1⟩,⟨(some 107),.ld 8 true (t_ 4),(some (105,true)),1⟩,⟨(some 108),.cl 64 [(t_ 106),(t_ 107)],(some (105,true)),1⟩,⟨(some 109),.bin .eql (t_ 108) (i_ 2),(some (105,true)),1⟩,O_ 110 (.pick (t_ 105) (t_ 109) (b_ false)) 1,O_ 111 (.mv (t_ 110)) 1,O_ 112 (.pick (t_ 111) (b_ true) (b_ false)) 1,O_ 0 (.mv (t_ 112)) 1]) .ret))))))))
theorem gc54_ok:compF Tryz.prog Tryz.f54=some (gc54.er,113,[.tmp 0]):=by unfold gc54;kernel_rfl
theorem p_law22_awake_t:CallsO Tryz.prog 54 [] V.b (tru? (p_law22_awake)):=by
 refine callsO_comp mix Tryz.func54 gc54_ok fun r H=>?_
 have H1:=tru_of H
 clear H
 obtain ⟨rfl,H⟩:=H1
 rw [p_law22_awake] at H
 conv=>whnf
 refine lq_ ?_;conv=>whnf
 refine askF_c (p_pair_Run_v _ _ _) H (.cons (fzagg (.cons (.id rfl) (.cons (.id rfl) (.nil))) rfl) (.cons (fzagg (.cons (.id rfl) (.cons (.id rfl) (.cons (.slw) (.cons (.slw) (.cons (.id rfl) (.cons (.id rfl) (.cons (.slw) (.cons (.slw) (.nil))))))))) rfl) (.cons (.c (fzown (f:=PairAct.v) (l:=[(PairAct.mk (7:Int) false),(PairAct.mk (8:Int) true),(PairAct.mk (8:Int) false)]) rfl rfl (fun _=>rfl) (fun _=>rfl))) (.nil)))) (fun v1 H=>?_);conv=>whnf
 refine lq_ ?_;conv=>whnf
 refine ask_c (p_pair_Remove_v _ _) H rfl rfl (fun v2 H=>?_);conv=>whnf
 refine lq_ ?_;conv=>whnf
 refine lq_ ?_;conv=>whnf
 refine ask_c (p_pair_Turn_v _ _) H rfl rfl (fun v3 H=>?_);conv=>whnf
 refine lq_ ?_;conv=>whnf
 refine lq_ ?_;conv=>whnf
 refine ask_c (p_pair_Remove_v _ _) H rfl rfl (fun v4 H=>?_);conv=>whnf
 refine lq_ ?_;conv=>whnf
 refine lq_ ?_;conv=>whnf
 refine ask_c (p_pair_Say_v _ _ _) H rfl rfl (fun v5 H=>?_);conv=>whnf
 refine lq_ ?_;conv=>whnf
 refine lq_ ?_;conv=>whnf
 refine ask_c (p_law22_done_v _) H rfl rfl (fun v6 H=>?_);conv=>whnf
 refine askF_c (p_ref22_SameDone_v _ _) H (.cons (.c (.id rfl)) (.cons (.c (fzown (f:=PairDone.v) (l:=[(PairDone.mk true true true true),(PairDone.mk true true true true),(PairDone.mk false false false false)]) rfl rfl (fun _=>rfl) (fun _=>rfl))) (.nil))) (fun v7 H=>?_);conv=>whnf
 refine tstT_c H (fun b8 H=>?_);conv=>whnf
 iterate 2 (refine Tst.T ?_;conv=>whnf)
 refine ask_c (p_pair_Sees_v _ _) H rfl rfl (fun v9 H=>?_);conv=>whnf
 refine Tst.T ?_;conv=>whnf
 refine tstT_c H (fun b10 H=>?_);conv=>whnf
 iterate 2 (refine Tst.T ?_;conv=>whnf)
 refine ask_c (p_pair_Sees_v _ _) H rfl rfl (fun v11 H=>?_);conv=>whnf
 iterate 2 (refine Tst.T ?_;conv=>whnf)
 refine Tst.not ?_
 refine tstF_c H (fun b12 H=>?_);conv=>whnf
 iterate 2 (refine Tst.T ?_;conv=>whnf)
 refine ask_c (p_pair_Agree_v _ _) H rfl rfl (fun v13 H=>?_);conv=>whnf
 refine Tst.T ?_;conv=>whnf
 refine tstT_c H (fun b14 H=>?_);conv=>whnf
 iterate 2 (refine Tst.T ?_;conv=>whnf)
 refine tstT_c H (fun b15 H=>?_);conv=>whnf
 iterate 3 (refine Tst.T ?_;conv=>whnf)
 refine tstT_c H (fun b16 H=>?_);conv=>whnf
 iterate 2 (refine Tst.T ?_;conv=>whnf)
 refine ask_c (p_pair_Sees_v _ _) H rfl rfl (fun v17 H=>?_);conv=>whnf
 iterate 2 (refine Tst.T ?_;conv=>whnf)
 refine Tst.not ?_
 refine tstF_c H (fun b18 H=>?_);conv=>whnf
 iterate 2 (refine Tst.T ?_;conv=>whnf)
 refine tstT_c H (fun b19 H=>?_);conv=>whnf
 iterate 2 (refine Tst.T ?_;conv=>whnf)
 refine tstT_c H (fun b20 H=>?_);conv=>whnf
 iterate 2 (refine Tst.T ?_;conv=>whnf)
 refine ask_c (p_pair_Check_v _ _) H rfl rfl (fun v21 H=>?_);conv=>whnf
 iterate 2 (refine Tst.T ?_;conv=>whnf)
 refine tstT_c H (fun b22 H=>?_);conv=>whnf
 iterate 2 (refine Tst.T ?_;conv=>whnf)
 refine ask_c (p_pair_Check_v _ _) H rfl rfl (fun v23 H=>?_);conv=>whnf
 iterate 2 (refine Tst.T ?_;conv=>whnf)
 refine tstT_c H (fun b24 H=>?_);conv=>whnf
 exact fb_ H
theorem p_law22_awake_true:p_law22_awake=some true:=by kernel_rfl
theorem p_law22_awake_v:CallsO Tryz.prog 54 [] V.b p_law22_awake:=tru_closed p_law22_awake_t p_law22_awake_true
end Go.Proofs.YtpmoioopjbfhkaaGreat

namespace Go.Proofs.YtpmoioopjbfhkaaGreat
open Go.RowKit
theorem repAr3 {m:Mem} {a b c:Value} {x y z:V} (h1:Rep m noBk a x) (h2:Rep m noBk b y) (h3:Rep m noBk c z):RepA m noBk #[a,b,c] [x,y,z] :=
 ⟨rfl,fun j h _=>by
  simp at h
  match j,h with
  | 0,_=>exact h1
  | 1,_=>exact h2
  | 2,_=>exact h3⟩
theorem pairRuns_all (n:Ref22Names) (st:Ref22State) (l:List PairAct):p_law22_PairRuns n st l=some true:=pairRuns_pure p_law22_awake_true n st l
end Go.Proofs.YtpmoioopjbfhkaaGreat

namespace Go.Proofs.YtpmoioopjbfhkaaGreat
open Go.RowKit
set_option maxRecDepth 100000
set_option maxHeartbeats 4000000
def gc71:BCode:=(.seq (R_ 3 [O_ 3 (.bx (t_ 0)) 0,O_ 4 (.bx (t_ 1)) 1,O_ 6 (.al (.agg [(.lit (.int .i64 0)),(.lit (.int .i64 0)),(.sl [] true),(.sl [] true),(.lit (.int .i64 0)),(.lit (.int .i64 0)),(.sl [] true),(.sl [] true)])) 2,O_ 7 (.mv (.const (.slice none 0 0))) 3]) (.seq (R_ 0 [O_ 8 (.mv (.const (.slice none 0 0))) 0]) (.seq (.seq (R_ 0 [O_ 9 (.mv (i_ 0)) 0]) (.block 0 (.loop (.seq (.seq (R_ 0 [O_ 14 (.mv (t_ 9)) 0,O_ 15 (.mv (t_ 2)) 0,O_ 16 (.lens (t_ 15)) 0,O_ 17 (.bin .lss (t_ 14) (t_ 16)) 0]) (.cond (t_ 17) .skip (.exit 0))) (.seq (.block 1 (.seq (.reg 2 [O_ 20 (.ld 2 true (t_ 3)) 0,O_ 21 (.ld 8 true (t_ 4)) 0,O_ 10 (.al (.agg [(.lit (.string ⟨#[]⟩)),(.lit (.string ⟨#[]⟩))])) 0,O_ 11 (.al (.agg [(.lit (.int .i64 0)),(.lit (.int .i64 0)),(.sl [] true),(.sl [] true),(.lit (.int .i64 0)),(.lit (.int .i64 0)),(.sl [] true),(.sl [] true)])) 1,U_ (.st 2 (t_ 10) (t_ 20)) 2,U_ (.st 8 (t_ 11) (t_ 21)) 2] (some [[],[],[],[],[3,0,2],[2,0,4,1,3]]) 0 []) (.seq (.seq (R_ 0 [O_ 22 (.mv (t_ 2)) 0,O_ 23 (.mv (t_ 9)) 0,O_ 24 (.ixs 2 (t_ 22) (t_ 23)) 0,O_ 25 (.fa 1 (t_ 24)) 0,O_ 26 (.ld 1 false (t_ 25)) 0]) (.cond (t_ 26) (R_ 0 [O_ 28 (.ld 2 true (t_ 3)) 0,O_ 29 (.ld 8 true (t_ 4)) 0,O_ 30 (.cl 61 [(t_ 28),(t_ 29)]) 0,O_ 27 (.mv (t_ 30)) 0,O_ 31 (.ex (t_ 27) 0) 0,O_ 32 (.ex (t_ 27) 1) 0,U_ (.st 2 (t_ 10) (t_ 31)) 0,U_ (.st 8 (t_ 11) (t_ 32)) 0]) .skip)) (.seq (.reg 1 [O_ 34 (.ld 2 true (t_ 10)) 0,O_ 35 (.ld 8 true (t_ 11)) 0,O_ 36 (.mv (t_ 2)) 0,O_ 37 (.mv (t_ 9)) 0,O_ 38 (.ixs 2 (t_ 36) (t_ 37)) 0,O_ 39 (.fa 0 (t_ 38)) 0,O_ 40 (.ld 1 false (t_ 39)) 0,O_ 41 (.cl 57 [(t_ 34),(t_ 35),(t_ 40)]) 0,O_ 33 (.mv (t_ 41)) 0,O_ 42 (.ex (t_ 33) 0) 0,O_ 43 (.ex (t_ 33) 1) 0,O_ 44 (.ex (t_ 33) 2) 0,O_ 12 (.al (.agg [(.lit (.bool false)),(.lit (.bool false)),(.lit (.bool false)),(.lit (.bool false))])) 0,U_ (.st 8 (t_ 11) (t_ 42)) 1,U_ (.st 4 (t_ 12) (t_ 43)) 1,O_ 13 (.mv (t_ 44)) 1] (some [[],[],[],[],[3,2],[2,3,4],[4,3,2,5],[5,2,3,4,6,1,0],[0,1,6,4,3,2,5,7],[7,5,2,3,4,6,1,0,8],[7,5,2,3,4,6,1,0,8],[7,5,2,3,4,6,1,0,8],[],[12,8,0,1,6,4,3,2,5,7,9],[9,13,8,0,1,6,4,3,2,5,7,10,12],[12,10,13,9,14,8,0,1,6,4,3,2,5,7,11]]) 0 []) (.seq (R_ 0 [O_ 45 (.ld 8 true (t_ 11)) 0,U_ (.st 8 (t_ 4) (t_ 45)) 0]) (.seq (.seq (R_ 0 [O_ 46 (.mv (t_ 2)) 0,O_ 47 (.mv (t_ 9)) 0,O_ 48 (.ixs 2 (t_ 46) (t_ 47)) 0,O_ 49 (.fa 1 (t_ 48)) 0,O_ 50 (.ld 1 false (t_ 49)) 0]) (.cond (t_ 50) (R_ 0 [O_ 52 (.ld 2 true (t_ 10)) 0,O_ 53 (.ld 8 true (t_ 11)) 0,O_ 54 (.cl 61 [(t_ 52),(t_ 53)]) 0,O_ 51 (.mv (t_ 54)) 0,O_ 55 (.ex (t_ 51) 0) 0,O_ 56 (.ex (t_ 51) 1) 0,U_ (.st 8 (t_ 4) (t_ 56)) 0]) .skip)) (R_ 2 [O_ 57 (.mv (t_ 8)) 0,O_ 58 (.ld 4 true (t_ 12)) 0,O_ 59 (.bs 4 1 [(.lit (.bool false)),(.lit (.bool false)),(.lit (.bool false)),(.lit (.bool false))] [(0,(t_ 58))]) 0,O_ 60 (.ap 4 4 (t_ 57) (t_ 59)) 1,O_ 8 (.mv (t_ 60)) 2]))))))) (R_ 0 [O_ 18 (.mv (t_ 9)) 0,O_ 19 (.bin .add (t_ 18) (i_ 1)) 0,O_ 9 (.mv (t_ 19)) 0])))))) (.seq (R_ 0 [O_ 61 (.ld 8 true (t_ 4)) 0,O_ 62 (.mv (t_ 8)) 0,U_ (.st 8 (t_ 6) (t_ 61)) 0,O_ 7 (.mv (t_ 62)) 0]) .ret))))
theorem gc71_ok:compF Tryz.prog Tryz.f71=some (gc71.er,63,[.cell 6 8 true,.tmp 7]):=by unfold gc71;kernel_rfl
theorem p_ref22_Run_v {u1 u2 u3 u4 u5:Bool} (a0:Ref22Names) (a1:Ref22State) (a2:List PairAct):CallsO Tryz.prog 71 [.agg [.s a0.A,.s a0.B],.agg [.i a1.A.Ver,.i a1.A.Floor,.sl (List.map ItemItem.v a1.A.Items) u1,.sl (List.map RosterGone.v a1.A.Gone) u2,.i a1.B.Ver,.i a1.B.Floor,.sl (List.map ItemItem.v a1.B.Items) u3,.sl (List.map RosterGone.v a1.B.Gone) u4],.sl (List.map PairAct.v a2) u5] (fun r:Ref22State × (List PairDone)=>.tup [Ref22State.v r.1,(fun l:List PairDone=>V.sl (l.map PairDone.v) false) r.2]) (p_ref22_Run a0 a1 a2):=by
 refine callsO_comp mix Tryz.func71 gc71_ok fun r H=>?_
 rw [p_ref22_Run] at H
 conv=>whnf
 obtain ⟨o2,HL3,HQ4⟩:=bind_c H
 refine loop_c [8,9] [10,11,12,13,14,15,16,17,18,19,20,21,22,23,24,25,26,27,28,29,30,31,32,33,34,35,36,37,38,39,40,41,42,43,44,45,46,47,48,49,50,51,52,53,54,55,56,57,58,59,60] [10,11,12,13,14,15,16,17,18,19,20,21,22,23,24,25,26,27,28,29,30,31,32,33,34,35,36,37,38,39,40,41,42,43,44,45,46,47,48,49,50,51,52,53,54,55,56,57,58,59,60] (fun n vals st=>(∃ y6 y7,p_ref22_Run_l1  a2 a0 n [] y6 y7=some o2∧vals=[.sl (List.map PairDone.v []) true,.i y6]∧st=[.live [.s a0.A,.s a0.B] 0,.live [.i y7.A.Ver,.i y7.A.Floor,.sl (List.map ItemItem.v y7.A.Items) u1,.sl (List.map RosterGone.v y7.A.Gone) u2,.i y7.B.Ver,.i y7.B.Floor,.sl (List.map ItemItem.v y7.B.Items) u3,.sl (List.map RosterGone.v y7.B.Gone) u4] 0,.live [.i (0:Int),.i (0:Int),.sl (List.map ItemItem.v []) true,.sl (List.map RosterGone.v []) true,.i (0:Int),.i (0:Int),.sl (List.map ItemItem.v []) true,.sl (List.map RosterGone.v []) true] 0])∨(∃ y18 y19 y20,p_ref22_Run_l1  a2 a0 n y18 y19 y20=some o2∧vals=[.osl 3 0 (List.length y18) 4 false,.i y19]∧st=[.live [.s a0.A,.s a0.B] 0,.live [.i y20.A.Ver,.i y20.A.Floor,.sl (List.map ItemItem.v y20.A.Items) false,.sl (List.map RosterGone.v y20.A.Gone) false,.i y20.B.Ver,.i y20.B.Floor,.sl (List.map ItemItem.v y20.B.Items) false,.sl (List.map RosterGone.v y20.B.Gone) false] 0,.live [.i (0:Int),.i (0:Int),.sl (List.map ItemItem.v []) true,.sl (List.map RosterGone.v []) true,.i (0:Int),.i (0:Int),.sl (List.map ItemItem.v []) true,.sl (List.map RosterGone.v []) true] 0,.live (cellsM PairDone.v y18) (cellsM PairDone.v y18).length])) fuel 3 [] (.inl (⟨_,_,HL3,rfl,rfl⟩)) (Nat.zero_le _) rfl (by kernel_rfl) (by kernel_rfl) rfl ⟨⟨rfl,rfl,rfl⟩,⟨⟨rfl,rfl,rfl⟩,⟨⟨rfl,rfl,rfl⟩,trivial⟩⟩⟩ ?_
 rintro (_ | n5) _ _ (⟨y6,y7,H,rfl,rfl⟩ | ⟨y18,y19,y20,H,rfl,rfl⟩)
 ·rw [p_ref22_Run_l1] at H;cases H
 ·rw [p_ref22_Run_l1] at H;cases H
 ·rw [p_ref22_Run_l1] at H
  conv=>whnf
  refine LenQ.M ?_;conv=>whnf
  refine tst_d H (fun b8 H=>?_) (fun b8 H=>?_)
  ·conv=>whnf
   obtain rfl:=Option.some.inj H
   have H:=HQ4
   try dsimp only at H
   refine lq_ ?_;conv=>whnf
   refine finR_c (enc:=(fun r:Ref22State × (List PairDone)=>.tup [Ref22State.v r.1,(fun l:List PairDone=>V.sl (l.map PairDone.v) false) r.2])) H ?_;conv=>whnf
   exact ⟨_,.tup (.cons (fzagg (.cons (.id rfl) (.cons (.id rfl) (.cons (.slw) (.cons (.slw) (.cons (.id rfl) (.cons (.id rfl) (.cons (.slw) (.cons (.slw) (.nil))))))))) rfl) (.cons (.c (.slw)) (.nil)))⟩
  conv=>whnf
  refine lq_ ?_;conv=>whnf
  refine lq_ ?_;conv=>whnf
  refine FootQ.mk ⟨rfl,?_⟩;conv=>whnf
  refine ixs_c (f:=PairAct.v) H (fun _=>rfl) (fun x9 H=>?_);conv=>whnf
  refine lq_ ?_;conv=>whnf
  refine tst_d H (fun b10 H=>?_) (fun b10 H=>?_)
  ·conv=>whnf
   refine ixs_c (f:=PairAct.v) H (fun _=>rfl) (fun x22 H=>?_);conv=>whnf
   refine lq_ ?_;conv=>whnf
   refine ask_c (p_ref22_Say_v _ _ _) H rfl rfl (fun v23 H=>?_);conv=>whnf
   refine lq_ ?_;conv=>whnf
   refine lq_ ?_;conv=>whnf
   refine FootQ.mk ⟨rfl,?_⟩;conv=>whnf
   refine lq_ ?_;conv=>whnf
   refine ixs_c (f:=PairAct.v) H (fun _=>rfl) (fun x24 H=>?_);conv=>whnf
   refine lq_ ?_;conv=>whnf
   refine tst_d H (fun b25 H=>?_) (fun b25 H=>?_)
   ·conv=>whnf
    refine appN_c (f:=PairDone.v) H (fun _=>rfl) (srcM (f:=PairDone.v) (fun _=>rfl) [] true) rfl (.v (srcOwn (f:=PairDone.v) (l:=[v23.2.1]) (fun _=>rfl) rfl rfl rfl)) (by decide) rfl (by simp) (fun l28 H=>?_);conv=>whnf
    refine Ari.w ?_;conv=>whnf
    exact again_c [10,11,12,13,14,15,16,17,18,19,20,21,22,23,24,25,26,27,28,29,30,31,32,33,34,35,36,37,38,39,40,41,42,43,44,45,46,47,48,49,50,51,52,53,54,55,56,57,58,59,60] n5 4 [0,1,2,7] (.inr (⟨_,_,_,H,rfl,rfl⟩)) (Nat.lt_succ_self _) (Nat.zero_le _) rfl (by kernel_rfl) (by kernel_rfl) rfl ⟨⟨rfl,rfl,rfl⟩,⟨⟨rfl,rfl,rfl⟩,⟨⟨rfl,rfl,rfl⟩,wkB_live0 rfl (cellsM_idlt (f:=PairDone.v) (fun _=>rfl) _) rfl trivial⟩⟩⟩
   conv=>whnf
   refine ask_c (p_ref22_Turn_v _ _) H rfl rfl (fun v26 H=>?_);conv=>whnf
   refine lq_ ?_;conv=>whnf
   refine appN_c (f:=PairDone.v) H (fun _=>rfl) (srcM (f:=PairDone.v) (fun _=>rfl) [] true) rfl (.v (srcOwn (f:=PairDone.v) (l:=[v23.2.1]) (fun _=>rfl) rfl rfl rfl)) (by decide) rfl (by simp) (fun l27 H=>?_);conv=>whnf
   refine Ari.w ?_;conv=>whnf
   exact again_c [10,11,12,13,14,15,16,17,18,19,20,21,22,23,24,25,26,27,28,29,30,31,32,33,34,35,36,37,38,39,40,41,42,43,44,45,46,47,48,49,50,51,52,53,54,55,56,57,58,59,60] n5 4 [0,1,2,7] (.inr (⟨_,_,_,H,rfl,rfl⟩)) (Nat.lt_succ_self _) (Nat.zero_le _) rfl (by kernel_rfl) (by kernel_rfl) rfl ⟨⟨rfl,rfl,rfl⟩,⟨⟨rfl,rfl,rfl⟩,⟨⟨rfl,rfl,rfl⟩,wkB_live0 rfl (cellsM_idlt (f:=PairDone.v) (fun _=>rfl) _) rfl trivial⟩⟩⟩
  conv=>whnf
  refine ask_c (p_ref22_Turn_v _ _) H rfl rfl (fun v11 H=>?_);conv=>whnf
  refine lq_ ?_;conv=>whnf
  refine lq_ ?_;conv=>whnf
  refine ixs_c (f:=PairAct.v) H (fun _=>rfl) (fun x12 H=>?_);conv=>whnf
  refine lq_ ?_;conv=>whnf
  refine ask_c (p_ref22_Say_v _ _ _) H rfl rfl (fun v13 H=>?_);conv=>whnf
  refine lq_ ?_;conv=>whnf
  refine lq_ ?_;conv=>whnf
  refine FootQ.mk ⟨rfl,?_⟩;conv=>whnf
  refine lq_ ?_;conv=>whnf
  refine ixs_c (f:=PairAct.v) H (fun _=>rfl) (fun x14 H=>?_);conv=>whnf
  refine lq_ ?_;conv=>whnf
  refine tst_d H (fun b15 H=>?_) (fun b15 H=>?_)
  ·conv=>whnf
   refine appN_c (f:=PairDone.v) H (fun _=>rfl) (srcM (f:=PairDone.v) (fun _=>rfl) [] true) rfl (.v (srcOwn (f:=PairDone.v) (l:=[v13.2.1]) (fun _=>rfl) rfl rfl rfl)) (by decide) rfl (by simp) (fun l21 H=>?_);conv=>whnf
   refine Ari.w ?_;conv=>whnf
   exact again_c [10,11,12,13,14,15,16,17,18,19,20,21,22,23,24,25,26,27,28,29,30,31,32,33,34,35,36,37,38,39,40,41,42,43,44,45,46,47,48,49,50,51,52,53,54,55,56,57,58,59,60] n5 4 [0,1,2,7] (.inr (⟨_,_,_,H,rfl,rfl⟩)) (Nat.lt_succ_self _) (Nat.zero_le _) rfl (by kernel_rfl) (by kernel_rfl) rfl ⟨⟨rfl,rfl,rfl⟩,⟨⟨rfl,rfl,rfl⟩,⟨⟨rfl,rfl,rfl⟩,wkB_live0 rfl (cellsM_idlt (f:=PairDone.v) (fun _=>rfl) _) rfl trivial⟩⟩⟩
  conv=>whnf
  refine ask_c (p_ref22_Turn_v _ _) H rfl rfl (fun v16 H=>?_);conv=>whnf
  refine lq_ ?_;conv=>whnf
  refine appN_c (f:=PairDone.v) H (fun _=>rfl) (srcM (f:=PairDone.v) (fun _=>rfl) [] true) rfl (.v (srcOwn (f:=PairDone.v) (l:=[v13.2.1]) (fun _=>rfl) rfl rfl rfl)) (by decide) rfl (by simp) (fun l17 H=>?_);conv=>whnf
  refine Ari.w ?_;conv=>whnf
  exact again_c [10,11,12,13,14,15,16,17,18,19,20,21,22,23,24,25,26,27,28,29,30,31,32,33,34,35,36,37,38,39,40,41,42,43,44,45,46,47,48,49,50,51,52,53,54,55,56,57,58,59,60] n5 4 [0,1,2,7] (.inr (⟨_,_,_,H,rfl,rfl⟩)) (Nat.lt_succ_self _) (Nat.zero_le _) rfl (by kernel_rfl) (by kernel_rfl) rfl ⟨⟨rfl,rfl,rfl⟩,⟨⟨rfl,rfl,rfl⟩,⟨⟨rfl,rfl,rfl⟩,wkB_live0 rfl (cellsM_idlt (f:=PairDone.v) (fun _=>rfl) _) rfl trivial⟩⟩⟩
 rw [p_ref22_Run_l1] at H
 conv=>whnf
 refine LenQ.M ?_;conv=>whnf
 refine tst_d H (fun b29 H=>?_) (fun b29 H=>?_)
 ·conv=>whnf
  obtain rfl:=Option.some.inj H
  have H:=HQ4
  try dsimp only at H
  refine lq_ ?_;conv=>whnf
  refine finR_c (enc:=(fun r:Ref22State × (List PairDone)=>.tup [Ref22State.v r.1,(fun l:List PairDone=>V.sl (l.map PairDone.v) false) r.2])) H ?_;conv=>whnf
  exact ⟨_,.tup (.cons (fzagg (.cons (.id rfl) (.cons (.id rfl) (.cons (.id rfl) (.cons (.id rfl) (.cons (.id rfl) (.cons (.id rfl) (.cons (.id rfl) (.cons (.id rfl) (.nil))))))))) rfl) (.cons (.c (fzown (f:=PairDone.v) (l:=y18) rfl rfl (fun _=>rfl) (fun _=>rfl))) (.nil)))⟩
 conv=>whnf
 refine lq_ ?_;conv=>whnf
 refine lq_ ?_;conv=>whnf
 refine FootQ.mk ⟨rfl,?_⟩;conv=>whnf
 refine ixs_c (f:=PairAct.v) H (fun _=>rfl) (fun x30 H=>?_);conv=>whnf
 refine lq_ ?_;conv=>whnf
 refine tst_d H (fun b31 H=>?_) (fun b31 H=>?_)
 ·conv=>whnf
  refine ixs_c (f:=PairAct.v) H (fun _=>rfl) (fun x40 H=>?_);conv=>whnf
  refine lq_ ?_;conv=>whnf
  refine ask_c (p_ref22_Say_v _ _ _) H rfl rfl (fun v41 H=>?_);conv=>whnf
  refine lq_ ?_;conv=>whnf
  refine lq_ ?_;conv=>whnf
  refine FootQ.mk ⟨rfl,?_⟩;conv=>whnf
  refine lq_ ?_;conv=>whnf
  refine ixs_c (f:=PairAct.v) H (fun _=>rfl) (fun x42 H=>?_);conv=>whnf
  refine lq_ ?_;conv=>whnf
  refine tst_d H (fun b43 H=>?_) (fun b43 H=>?_)
  ·conv=>whnf
   refine appO_c (f:=PairDone.v) H (fun _=>rfl) rfl (Nat.le_refl _) (.v (srcOwn (f:=PairDone.v) (l:=[v41.2.1]) (fun _=>rfl) rfl rfl rfl)) (by decide) rfl (by simp) (fun l46 H=>?_);conv=>whnf
   refine Ari.w ?_;conv=>whnf
   exact again_c [10,11,12,13,14,15,16,17,18,19,20,21,22,23,24,25,26,27,28,29,30,31,32,33,34,35,36,37,38,39,40,41,42,43,44,45,46,47,48,49,50,51,52,53,54,55,56,57,58,59,60] n5 4 [0,1,2,8] (.inr (⟨_,_,_,H,rfl,rfl⟩)) (Nat.lt_succ_self _) (Nat.zero_le _) rfl (by kernel_rfl) (by kernel_rfl) rfl ⟨⟨rfl,rfl,rfl⟩,⟨⟨rfl,rfl,rfl⟩,⟨⟨rfl,rfl,rfl⟩,wkB_live0 rfl (cellsM_idlt (f:=PairDone.v) (fun _=>rfl) _) rfl trivial⟩⟩⟩
  conv=>whnf
  refine ask_c (p_ref22_Turn_v _ _) H rfl rfl (fun v44 H=>?_);conv=>whnf
  refine lq_ ?_;conv=>whnf
  refine appO_c (f:=PairDone.v) H (fun _=>rfl) rfl (Nat.le_refl _) (.v (srcOwn (f:=PairDone.v) (l:=[v41.2.1]) (fun _=>rfl) rfl rfl rfl)) (by decide) rfl (by simp) (fun l45 H=>?_);conv=>whnf
  refine Ari.w ?_;conv=>whnf
  exact again_c [10,11,12,13,14,15,16,17,18,19,20,21,22,23,24,25,26,27,28,29,30,31,32,33,34,35,36,37,38,39,40,41,42,43,44,45,46,47,48,49,50,51,52,53,54,55,56,57,58,59,60] n5 4 [0,1,2,8] (.inr (⟨_,_,_,H,rfl,rfl⟩)) (Nat.lt_succ_self _) (Nat.zero_le _) rfl (by kernel_rfl) (by kernel_rfl) rfl ⟨⟨rfl,rfl,rfl⟩,⟨⟨rfl,rfl,rfl⟩,⟨⟨rfl,rfl,rfl⟩,wkB_live0 rfl (cellsM_idlt (f:=PairDone.v) (fun _=>rfl) _) rfl trivial⟩⟩⟩
 conv=>whnf
 refine ask_c (p_ref22_Turn_v _ _) H rfl rfl (fun v32 H=>?_);conv=>whnf
 refine lq_ ?_;conv=>whnf
 refine lq_ ?_;conv=>whnf
 refine ixs_c (f:=PairAct.v) H (fun _=>rfl) (fun x33 H=>?_);conv=>whnf
 refine lq_ ?_;conv=>whnf
 refine ask_c (p_ref22_Say_v _ _ _) H rfl rfl (fun v34 H=>?_);conv=>whnf
 refine lq_ ?_;conv=>whnf
 refine lq_ ?_;conv=>whnf
 refine FootQ.mk ⟨rfl,?_⟩;conv=>whnf
 refine lq_ ?_;conv=>whnf
 refine ixs_c (f:=PairAct.v) H (fun _=>rfl) (fun x35 H=>?_);conv=>whnf
 refine lq_ ?_;conv=>whnf
 refine tst_d H (fun b36 H=>?_) (fun b36 H=>?_)
 ·conv=>whnf
  refine appO_c (f:=PairDone.v) H (fun _=>rfl) rfl (Nat.le_refl _) (.v (srcOwn (f:=PairDone.v) (l:=[v34.2.1]) (fun _=>rfl) rfl rfl rfl)) (by decide) rfl (by simp) (fun l39 H=>?_);conv=>whnf
  refine Ari.w ?_;conv=>whnf
  exact again_c [10,11,12,13,14,15,16,17,18,19,20,21,22,23,24,25,26,27,28,29,30,31,32,33,34,35,36,37,38,39,40,41,42,43,44,45,46,47,48,49,50,51,52,53,54,55,56,57,58,59,60] n5 4 [0,1,2,8] (.inr (⟨_,_,_,H,rfl,rfl⟩)) (Nat.lt_succ_self _) (Nat.zero_le _) rfl (by kernel_rfl) (by kernel_rfl) rfl ⟨⟨rfl,rfl,rfl⟩,⟨⟨rfl,rfl,rfl⟩,⟨⟨rfl,rfl,rfl⟩,wkB_live0 rfl (cellsM_idlt (f:=PairDone.v) (fun _=>rfl) _) rfl trivial⟩⟩⟩
 conv=>whnf
 refine ask_c (p_ref22_Turn_v _ _) H rfl rfl (fun v37 H=>?_);conv=>whnf
 refine lq_ ?_;conv=>whnf
 refine appO_c (f:=PairDone.v) H (fun _=>rfl) rfl (Nat.le_refl _) (.v (srcOwn (f:=PairDone.v) (l:=[v34.2.1]) (fun _=>rfl) rfl rfl rfl)) (by decide) rfl (by simp) (fun l38 H=>?_);conv=>whnf
 refine Ari.w ?_;conv=>whnf
 exact again_c [10,11,12,13,14,15,16,17,18,19,20,21,22,23,24,25,26,27,28,29,30,31,32,33,34,35,36,37,38,39,40,41,42,43,44,45,46,47,48,49,50,51,52,53,54,55,56,57,58,59,60] n5 4 [0,1,2,8] (.inr (⟨_,_,_,H,rfl,rfl⟩)) (Nat.lt_succ_self _) (Nat.zero_le _) rfl (by kernel_rfl) (by kernel_rfl) rfl ⟨⟨rfl,rfl,rfl⟩,⟨⟨rfl,rfl,rfl⟩,⟨⟨rfl,rfl,rfl⟩,wkB_live0 rfl (cellsM_idlt (f:=PairDone.v) (fun _=>rfl) _) rfl trivial⟩⟩⟩
end Go.Proofs.YtpmoioopjbfhkaaGreat

namespace Go.Proofs.YtpmoioopjbfhkaaGreat
open Go.RowKit
set_option maxRecDepth 100000
set_option maxHeartbeats 4000000
def gc8:BCode:=(.seq (R_ 2 [O_ 3 (.bx (t_ 0)) 0,O_ 4 (.bx (t_ 1)) 1,O_ 6 (.mv (b_ false)) 2]) (.seq (.seq (R_ 0 [O_ 13 (.ld 2 true (t_ 3)) 0,O_ 14 (.ld 8 true (t_ 4)) 0,O_ 15 (.cl 53 [(t_ 13),(t_ 14)]) 0,O_ 16 (.un .not (t_ 15)) 0,O_ 17 (.mv (t_ 16)) 0,⟨(some 18),.mv (t_ 2),(some (17,false)),0⟩,⟨(some 19),.lens (t_ 18),(some (17,false)),0⟩,⟨(some 20),.bin .gtr (t_ 19) (i_ 40),(some (17,false)),0⟩,O_ 21 (.pick (t_ 17) (b_ true) (t_ 20)) 0]) (.cond (t_ 21) (.seq (R_ 0 [O_ 22 (.cl 54 []) 0,O_ 6 (.mv (t_ 22)) 0]) .ret) .skip)) (.seq (R_ 0 [O_ 7 (.mv (.const (.slice none 0 0))) 0]) (.seq (.seq (R_ 0 [O_ 8 (.mv (i_ 0)) 0]) (.block 0 (.loop (.seq (.seq (R_ 0 [O_ 23 (.mv (t_ 8)) 0,O_ 24 (.mv (t_ 2)) 0,O_ 25 (.lens (t_ 24)) 0,O_ 26 (.bin .lss (t_ 23) (t_ 25)) 0]) (.cond (t_ 26) .skip (.exit 0))) (.seq (.block 1 (R_ 2 [O_ 29 (.mv (t_ 7)) 0,O_ 30 (.mv (t_ 2)) 0,O_ 31 (.mv (t_ 8)) 0,O_ 32 (.ixs 2 (t_ 30) (t_ 31)) 0,O_ 33 (.ld 2 true (t_ 32)) 0,O_ 34 (.bs 2 1 [(.lit (.int .u8 0)),(.lit (.bool false))] [(0,(t_ 33))]) 0,O_ 35 (.ap 2 2 (t_ 29) (t_ 34)) 1,O_ 7 (.mv (t_ 35)) 2])) (R_ 0 [O_ 27 (.mv (t_ 8)) 0,O_ 28 (.bin .add (t_ 27) (i_ 1)) 0,O_ 8 (.mv (t_ 28)) 0])))))) (.seq (.reg 1 [O_ 37 (.ld 2 true (t_ 3)) 0,O_ 38 (.ld 8 true (t_ 4)) 0,O_ 39 (.cl 55 [(t_ 38)]) 0,O_ 40 (.mv (t_ 7)) 0,O_ 41 (.cl 70 [(t_ 37),(t_ 39),(t_ 40)]) 0,O_ 36 (.mv (t_ 41)) 0,O_ 42 (.ex (t_ 36) 0) 0,O_ 43 (.ex (t_ 36) 1) 0,O_ 9 (.al (.agg [(.lit (.int .i64 0)),(.lit (.int .i64 0)),(.sl [] true),(.sl [] true),(.lit (.int .i64 0)),(.lit (.int .i64 0)),(.sl [] true),(.sl [] true)])) 0,U_ (.st 8 (t_ 9) (t_ 42)) 1,O_ 10 (.mv (t_ 43)) 1] (some [[],[],[1],[],[3,1,2,0],[0,2,1,3,4],[4,3,1,2,0,5],[4,3,1,2,0,5],[],[5,0,2,1,3,4,6,8],[8,6,9,5,0,2,1,3,4,7]]) 0 []) (.seq (R_ 1 [O_ 45 (.ld 2 true (t_ 3)) 0,O_ 46 (.ld 8 true (t_ 4)) 0,O_ 47 (.mv (t_ 2)) 0,O_ 48 (.cl 71 [(t_ 45),(t_ 46),(t_ 47)]) 0,O_ 44 (.mv (t_ 48)) 0,O_ 49 (.ex (t_ 44) 0) 0,O_ 50 (.ex (t_ 44) 1) 0,O_ 11 (.al (.agg [(.lit (.int .i64 0)),(.lit (.int .i64 0)),(.sl [] true),(.sl [] true),(.lit (.int .i64 0)),(.lit (.int .i64 0)),(.sl [] true),(.sl [] true)])) 0,U_ (.st 8 (t_ 11) (t_ 49)) 1,O_ 12 (.mv (t_ 50)) 1]) (.seq (.reg 0 [O_ 51 (.ld 8 true (t_ 9)) 0,O_ 52 (.cl 63 [(t_ 51)]) 0,O_ 53 (.ld 8 true (t_ 11)) 0,O_ 54 (.cl 62 [(t_ 52),(t_ 53)]) 0,O_ 55 (.mv (t_ 54)) 0,⟨(some 56),.mv (t_ 10),(some (55,true)),0⟩,⟨(some 57),.cl 73 [(t_ 56)],(some (55,true)),0⟩,⟨(some 58),.mv (t_ 12),(some (55,true)),0⟩,⟨(some 59),.cl 72 [(t_ 57),(t_ 58)],(some (55,true)),0⟩,O_ 60 (.pick (t_ 55) (t_ 59) (b_ false)) 0,O_ 61 (.mv (t_ 60)) 0,⟨(some 62),.cl 54 [],(some (61,true)),0⟩,O_ 63 (.pick (t_ 61) (t_ 62) (b_ false)) 0,O_ 6 (.mv (t_ 63)) 0] (some [[],[0],[],[2,0,1],[1,0,2,3],[3,2,0,1,4],[4,1,0,2,3,5],[3,2,0,1,4],[7,5,3,2,0,1,4,6],[6,5,7,8,3,2,0,1,4],[4,1,0,2,3,8,7,5,6,9],[9,6,5,7,8,3,2,0,1,4,10],[11,9,6,5,7,8,3,2,0,1,4,10],[10,4,1,0,2,3,8,7,5,6,9,11,12]]) 0 []) .ret)))))))
theorem gc8_ok:compF Tryz.prog Tryz.f8=some (gc8.er,64,[.tmp 6]):=by unfold gc8;kernel_rfl
theorem p_law22_PairRuns_v {u1 u2 u3 u4 u5:Bool} (a0:Ref22Names) (a1:Ref22State) (a2:List PairAct):CallsO Tryz.prog 8 [.agg [.s a0.A,.s a0.B],.agg [.i a1.A.Ver,.i a1.A.Floor,.sl (List.map ItemItem.v a1.A.Items) u1,.sl (List.map RosterGone.v a1.A.Gone) u2,.i a1.B.Ver,.i a1.B.Floor,.sl (List.map ItemItem.v a1.B.Items) u3,.sl (List.map RosterGone.v a1.B.Gone) u4],.sl (List.map PairAct.v a2) u5] V.b (tru? (p_law22_PairRuns a0 a1 a2)):=by
 refine callsO_comp mix Tryz.func8 gc8_ok fun r H=>?_
 have H1:=tru_of H
 clear H
 obtain ⟨rfl,H⟩:=H1
 rw [p_law22_PairRuns] at H
 conv=>whnf
 refine ask_c (p_law22_fits_v _ _) H rfl rfl (fun v1 H=>?_);conv=>whnf
 refine Tst.not ?_
 refine tst_d H (fun b2 H=>?_) (fun b2 H=>?_)
 ·conv=>whnf
  iterate 4 (refine Tst.T ?_;conv=>whnf)
  refine ask_c (p_law22_awake_v) H rfl rfl (fun v39 H=>?_);conv=>whnf
  exact fb_ H
 conv=>whnf
 refine Tst.F ?_;conv=>whnf
 refine LenQ.M ?_;conv=>whnf
 iterate 2 (refine Tst.F ?_;conv=>whnf)
 refine tst_c H (fun b3 H=>?_) (fun b3 H=>?_)
 ·conv=>whnf
  refine ask_c (p_law22_awake_v) H rfl rfl (fun v4 H=>?_);conv=>whnf
  exact fb_ H
 conv=>whnf
 obtain ⟨o6,HL7,HQ8⟩:=bind_c H
 refine loop_c [7,8] [23,24,25,26,27,28,29,30,31,32,33,34,35] [23,24,25,26,27,28,29,30,31,32,33,34,35] (fun n vals st=>(∃ y10,p_law22_PairRuns_l1  a2 n [] y10=some o6∧vals=[.sl (List.map PairAct.v []) true,.i y10]∧st=[.live [.s a0.A,.s a0.B] 0,.live [.i a1.A.Ver,.i a1.A.Floor,.sl (List.map ItemItem.v a1.A.Items) u1,.sl (List.map RosterGone.v a1.A.Gone) u2,.i a1.B.Ver,.i a1.B.Floor,.sl (List.map ItemItem.v a1.B.Items) u3,.sl (List.map RosterGone.v a1.B.Gone) u4] 0])∨(∃ y14 y15,p_law22_PairRuns_l1  a2 n y14 y15=some o6∧vals=[.osl 2 0 (List.length y14) 2 false,.i y15]∧st=[.live [.s a0.A,.s a0.B] 0,.live [.i a1.A.Ver,.i a1.A.Floor,.sl (List.map ItemItem.v a1.A.Items) u1,.sl (List.map RosterGone.v a1.A.Gone) u2,.i a1.B.Ver,.i a1.B.Floor,.sl (List.map ItemItem.v a1.B.Items) u3,.sl (List.map RosterGone.v a1.B.Gone) u4] 0,.live (cellsM PairAct.v y14) (cellsM PairAct.v y14).length])) fuel 2 [] (.inl (⟨_,HL7,rfl,rfl⟩)) (Nat.zero_le _) rfl (by kernel_rfl) (by kernel_rfl) rfl ⟨⟨rfl,rfl,rfl⟩,⟨⟨rfl,rfl,rfl⟩,trivial⟩⟩ ?_
 rintro (_ | n9) _ _ (⟨y10,H,rfl,rfl⟩ | ⟨y14,y15,H,rfl,rfl⟩)
 ·rw [p_law22_PairRuns_l1] at H;cases H
 ·rw [p_law22_PairRuns_l1] at H;cases H
 ·rw [p_law22_PairRuns_l1] at H
  conv=>whnf
  refine LenQ.M ?_;conv=>whnf
  refine tst_c H (fun b11 H=>?_) (fun b11 H=>?_)
  ·conv=>whnf
   refine ixs_c (f:=PairAct.v) H (fun _=>rfl) (fun x12 H=>?_);conv=>whnf
   refine appN_c (f:=PairAct.v) H (fun _=>rfl) (srcM (f:=PairAct.v) (fun _=>rfl) [] true) rfl (.v (srcOwn (f:=PairAct.v) (l:=[x12]) (fun _=>rfl) rfl rfl rfl)) (by decide) rfl (by simp) (fun l13 H=>?_);conv=>whnf
   refine Ari.w ?_;conv=>whnf
   exact again_c [23,24,25,26,27,28,29,30,31,32,33,34,35] n9 3 [0,1,3] (.inr (⟨_,_,H,rfl,rfl⟩)) (Nat.lt_succ_self _) (Nat.zero_le _) rfl (by kernel_rfl) (by kernel_rfl) rfl ⟨⟨rfl,rfl,rfl⟩,⟨⟨rfl,rfl,rfl⟩,wkB_live0 rfl (cellsM_idlt (f:=PairAct.v) (fun _=>rfl) _) rfl trivial⟩⟩
  conv=>whnf
  obtain rfl:=Option.some.inj H
  have H:=HQ8
  try dsimp only at H
  refine ask_c (p_law22_own_v _) H rfl rfl (fun v16 H=>?_);conv=>whnf
  refine ask_c (p_pair_Run_v _ _ _) H rfl rfl (fun v17 H=>?_);conv=>whnf
  refine lq_ ?_;conv=>whnf
  refine FootQ.mk ⟨rfl,?_⟩;conv=>whnf
  refine ask_c (p_ref22_Run_v _ _ _) H rfl rfl (fun v18 H=>?_);conv=>whnf
  refine lq_ ?_;conv=>whnf
  refine ask_c (p_law22_back_v _) H rfl rfl (fun v19 H=>?_);conv=>whnf
  refine ask_c (p_ref22_Same_v _ _) H rfl rfl (fun v20 H=>?_);conv=>whnf
  refine tstT_c H (fun b21 H=>?_);conv=>whnf
  refine Tst.T ?_;conv=>whnf
  refine ask_c (p_law22_done_v _) H rfl rfl (fun v22 H=>?_);conv=>whnf
  iterate 2 (refine Tst.T ?_;conv=>whnf)
  refine ask_c (p_ref22_SameDone_v _ _) H rfl rfl (fun v23 H=>?_);conv=>whnf
  refine Tst.T ?_;conv=>whnf
  refine tstT_c H (fun b24 H=>?_);conv=>whnf
  refine ask_c (p_law22_awake_v) H rfl rfl (fun v25 H=>?_);conv=>whnf
  refine Tst.T ?_;conv=>whnf
  refine FootQ.mk ⟨rfl,?_⟩;conv=>whnf
  exact fb_ H
 rw [p_law22_PairRuns_l1] at H
 conv=>whnf
 refine LenQ.M ?_;conv=>whnf
 refine tst_c H (fun b26 H=>?_) (fun b26 H=>?_)
 ·conv=>whnf
  refine ixs_c (f:=PairAct.v) H (fun _=>rfl) (fun x27 H=>?_);conv=>whnf
  refine appO_c (f:=PairAct.v) H (fun _=>rfl) rfl (Nat.le_refl _) (.v (srcOwn (f:=PairAct.v) (l:=[x27]) (fun _=>rfl) rfl rfl rfl)) (by decide) rfl (by simp) (fun l28 H=>?_);conv=>whnf
  refine Ari.w ?_;conv=>whnf
  exact again_c [23,24,25,26,27,28,29,30,31,32,33,34,35] n9 3 [0,1,4] (.inr (⟨_,_,H,rfl,rfl⟩)) (Nat.lt_succ_self _) (Nat.zero_le _) rfl (by kernel_rfl) (by kernel_rfl) rfl ⟨⟨rfl,rfl,rfl⟩,⟨⟨rfl,rfl,rfl⟩,wkB_live0 rfl (cellsM_idlt (f:=PairAct.v) (fun _=>rfl) _) rfl trivial⟩⟩
 conv=>whnf
 obtain rfl:=Option.some.inj H
 have H:=HQ8
 try dsimp only at H
 refine ask_c (p_law22_own_v _) H rfl rfl (fun v29 H=>?_);conv=>whnf
 refine askF_c (p_pair_Run_v _ _ _) H (.cons (fzagg (.cons (.id rfl) (.cons (.id rfl) (.nil))) rfl) (.cons (fzagg (.cons (.id rfl) (.cons (.id rfl) (.cons (.id rfl) (.cons (.id rfl) (.cons (.id rfl) (.cons (.id rfl) (.cons (.id rfl) (.cons (.id rfl) (.nil))))))))) rfl) (.cons (.c (fzown (f:=PairAct.v) (l:=y14) rfl rfl (fun _=>rfl) (fun _=>rfl))) (.nil)))) (fun v30 H=>?_);conv=>whnf
 refine lq_ ?_;conv=>whnf
 refine FootQ.mk ⟨rfl,?_⟩;conv=>whnf
 refine ask_c (p_ref22_Run_v _ _ _) H rfl rfl (fun v31 H=>?_);conv=>whnf
 refine lq_ ?_;conv=>whnf
 refine ask_c (p_law22_back_v _) H rfl rfl (fun v32 H=>?_);conv=>whnf
 refine ask_c (p_ref22_Same_v _ _) H rfl rfl (fun v33 H=>?_);conv=>whnf
 refine tstT_c H (fun b34 H=>?_);conv=>whnf
 refine Tst.T ?_;conv=>whnf
 refine ask_c (p_law22_done_v _) H rfl rfl (fun v35 H=>?_);conv=>whnf
 iterate 2 (refine Tst.T ?_;conv=>whnf)
 refine ask_c (p_ref22_SameDone_v _ _) H rfl rfl (fun v36 H=>?_);conv=>whnf
 refine Tst.T ?_;conv=>whnf
 refine tstT_c H (fun b37 H=>?_);conv=>whnf
 refine ask_c (p_law22_awake_v) H rfl rfl (fun v38 H=>?_);conv=>whnf
 refine Tst.T ?_;conv=>whnf
 refine FootQ.mk ⟨rfl,?_⟩;conv=>whnf
 exact fb_ H
end Go.Proofs.YtpmoioopjbfhkaaGreat

namespace Go.Proofs.YtpmoioopjbfhkaaGreat
open Go.ChangeShapes Go.WideShapes Go.ChangeAt Go.RowKit Go.Joins Go.Deep
theorem pairRuns_named:Tryz.pinned.checked.prog.funcNamed Rows.pairRunsRow.func=some 8:=by kernel_rfl
theorem pairRuns_closed:joinedFacts Tryz.pinned.checked.prog 8 Tryz.f8 Rows.pairRunsSpec Rows.pairRunsRow=true:=by kernel_rfl
end Go.Proofs.YtpmoioopjbfhkaaGreat

