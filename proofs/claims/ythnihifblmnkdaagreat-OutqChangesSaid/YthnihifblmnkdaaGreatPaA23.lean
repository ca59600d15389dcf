/- A part of the proof: 2 texts joined. -/
import Derived.Test.YthnihifblmnkdaaGreatPaA13
import Derived.Test.YthnihifblmnkdaaGreatPaA18
import Derived.Test.YthnihifblmnkdaaGreatPaA20
import Derived.Test.YthnihifblmnkdaaGreatPaA22
set_option linter.all false
namespace Go.Proofs.YthnihifblmnkdaaGreat
open Go.ChangeShapes Go.WideShapes Go.ChangeAt Go.RowKit Go.Joins Go.Deep
structure PresPres.Wf (x:PresPres):Prop where
 Show:(Lit.int .i64 x.Show).wf=true
 Prio:(Lit.int .i64 x.Prio).wf=true
 Seq:(Lit.int .i64 x.Seq).wf=true
set_option maxRecDepth 100000 in
theorem rd_T28 {H:Type} {enc:TypeId × Value→H} {W:World} {spare:Nat→Bool} {held:Bool} {fuel:Nat} {cs:List Value} {y:DataW H × List MemPlace} (h:DataW.trod enc Tryz.prog W 0 spare held fuel 28 cs=some y):∃ x:PresPres,PresPres.Wf x∧RepL (MW W) noBk cs [.b x.On,.i x.Show,.i x.Prio,.i x.Seq]:=by
 obtain ⟨xs,n,_,_,hl,hx,hall⟩:=DataW.trod_struct Tryz.underlying28 h
 have hce:Tryz.prog.cellsOf 28=4:=by kernel_rfl
 rw [hce] at hl
 match cs,hl,hall with
 | [c0,c1,c2,c3],_,hall =>
  obtain ⟨y0,hy0⟩:=get_some hx (show 0 < 4 by omega)
  have g0:DataW.trod enc Tryz.prog W 0 spare held n 4 [c0]=some y0:=by
   have hz:Tryz.prog.cellsOf 4=1:=by kernel_rfl
   have g:DataW.trod enc Tryz.prog W 0 spare held n 4 (([c0,c1,c2,c3].drop 0).take (Tryz.prog.cellsOf 4))=some y0:=(hall 0 _ rfl).trans hy0
   rw [hz] at g;exact g
  obtain ⟨x0,r0⟩:=rd_bool Tryz.underlying4 g0
  obtain ⟨y1,hy1⟩:=get_some hx (show 1 < 4 by omega)
  have g1:DataW.trod enc Tryz.prog W 0 spare held n 3 [c1]=some y1:=by
   have hz:Tryz.prog.cellsOf 3=1:=by kernel_rfl
   have g:DataW.trod enc Tryz.prog W 0 spare held n 3 (([c0,c1,c2,c3].drop 1).take (Tryz.prog.cellsOf 3))=some y1:=(hall 1 _ rfl).trans hy1
   rw [hz] at g;exact g
  obtain ⟨x1,w1,r1⟩:=rd_int Tryz.underlying3 g1
  obtain ⟨y2,hy2⟩:=get_some hx (show 2 < 4 by omega)
  have g2:DataW.trod enc Tryz.prog W 0 spare held n 3 [c2]=some y2:=by
   have hz:Tryz.prog.cellsOf 3=1:=by kernel_rfl
   have g:DataW.trod enc Tryz.prog W 0 spare held n 3 (([c0,c1,c2,c3].drop 2).take (Tryz.prog.cellsOf 3))=some y2:=(hall 2 _ rfl).trans hy2
   rw [hz] at g;exact g
  obtain ⟨x2,w2,r2⟩:=rd_int Tryz.underlying3 g2
  obtain ⟨y3,hy3⟩:=get_some hx (show 3 < 4 by omega)
  have g3:DataW.trod enc Tryz.prog W 0 spare held n 3 [c3]=some y3:=by
   have hz:Tryz.prog.cellsOf 3=1:=by kernel_rfl
   have g:DataW.trod enc Tryz.prog W 0 spare held n 3 (([c0,c1,c2,c3].drop 3).take (Tryz.prog.cellsOf 3))=some y3:=(hall 3 _ rfl).trans hy3
   rw [hz] at g;exact g
  obtain ⟨x3,w3,r3⟩:=rd_int Tryz.underlying3 g3
  exact ⟨⟨x0,x1,x2,x3⟩,⟨w1,w2,w3⟩,repL_app r0 (repL_app r1 (repL_app r2 (repL_app r3 (repL_nil))))⟩
structure MailEntry.Wf (x:MailEntry):Prop where
 P:PresPres.Wf x.P
set_option maxRecDepth 100000 in
theorem rd_T30 {H:Type} {enc:TypeId × Value→H} {W:World} {spare:Nat→Bool} {held:Bool} {fuel:Nat} {cs:List Value} {y:DataW H × List MemPlace} (h:DataW.trod enc Tryz.prog W 0 spare held fuel 30 cs=some y):∃ x:MailEntry,MailEntry.Wf x∧RepL (MW W) noBk cs [.s x.Key,.b x.P.On,.i x.P.Show,.i x.P.Prio,.i x.P.Seq]:=by
 obtain ⟨xs,n,_,_,hl,hx,hall⟩:=DataW.trod_struct Tryz.underlying30 h
 have hce:Tryz.prog.cellsOf 30=5:=by kernel_rfl
 rw [hce] at hl
 match cs,hl,hall with
 | [c0,c1,c2,c3,c4],_,hall =>
  obtain ⟨y0,hy0⟩:=get_some hx (show 0 < 2 by omega)
  have g0:DataW.trod enc Tryz.prog W 0 spare held n 9 [c0]=some y0:=by
   have hz:Tryz.prog.cellsOf 9=1:=by kernel_rfl
   have g:DataW.trod enc Tryz.prog W 0 spare held n 9 (([c0,c1,c2,c3,c4].drop 0).take (Tryz.prog.cellsOf 9))=some y0:=(hall 0 _ rfl).trans hy0
   rw [hz] at g;exact g
  obtain ⟨x0,r0⟩:=rd_string Tryz.underlying9 g0
  obtain ⟨y1,hy1⟩:=get_some hx (show 1 < 2 by omega)
  have g1:DataW.trod enc Tryz.prog W 0 spare held n 28 [c1,c2,c3,c4]=some y1:=by
   have hz:Tryz.prog.cellsOf 28=4:=by kernel_rfl
   have g:DataW.trod enc Tryz.prog W 0 spare held n 28 (([c0,c1,c2,c3,c4].drop 1).take (Tryz.prog.cellsOf 28))=some y1:=(hall 1 _ rfl).trans hy1
   rw [hz] at g;exact g
  obtain ⟨x1,w1,r1⟩:=rd_T28 g1
  exact ⟨⟨x0,x1⟩,⟨w1⟩,repL_app r0 (repL_app r1 (repL_nil))⟩
theorem rd_T22 {H:Type} {enc:TypeId × Value→H} {W:World} {spare:Nat→Bool} {held:Bool} {fuel:Nat} {cs:List Value} {y:DataW H × List MemPlace} (h:DataW.trod enc Tryz.prog W 0 spare held fuel 22 cs=some y):∃ x:List MailEntry,(∀ z ∈ x,MailEntry.Wf z)∧RepL (MW W) noBk cs [(fun l:List MailEntry=>V.sl (l.map MailEntry.v) false) x] :=
 rd_slice (f:=MailEntry.v) (es:=5) (wf:=MailEntry.Wf) Tryz.underlying22 (fun _=>rfl) (by intro a v hv;simp [V.cells] at hv;first | (subst hv;rfl) | (rcases hv with rfl | rfl | rfl | rfl | rfl <;> rfl)) (by omega) (by kernel_rfl) (fun n cs y h=>rd_T30 h) h
structure SnapState.Wf (x:SnapState):Prop where
 Told:(Lit.int .i64 x.Told).wf=true
set_option maxRecDepth 100000 in
theorem rd_T24 {H:Type} {enc:TypeId × Value→H} {W:World} {spare:Nat→Bool} {held:Bool} {fuel:Nat} {cs:List Value} {y:DataW H × List MemPlace} (h:DataW.trod enc Tryz.prog W 0 spare held fuel 24 cs=some y):∃ x:SnapState,SnapState.Wf x∧RepL (MW W) noBk cs [.b x.On,.b x.Begun,.s x.After,.i x.Told]:=by
 obtain ⟨xs,n,_,_,hl,hx,hall⟩:=DataW.trod_struct Tryz.underlying24 h
 have hce:Tryz.prog.cellsOf 24=4:=by kernel_rfl
 rw [hce] at hl
 match cs,hl,hall with
 | [c0,c1,c2,c3],_,hall =>
  obtain ⟨y0,hy0⟩:=get_some hx (show 0 < 4 by omega)
  have g0:DataW.trod enc Tryz.prog W 0 spare held n 4 [c0]=some y0:=by
   have hz:Tryz.prog.cellsOf 4=1:=by kernel_rfl
   have g:DataW.trod enc Tryz.prog W 0 spare held n 4 (([c0,c1,c2,c3].drop 0).take (Tryz.prog.cellsOf 4))=some y0:=(hall 0 _ rfl).trans hy0
   rw [hz] at g;exact g
  obtain ⟨x0,r0⟩:=rd_bool Tryz.underlying4 g0
  obtain ⟨y1,hy1⟩:=get_some hx (show 1 < 4 by omega)
  have g1:DataW.trod enc Tryz.prog W 0 spare held n 4 [c1]=some y1:=by
   have hz:Tryz.prog.cellsOf 4=1:=by kernel_rfl
   have g:DataW.trod enc Tryz.prog W 0 spare held n 4 (([c0,c1,c2,c3].drop 1).take (Tryz.prog.cellsOf 4))=some y1:=(hall 1 _ rfl).trans hy1
   rw [hz] at g;exact g
  obtain ⟨x1,r1⟩:=rd_bool Tryz.underlying4 g1
  obtain ⟨y2,hy2⟩:=get_some hx (show 2 < 4 by omega)
  have g2:DataW.trod enc Tryz.prog W 0 spare held n 9 [c2]=some y2:=by
   have hz:Tryz.prog.cellsOf 9=1:=by kernel_rfl
   have g:DataW.trod enc Tryz.prog W 0 spare held n 9 (([c0,c1,c2,c3].drop 2).take (Tryz.prog.cellsOf 9))=some y2:=(hall 2 _ rfl).trans hy2
   rw [hz] at g;exact g
  obtain ⟨x2,r2⟩:=rd_string Tryz.underlying9 g2
  obtain ⟨y3,hy3⟩:=get_some hx (show 3 < 4 by omega)
  have g3:DataW.trod enc Tryz.prog W 0 spare held n 3 [c3]=some y3:=by
   have hz:Tryz.prog.cellsOf 3=1:=by kernel_rfl
   have g:DataW.trod enc Tryz.prog W 0 spare held n 3 (([c0,c1,c2,c3].drop 3).take (Tryz.prog.cellsOf 3))=some y3:=(hall 3 _ rfl).trans hy3
   rw [hz] at g;exact g
  obtain ⟨x3,w3,r3⟩:=rd_int Tryz.underlying3 g3
  exact ⟨⟨x0,x1,x2,x3⟩,⟨w3⟩,repL_app r0 (repL_app r1 (repL_app r2 (repL_app r3 (repL_nil))))⟩
structure Ref27State.Wf (x:Ref27State):Prop where
 Mail:∀ z ∈ x.Mail,MailEntry.Wf z
 Snap:SnapState.Wf x.Snap
 Sent:(Lit.int .i64 x.Sent).wf=true
 Lost:(Lit.int .i64 x.Lost).wf=true
set_option maxRecDepth 100000 in
theorem rd_T26 {H:Type} {enc:TypeId × Value→H} {W:World} {spare:Nat→Bool} {held:Bool} {fuel:Nat} {cs:List Value} {y:DataW H × List MemPlace} (h:DataW.trod enc Tryz.prog W 0 spare held fuel 26 cs=some y):∃ x:Ref27State,Ref27State.Wf x∧RepL (MW W) noBk cs [.sl (List.map MailEntry.v x.Mail) false,.b x.Snap.On,.b x.Snap.Begun,.s x.Snap.After,.i x.Snap.Told,.i x.Sent,.i x.Lost]:=by
 obtain ⟨xs,n,_,_,hl,hx,hall⟩:=DataW.trod_struct Tryz.underlying26 h
 have hce:Tryz.prog.cellsOf 26=7:=by kernel_rfl
 rw [hce] at hl
 match cs,hl,hall with
 | [c0,c1,c2,c3,c4,c5,c6],_,hall =>
  obtain ⟨y0,hy0⟩:=get_some hx (show 0 < 4 by omega)
  have g0:DataW.trod enc Tryz.prog W 0 spare held n 22 [c0]=some y0:=by
   have hz:Tryz.prog.cellsOf 22=1:=by kernel_rfl
   have g:DataW.trod enc Tryz.prog W 0 spare held n 22 (([c0,c1,c2,c3,c4,c5,c6].drop 0).take (Tryz.prog.cellsOf 22))=some y0:=(hall 0 _ rfl).trans hy0
   rw [hz] at g;exact g
  obtain ⟨x0,w0,r0⟩:=rd_T22 g0
  obtain ⟨y1,hy1⟩:=get_some hx (show 1 < 4 by omega)
  have g1:DataW.trod enc Tryz.prog W 0 spare held n 24 [c1,c2,c3,c4]=some y1:=by
   have hz:Tryz.prog.cellsOf 24=4:=by kernel_rfl
   have g:DataW.trod enc Tryz.prog W 0 spare held n 24 (([c0,c1,c2,c3,c4,c5,c6].drop 1).take (Tryz.prog.cellsOf 24))=some y1:=(hall 1 _ rfl).trans hy1
   rw [hz] at g;exact g
  obtain ⟨x1,w1,r1⟩:=rd_T24 g1
  obtain ⟨y2,hy2⟩:=get_some hx (show 2 < 4 by omega)
  have g2:DataW.trod enc Tryz.prog W 0 spare held n 3 [c5]=some y2:=by
   have hz:Tryz.prog.cellsOf 3=1:=by kernel_rfl
   have g:DataW.trod enc Tryz.prog W 0 spare held n 3 (([c0,c1,c2,c3,c4,c5,c6].drop 5).take (Tryz.prog.cellsOf 3))=some y2:=(hall 2 _ rfl).trans hy2
   rw [hz] at g;exact g
  obtain ⟨x2,w2,r2⟩:=rd_int Tryz.underlying3 g2
  obtain ⟨y3,hy3⟩:=get_some hx (show 3 < 4 by omega)
  have g3:DataW.trod enc Tryz.prog W 0 spare held n 3 [c6]=some y3:=by
   have hz:Tryz.prog.cellsOf 3=1:=by kernel_rfl
   have g:DataW.trod enc Tryz.prog W 0 spare held n 3 (([c0,c1,c2,c3,c4,c5,c6].drop 6).take (Tryz.prog.cellsOf 3))=some y3:=(hall 3 _ rfl).trans hy3
   rw [hz] at g;exact g
  obtain ⟨x3,w3,r3⟩:=rd_int Tryz.underlying3 g3
  exact ⟨⟨x0,x1,x2,x3⟩,⟨w0,w1,w2,w3⟩,repL_app r0 (repL_app r1 (repL_app r2 (repL_app r3 (repL_nil))))⟩
end Go.Proofs.YthnihifblmnkdaaGreat

namespace Go.Proofs.YthnihifblmnkdaaGreat
open Go.RowKit Go.Deep
theorem repAr3 {m:Mem} {a b c:Value} {x y z:V} (h1:Rep m noBk a x) (h2:Rep m noBk b y) (h3:Rep m noBk c z):RepA m noBk #[a,b,c] [x,y,z] :=
 ⟨rfl,fun j g1 g2=>match j,g1 with
  | 0,_=>h1
  | 1,_=>h2
  | 2,_=>h3
  | j + 3,g=>absurd g (by simp)⟩
theorem outqChanges_all (s:Ref27State) (x:MailEntry) (u:ByteArray):p_law27_OutqChanges s x u=some true:=outqChanges_pure p_law27_awake_true s x u
end Go.Proofs.YthnihifblmnkdaaGreat

