/- A part of the proof: 8 texts joined. -/
import Derived.Test.YtpkodpcfafipdaaGreatQtA18
import Derived.Test.YtpkodpcfafipdaaGreatQtA13
import Derived.Test.YtpkodpcfafipdaaGreatQtA14
import Derived.Test.YtpkodpcfafipdaaGreatQtA17
import Derived.KernelRfl
import Derived.Test.YtpkodpcfafipdaaGreatQtA12
set_option linter.all false
namespace Go.Proofs.YtpkodpcfafipdaaGreat
open Go.RowKit
def p_law36_few_l2 (z18:List Law36Act) (z19:Int):Nat→Int→Option (Bool ⊕ Int)
 | 0,_=>none
 | n + 1,y20 =>
  (at? z18 z19).bind fun x21 =>
  bif (decide (y20 < (x21.R.Said.length:Int))) then
   (at? z18 z19).bind fun x23 =>
   (at? x23.R.Said y20).bind fun x24 =>
   (p_ref10_Light x24.S).bind fun v25 =>
   bif v25 then
    p_law36_few_l2 z18 z19 n (w64 (y20 + (1:Int)))
   else
   some (.inl false)
  else
  some (.inr y20)
def p_law36_few_l1 (z5:List Law36Act):Nat→Int→Option (Bool ⊕ Int)
 | 0,_=>none
 | n + 1,y6 =>
  bif (decide (y6 < (z5.length:Int))) then
   (at? z5 y6).bind fun x8 =>
   bif (decide ((20:Int) < (x8.R.Said.length:Int))) then
    some (.inl false)
   else
   (at? z5 y6).bind fun x10 =>
   bif (decide ((20:Int) < (x10.R.Shut.length:Int))) then
    some (.inl false)
   else
   (at? z5 y6).bind fun x12 =>
   bif (decide ((20:Int) < (x12.Name.size:Int))) then
    some (.inl false)
   else
   (p_law36_few_l2 z5 y6 fuel (0:Int)).bind fun o27=>match o27 with
   | .inl q28 =>
    some (.inl q28)
   | .inr q29 =>
    p_law36_few_l1 z5 n (w64 (y6 + (1:Int)))
  else
  some (.inr y6)
def p_law36_few (a0:List Law36Act):Option (Bool) :=
 bif (decide ((40:Int) < (a0.length:Int))) then
  some false
 else
 (p_law36_few_l1 a0 fuel (0:Int)).bind fun o30=>match o30 with
 | .inl q31 =>
  some q31
 | .inr q32 =>
  some true
def p_law36_result_l1 (z6:Ref33Result):Nat→Int→Ref33Result→Option ((Int × Ref33Result))
 | 0,_,_=>none
 | n + 1,y5,y8 =>
  bif (decide (y5 < (z6.Said.length:Int))) then
   (at? z6.Said y5).bind fun x10 =>
   (at? z6.Said y5).bind fun x11 =>
   (app? y8.Said [(Ref33Said.mk x10.Conn x11.S)]).bind fun l12 =>
   p_law36_result_l1 z6 n (w64 (y5 + (1:Int))) (Ref33Result.mk y8.E l12 y8.Shut)
  else
  some (y5,y8)
def p_law36_result (a0:Ref33Result):Option (Ref33Result) :=
 (p_law36_result_l1 a0 fuel (0:Int) (Ref33Result.mk a0.E [] a0.Shut)).bind fun q14 =>
 some q14.2
def p_law36_count_l1 (z5:List Law36Act):Nat→Int→TallyTally→Option ((Int × TallyTally))
 | 0,_,_=>none
 | n + 1,y6,y7 =>
  bif (decide (y6 < (z5.length:Int))) then
   (at? z5 y6).bind fun x9 =>
   bif (x9.Name.toList == (⟨#[]⟩ : ByteArray).toList) then
    (at? z5 y6).bind fun x11 =>
    (p_law36_result x11.R).bind fun v12 =>
    (p_tally_Tally_Note y7 v12).bind fun v13 =>
    p_law36_count_l1 z5 n (w64 (y6 + (1:Int))) v13
   else
   (at? z5 y6).bind fun x14 =>
   (at? z5 y6).bind fun x15 =>
   (p_tally_Tally_Add y7 x14.Name x15.N).bind fun v16 =>
   p_law36_count_l1 z5 n (w64 (y6 + (1:Int))) v16.1
  else
  some (y6,y7)
def p_law36_count (a0:List Law36Act):Option (TallyTally) :=
 (p_tally_New).bind fun y1 =>
 (p_law36_count_l1 a0 fuel (0:Int) y1).bind fun q18 =>
 some q18.2
def p_ref36_Name (a0:Int):Option (ByteArray) :=
 bif (a0 == (0:Int)) then
  some (⟨#[115,116,101,112,115]⟩ : ByteArray)
 else
 bif (a0 == (1:Int)) then
  some (⟨#[119,114,111,110,103]⟩ : ByteArray)
 else
 bif (a0 == (2:Int)) then
  some (⟨#[115,97,105,100]⟩ : ByteArray)
 else
 bif (a0 == (3:Int)) then
  some (⟨#[98,121,116,101,115]⟩ : ByteArray)
 else
 bif (a0 == (4:Int)) then
  some (⟨#[103,114,97,110,116,101,100]⟩ : ByteArray)
 else
 bif (a0 == (5:Int)) then
  some (⟨#[114,101,102,117,115,101,100]⟩ : ByteArray)
 else
 bif (a0 == (6:Int)) then
  some (⟨#[115,101,101,110]⟩ : ByteArray)
 else
 bif (a0 == (7:Int)) then
  some (⟨#[103,111,110,101]⟩ : ByteArray)
 else
 bif (a0 == (8:Int)) then
  some (⟨#[115,110,97,112,115]⟩ : ByteArray)
 else
 bif (a0 == (9:Int)) then
  some (⟨#[114,111,115,116,101,114,115]⟩ : ByteArray)
 else
 bif (a0 == (10:Int)) then
  some (⟨#[110,111,116,101,115]⟩ : ByteArray)
 else
 some (⟨#[115,104,117,116]⟩ : ByteArray)
end Go.Proofs.YtpkodpcfafipdaaGreat

namespace Go.Proofs.YtpkodpcfafipdaaGreat
open Go.RowKit
def p_tally_Tally_Note_n0 (a1:Ref33Result):Option (Unit) :=
 some ()
def p_tally_Tally_Add_n0 (a1:ByteArray) (a2:Int):Option (Bool) :=
 some false
def p_tally_Tally_Get_n0 (a1:ByteArray):Option (Int) :=
 some (0:Int)
def p_tally_Tally_List_n0:Option ((List TallyCount)) :=
 some []
def p_tally_Tally_Join_n0 (a1:TallyTally):Option (TallyTally × Bool) :=
 some (a1,false)
def p_tally_Tally_Join_n1 (a0:TallyTally):Option (TallyTally × Bool) :=
 some (a0,false)
def p_law36_TallyNobody_l1 (z8:List Law36Act):Nat→Int→Option (Bool ⊕ Int)
 | 0,_=>none
 | n + 1,y11 =>
  bif (decide (y11 < (z8.length:Int))) then
   (at? z8 y11).bind fun x13 =>
   (p_law36_result x13.R).bind fun v14 =>
   (p_tally_Tally_Note_n0 v14).bind fun v15 =>
   (at? z8 y11).bind fun x16 =>
   (at? z8 y11).bind fun x17 =>
   (p_tally_Tally_Add_n0 x16.Name x17.N).bind fun v18 =>
   bif v18 then
    some (.inl false)
   else
   p_law36_TallyNobody_l1 z8 n (w64 (y11 + (1:Int)))
  else
  some (.inr y11)
def p_law36_TallyNobody_l2 (z40:Int) (z41:Int) (z42:List ByteArray):Nat→Int→TallyTally→Option (Bool ⊕ (Int × TallyTally))
 | 0,_,_=>none
 | n + 1,y43,y44 =>
  bif (decide (y43 < (12:Int))) then
   (at? z42 y43).bind fun x46 =>
   (p_tally_Tally_Get y44 x46).bind fun v47 =>
   bif (y43 == w64 (Int.tmod z40 (12:Int))) then
    bif ((v47.2 == w64 z41) != true) then
     some (.inl false)
    else
    p_law36_TallyNobody_l2 z40 z41 z42 n (w64 (y43 + (1:Int))) v47.1
   else
   bif ((v47.2 == w64 z41) != (z41 == (0:Int))) then
    some (.inl false)
   else
   p_law36_TallyNobody_l2 z40 z41 z42 n (w64 (y43 + (1:Int))) v47.1
  else
  some (.inr (y43,y44))
def p_law36_TallyNobody (a0:List Law36Act) (a1:Int) (a2:Int):Option (Bool) :=
 (p_law36_few a0).bind fun v1 =>
 bif v1 then
  (p_law36_TallyNobody_l1 a0 fuel (0:Int)).bind fun o20=>match o20 with
  | .inl q21 =>
   some q21
  | .inr q22 =>
   (p_tally_New).bind fun y23 =>
   (p_tally_Names).bind fun v24 =>
   ((
    bif ((v24.length:Int) != (12:Int)) then
     some (.inl false)
    else
    (at? v24 (w64 (Int.tmod a1 (12:Int)))).bind fun x26 =>
    (p_tally_Tally_Add y23 x26 (w64 a2)).bind fun v27 =>
    bif v27.2 then
     some (.inr v27.1)
    else
    some (.inl false)):Option (Bool ⊕ TallyTally)).bind fun o29=>match o29 with
   | .inl q30 =>
    some q30
   | .inr q31 =>
    (p_law36_TallyNobody_l2 a1 a2 v24 fuel (0:Int) q31).bind fun o51=>match o51 with
    | .inl q52 =>
     some q52
    | .inr q53 =>
     (p_tally_Tally_Get_n0 (⟨#[115,116,101,112,115]⟩ : ByteArray)).bind fun v54 =>
     bif (v54 == (0:Int)) then
      (p_tally_Tally_List_n0).bind fun v56 =>
      bif ((v56.length:Int) == (0:Int)) then
       (p_law36_count a0).bind fun y58 =>
       (p_tally_Tally_Join_n0 y58).bind fun v59 =>
       bif v59.2 then
        some false
       else
       (p_law36_count a0).bind fun y61 =>
       (p_tally_Tally_Join_n1 y61).bind fun v62 =>
       bif v62.2 then
        some false
       else
       (p_law36_awake).bind fun v64 =>
       some v64
      else
      some false
     else
     some false
 else
 (p_law36_awake).bind fun v65 =>
 some v65
end Go.Proofs.YtpkodpcfafipdaaGreat

namespace Go.Proofs.YtpkodpcfafipdaaGreat
open Go.ChangeShapes Go.WideShapes Go.ChangeAt Go.RowKit Go.Joins Go.Deep
structure StanzaStanza.Wf (x:StanzaStanza):Prop where
 Kind:(Lit.int .u8 x.Kind).wf=true
 Show:(Lit.int .i64 x.Show).wf=true
 Prio:(Lit.int .i64 x.Prio).wf=true
 Code:(Lit.int .i64 x.Code).wf=true
 N:(Lit.int .i64 x.N).wf=true
set_option maxRecDepth 100000 in
theorem rd_T63 {H:Type} {enc:TypeId × Value→H} {W:World} {spare:Nat→Bool} {held:Bool} {fuel:Nat} {cs:List Value} {y:DataW H × List MemPlace} (h:DataW.trod enc Tryz.prog W 0 spare held fuel 63 cs=some y):∃ x:StanzaStanza,StanzaStanza.Wf x∧RepL (MW W) noBk cs [.y8 x.Kind,.s x.User,.s x.Res,.s x.Name,.i x.Show,.i x.Prio,.i x.Code,.i x.N]:=by
 obtain ⟨xs,n,_,_,hl,hx,hall⟩:=DataW.trod_struct Tryz.underlying63 h
 have hce:Tryz.prog.cellsOf 63=8:=by kernel_rfl
 rw [hce] at hl
 match cs,hl,hall with
 | [c0,c1,c2,c3,c4,c5,c6,c7],_,hall =>
  obtain ⟨y0,hy0⟩:=get_some hx (show 0 < 8 by omega)
  have g0:DataW.trod enc Tryz.prog W 0 spare held n 5 [c0]=some y0:=by
   have hz:Tryz.prog.cellsOf 5=1:=by kernel_rfl
   have g:DataW.trod enc Tryz.prog W 0 spare held n 5 (([c0,c1,c2,c3,c4,c5,c6,c7].drop 0).take (Tryz.prog.cellsOf 5))=some y0:=(hall 0 _ rfl).trans hy0
   rw [hz] at g;exact g
  obtain ⟨x0,w0,r0⟩:=rd_int Tryz.underlying5 g0
  obtain ⟨y1,hy1⟩:=get_some hx (show 1 < 8 by omega)
  have g1:DataW.trod enc Tryz.prog W 0 spare held n 9 [c1]=some y1:=by
   have hz:Tryz.prog.cellsOf 9=1:=by kernel_rfl
   have g:DataW.trod enc Tryz.prog W 0 spare held n 9 (([c0,c1,c2,c3,c4,c5,c6,c7].drop 1).take (Tryz.prog.cellsOf 9))=some y1:=(hall 1 _ rfl).trans hy1
   rw [hz] at g;exact g
  obtain ⟨x1,r1⟩:=rd_string Tryz.underlying9 g1
  obtain ⟨y2,hy2⟩:=get_some hx (show 2 < 8 by omega)
  have g2:DataW.trod enc Tryz.prog W 0 spare held n 9 [c2]=some y2:=by
   have hz:Tryz.prog.cellsOf 9=1:=by kernel_rfl
   have g:DataW.trod enc Tryz.prog W 0 spare held n 9 (([c0,c1,c2,c3,c4,c5,c6,c7].drop 2).take (Tryz.prog.cellsOf 9))=some y2:=(hall 2 _ rfl).trans hy2
   rw [hz] at g;exact g
  obtain ⟨x2,r2⟩:=rd_string Tryz.underlying9 g2
  obtain ⟨y3,hy3⟩:=get_some hx (show 3 < 8 by omega)
  have g3:DataW.trod enc Tryz.prog W 0 spare held n 9 [c3]=some y3:=by
   have hz:Tryz.prog.cellsOf 9=1:=by kernel_rfl
   have g:DataW.trod enc Tryz.prog W 0 spare held n 9 (([c0,c1,c2,c3,c4,c5,c6,c7].drop 3).take (Tryz.prog.cellsOf 9))=some y3:=(hall 3 _ rfl).trans hy3
   rw [hz] at g;exact g
  obtain ⟨x3,r3⟩:=rd_string Tryz.underlying9 g3
  obtain ⟨y4,hy4⟩:=get_some hx (show 4 < 8 by omega)
  have g4:DataW.trod enc Tryz.prog W 0 spare held n 3 [c4]=some y4:=by
   have hz:Tryz.prog.cellsOf 3=1:=by kernel_rfl
   have g:DataW.trod enc Tryz.prog W 0 spare held n 3 (([c0,c1,c2,c3,c4,c5,c6,c7].drop 4).take (Tryz.prog.cellsOf 3))=some y4:=(hall 4 _ rfl).trans hy4
   rw [hz] at g;exact g
  obtain ⟨x4,w4,r4⟩:=rd_int Tryz.underlying3 g4
  obtain ⟨y5,hy5⟩:=get_some hx (show 5 < 8 by omega)
  have g5:DataW.trod enc Tryz.prog W 0 spare held n 3 [c5]=some y5:=by
   have hz:Tryz.prog.cellsOf 3=1:=by kernel_rfl
   have g:DataW.trod enc Tryz.prog W 0 spare held n 3 (([c0,c1,c2,c3,c4,c5,c6,c7].drop 5).take (Tryz.prog.cellsOf 3))=some y5:=(hall 5 _ rfl).trans hy5
   rw [hz] at g;exact g
  obtain ⟨x5,w5,r5⟩:=rd_int Tryz.underlying3 g5
  obtain ⟨y6,hy6⟩:=get_some hx (show 6 < 8 by omega)
  have g6:DataW.trod enc Tryz.prog W 0 spare held n 3 [c6]=some y6:=by
   have hz:Tryz.prog.cellsOf 3=1:=by kernel_rfl
   have g:DataW.trod enc Tryz.prog W 0 spare held n 3 (([c0,c1,c2,c3,c4,c5,c6,c7].drop 6).take (Tryz.prog.cellsOf 3))=some y6:=(hall 6 _ rfl).trans hy6
   rw [hz] at g;exact g
  obtain ⟨x6,w6,r6⟩:=rd_int Tryz.underlying3 g6
  obtain ⟨y7,hy7⟩:=get_some hx (show 7 < 8 by omega)
  have g7:DataW.trod enc Tryz.prog W 0 spare held n 3 [c7]=some y7:=by
   have hz:Tryz.prog.cellsOf 3=1:=by kernel_rfl
   have g:DataW.trod enc Tryz.prog W 0 spare held n 3 (([c0,c1,c2,c3,c4,c5,c6,c7].drop 7).take (Tryz.prog.cellsOf 3))=some y7:=(hall 7 _ rfl).trans hy7
   rw [hz] at g;exact g
  obtain ⟨x7,w7,r7⟩:=rd_int Tryz.underlying3 g7
  exact ⟨⟨x0,x1,x2,x3,x4,x5,x6,x7⟩,⟨w0,w4,w5,w6,w7⟩,repL_app r0 (repL_app r1 (repL_app r2 (repL_app r3 (repL_app r4 (repL_app r5 (repL_app r6 (repL_app r7 (repL_nil))))))))⟩
structure Ref33Said.Wf (x:Ref33Said):Prop where
 Conn:(Lit.int .i64 x.Conn).wf=true
 S:StanzaStanza.Wf x.S
set_option maxRecDepth 100000 in
theorem rd_T72 {H:Type} {enc:TypeId × Value→H} {W:World} {spare:Nat→Bool} {held:Bool} {fuel:Nat} {cs:List Value} {y:DataW H × List MemPlace} (h:DataW.trod enc Tryz.prog W 0 spare held fuel 72 cs=some y):∃ x:Ref33Said,Ref33Said.Wf x∧RepL (MW W) noBk cs [.i x.Conn,.y8 x.S.Kind,.s x.S.User,.s x.S.Res,.s x.S.Name,.i x.S.Show,.i x.S.Prio,.i x.S.Code,.i x.S.N]:=by
 obtain ⟨xs,n,_,_,hl,hx,hall⟩:=DataW.trod_struct Tryz.underlying72 h
 have hce:Tryz.prog.cellsOf 72=9:=by kernel_rfl
 rw [hce] at hl
 match cs,hl,hall with
 | [c0,c1,c2,c3,c4,c5,c6,c7,c8],_,hall =>
  obtain ⟨y0,hy0⟩:=get_some hx (show 0 < 2 by omega)
  have g0:DataW.trod enc Tryz.prog W 0 spare held n 3 [c0]=some y0:=by
   have hz:Tryz.prog.cellsOf 3=1:=by kernel_rfl
   have g:DataW.trod enc Tryz.prog W 0 spare held n 3 (([c0,c1,c2,c3,c4,c5,c6,c7,c8].drop 0).take (Tryz.prog.cellsOf 3))=some y0:=(hall 0 _ rfl).trans hy0
   rw [hz] at g;exact g
  obtain ⟨x0,w0,r0⟩:=rd_int Tryz.underlying3 g0
  obtain ⟨y1,hy1⟩:=get_some hx (show 1 < 2 by omega)
  have g1:DataW.trod enc Tryz.prog W 0 spare held n 63 [c1,c2,c3,c4,c5,c6,c7,c8]=some y1:=by
   have hz:Tryz.prog.cellsOf 63=8:=by kernel_rfl
   have g:DataW.trod enc Tryz.prog W 0 spare held n 63 (([c0,c1,c2,c3,c4,c5,c6,c7,c8].drop 1).take (Tryz.prog.cellsOf 63))=some y1:=(hall 1 _ rfl).trans hy1
   rw [hz] at g;exact g
  obtain ⟨x1,w1,r1⟩:=rd_T63 g1
  exact ⟨⟨x0,x1⟩,⟨w0,w1⟩,repL_app r0 (repL_app r1 (repL_nil))⟩
theorem rd_T29 {H:Type} {enc:TypeId × Value→H} {W:World} {spare:Nat→Bool} {held:Bool} {fuel:Nat} {cs:List Value} {y:DataW H × List MemPlace} (h:DataW.trod enc Tryz.prog W 0 spare held fuel 29 cs=some y):∃ x:List Ref33Said,(∀ z ∈ x,Ref33Said.Wf z)∧RepL (MW W) noBk cs [(fun l:List Ref33Said=>V.sl (l.map Ref33Said.v) false) x] :=
 rd_slice (f:=Ref33Said.v) (es:=9) (wf:=Ref33Said.Wf) Tryz.underlying29 (fun _=>rfl) (by intro a v hv;simp [V.cells] at hv;first | (subst hv;rfl) | (rcases hv with rfl | rfl | rfl | rfl | rfl | rfl | rfl | rfl | rfl <;> rfl)) (by omega) (by kernel_rfl) (fun n cs y h=>rd_T72 h) h
theorem rd_T30 {H:Type} {enc:TypeId × Value→H} {W:World} {spare:Nat→Bool} {held:Bool} {fuel:Nat} {cs:List Value} {y:DataW H × List MemPlace} (h:DataW.trod enc Tryz.prog W 0 spare held fuel 30 cs=some y):∃ x:List Int,(∀ z ∈ x,(fun n:Int=>(Lit.int .i64 n).wf=true) z)∧RepL (MW W) noBk cs [(fun l:List Int=>V.sl (l.map V.i) false) x] :=
 rd_slice (f:=V.i) (es:=1) (wf:=(fun n:Int=>(Lit.int .i64 n).wf=true)) Tryz.underlying30 (fun _=>rfl) (by intro a v hv;simp [V.cells] at hv;first | (subst hv;rfl) | (rcases hv with rfl <;> rfl)) (by omega) (by kernel_rfl) (fun n cs y h=>rd_int Tryz.underlying3 h) h
structure Ref33Result.Wf (x:Ref33Result):Prop where
 E:(Lit.int .i64 x.E).wf=true
 Said:∀ z ∈ x.Said,Ref33Said.Wf z
 Shut:∀ z ∈ x.Shut,(fun n:Int=>(Lit.int .i64 n).wf=true) z
set_option maxRecDepth 100000 in
theorem rd_T32 {H:Type} {enc:TypeId × Value→H} {W:World} {spare:Nat→Bool} {held:Bool} {fuel:Nat} {cs:List Value} {y:DataW H × List MemPlace} (h:DataW.trod enc Tryz.prog W 0 spare held fuel 32 cs=some y):∃ x:Ref33Result,Ref33Result.Wf x∧RepL (MW W) noBk cs [.i x.E,.sl (List.map Ref33Said.v x.Said) false,.sl (List.map V.i x.Shut) false]:=by
 obtain ⟨xs,n,_,_,hl,hx,hall⟩:=DataW.trod_struct Tryz.underlying32 h
 have hce:Tryz.prog.cellsOf 32=3:=by kernel_rfl
 rw [hce] at hl
 match cs,hl,hall with
 | [c0,c1,c2],_,hall =>
  obtain ⟨y0,hy0⟩:=get_some hx (show 0 < 3 by omega)
  have g0:DataW.trod enc Tryz.prog W 0 spare held n 3 [c0]=some y0:=by
   have hz:Tryz.prog.cellsOf 3=1:=by kernel_rfl
   have g:DataW.trod enc Tryz.prog W 0 spare held n 3 (([c0,c1,c2].drop 0).take (Tryz.prog.cellsOf 3))=some y0:=(hall 0 _ rfl).trans hy0
   rw [hz] at g;exact g
  obtain ⟨x0,w0,r0⟩:=rd_int Tryz.underlying3 g0
  obtain ⟨y1,hy1⟩:=get_some hx (show 1 < 3 by omega)
  have g1:DataW.trod enc Tryz.prog W 0 spare held n 29 [c1]=some y1:=by
   have hz:Tryz.prog.cellsOf 29=1:=by kernel_rfl
   have g:DataW.trod enc Tryz.prog W 0 spare held n 29 (([c0,c1,c2].drop 1).take (Tryz.prog.cellsOf 29))=some y1:=(hall 1 _ rfl).trans hy1
   rw [hz] at g;exact g
  obtain ⟨x1,w1,r1⟩:=rd_T29 g1
  obtain ⟨y2,hy2⟩:=get_some hx (show 2 < 3 by omega)
  have g2:DataW.trod enc Tryz.prog W 0 spare held n 30 [c2]=some y2:=by
   have hz:Tryz.prog.cellsOf 30=1:=by kernel_rfl
   have g:DataW.trod enc Tryz.prog W 0 spare held n 30 (([c0,c1,c2].drop 2).take (Tryz.prog.cellsOf 30))=some y2:=(hall 2 _ rfl).trans hy2
   rw [hz] at g;exact g
  obtain ⟨x2,w2,r2⟩:=rd_T30 g2
  exact ⟨⟨x0,x1,x2⟩,⟨w0,w1,w2⟩,repL_app r0 (repL_app r1 (repL_app r2 (repL_nil)))⟩
structure Law36Act.Wf (x:Law36Act):Prop where
 R:Ref33Result.Wf x.R
 N:(Lit.int .i64 x.N).wf=true
set_option maxRecDepth 100000 in
theorem rd_T34 {H:Type} {enc:TypeId × Value→H} {W:World} {spare:Nat→Bool} {held:Bool} {fuel:Nat} {cs:List Value} {y:DataW H × List MemPlace} (h:DataW.trod enc Tryz.prog W 0 spare held fuel 34 cs=some y):∃ x:Law36Act,Law36Act.Wf x∧RepL (MW W) noBk cs [.i x.R.E,.sl (List.map Ref33Said.v x.R.Said) false,.sl (List.map V.i x.R.Shut) false,.s x.Name,.i x.N]:=by
 obtain ⟨xs,n,_,_,hl,hx,hall⟩:=DataW.trod_struct Tryz.underlying34 h
 have hce:Tryz.prog.cellsOf 34=5:=by kernel_rfl
 rw [hce] at hl
 match cs,hl,hall with
 | [c0,c1,c2,c3,c4],_,hall =>
  obtain ⟨y0,hy0⟩:=get_some hx (show 0 < 3 by omega)
  have g0:DataW.trod enc Tryz.prog W 0 spare held n 32 [c0,c1,c2]=some y0:=by
   have hz:Tryz.prog.cellsOf 32=3:=by kernel_rfl
   have g:DataW.trod enc Tryz.prog W 0 spare held n 32 (([c0,c1,c2,c3,c4].drop 0).take (Tryz.prog.cellsOf 32))=some y0:=(hall 0 _ rfl).trans hy0
   rw [hz] at g;exact g
  obtain ⟨x0,w0,r0⟩:=rd_T32 g0
  obtain ⟨y1,hy1⟩:=get_some hx (show 1 < 3 by omega)
  have g1:DataW.trod enc Tryz.prog W 0 spare held n 9 [c3]=some y1:=by
   have hz:Tryz.prog.cellsOf 9=1:=by kernel_rfl
   have g:DataW.trod enc Tryz.prog W 0 spare held n 9 (([c0,c1,c2,c3,c4].drop 3).take (Tryz.prog.cellsOf 9))=some y1:=(hall 1 _ rfl).trans hy1
   rw [hz] at g;exact g
  obtain ⟨x1,r1⟩:=rd_string Tryz.underlying9 g1
  obtain ⟨y2,hy2⟩:=get_some hx (show 2 < 3 by omega)
  have g2:DataW.trod enc Tryz.prog W 0 spare held n 3 [c4]=some y2:=by
   have hz:Tryz.prog.cellsOf 3=1:=by kernel_rfl
   have g:DataW.trod enc Tryz.prog W 0 spare held n 3 (([c0,c1,c2,c3,c4].drop 4).take (Tryz.prog.cellsOf 3))=some y2:=(hall 2 _ rfl).trans hy2
   rw [hz] at g;exact g
  obtain ⟨x2,w2,r2⟩:=rd_int Tryz.underlying3 g2
  exact ⟨⟨x0,x1,x2⟩,⟨w0,w2⟩,repL_app r0 (repL_app r1 (repL_app r2 (repL_nil)))⟩
theorem rd_T22 {H:Type} {enc:TypeId × Value→H} {W:World} {spare:Nat→Bool} {held:Bool} {fuel:Nat} {cs:List Value} {y:DataW H × List MemPlace} (h:DataW.trod enc Tryz.prog W 0 spare held fuel 22 cs=some y):∃ x:List Law36Act,(∀ z ∈ x,Law36Act.Wf z)∧RepL (MW W) noBk cs [(fun l:List Law36Act=>V.sl (l.map Law36Act.v) false) x] :=
 rd_slice (f:=Law36Act.v) (es:=5) (wf:=Law36Act.Wf) Tryz.underlying22 (fun _=>rfl) (by intro a v hv;simp [V.cells] at hv;first | (subst hv;rfl) | (rcases hv with rfl | rfl | rfl | rfl | rfl <;> rfl)) (by omega) (by kernel_rfl) (fun n cs y h=>rd_T34 h) h
end Go.Proofs.YtpkodpcfafipdaaGreat

namespace Go.Proofs.YtpkodpcfafipdaaGreat
open Go.RowKit
def addS (T:TallyTally) (i:Nat) (n:Int):TallyTally:=⟨T.counts.set i ⟨⟨⟩,⟨⟩,min (cntT T i + n) (4611686018427387904:Int)⟩,T.once,T.names⟩
structure CntG (T:TallyTally):Prop where
 len:T.counts.length=12
 bd:∀ i,i < 12→0≤cntT T i∧cntT T i≤(4611686018427387904:Int)
theorem cnt_addS {T:TallyTally} {i:Nat} {n:Int} (hl:T.counts.length=12) (hi:i < 12) (j:Nat):cntT (addS T i n) j=if j=i then min (cntT T i + n) (4611686018427387904:Int) else cntT T j:=by
 unfold cntT addS
 by_cases h:j=i
 ·subst h
  rw [if_pos rfl]
  show ((T.counts.set j _).getD j _).v_=_
  rw [List.getD_eq_getElem?_getD,List.getElem?_set_self (by omega)];rfl
 ·rw [if_neg h]
  show ((T.counts.set i _).getD j _).v_=_
  rw [List.getD_eq_getElem?_getD,List.getElem?_set_ne (Ne.symm h),← List.getD_eq_getElem?_getD]
theorem more_s {T:TallyTally} {i:Nat} {n:Int} (h:CntG T) (hi:i < 12) (hn:0≤n∧n≤9223372036854775807):p_tally_Tally_more T (i:Int) n=some (addS T i n)∧CntG (addS T i n):=by
 have a:arr? 12 T.counts (i:Int)=some (T.counts.getD i ⟨⟨⟩,⟨⟩,0⟩):=arrT h.len hi
 have e:(T.counts.getD i ⟨⟨⟩,⟨⟩,0⟩).v_=cntT T i:=rfl
 have b:=h.bd i hi
 refine ⟨?_,by show (List.set _ _ _).length=12;rw [List.length_set];exact h.len,fun j hj=>?_⟩
 ·unfold p_tally_Tally_more
  rw [a]
  simp only [Option.bind_some,e]
  rw [w64_id (by omega),Int.toNat_natCast]
  by_cases hg:(4611686018427387904:Int) - cntT T i < n
  ·rw [decide_eq_true hg,cond_true]
   have:min (cntT T i + n) (4611686018427387904:Int)=(4611686018427387904:Int):=by show min (cntT T i + n) 4611686018427387904=4611686018427387904;omega
   unfold addS;rw [this]
  ·rw [decide_eq_false hg,cond_false,w64_id (by omega)]
   have:min (cntT T i + n) (4611686018427387904:Int)=cntT T i + n:=by show min (cntT T i + n) 4611686018427387904=_;omega
   unfold addS;rw [this]
 ·have bj:=h.bd j hj
  rw [cnt_addS h.len hi]
  show 0≤(if j=i then min (cntT T i + n) 4611686018427387904 else cntT T j)∧(if j=i then min (cntT T i + n) 4611686018427387904 else cntT T j)≤4611686018427387904
  split <;> omega
def kI (k:Int) (i:Nat):Int:=match p_tally_kind k with | some v=>if v=(i:Int) then 1 else 0 | none=>0
def incS (x:Ref33Said) (i:Nat):Int:=(if i=3 then putT x.S else 0) + kI x.S.Kind i
def sumI (i:Nat) (l:List Ref33Said):Int:=(l.map fun x=>incS x i).foldr (· + ·) 0
theorem min_min {a x y:Int} (hy:0≤y):min (min (a + x) (4611686018427387904:Int) + y) (4611686018427387904:Int)=min (a + (x + y)) (4611686018427387904:Int):=by
 show min (min (a + x) 4611686018427387904 + y) 4611686018427387904=min (a + (x + y)) 4611686018427387904
 omega
theorem kI_nn (k:Int) (i:Nat):0≤kI k i:=by
 unfold kI
 split
 ·split <;> omega
 ·omega
theorem putT_nn (s:StanzaStanza):0≤putT s∧putT s≤130:=by
 unfold putT
 split
 ·rename_i v _
  obtain ⟨_,z2,z3⟩:=fsz_p v.1
  exact ⟨z2,by omega⟩
 ·omega
theorem incS_nn (x:Ref33Said) (i:Nat):0≤incS x i:=by
 have h1:=kI_nn x.S.Kind i
 have h2:=putT_nn x.S
 unfold incS
 split <;> omega
theorem sumI_nn (i:Nat):∀ l:List Ref33Said,0≤sumI i l
 | []=>Int.le_refl 0
 | x :: l=>by
  have h1:=incS_nn x i
  have h2:=sumI_nn i l
  show 0≤incS x i + sumI i l
  omega
structure Same2 (T T' : TallyTally):Prop where
 once:T'.once=T.once
 names:T'.names=T.names
theorem note_ls (l : List Ref33Said) (hf : ∀ x ∈ l, stzFits x.S) (hl : l.length ≤ 1000) : ∀ (n k F : Nat) (T : TallyTally), k + n = l.length → n < F → CntG T → ∃ T', p_tally_Tally_Note_l1 l (l.length : Int) F (k : Int) T = some ((l.length : Int), T') ∧ CntG T' ∧ Same2 T T' ∧
      ∀ i, i < 12 → cntT T' i = min (cntT T i + sumI i (l.drop k)) (4611686018427387904 : Int)
  | 0, k, F + 1, T, hk, hF, hc => by
    rw [p_tally_Tally_Note_l1, lt_ff (by omega), show k = l.length by omega, List.drop_length]
    refine ⟨T, rfl, hc, ⟨rfl, rfl⟩, fun i hi => ?_⟩
    have := hc.bd i hi
    show cntT T i = min (cntT T i + 0) 4611686018427387904
    omega
  | n + 1, k, F + 1, T, hk, hF, hc => by
    have hlt : k < l.length := by omega
    have hs := hf _ (List.getElem_mem hlt)
    obtain ⟨v, hv⟩ : ∃ v, p_stanza_Put l[k].S = some v := by unfold p_stanza_Put; rw [if_pos hs]; exact ⟨_, rfl⟩
    obtain ⟨z1, z2, z3⟩ := fsz_p v.1
    have hput : putT l[k].S = fszT v.1 := by unfold putT; rw [hv]
    obtain ⟨m1, c1⟩ := more_s (i := 3) (n := fszT v.1) hc (by omega) ⟨z2, by omega⟩
    have m1' : p_tally_Tally_more T (3 : Int) (fszT v.1) = _ := m1
    have hd : ∀ i, sumI i (l.drop k) = incS l[k] i + sumI i (l.drop (k + 1)) := fun i => by rw [drop_at hlt]; rfl
    have e3 := cnt_addS (i := 3) (n := fszT v.1) hc.len (by omega)
    have snn : ∀ i, 0 ≤ sumI i (l.drop (k + 1)) := fun i => sumI_nn i _
    rw [p_tally_Tally_Note_l1, lt_tt hlt, at_lt hlt]
    simp only [cond_true, Option.bind_some]
    rw [hv]
    simp only [Option.bind_some]
    rw [z1]
    simp only [Option.bind_some]
    rw [m1']
    simp only [Option.bind_some]
    rcases kind_p l[k].S.Kind with hk1 | ⟨q, q4, q10, hk1⟩
    · have hkI : ∀ i : Nat, kI l[k].S.Kind i = 0 := fun i => by unfold kI; rw [hk1]; show (if (-1 : Int) = (i : Int) then (1 : Int) else 0) = 0; rw [if_neg (by omega)]
      rw [hk1]
      simp only [Option.bind_some, bne_self_eq_false, cond_false]
      rw [w64_succ (by omega)]
      obtain ⟨T', r1, r2, r3, r4⟩ := note_ls l hf hl n (k + 1) F _ (by omega) (by omega) c1
      refine ⟨T', r1, r2, ⟨r3.once, r3.names⟩, fun i hi => ?_⟩
      have b := hc.bd i hi
      have s := snn i
      rw [r4 i hi, e3, hd]
      unfold incS
      rw [hkI, hput]
      by_cases h3 : i = 3
      · subst h3; rw [if_pos rfl, if_pos rfl, min_min s, Int.add_zero]
      · rw [if_neg h3, if_neg h3, Int.add_zero, Int.zero_add]
    · have hkI : ∀ i : Nat, kI l[k].S.Kind i = if i = q then 1 else 0 := fun i => by
        unfold kI; rw [hk1]
        show (if (q : Int) = (i : Int) then (1 : Int) else 0) = _
        by_cases h : i = q
        · rw [if_pos h, if_pos (by omega)]
        · rw [if_neg h, if_neg (by omega)]
      rw [hk1]
      have hne : ((q : Int) != (-1 : Int)) = true := bne_iff_ne.2 (by omega)
      obtain ⟨m2, c2⟩ := more_s (i := q) (n := 1) c1 (by omega) (by omega)
      simp only [Option.bind_some, hne, cond_true]
      rw [m2]
      simp only [Option.bind_some]
      rw [w64_succ (by omega)]
      have eq := cnt_addS (i := q) (n := 1) c1.len (by omega)
      obtain ⟨T', r1, r2, r3, r4⟩ := note_ls l hf hl n (k + 1) F _ (by omega) (by omega) c2
      refine ⟨T', r1, r2, ⟨r3.once, r3.names⟩, fun i hi => ?_⟩
      have b := hc.bd i hi
      have s := snn i
      rw [r4 i hi, eq, e3, e3, hd]
      unfold incS
      rw [hkI, hput]
      by_cases h3 : i = 3
      · subst h3
        rw [if_neg (show ¬ (3 = q) by omega), if_pos rfl, if_pos rfl, if_neg (show ¬ (3 = q) by omega), min_min s, Int.add_zero]
      · by_cases hq : i = q
        · subst hq
          rw [if_pos rfl, if_neg h3, if_neg h3, if_pos rfl, min_min s, Int.zero_add]
        · rw [if_neg hq, if_neg h3, if_neg h3, if_neg hq, Int.add_zero, Int.zero_add]
def noteI (r:Ref33Result) (i:Nat):Int:=(if i=0 then 1 else 0) + ((if i=1∧r.E≠0 then 1 else 0) + ((if i=2 then (r.Said.length:Int) else 0) + ((if i=11 then (r.Shut.length:Int) else 0) + sumI i r.Said)))
theorem noteI_nn (r:Ref33Result) (i:Nat):0≤noteI r i:=by
 have:=sumI_nn i r.Said
 unfold noteI
 split <;> split <;> split <;> split <;> omega
theorem add1 {T:TallyTally} {p:Nat} {n:Int} (hc:CntG T) (hp:p < 12) (hn:0≤n) (i:Nat) (hi:i < 12):cntT (addS T p n) i=min (cntT T i + (if i=p then n else 0)) (4611686018427387904:Int):=by
 have b:=hc.bd i hi
 rw [cnt_addS hc.len hp]
 show (if i=p then min (cntT T p + n) 4611686018427387904 else cntT T i)=min (cntT T i + (if i=p then n else 0)) 4611686018427387904
 by_cases h:i=p
 ·subst h;rw [if_pos rfl,if_pos rfl]
 ·rw [if_neg h,if_neg h];omega
theorem note_s (T:TallyTally) (r:Ref33Result) (hc:CntG T) (hf:∀ x ∈ r.Said,stzFits x.S) (hl:r.Said.length≤20) (hs:r.Shut.length≤20):∃ T',p_tally_Tally_Note T r=some T'∧CntG T'∧Same2 T T'∧∀ i,i < 12→cntT T' i=min (cntT T i + noteI r i) (4611686018427387904:Int):=by
 have fp:=fuel_pos
 obtain ⟨m1,c1⟩:=more_s (i:=0) (n:=1) hc (by omega) (by omega)
 have m1' : p_tally_Tally_more T (0:Int) (1:Int)=_:=m1
 unfold p_tally_Tally_Note
 rw [m1']
 simp only [Option.bind_some]
 have fin:∀ (U:TallyTally) (d:Int),0≤d→CntG U→Same2 T U→(∀ i,i < 12→cntT U i=min (cntT T i + ((if i=0 then 1 else 0) + (if i=1 then d else 0))) (4611686018427387904:Int))→∃ T',((p_tally_Tally_more U (2:Int) (r.Said.length:Int)).bind fun v24=>(p_tally_Tally_more v24 (11:Int) (r.Shut.length:Int)).bind fun v25=>(p_tally_Tally_Note_l1 r.Said (r.Said.length:Int) fuel (0:Int) v25).bind fun q39=>some q39.2)=some T'∧CntG T'∧Same2 T T' ∧
   ∀ i,i < 12→cntT T' i=min (cntT T i + ((if i=0 then 1 else 0) + ((if i=1 then d else 0) + ((if i=2 then (r.Said.length:Int) else 0) + ((if i=11 then (r.Shut.length:Int) else 0) + sumI i r.Said))))) (4611686018427387904:Int):=by
  intro U d hd hU hS hv
  obtain ⟨m2,c2⟩:=more_s (i:=2) (n:=(r.Said.length:Int)) hU (by omega) (by omega)
  have m2' : p_tally_Tally_more U (2:Int) (r.Said.length:Int)=_:=m2
  obtain ⟨m3,c3⟩:=more_s (i:=11) (n:=(r.Shut.length:Int)) c2 (by omega) (by omega)
  have m3' : p_tally_Tally_more (addS U 2 (r.Said.length:Int)) (11:Int) (r.Shut.length:Int)=_:=m3
  obtain ⟨T',r1,r2,r3,r4⟩:=note_ls r.Said hf (by omega) r.Said.length 0 fuel _ (by omega) (by omega) c3
  have r1' : p_tally_Tally_Note_l1 r.Said (r.Said.length:Int) fuel (0:Int) (addS (addS U 2 (r.Said.length:Int)) 11 (r.Shut.length:Int))=_:=r1
  rw [m2',Option.bind_some,m3',Option.bind_some,r1']
  refine ⟨T',rfl,r2,⟨r3.once.trans hS.once,r3.names.trans hS.names⟩,fun i hi=>?_⟩
  have e2:=add1 hU (p:=2) (n:=(r.Said.length:Int)) (by omega) (by omega) i hi
  have e3:=add1 c2 (p:=11) (n:=(r.Shut.length:Int)) (by omega) (by omega) i hi
  have s:=sumI_nn i r.Said
  have q2:0≤(if i=2 then (r.Said.length:Int) else 0):=by split <;> omega
  have q3:0≤(if i=11 then (r.Shut.length:Int) else 0):=by split <;> omega
  rw [r4 i hi,List.drop_zero,e3,e2,hv i hi,min_min q2,min_min q3,min_min s]
  congr 1
  omega
 by_cases hE:r.E=0
 ·rw [hE,bne_self_eq_false,cond_false]
  obtain ⟨T',g1,g2,g3,g4⟩:=fin (addS T 0 1) 0 (Int.le_refl 0) c1 ⟨rfl,rfl⟩ (fun i hi=>by rw [add1 hc (by omega) (by omega) i hi,show (if i=1 then (0:Int) else 0)=0 by split <;> rfl,Int.add_zero])
  refine ⟨T',g1,g2,g3,fun i hi=>?_⟩
  rw [g4 i hi]
  unfold noteI
  rw [show (if i=1 then (0:Int) else 0)=0 by split <;> rfl,show (if i=1∧r.E≠0 then (1:Int) else 0)=0 by rw [if_neg (fun h=>h.2 hE)]]
 ·rw [show (r.E != (0:Int))=true from bne_iff_ne.2 hE,cond_true]
  obtain ⟨m4,c4⟩:=more_s (i:=1) (n:=1) c1 (by omega) (by omega)
  have m4' : p_tally_Tally_more (addS T 0 1) (1:Int) (1:Int)=_:=m4
  rw [m4',Option.bind_some]
  obtain ⟨T',g1,g2,g3,g4⟩:=fin (addS (addS T 0 1) 1 1) 1 (by omega) c4 ⟨rfl,rfl⟩ (fun i hi=>by
   have q:0≤(if i=1 then (1:Int) else 0):=by split <;> omega
   rw [add1 c1 (by omega) (by omega) i hi,add1 hc (by omega) (by omega) i hi,min_min q])
  refine ⟨T',g1,g2,g3,fun i hi=>?_⟩
  rw [g4 i hi]
  unfold noteI
  rw [show (if i=1∧r.E≠0 then (1:Int) else 0)=if i=1 then (1:Int) else 0 by
   by_cases h:i=1
   ·rw [if_pos ⟨h,hE⟩,if_pos h]
   ·rw [if_neg (fun q=>h q.1),if_neg h]]
def ixN (nm:ByteArray):Int:=(p_slices_Index_string namesL nm).getD (-1)
theorem names12:namesL.length=12:=rfl
theorem index_l (nm:ByteArray):∀ (n k F:Nat),k + n=12→n < F→(∃ j:Nat,j < 12∧p_slices_Index_string_l1 namesL nm (12:Int) F (k:Int)=some (.inl (j:Int)))∨p_slices_Index_string_l1 namesL nm (12:Int) F (k:Int)=some (.inr 12)
 | 0,k,F + 1,hk,hF=>by
  right
  have:k=12:=by omega
  subst this;rfl
 | n + 1,k,F + 1,hk,hF=>by
  have hlt:k < namesL.length:=by rw [names12];omega
  rw [p_slices_Index_string_l1,decide_eq_true (show (k:Int) < 12 by omega),cond_true,at_lt hlt,Option.bind_some]
  cases nm.toList == namesL[k].toList with
  | true=>rw [cond_true];exact .inl ⟨k,by omega,rfl⟩
  | false=>rw [cond_false,w64_succ (by omega)];exact index_l nm n (k + 1) F (by omega) (by omega)
theorem index_p (nm:ByteArray):p_slices_Index_string namesL nm=some (ixN nm)∧(ixN nm=-1∨∃ j:Nat,j < 12∧ixN nm=(j:Int)):=by
 have fp:=fuel_pos
 have key:(∃ j:Nat,j < 12∧p_slices_Index_string namesL nm=some (j:Int))∨p_slices_Index_string namesL nm=some (-1):=by
  unfold p_slices_Index_string
  rw [show ((namesL.length:Nat):Int)=12 by rw [names12];rfl]
  rcases index_l nm 12 0 fuel (by omega) (by omega) with ⟨j,hj,e⟩ | e
  ·have e' : p_slices_Index_string_l1 namesL nm (12:Int) fuel (0:Int)=_:=e
   rw [e'];exact .inl ⟨j,hj,rfl⟩
  ·have e' : p_slices_Index_string_l1 namesL nm (12:Int) fuel (0:Int)=_:=e
   rw [e'];exact .inr rfl
 unfold ixN
 rcases key with ⟨j,hj,e⟩ | e
 ·rw [e];exact ⟨rfl,.inr ⟨j,hj,rfl⟩⟩
 ·rw [e];exact ⟨rfl,.inl rfl⟩
def addI (nm:ByteArray) (n:Int) (i:Nat):Int:=if 0≤n∧ixN nm=(i:Int) then n else 0
theorem addI_nn (nm:ByteArray) (n:Int) (i:Nat):0≤addI nm n i:=by unfold addI;split <;> omega
theorem cntG_of {T T' : TallyTally} (h:CntG T) (e:T'.counts=T.counts):CntG T'∧∀ i,cntT T' i=cntT T i :=
 ⟨⟨by rw [e];exact h.len,fun i hi=>by have:=h.bd i hi;unfold cntT at this ⊢;rw [e];exact this⟩,fun i=>by unfold cntT;rw [e]⟩
theorem add_s (T:TallyTally) (nm:ByteArray) (n:Int) (hc:CntG T) (hp:PT T) (hn:n≤9223372036854775807):∃ T',p_tally_Tally_Add T nm n=some (T',decide (0≤n∧ixN nm≠-1))∧CntG T'∧PT T'∧∀ i,i < 12→cntT T' i=min (cntT T i + addI nm n i) (4611686018427387904:Int):=by
 have zero:∀ i,i < 12→cntT T i=min (cntT T i + 0) (4611686018427387904:Int):=fun i hi=>by have:=hc.bd i hi;show _=min (cntT T i + 0) 4611686018427387904;omega
 unfold p_tally_Tally_Add
 by_cases h0:n < 0
 ·rw [decide_eq_true h0,cond_true]
  refine ⟨T,by rw [decide_eq_false (fun h=>by omega)],hc,hp,fun i hi=>?_⟩
  unfold addI
  rw [if_neg (fun h=>by omega)];exact zero i hi
 ·rw [decide_eq_false h0,cond_false]
  obtain ⟨hix,hv⟩:=index_p nm
  obtain ⟨U,p1,p2,p3⟩:=place_p hc.len hp nm hix
  obtain ⟨cU,eU⟩:=cntG_of hc p2
  rw [p1,Option.bind_some]
  rcases hv with hv | ⟨j,hj,hv⟩
  ·rw [hv]
   refine ⟨U,by rw [beq_self_eq_true,cond_true,decide_eq_false (fun h=>h.2 rfl)],cU,p3,fun i hi=>?_⟩
   unfold addI
   rw [if_neg (fun h=>by have:=h.2;rw [hv] at this;omega),eU];exact zero i hi
  ·rw [hv]
   obtain ⟨m1,c1⟩:=more_s (i:=j) (n:=n) cU hj ⟨by omega,hn⟩
   have hne:((j:Int) == (-1:Int))=false:=beq_eq_false_iff_ne.2 (by omega)
   refine ⟨addS U j n,by rw [hne,cond_false,m1,Option.bind_some,decide_eq_true ⟨by omega,by omega⟩],c1,p3,fun i hi=>?_⟩
   rw [add1 cU hj (by omega) i hi,eU]
   unfold addI
   congr 2
   by_cases h:i=j
   ·rw [if_pos h,if_pos ⟨by omega,by rw [hv,h]⟩]
   ·rw [if_neg h,if_neg (fun q=>h (by have:=q.2;rw [hv] at this;omega))]
theorem get_s (T:TallyTally) (nm:ByteArray) (hc:CntG T) (hp:PT T):∃ T',p_tally_Tally_Get T nm=some (T',if ixN nm=-1 then 0 else cntT T (ixN nm).toNat)∧CntG T'∧PT T'∧∀ i,cntT T' i=cntT T i:=by
 obtain ⟨hix,hv⟩:=index_p nm
 rcases hv with hv | ⟨j,hj,hv⟩
 ·obtain ⟨U,p1,p2,p3⟩:=place_p hc.len hp nm hix
  obtain ⟨cU,eU⟩:=cntG_of hc p2
  refine ⟨U,?_,cU,p3,eU⟩
  unfold p_tally_Tally_Get
  rw [p1,Option.bind_some,hv,if_pos rfl];rfl
 ·rw [hv] at hix
  obtain ⟨U,g1,p2,p3⟩:=get_p hc.len hp nm hj hix
  obtain ⟨cU,eU⟩:=cntG_of hc p2
  exact ⟨U,by rw [g1,hv,if_neg (by omega),Int.toNat_natCast],cU,p3,eU⟩
end Go.Proofs.YtpkodpcfafipdaaGreat

namespace Go.Proofs.YtpkodpcfafipdaaGreat
open Go.RowKit
structure FineA (x:Law36Act):Prop where
 said:x.R.Said.length≤20
 shut:x.R.Shut.length≤20
 st:∀ y ∈ x.R.Said,Fine y.S
def KdA (x:Law36Act):Prop:=(∀ y ∈ x.R.Said,0≤y.S.Kind∧y.S.Kind≤255)∧x.N≤9223372036854775807
theorem few_l2 (l:List Law36Act) (i:Nat) (hi:i < l.length) (hk:∀ y ∈ l[i].R.Said,0≤y.S.Kind∧y.S.Kind≤255) (hl:l[i].R.Said.length≤20):∀ (n k F:Nat),k + n=l[i].R.Said.length→n < F →
  p_law36_few_l2 l (i:Int) F (k:Int)=some (.inl false)∨((∃ z,p_law36_few_l2 l (i:Int) F (k:Int)=some (.inr z))∧∀ y ∈ l[i].R.Said.drop k,Fine y.S)
 | 0,k,F + 1,hn,hF=>by
  right
  rw [p_law36_few_l2,at_lt hi,Option.bind_some,lt_ff (by omega),cond_false,show k=l[i].R.Said.length by omega,List.drop_length]
  exact ⟨⟨_,rfl⟩,fun y hy=>by cases hy⟩
 | n + 1,k,F + 1,hn,hF=>by
  have hlt:k < l[i].R.Said.length:=by omega
  rw [p_law36_few_l2,at_lt hi,Option.bind_some,lt_tt hlt,cond_true,Option.bind_some,at_lt hlt,Option.bind_some]
  rcases light_p l[i].R.Said[k].S (hk _ (List.getElem_mem hlt)) with g | ⟨g,gf⟩
  ·left;rw [g];rfl
  ·rw [g,Option.bind_some,cond_true,w64_succ (by omega)]
   rcases few_l2 l i hi hk hl n (k + 1) F (by omega) (by omega) with e | ⟨e1,e2⟩
   ·exact .inl e
   ·refine .inr ⟨e1,fun y hy=>?_⟩
    rw [drop_at hlt] at hy
    rcases List.mem_cons.1 hy with rfl | hy
    ·exact gf
    ·exact e2 y hy
theorem few_l1 (l:List Law36Act) (hk:∀ x ∈ l,KdA x) (hl:l.length≤40):∀ (n k F:Nat),k + n=l.length→n < F →
  p_law36_few_l1 l F (k:Int)=some (.inl false)∨((∃ z,p_law36_few_l1 l F (k:Int)=some (.inr z))∧∀ x ∈ l.drop k,FineA x)
 | 0,k,F + 1,hn,hF=>by
  right
  rw [p_law36_few_l1,lt_ff (by omega),cond_false,show k=l.length by omega,List.drop_length]
  exact ⟨⟨_,rfl⟩,fun y hy=>by cases hy⟩
 | n + 1,k,F + 1,hn,hF=>by
  have fp:=fuel_pos
  have hlt:k < l.length:=by omega
  rw [p_law36_few_l1,lt_tt hlt,cond_true,at_lt hlt]
  simp only [Option.bind_some]
  by_cases h1:(20:Int) < (l[k].R.Said.length:Int)
  ·rw [decide_eq_true h1];exact .inl rfl
  rw [decide_eq_false h1,cond_false]
  by_cases h2:(20:Int) < (l[k].R.Shut.length:Int)
  ·rw [decide_eq_true h2];exact .inl rfl
  rw [decide_eq_false h2,cond_false]
  by_cases h3:(20:Int) < (l[k].Name.size:Int)
  ·rw [decide_eq_true h3];exact .inl rfl
  rw [decide_eq_false h3,cond_false]
  rcases few_l2 l k hlt (hk _ (List.getElem_mem hlt)).1 (by omega) _ 0 fuel (Nat.zero_add _) (by omega) with e | ⟨⟨z,e⟩,e2⟩
  ·have e' : p_law36_few_l2 l (k:Int) fuel (0:Int)=_:=e
   rw [e'];exact .inl rfl
  ·have e' : p_law36_few_l2 l (k:Int) fuel (0:Int)=_:=e
   rw [e',Option.bind_some]
   show p_law36_few_l1 l F (w64 ((k:Int) + 1))=_∨_
   rw [w64_succ (by omega)]
   rw [List.drop_zero] at e2
   rcases few_l1 l hk hl n (k + 1) F (by omega) (by omega) with g | ⟨g1,g2⟩
   ·exact .inl g
   ·refine .inr ⟨g1,fun x hx=>?_⟩
    rw [drop_at hlt] at hx
    rcases List.mem_cons.1 hx with rfl | hx
    ·exact ⟨by omega,by omega,e2⟩
    ·exact g2 x hx
theorem few_p (l:List Law36Act) (hk:∀ x ∈ l,KdA x):p_law36_few l=some false∨(p_law36_few l=some true∧l.length≤40∧∀ x ∈ l,FineA x):=by
 have fp:=fuel_pos
 unfold p_law36_few
 by_cases h:(40:Int) < (l.length:Int)
 ·rw [decide_eq_true h];exact .inl rfl
 rw [decide_eq_false h,cond_false]
 rcases few_l1 l hk (by omega) _ 0 fuel (Nat.zero_add _) (by omega) with e | ⟨⟨z,e⟩,e2⟩
 ·have e' : p_law36_few_l1 l fuel (0:Int)=_:=e
  rw [e'];exact .inl rfl
 ·have e' : p_law36_few_l1 l fuel (0:Int)=_:=e
  rw [e']
  exact .inr ⟨rfl,by omega,fun x hx=>e2 x hx⟩
theorem result_l (r:Ref33Result) (hl:r.Said.length≤20):∀ (n k F:Nat) (E:Int) (acc:List Ref33Said) (sh:List Int),k + n=r.Said.length→n < F→acc.length≤k→p_law36_result_l1 r F (k:Int) ⟨E,acc,sh⟩=some ((r.Said.length:Int),⟨E,acc++r.Said.drop k,sh⟩)
 | 0,k,F + 1,E,acc,sh,hn,hF,ha=>by
  rw [p_law36_result_l1,lt_ff (by omega),cond_false,show k=r.Said.length by omega,List.drop_length,List.append_nil]
 | n + 1,k,F + 1,E,acc,sh,hn,hF,ha=>by
  have hlt:k < r.Said.length:=by omega
  rw [p_law36_result_l1,lt_tt hlt,cond_true,at_lt hlt]
  simp only [Option.bind_some]
  rw [app_ok (by simp;omega),Option.bind_some,w64_succ (by omega),result_l r hl n (k + 1) F _ _ _ (by omega) (by omega) (by simp;omega),drop_at hlt,List.append_assoc]
  rfl
theorem result_p (r:Ref33Result) (hl:r.Said.length≤20):p_law36_result r=some r:=by
 have fp:=fuel_pos
 unfold p_law36_result
 have e:=result_l r hl _ 0 fuel r.E [] r.Shut (Nat.zero_add _) (by omega) (Nat.le_refl _)
 have e' : p_law36_result_l1 r fuel (0:Int) (Ref33Result.mk r.E [] r.Shut)=_:=e
 rw [e',Option.bind_some,List.drop_zero,List.nil_append]
def actI (x:Law36Act) (i:Nat):Int:=bif (x.Name.toList == (⟨#[]⟩ : ByteArray).toList) then noteI x.R i else addI x.Name x.N i
def totI (l:List Law36Act) (i:Nat):Int:=(l.map fun x=>actI x i).foldr (· + ·) 0
theorem actI_nn (x:Law36Act) (i:Nat):0≤actI x i:=by
 unfold actI
 cases (x.Name.toList == (⟨#[]⟩ : ByteArray).toList) with
 | true=>exact noteI_nn _ _
 | false=>exact addI_nn _ _ _
theorem totI_nn (i:Nat):∀ l:List Law36Act,0≤totI l i
 | []=>Int.le_refl 0
 | x :: l=>by
  have h1:=actI_nn x i
  have h2:=totI_nn i l
  show 0≤actI x i + totI l i
  omega
theorem PT.same {T T' : TallyTally} (h:Same2 T T') (hp:PT T):PT T':=by unfold PT at hp ⊢;rw [h.once,h.names];exact hp
theorem act_p (T:TallyTally) (x:Law36Act) (hx:FineA x) (hk:KdA x) (hc:CntG T) (hp:PT T):∃ T' v,(bif (x.Name.toList == (⟨#[]⟩ : ByteArray).toList) then (p_law36_result x.R).bind fun v12=>(p_tally_Tally_Note T v12).bind fun v13=>some (v13,true) else p_tally_Tally_Add T x.Name x.N)=some (T',v)∧CntG T'∧PT T'∧∀ i,i < 12→cntT T' i=min (cntT T i + actI x i) (4611686018427387904:Int):=by
 unfold actI
 cases (x.Name.toList == (⟨#[]⟩ : ByteArray).toList) with
 | true =>
  obtain ⟨T',r1,r2,r3,r4⟩:=note_s T x.R hc (fun y hy=>(hx.st y hy).fits) hx.said hx.shut
  exact ⟨T',true,by rw [cond_true,result_p _ hx.said,Option.bind_some,r1];rfl,r2,hp.same r3,r4⟩
 | false =>
  obtain ⟨T',r1,r2,r3,r4⟩:=add_s T x.Name x.N hc hp hk.2
  exact ⟨T',_,by rw [cond_false];exact r1,r2,r3,r4⟩
theorem count_l (l:List Law36Act) (hf:∀ x ∈ l,FineA x) (hk:∀ x ∈ l,KdA x) (hl:l.length≤1000):∀ (n k F:Nat) (T:TallyTally),k + n=l.length→n < F→CntG T→PT T→∃ T',p_law36_count_l1 l F (k:Int) T=some ((l.length:Int),T')∧CntG T'∧PT T'∧∀ i,i < 12→cntT T' i=min (cntT T i + totI (l.drop k) i) (4611686018427387904:Int)
 | 0,k,F + 1,T,hn,hF,hc,hp=>by
  rw [p_law36_count_l1,lt_ff (by omega),cond_false,show k=l.length by omega,List.drop_length]
  refine ⟨T,rfl,hc,hp,fun i hi=>?_⟩
  have:=hc.bd i hi
  show cntT T i=min (cntT T i + 0) 4611686018427387904
  omega
 | n + 1,k,F + 1,T,hn,hF,hc,hp=>by
  have hlt:k < l.length:=by omega
  have hm:=List.getElem_mem hlt
  obtain ⟨T1,v,a1,a2,a3,a4⟩:=act_p T l[k] (hf _ hm) (hk _ hm) hc hp
  have hd:∀ i,totI (l.drop k) i=actI l[k] i + totI (l.drop (k + 1)) i:=fun i=>by rw [drop_at hlt];rfl
  obtain ⟨T',r1,r2,r3,r4⟩:=count_l l hf hk hl n (k + 1) F T1 (by omega) (by omega) a2 a3
  refine ⟨T',?_,r2,r3,fun i hi=>?_⟩
  ·rw [p_law36_count_l1,lt_tt hlt,cond_true,at_lt hlt]
   simp only [Option.bind_some]
   rw [w64_succ (by omega)]
   revert a1
   cases (l[k].Name.toList == (⟨#[]⟩ : ByteArray).toList) with
   | true =>
    rw [cond_true,cond_true]
    intro a1
    obtain ⟨q1,h1,a1⟩:=Option.bind_eq_some_iff.1 a1
    obtain ⟨q2,h2,a1⟩:=Option.bind_eq_some_iff.1 a1
    simp only [Option.some.injEq,Prod.mk.injEq] at a1
    rw [h1,Option.bind_some,h2,Option.bind_some,a1.1,r1]
   | false =>
    rw [cond_false,cond_false]
    intro a1
    rw [a1,Option.bind_some,r1]
  ·have s:=totI_nn i (l.drop (k + 1))
   rw [r4 i hi,a4 i hi,hd,min_min s]
theorem cntG_z:CntG zT:=⟨rfl,fun i _=>by rw [cnt_z];exact ⟨Int.le_refl 0,by decide⟩⟩
theorem pt_z:PT zT:=.inr ⟨rfl,rfl⟩
theorem count_p (l:List Law36Act) (hf:∀ x ∈ l,FineA x) (hk:∀ x ∈ l,KdA x) (hl:l.length≤1000):∃ T,p_law36_count l=some T∧CntG T∧PT T∧∀ i,i < 12→cntT T i=min (totI l i) (4611686018427387904:Int):=by
 have fp:=fuel_pos
 obtain ⟨T',r1,r2,r3,r4⟩:=count_l l hf hk hl _ 0 fuel zT (Nat.zero_add _) (by omega) cntG_z pt_z
 have r1' : p_law36_count_l1 l fuel (0:Int) zT=_:=r1
 refine ⟨T',by unfold p_law36_count;rw [new_z,Option.bind_some,r1'];rfl,r2,r3,fun i hi=>?_⟩
 rw [r4 i hi,cnt_z,List.drop_zero,Int.zero_add]
theorem name_all:(List.range 12).all (fun k=>(p_ref36_Name (k:Int)).map (·.data.toList) == some (namesL.getD k ⟨#[]⟩).data.toList && ixN (namesL.getD k ⟨#[]⟩) == (k:Int))=true:=by kernel_rfl
theorem ba_eta {a b:ByteArray} (h:a.data.toList=b.data.toList):a=b:=by
 cases a;cases b;congr 1;exact Array.ext' h
theorem name_p (k:Nat) (hk:k < 12):p_ref36_Name (k:Int)=some (namesL.getD k ⟨#[]⟩)∧ixN (namesL.getD k ⟨#[]⟩)=(k:Int):=by
 have h:=List.all_eq_true.1 name_all k (List.mem_range.2 hk)
 simp only [Bool.and_eq_true,beq_iff_eq] at h
 refine ⟨?_,h.2⟩
 cases hn:p_ref36_Name (k:Int) with
 | none=>rw [hn] at h;cases h.1
 | some v=>rw [hn] at h;simp only [Option.map_some,Option.some.injEq] at h;rw [ba_eta h.1]
theorem gets (T:TallyTally) (k:Nat) (hk:k < 12) (hc:CntG T) (hp:PT T):∃ T',p_tally_Tally_Get T (namesL.getD k ⟨#[]⟩)=some (T',cntT T k)∧CntG T'∧PT T'∧∀ i,cntT T' i=cntT T i:=by
 obtain ⟨T',g1,g2,g3,g4⟩:=get_s T (namesL.getD k ⟨#[]⟩) hc hp
 refine ⟨T',?_,g2,g3,g4⟩
 rw [g1,(name_p k hk).2,if_neg (by omega),Int.toNat_natCast]
end Go.Proofs.YtpkodpcfafipdaaGreat

namespace Go.Proofs.YtpkodpcfafipdaaGreat
open Go.RowKit
theorem nobody_l1 (l:List Law36Act) (hf:∀ x ∈ l,FineA x) (hl:l.length≤1000):∀ (n k F:Nat),k + n=l.length→n < F→∃ z,p_law36_TallyNobody_l1 l F (k:Int)=some (.inr z)
 | 0,k,F + 1,hn,hF=>by
  rw [p_law36_TallyNobody_l1,lt_ff (by omega),cond_false];exact ⟨_,rfl⟩
 | n + 1,k,F + 1,hn,hF=>by
  have hlt:k < l.length:=by omega
  have hx:=hf _ (List.getElem_mem hlt)
  rw [p_law36_TallyNobody_l1,lt_tt hlt,cond_true,at_lt hlt]
  simp only [Option.bind_some]
  rw [result_p _ hx.said]
  have e1:∀ r,p_tally_Tally_Note_n0 r=some ():=fun _=>rfl
  have e2:∀ a b,p_tally_Tally_Add_n0 a b=some false:=fun _ _=>rfl
  simp only [Option.bind_some]
  rw [e1]
  simp only [Option.bind_some]
  rw [e2]
  simp only [Option.bind_some,cond_false]
  rw [w64_succ (by omega)]
  exact nobody_l1 l hf hl n (k + 1) F (by omega) (by omega)
theorem nobody_l2 (j m:Nat) (hj:j < 12) (n:Nat):∀ (k F:Nat) (a1 a2:Int) (T:TallyTally),k + n=12→n < F→w64 (Int.tmod a1 (12:Int))=(j:Int)→w64 a2=a2→CntG T→PT T→(∀ i,i < 12→cntT T i=if i=j then a2 else 0)→∃ z,p_law36_TallyNobody_l2 a1 a2 namesL F (k:Int) T=some (.inr z):=by
 induction n with
 | zero =>
  intro k F a1 a2 T hk hF _ _ _ _ _
  obtain ⟨F,rfl⟩ : ∃ G,F=G + 1:=⟨F - 1,by omega⟩
  have:k=12:=by omega
  subst this
  exact ⟨_,rfl⟩
 | succ n ih =>
  intro k F a1 a2 T hk hF h1 h2 hc hp hv
  obtain ⟨F,rfl⟩ : ∃ G,F=G + 1:=⟨F - 1,by omega⟩
  have hk12:k < 12:=by omega
  have hlt:k < namesL.length:=hk12
  obtain ⟨T',g,c1,c2,c3⟩:=gets T k hk12 hc hp
  have hn:namesL.getD k ⟨#[]⟩=namesL[k]:=by rw [List.getD_eq_getElem?_getD,List.getElem?_eq_getElem hlt];rfl
  rw [hn] at g
  have nx:=ih (k + 1) F a1 a2 T' (by omega) (by omega) h1 h2 c1 c2 (fun i hi=>by rw [c3];exact hv i hi)
  rw [p_law36_TallyNobody_l2,decide_eq_true (show (k:Int) < 12 by omega),cond_true,at_lt hlt,Option.bind_some,g,Option.bind_some,h1,h2,w64_succ (by omega),hv k hk12]
  by_cases h:k=j
  ·subst h
   rw [beq_self_eq_true,cond_true,if_pos rfl,beq_self_eq_true]
   exact nx
  ·rw [beq_eq_false_iff_ne.2 (show (k:Int)≠(j:Int) by omega),cond_false,if_neg h]
   have e:(((0:Int) == a2) != (a2 == (0:Int)))=false:=by
    by_cases q:a2=0
    ·subst q;rfl
    ·rw [beq_eq_false_iff_ne.2 (fun h=>q h.symm),beq_eq_false_iff_ne.2 q];rfl
   rw [e,cond_false]
   exact nx
theorem tallyNobody_pure (l:List Law36Act) (k n:Int) (hl:∀ x ∈ l,KdA x) (hk:0≤k∧k≤255) (hn:0≤n∧n≤4294967295):p_law36_TallyNobody l k n=some true:=by
 have fp:=fuel_pos
 unfold p_law36_TallyNobody
 rcases few_p l hl with e1 | ⟨e1,l1,f1⟩
 ·rw [e1];simp only [Option.bind_some,cond_false];rw [aw36];rfl
 rw [e1]
 simp only [Option.bind_some,cond_true]
 obtain ⟨z,hz⟩:=nobody_l1 l f1 (by omega) _ 0 fuel (Nat.zero_add _) (by omega)
 have hz' : p_law36_TallyNobody_l1 l fuel (0:Int)=_:=hz
 rw [hz']
 simp only [Option.bind_some]
 rw [new_z]
 simp only [Option.bind_some]
 rw [show p_tally_Names=some namesL from rfl]
 simp only [Option.bind_some]
 obtain ⟨j,hj,ej⟩ : ∃ j:Nat,j < 12∧w64 (Int.tmod k (12:Int))=(j:Int):=by
  obtain ⟨q,rfl⟩:=Int.eq_ofNat_of_zero_le hk.1
  refine ⟨q % 12,Nat.mod_lt _ (by decide),?_⟩
  rw [show Int.tmod ((q:Nat):Int) (12:Int)=((q % 12:Nat):Int) from rfl,w64_id (by have:=Nat.mod_lt q (show 0 < 12 by decide);omega)]
 have hlt:j < namesL.length:=hj
 have hnm:namesL.getD j ⟨#[]⟩=namesL[j]:=by rw [List.getD_eq_getElem?_getD,List.getElem?_eq_getElem hlt];rfl
 have hix:=(name_p j hj).2
 rw [hnm] at hix
 rw [show (((namesL.length:Nat):Int) != (12:Int))=false from rfl,cond_false,ej,at_lt hlt]
 simp only [Option.bind_some]
 rw [w64_id (show -9223372036854775808≤n∧n≤9223372036854775807 by omega)]
 obtain ⟨T,a1,a2,a3,a4⟩:=add_s zT namesL[j] n cntG_z pt_z (by omega)
 rw [a1,decide_eq_true ⟨hn.1,by rw [hix];omega⟩]
 simp only [Option.bind_some,cond_true]
 obtain ⟨z2,h2⟩:=nobody_l2 j 0 hj 12 0 fuel k n T (by omega) (by omega) ej (w64_id (by omega)) a2 a3 (fun i hi=>by
  rw [a4 i hi,cnt_z]
  unfold addI
  by_cases h:i=j
  ·rw [if_pos ⟨hn.1,by rw [hix,h]⟩,if_pos h];omega
  ·rw [if_neg (fun q=>h (by have:=q.2;rw [hix] at this;omega)),if_neg h];rfl)
 have h2' : p_law36_TallyNobody_l2 k n namesL fuel (0:Int) T=_:=h2
 rw [h2']
 have g1:∀ a,p_tally_Tally_Get_n0 a=some 0:=fun _=>rfl
 have g2:p_tally_Tally_List_n0=some []:=rfl
 have g3:∀ a,p_tally_Tally_Join_n0 a=some (a,false):=fun _=>rfl
 have g4:∀ a,p_tally_Tally_Join_n1 a=some (a,false):=fun _=>rfl
 obtain ⟨a,ca,_,_,_⟩:=count_p l f1 hl (by omega)
 simp only [Option.bind_some]
 rw [g1]
 simp only [Option.bind_some,beq_self_eq_true,cond_true]
 rw [g2]
 simp only [Option.bind_some,List.length_nil]
 rw [show (((0:Nat):Int) == (0:Int))=true from rfl,cond_true,ca]
 simp only [Option.bind_some]
 rw [g3]
 simp only [Option.bind_some,cond_false]
 rw [g4]
 simp only [Option.bind_some,cond_false]
 rw [aw36];rfl
end Go.Proofs.YtpkodpcfafipdaaGreat

namespace Go.Proofs.YtpkodpcfafipdaaGreat
open Go.RowKit
theorem repAr3 {m:Mem} {a b c:Value} {x y z:V} (h1:Rep m noBk a x) (h2:Rep m noBk b y) (h3:Rep m noBk c z):RepA m noBk #[a,b,c] [x,y,z] :=
 ⟨rfl,fun j g1 g2=>match j,g1 with
  | 0,_=>h1
  | 1,_=>h2
  | 2,_=>h3
  | j + 3,g=>absurd g (by simp)⟩
theorem le_i64 {n:Int} (h:(Lit.int .i64 n).wf=true):n≤9223372036854775807:=by
 simp [Lit.wf,IntKind.min,IntKind.max,IntKind.signed,IntKind.bits] at h
 omega
theorem kdA_wf (x:Law36Act) (h:Law36Act.Wf x):KdA x:=⟨fun y hy=>bounds_u8 (h.R.Said y hy).S.Kind,le_i64 h.N⟩
theorem tallyNobody_wf (l:List Law36Act) (k n:Int) (h:∀ x ∈ l,Law36Act.Wf x) (hk:(Lit.int .u8 k).wf=true) (hn:(Lit.int .u32 n).wf=true):p_law36_TallyNobody l k n=some true :=
 tallyNobody_pure l k n (fun x hx=>kdA_wf x (h x hx)) (bounds_u8 hk) (by
  simp [Lit.wf,IntKind.min,IntKind.max,IntKind.signed,IntKind.bits] at hn
  omega)
end Go.Proofs.YtpkodpcfafipdaaGreat

namespace Go.Proofs.YtpkodpcfafipdaaGreat
open Go.RowKit
set_option maxRecDepth 100000
set_option maxHeartbeats 4000000
def gc9:BCode:=(.seq (R_ 0 [O_ 0 (.mv (.const (.pointer none))) 0]) (.seq (R_ 1 [O_ 1 (.bd [(.lit (.int .i64 0)),(.lit (.int .i64 0)),(.lit (.int .i64 0)),(.lit (.int .i64 0)),(.lit (.int .i64 0)),(.lit (.int .i64 0)),(.lit (.int .i64 0)),(.lit (.int .i64 0)),(.lit (.int .i64 0)),(.lit (.int .i64 0)),(.lit (.int .i64 0)),(.lit (.int .i64 0)),(.lit (.int .u32 0)),(.lit (.int .i32 0)),(.lit (.int .u32 0)),(.sl [] true)] []) 0,O_ 2 (.bx (t_ 1)) 0,O_ 0 (.mv (t_ 2)) 1]) .ret))
theorem gc9_ok:compF Tryz.prog Tryz.f9=some (gc9.er,3,[.tmp 0]):=by unfold gc9;kernel_rfl
theorem p_tally_New_o  (y:TallyTally) (H:p_tally_New =some y):CallsS Tryz.prog 9 [] [.fresh,.fresh] (.ptr 0 0) [.live ((fun r:TallyTally=>(cellsM SyncatomicInt64.v r.counts++([.lit (.int .u32 r.once.done.v_),.lit (.int .i32 r.once.m.mu.state),.lit (.int .u32 r.once.m.mu.sema),.sl (List.map V.s r.names) false]))) y) 0,.fresh]:=by
 refine callsR_c (n0:=2) mix Tryz.func9 gc9_ok rfl ?_
 rw [p_tally_New] at H
 conv=>whnf
 refine finNw_c (T:=(fun r:TallyTally=>(cellsM SyncatomicInt64.v r.counts++([.lit (.int .u32 r.once.done.v_),.lit (.int .i32 r.once.m.mu.state),.lit (.int .u32 r.once.m.mu.sema),.sl (List.map V.s r.names) false])))) (y:=y) [] 2 (.inr rfl) H ?_;conv=>whnf
 exact ⟨⟨(cellsM SyncatomicInt64.v (List.replicate 12 (SyncatomicInt64.mk (SyncatomicNoCopy.mk ) (SyncatomicNoCopy.mk ) (0:Int)))++([.lit (.int .u32 (0:Int)),.lit (.int .i32 (0:Int)),.lit (.int .u32 (0:Int)),.sl (List.map V.s []) true])),_,rfl,(fzl_app (.cons (.id rfl) (.cons (.id rfl) (.cons (.id rfl) (.cons (.slw) (.nil))))) (fzl_lit (cellsM_idlt (f:=SyncatomicInt64.v) (fun _=>rfl) _))),(one_app (one_M (f:=SyncatomicInt64.v) (fun _=>rfl) _) rfl)⟩,rfl,rfl⟩
def gc25:BCode:=(.seq (R_ 0 [O_ 8 (.mv (t_ 0)) 0,O_ 9 (.mv (t_ 1)) 0,O_ 10 (.nc (t_ 8)) 0,O_ 11 (.fa 0 (t_ 10)) 0,O_ 12 (.ixa 12 1 (t_ 11) (t_ 9)) 0,O_ 6 (.mv (t_ 12)) 0]) (.seq (.seq (R_ 0 [O_ 13 (.mv (t_ 6)) 0,O_ 14 (.cl 34 [(t_ 13)]) 0,O_ 7 (.mv (t_ 14)) 0]) (.seq (R_ 0 [O_ 15 (.mv (t_ 2)) 0,O_ 16 (.mv (t_ 7)) 0,O_ 17 (.bin .sub (i_ 4611686018427387904) (t_ 16)) 0,O_ 18 (.bin .gtr (t_ 15) (t_ 17)) 0]) (.cond (t_ 18) (.seq (R_ 0 [O_ 19 (.mv (t_ 6)) 0,O_ 20 (.cl 43 [(t_ 19),(i_ 4611686018427387904)]) 0]) .ret) .skip))) (R_ 0 [O_ 21 (.mv (t_ 6)) 0,O_ 22 (.mv (t_ 2)) 0,O_ 23 (.cl 44 [(t_ 21),(t_ 22)]) 0])))
theorem gc25_ok:compF Tryz.prog Tryz.f25=some (gc25.er,24,[]):=by unfold gc25;kernel_rfl
theorem p_tally_Tally_more_p1_0 {u1:Bool}  (a0:TallyTally) (a1:Int) (a2:Int) (r:TallyTally) (H:p_tally_Tally_more a0 a1 a2=some r):CallsS Tryz.prog 25 [.ptr 0 0,.i a1,.i a2] [.live (cellsM SyncatomicInt64.v a0.counts++([.lit (.int .u32 a0.once.done.v_),.lit (.int .i32 a0.once.m.mu.state),.lit (.int .u32 a0.once.m.mu.sema),.sl (List.map V.s a0.names) u1])) 0] ((fun _:TallyTally=>V.tup []) r) [.live ((fun r:TallyTally=>(cellsM SyncatomicInt64.v r.counts++([.lit (.int .u32 r.once.done.v_),.lit (.int .i32 r.once.m.mu.state),.lit (.int .u32 r.once.m.mu.sema),.sl (List.map V.s r.names) false]))) r) 0]:=by
 refine callsR_c (n0:=1) mix Tryz.func25 gc25_ok rfl ?_
 rw [p_tally_Tally_more] at H
 conv=>whnf
 refine ixa_c H (fun x1 h2 H=>?_);conv=>whnf
 refine Ask_S (callsS_loadM (p:=([]:List V)) (f:=SyncatomicInt64.v) (seg:=a0.counts) (m:=[.lit (.int .u32 a0.once.done.v_),.lit (.int .i32 a0.once.m.mu.state),.lit (.int .u32 a0.once.m.mu.sema),.sl (List.map V.s a0.names) u1]) (es:=1) rfl (by first | rfl | (simp only [List.append_assoc,List.cons_append,List.nil_append,List.append_nil];done) | simp) h2 (fun _=>rfl) (by simp) rfl) rfl ?_;conv=>whnf
 refine Ari.w ?_;conv=>whnf
 refine tst_d H (fun b3 H=>?_) (fun b3 H=>?_)
 ·conv=>whnf
  refine Ask_S (callsS_addM (st':=[.live (cellsM SyncatomicInt64.v (List.set a0.counts (Int.toNat a1) (SyncatomicInt64.mk (SyncatomicNoCopy.mk ) (SyncatomicNoCopy.mk ) (w64 (x1.v_ + a2))))++([.lit (.int .u32 a0.once.done.v_),.lit (.int .i32 a0.once.m.mu.state),.lit (.int .u32 a0.once.m.mu.sema),.sl (List.map V.s a0.names) u1])) 0]) (p:=([]:List V)) (f:=SyncatomicInt64.v) (seg:=a0.counts) (m:=[.lit (.int .u32 a0.once.done.v_),.lit (.int .i32 a0.once.m.mu.state),.lit (.int .u32 a0.once.m.mu.sema),.sl (List.map V.s a0.names) u1]) (x':=(SyncatomicInt64.mk (SyncatomicNoCopy.mk ) (SyncatomicNoCopy.mk ) (w64 (x1.v_ + a2)))) (cs':=(cellsM SyncatomicInt64.v (List.set a0.counts (Int.toNat a1) (SyncatomicInt64.mk (SyncatomicNoCopy.mk ) (SyncatomicNoCopy.mk ) (w64 (x1.v_ + a2))))++([.lit (.int .u32 a0.once.done.v_),.lit (.int .i32 a0.once.m.mu.state),.lit (.int .u32 a0.once.m.mu.sema),.sl (List.map V.s a0.names) u1]))) rfl (by first | rfl | (simp only [List.append_assoc,List.cons_append,List.nil_append,List.append_nil];done) | simp) h2 (fun _=>rfl) (by simp) rfl rfl (by first | rfl | (simp only [List.append_assoc,List.cons_append,List.nil_append,List.append_nil];done) | simp) rfl) rfl ?_;conv=>whnf
  refine finP_c (y:=r) (st0:=[.live (cellsM SyncatomicInt64.v a0.counts++([.lit (.int .u32 a0.once.done.v_),.lit (.int .i32 a0.once.m.mu.state),.lit (.int .u32 a0.once.m.mu.sema),.sl (List.map V.s a0.names) u1])) 0]) (enc:=(fun _:TallyTally=>V.tup [])) (T:=(fun r:TallyTally=>(cellsM SyncatomicInt64.v r.counts++([.lit (.int .u32 r.once.done.v_),.lit (.int .i32 r.once.m.mu.state),.lit (.int .u32 r.once.m.mu.sema),.sl (List.map V.s r.names) false])))) (i:=0) [] (.inl rfl) H (Nat.le_of_ble_eq_true rfl) ?_;conv=>whnf
  exact ⟨trivial,⟨_,_,rfl,(fzl_app (.cons (.id rfl) (.cons (.id rfl) (.cons (.id rfl) (.cons (.slw) (.nil))))) (fzl_lit (cellsM_idlt (f:=SyncatomicInt64.v) (fun _=>rfl) _))),(one_app (one_M (f:=SyncatomicInt64.v) (fun _=>rfl) _) rfl)⟩,⟨rfl,rfl⟩⟩
 conv=>whnf
 refine Ask_S (callsS_storeM (st':=[.live (cellsM SyncatomicInt64.v (List.set a0.counts (Int.toNat a1) (SyncatomicInt64.mk (SyncatomicNoCopy.mk ) (SyncatomicNoCopy.mk ) (4611686018427387904:Int)))++([.lit (.int .u32 a0.once.done.v_),.lit (.int .i32 a0.once.m.mu.state),.lit (.int .u32 a0.once.m.mu.sema),.sl (List.map V.s a0.names) u1])) 0]) (p:=([]:List V)) (f:=SyncatomicInt64.v) (seg:=a0.counts) (m:=[.lit (.int .u32 a0.once.done.v_),.lit (.int .i32 a0.once.m.mu.state),.lit (.int .u32 a0.once.m.mu.sema),.sl (List.map V.s a0.names) u1]) (x':=(SyncatomicInt64.mk (SyncatomicNoCopy.mk ) (SyncatomicNoCopy.mk ) (4611686018427387904:Int))) (cs':=(cellsM SyncatomicInt64.v (List.set a0.counts (Int.toNat a1) (SyncatomicInt64.mk (SyncatomicNoCopy.mk ) (SyncatomicNoCopy.mk ) (4611686018427387904:Int)))++([.lit (.int .u32 a0.once.done.v_),.lit (.int .i32 a0.once.m.mu.state),.lit (.int .u32 a0.once.m.mu.sema),.sl (List.map V.s a0.names) u1]))) rfl (by first | rfl | (simp only [List.append_assoc,List.cons_append,List.nil_append,List.append_nil];done) | simp) h2 (fun _=>rfl) (by simp) rfl rfl (by first | rfl | (simp only [List.append_assoc,List.cons_append,List.nil_append,List.append_nil];done) | simp) rfl) rfl ?_;conv=>whnf
 refine finP_c (y:=r) (st0:=[.live (cellsM SyncatomicInt64.v a0.counts++([.lit (.int .u32 a0.once.done.v_),.lit (.int .i32 a0.once.m.mu.state),.lit (.int .u32 a0.once.m.mu.sema),.sl (List.map V.s a0.names) u1])) 0]) (enc:=(fun _:TallyTally=>V.tup [])) (T:=(fun r:TallyTally=>(cellsM SyncatomicInt64.v r.counts++([.lit (.int .u32 r.once.done.v_),.lit (.int .i32 r.once.m.mu.state),.lit (.int .u32 r.once.m.mu.sema),.sl (List.map V.s r.names) false])))) (i:=0) [] (.inr rfl) H (Nat.le_of_ble_eq_true rfl) ?_;conv=>whnf
 exact ⟨trivial,⟨_,_,rfl,(fzl_app (.cons (.id rfl) (.cons (.id rfl) (.cons (.id rfl) (.cons (.slw) (.nil))))) (fzl_lit (cellsM_idlt (f:=SyncatomicInt64.v) (fun _=>rfl) _))),(one_app (one_M (f:=SyncatomicInt64.v) (fun _=>rfl) _) rfl)⟩,⟨rfl,rfl⟩⟩
def gc27:BCode:=(.seq (R_ 0 [O_ 2 (.mv (i_ 0)) 0]) (.seq (.seq (R_ 0 [O_ 3 (.mv (t_ 0)) 0,O_ 4 (.bin .eql (t_ 3) (.const (.string ⟨#[]⟩))) 0,O_ 5 (.mv (t_ 4)) 0,⟨(some 6),.mv (t_ 0),(some (5,false)),0⟩,⟨(some 7),.lent (t_ 6),(some (5,false)),0⟩,⟨(some 8),.bin .gtr (t_ 7) (i_ 128),(some (5,false)),0⟩,O_ 9 (.pick (t_ 5) (b_ true) (t_ 8)) 0]) (.cond (t_ 9) (.seq (R_ 0 [O_ 2 (.mv (i_ 0)) 0]) .ret) .skip)) (.seq (R_ 0 [O_ 10 (.mv (t_ 0)) 0,O_ 11 (.lent (t_ 10)) 0,O_ 12 (.bin .add (i_ 2) (t_ 11)) 0,O_ 2 (.mv (t_ 12)) 0]) .ret)))
theorem gc27_ok:compF Tryz.prog Tryz.f27=some (gc27.er,13,[.tmp 2]):=by unfold gc27;kernel_rfl
theorem p_frame_Size_v (a0:ByteArray):CallsO Tryz.prog 27 [.s a0] V.i (p_frame_Size a0):=by
 refine callsO_comp mix Tryz.func27 gc27_ok fun r H=>?_
 rw [p_frame_Size] at H
 conv=>whnf
 refine tst_c H (fun b1 H=>?_) (fun b1 H=>?_)
 ·conv=>whnf
  iterate 4 (refine Tst.T ?_;conv=>whnf)
  exact fi_ H
 conv=>whnf
 iterate 3 (refine Tst.F ?_;conv=>whnf)
 refine tst_c H (fun b2 H=>?_) (fun b2 H=>?_)
 ·conv=>whnf
  exact fi_ H
 conv=>whnf
 refine Ari.w ?_;conv=>whnf
 exact fi_ H
def gc28:BCode:=(.seq (R_ 0 [O_ 2 (.mv (i_ 0)) 0]) (.seq (.seq (R_ 0 [O_ 3 (.mv (t_ 0)) 0]) (.block 0 (.seq (R_ 0 [O_ 5 (.bin .eql (t_ 3) (.const (.int .u8 32))) 0,O_ 4 (.mv (t_ 5)) 0]) (.cond (t_ 4) (.seq (R_ 0 [O_ 2 (.mv (i_ 4)) 0]) .ret) (.seq (R_ 0 [O_ 7 (.bin .eql (t_ 3) (.const (.int .u8 33))) 0,O_ 6 (.mv (t_ 7)) 0]) (.cond (t_ 6) (.seq (R_ 0 [O_ 2 (.mv (i_ 5)) 0]) .ret) (.seq (R_ 0 [O_ 9 (.bin .eql (t_ 3) (.const (.int .u8 34))) 0,O_ 8 (.mv (t_ 9)) 0]) (.cond (t_ 8) (.seq (R_ 0 [O_ 2 (.mv (i_ 6)) 0]) .ret) (.seq (R_ 0 [O_ 11 (.bin .eql (t_ 3) (.const (.int .u8 35))) 0,O_ 10 (.mv (t_ 11)) 0]) (.cond (t_ 10) (.seq (R_ 0 [O_ 2 (.mv (i_ 7)) 0]) .ret) (.seq (R_ 0 [O_ 13 (.bin .eql (t_ 3) (.const (.int .u8 36))) 0,O_ 12 (.mv (t_ 13)) 0]) (.cond (t_ 12) (.seq (R_ 0 [O_ 2 (.mv (i_ 8)) 0]) .ret) (.seq (.seq (R_ 0 [O_ 15 (.bin .eql (t_ 3) (.const (.int .u8 38))) 0,O_ 14 (.mv (t_ 15)) 0]) (.cond (t_ 14) .skip (R_ 0 [O_ 16 (.bin .eql (t_ 3) (.const (.int .u8 39))) 0,O_ 14 (.mv (t_ 16)) 0]))) (.cond (t_ 14) (.seq (R_ 0 [O_ 2 (.mv (i_ 9)) 0]) .ret) (.seq (R_ 0 [O_ 18 (.bin .eql (t_ 3) (.const (.int .u8 40))) 0,O_ 17 (.mv (t_ 18)) 0]) (.cond (t_ 17) (.seq (R_ 0 [O_ 2 (.mv (i_ 10)) 0]) .ret) .skip)))))))))))))))) (.seq (R_ 0 [O_ 2 (.mv (.const (.int .i64 (-1)))) 0]) .ret)))
theorem gc28_ok:compF Tryz.prog Tryz.f28=some (gc28.er,19,[.tmp 2]):=by unfold gc28;kernel_rfl
theorem p_tally_kind_v (a0:Int):CallsO Tryz.prog 28 [.y8 a0] V.i (p_tally_kind a0):=by
 refine callsO_comp mix Tryz.func28 gc28_ok fun r H=>?_
 rw [p_tally_kind] at H
 conv=>whnf
 refine tst_c H (fun b1 H=>?_) (fun b1 H=>?_)
 ·conv=>whnf
  exact fi_ H
 conv=>whnf
 refine tst_c H (fun b2 H=>?_) (fun b2 H=>?_)
 ·conv=>whnf
  exact fi_ H
 conv=>whnf
 refine tst_c H (fun b3 H=>?_) (fun b3 H=>?_)
 ·conv=>whnf
  exact fi_ H
 conv=>whnf
 refine tst_c H (fun b4 H=>?_) (fun b4 H=>?_)
 ·conv=>whnf
  exact fi_ H
 conv=>whnf
 refine tst_c H (fun b5 H=>?_) (fun b5 H=>?_)
 ·conv=>whnf
  exact fi_ H
 conv=>whnf
 refine tst_c H (fun b6 H=>?_) (fun b6 H=>?_)
 ·conv=>whnf
  refine Tst.T ?_;conv=>whnf
  exact fi_ H
 conv=>whnf
 refine tst_c H (fun b7 H=>?_) (fun b7 H=>?_)
 ·conv=>whnf
  exact fi_ H
 conv=>whnf
 refine tst_c H (fun b8 H=>?_) (fun b8 H=>?_)
 ·conv=>whnf
  exact fi_ H
 conv=>whnf
 exact fi_ H
def gc10:BCode:=(.seq (R_ 1 [O_ 3 (.bx (t_ 1)) 0]) (.seq (.seq (R_ 0 [O_ 9 (.mv (t_ 0)) 0,O_ 10 (.eqp false (t_ 9) (.const (.pointer none))) 0]) (.cond (t_ 10) .ret .skip)) (.seq (R_ 0 [O_ 11 (.mv (t_ 0)) 0,O_ 12 (.cl 25 [(t_ 11),(i_ 0),(i_ 1)]) 0]) (.seq (.seq (R_ 0 [O_ 13 (.fa 0 (t_ 3)) 0,O_ 14 (.ld 1 false (t_ 13)) 0,O_ 15 (.bin .neq (t_ 14) (i_ 0)) 0]) (.cond (t_ 15) (R_ 0 [O_ 16 (.mv (t_ 0)) 0,O_ 17 (.cl 25 [(t_ 16),(i_ 1),(i_ 1)]) 0]) .skip)) (.seq (R_ 0 [O_ 18 (.mv (t_ 0)) 0,O_ 19 (.fa 1 (t_ 3)) 0,O_ 20 (.ld 1 false (t_ 19)) 0,O_ 21 (.lens (t_ 20)) 0,O_ 22 (.cl 25 [(t_ 18),(i_ 2),(t_ 21)]) 0]) (.seq (R_ 0 [O_ 23 (.mv (t_ 0)) 0,O_ 24 (.fa 2 (t_ 3)) 0,O_ 25 (.ld 1 false (t_ 24)) 0,O_ 26 (.lens (t_ 25)) 0,O_ 27 (.cl 25 [(t_ 23),(i_ 11),(t_ 26)]) 0]) (.seq (R_ 0 [O_ 28 (.fa 1 (t_ 3)) 0,O_ 29 (.ld 1 false (t_ 28)) 0,O_ 30 (.lens (t_ 29)) 0,O_ 31 (.mv (i_ 0)) 0]) (.block 0 (.loop (.seq (R_ 0 [O_ 32 (.bin .lss (t_ 31) (t_ 30)) 0]) (.seq (.cond (t_ 32) .skip (.exit 0)) (.seq (.block 1 (.seq (R_ 1 [O_ 33 (.ixs 9 (t_ 29) (t_ 31)) 0,O_ 34 (.ld 9 true (t_ 33)) 0,O_ 5 (.al (.agg [(.lit (.int .i64 0)),(.lit (.int .u8 0)),(.lit (.string ⟨#[]⟩)),(.lit (.string ⟨#[]⟩)),(.lit (.string ⟨#[]⟩)),(.lit (.int .i64 0)),(.lit (.int .i64 0)),(.lit (.int .i64 0)),(.lit (.int .i64 0))])) 0,U_ (.st 9 (t_ 5) (t_ 34)) 1]) (.seq (R_ 0 [O_ 36 (.fa 1 (t_ 5)) 0,O_ 37 (.ld 8 true (t_ 36)) 0,O_ 38 (.cl 26 [(t_ 37)]) 0,O_ 35 (.mv (t_ 38)) 0,O_ 39 (.ex (t_ 35) 0) 0,O_ 40 (.ex (t_ 35) 1) 0,O_ 6 (.mv (t_ 39)) 0,O_ 7 (.mv (t_ 40)) 0]) (.seq (R_ 0 [O_ 41 (.mv (t_ 0)) 0,O_ 42 (.mv (t_ 6)) 0,O_ 43 (.cl 27 [(t_ 42)]) 0,O_ 44 (.cl 25 [(t_ 41),(i_ 3),(t_ 43)]) 0]) (.seq (R_ 0 [O_ 45 (.fa 1 (t_ 5)) 0,O_ 46 (.fa 0 (t_ 45)) 0,O_ 47 (.ld 1 false (t_ 46)) 0,O_ 48 (.cl 28 [(t_ 47)]) 0,O_ 8 (.mv (t_ 48)) 0]) (.seq (R_ 0 [O_ 49 (.mv (t_ 8)) 0,O_ 50 (.bin .neq (t_ 49) (.const (.int .i64 (-1)))) 0]) (.cond (t_ 50) (R_ 0 [O_ 51 (.mv (t_ 0)) 0,O_ 52 (.mv (t_ 8)) 0,O_ 53 (.cl 25 [(t_ 51),(t_ 52),(i_ 1)]) 0]) .skip))))))) (R_ 0 [O_ 54 (.bin .add (t_ 31) (i_ 1)) 0,O_ 31 (.mv (t_ 54)) 0])))))))))))))
theorem gc10_ok:compF Tryz.prog Tryz.f10=some (gc10.er,55,[]):=by unfold gc10;kernel_rfl
theorem p_tally_Tally_Note_p1_0 {u1 u2 u3:Bool}  (a0:TallyTally) (a1:Ref33Result) (r:TallyTally) (H:p_tally_Tally_Note a0 a1=some r):CallsS Tryz.prog 10 [.ptr 0 0,.agg [.i a1.E,.sl (List.map Ref33Said.v a1.Said) u2,.sl (List.map V.i a1.Shut) u3]] [.live (cellsM SyncatomicInt64.v a0.counts++([.lit (.int .u32 a0.once.done.v_),.lit (.int .i32 a0.once.m.mu.state),.lit (.int .u32 a0.once.m.mu.sema),.sl (List.map V.s a0.names) u1])) 0] ((fun _:TallyTally=>V.tup []) r) [.live ((fun r:TallyTally=>(cellsM SyncatomicInt64.v r.counts++([.lit (.int .u32 r.once.done.v_),.lit (.int .i32 r.once.m.mu.state),.lit (.int .u32 r.once.m.mu.sema),.sl (List.map V.s r.names) false]))) r) 0]:=by
 refine callsR_c (n0:=1) mix Tryz.func10 gc10_ok rfl ?_
 rw [p_tally_Tally_Note] at H
 conv=>whnf
 refine Tst.F ?_;conv=>whnf
 refine askCo_c [0] (fun s hs=>p_tally_Tally_more_p1_0 _ _ _ s hs) H (fun _=>rfl) rfl ⟨rfl,trivial⟩ rfl (closed_cons (belowL_app (cellsM_idlt (f:=SyncatomicInt64.v) (fun _=>rfl) _) rfl) closed_nil) (fun s=>(closed_cons (belowL_app (cellsM_idlt (f:=SyncatomicInt64.v) (fun _=>rfl) _) rfl) closed_nil)) (fun _=>rfl) (.kp rfl (.kp rfl (.kp rfl (.nil)))) (fun v1 H=>?_);conv=>whnf
 refine tst_d H (fun b2 H=>?_) (fun b2 H=>?_)
 ·conv=>whnf
  refine LenQ.M ?_;conv=>whnf
  refine askCo_c [0] (fun s hs=>p_tally_Tally_more_p1_0 _ _ _ s hs) H (fun _=>rfl) rfl ⟨rfl,trivial⟩ rfl (closed_cons (belowL_app (cellsM_idlt (f:=SyncatomicInt64.v) (fun _=>rfl) _) rfl) closed_nil) (fun s=>(closed_cons (belowL_app (cellsM_idlt (f:=SyncatomicInt64.v) (fun _=>rfl) _) rfl) closed_nil)) (fun _=>rfl) (.kp rfl (.kp rfl (.kp rfl (.nil)))) (fun v21 H=>?_);conv=>whnf
  refine LenQ.M ?_;conv=>whnf
  refine askCo_c [0] (fun s hs=>p_tally_Tally_more_p1_0 _ _ _ s hs) H (fun _=>rfl) rfl ⟨rfl,trivial⟩ rfl (closed_cons (belowL_app (cellsM_idlt (f:=SyncatomicInt64.v) (fun _=>rfl) _) rfl) closed_nil) (fun s=>(closed_cons (belowL_app (cellsM_idlt (f:=SyncatomicInt64.v) (fun _=>rfl) _) rfl) closed_nil)) (fun _=>rfl) (.kp rfl (.kp rfl (.kp rfl (.nil)))) (fun v22 H=>?_);conv=>whnf
  refine LenQ.M ?_;conv=>whnf
  obtain ⟨o24,HL25,HQ26⟩:=bind_c H
  refine loop_c [31] [5,6,7,8,32,33,34,35,36,37,38,39,40,41,42,43,44,45,46,47,48,49,50,51,52,53,54,3,9,11,13,18,19,23,24,28] [5,6,7,8,32,33,34,35,36,37,38,39,40,41,42,43,44,45,46,47,48,49,50,51,52,53,54,3,9,11,13,18,19,23,24,28] (fun n vals st=>(∃ y28 y29,p_tally_Tally_Note_l1  a1.Said (a1.Said.length:Int) n y28 y29=some o24∧vals=[.i y28]∧st=[.live (cellsM SyncatomicInt64.v y29.counts++([.lit (.int .u32 y29.once.done.v_),.lit (.int .i32 y29.once.m.mu.state),.lit (.int .u32 y29.once.m.mu.sema),.sl (List.map V.s y29.names) false])) 0])) fuel 1 [] (⟨_,_,HL25,rfl,rfl⟩) (Nat.le_of_ble_eq_true rfl) rfl (by kernel_rfl) (by kernel_rfl) rfl (wkB_live0 rfl (belowL_app (cellsM_idlt (f:=SyncatomicInt64.v) (fun _=>rfl) _) rfl) rfl wkB_nil) ?_
  rintro (_ | n27) _ _ (⟨y28,y29,H,rfl,rfl⟩)
  ·rw [p_tally_Tally_Note_l1] at H;cases H
  rw [p_tally_Tally_Note_l1] at H
  conv=>whnf
  refine tst_d H (fun b30 H=>?_) (fun b30 H=>?_)
  ·conv=>whnf
   obtain rfl:=Option.some.inj H
   have H:=HQ26
   try dsimp only at H
   refine finP_c (y:=r) (st0:=[.live (cellsM SyncatomicInt64.v a0.counts++([.lit (.int .u32 a0.once.done.v_),.lit (.int .i32 a0.once.m.mu.state),.lit (.int .u32 a0.once.m.mu.sema),.sl (List.map V.s a0.names) u1])) 0]) (enc:=(fun _:TallyTally=>V.tup [])) (T:=(fun r:TallyTally=>(cellsM SyncatomicInt64.v r.counts++([.lit (.int .u32 r.once.done.v_),.lit (.int .i32 r.once.m.mu.state),.lit (.int .u32 r.once.m.mu.sema),.sl (List.map V.s r.names) false])))) (i:=0) [] (.inl rfl) H (Nat.le_of_ble_eq_true rfl) ?_;conv=>whnf
   exact ⟨trivial,⟨_,_,rfl,(fzl_app (.cons (.id rfl) (.cons (.id rfl) (.cons (.id rfl) (.cons (.id rfl) (.nil))))) (fzl_lit (cellsM_idlt (f:=SyncatomicInt64.v) (fun _=>rfl) _))),(one_app (one_M (f:=SyncatomicInt64.v) (fun _=>rfl) _) rfl)⟩,⟨rfl,rfl⟩⟩
  conv=>whnf
  refine ixs_c (f:=Ref33Said.v) H (fun _=>rfl) (fun x31 H=>?_);conv=>whnf
  refine lq_ ?_;conv=>whnf
  refine ask_c (p_stanza_Put_v _) H rfl rfl (fun v32 H=>?_);conv=>whnf
  refine ask_c (p_frame_Size_v _) H rfl rfl (fun v33 H=>?_);conv=>whnf
  refine askCo_c [0] (fun s hs=>p_tally_Tally_more_p1_0 _ _ _ s hs) H (fun _=>rfl) rfl ⟨rfl,trivial⟩ rfl (closed_cons (belowL_app (cellsM_idlt (f:=SyncatomicInt64.v) (fun _=>rfl) _) rfl) closed_nil) (fun s=>(closed_cons (belowL_app (cellsM_idlt (f:=SyncatomicInt64.v) (fun _=>rfl) _) rfl) closed_nil)) (fun _=>rfl) (.kp rfl (.kp rfl (.kp rfl (.nil)))) (fun v34 H=>?_);conv=>whnf
  refine ask_c (p_tally_kind_v _) H rfl rfl (fun v35 H=>?_);conv=>whnf
  refine tst_d H (fun b36 H=>?_) (fun b36 H=>?_)
  ·conv=>whnf
   refine Ari.w ?_;conv=>whnf
   exact again_c [5,6,7,8,32,33,34,35,36,37,38,39,40,41,42,43,44,45,46,47,48,49,50,51,52,53,54,3,9,11,13,18,19,23,24,28] n27 1 [] (⟨_,_,H,rfl,rfl⟩) (Nat.lt_succ_self _) (Nat.le_of_ble_eq_true rfl) rfl (by kernel_rfl) (by kernel_rfl) rfl (wkB_live0 rfl (belowL_app (cellsM_idlt (f:=SyncatomicInt64.v) (fun _=>rfl) _) rfl) rfl wkB_nil)
  conv=>whnf
  refine askCo_c [0] (fun s hs=>p_tally_Tally_more_p1_0 _ _ _ s hs) H (fun _=>rfl) rfl ⟨rfl,trivial⟩ rfl (closed_cons (belowL_app (cellsM_idlt (f:=SyncatomicInt64.v) (fun _=>rfl) _) rfl) closed_nil) (fun s=>(closed_cons (belowL_app (cellsM_idlt (f:=SyncatomicInt64.v) (fun _=>rfl) _) rfl) closed_nil)) (fun _=>rfl) (.kp rfl (.kp rfl (.kp rfl (.nil)))) (fun v37 H=>?_);conv=>whnf
  refine Ari.w ?_;conv=>whnf
  exact again_c [5,6,7,8,32,33,34,35,36,37,38,39,40,41,42,43,44,45,46,47,48,49,50,51,52,53,54,3,9,11,13,18,19,23,24,28] n27 1 [] (⟨_,_,H,rfl,rfl⟩) (Nat.lt_succ_self _) (Nat.le_of_ble_eq_true rfl) rfl (by kernel_rfl) (by kernel_rfl) rfl (wkB_live0 rfl (belowL_app (cellsM_idlt (f:=SyncatomicInt64.v) (fun _=>rfl) _) rfl) rfl wkB_nil)
 conv=>whnf
 refine askCo_c [0] (fun s hs=>p_tally_Tally_more_p1_0 _ _ _ s hs) H (fun _=>rfl) rfl ⟨rfl,trivial⟩ rfl (closed_cons (belowL_app (cellsM_idlt (f:=SyncatomicInt64.v) (fun _=>rfl) _) rfl) closed_nil) (fun s=>(closed_cons (belowL_app (cellsM_idlt (f:=SyncatomicInt64.v) (fun _=>rfl) _) rfl) closed_nil)) (fun _=>rfl) (.kp rfl (.kp rfl (.kp rfl (.nil)))) (fun v3 H=>?_);conv=>whnf
 refine LenQ.M ?_;conv=>whnf
 refine askCo_c [0] (fun s hs=>p_tally_Tally_more_p1_0 _ _ _ s hs) H (fun _=>rfl) rfl ⟨rfl,trivial⟩ rfl (closed_cons (belowL_app (cellsM_idlt (f:=SyncatomicInt64.v) (fun _=>rfl) _) rfl) closed_nil) (fun s=>(closed_cons (belowL_app (cellsM_idlt (f:=SyncatomicInt64.v) (fun _=>rfl) _) rfl) closed_nil)) (fun _=>rfl) (.kp rfl (.kp rfl (.kp rfl (.nil)))) (fun v4 H=>?_);conv=>whnf
 refine LenQ.M ?_;conv=>whnf
 refine askCo_c [0] (fun s hs=>p_tally_Tally_more_p1_0 _ _ _ s hs) H (fun _=>rfl) rfl ⟨rfl,trivial⟩ rfl (closed_cons (belowL_app (cellsM_idlt (f:=SyncatomicInt64.v) (fun _=>rfl) _) rfl) closed_nil) (fun s=>(closed_cons (belowL_app (cellsM_idlt (f:=SyncatomicInt64.v) (fun _=>rfl) _) rfl) closed_nil)) (fun _=>rfl) (.kp rfl (.kp rfl (.kp rfl (.nil)))) (fun v5 H=>?_);conv=>whnf
 refine LenQ.M ?_;conv=>whnf
 obtain ⟨o7,HL8,HQ9⟩:=bind_c H
 refine loop_c [31] [5,6,7,8,32,33,34,35,36,37,38,39,40,41,42,43,44,45,46,47,48,49,50,51,52,53,54,3,9,11,13,16,18,19,23,24,28] [5,6,7,8,32,33,34,35,36,37,38,39,40,41,42,43,44,45,46,47,48,49,50,51,52,53,54,3,9,11,13,16,18,19,23,24,28] (fun n vals st=>(∃ y11 y12,p_tally_Tally_Note_l1  a1.Said (a1.Said.length:Int) n y11 y12=some o7∧vals=[.i y11]∧st=[.live (cellsM SyncatomicInt64.v y12.counts++([.lit (.int .u32 y12.once.done.v_),.lit (.int .i32 y12.once.m.mu.state),.lit (.int .u32 y12.once.m.mu.sema),.sl (List.map V.s y12.names) false])) 0])) fuel 1 [] (⟨_,_,HL8,rfl,rfl⟩) (Nat.le_of_ble_eq_true rfl) rfl (by kernel_rfl) (by kernel_rfl) rfl (wkB_live0 rfl (belowL_app (cellsM_idlt (f:=SyncatomicInt64.v) (fun _=>rfl) _) rfl) rfl wkB_nil) ?_
 rintro (_ | n10) _ _ (⟨y11,y12,H,rfl,rfl⟩)
 ·rw [p_tally_Tally_Note_l1] at H;cases H
 rw [p_tally_Tally_Note_l1] at H
 conv=>whnf
 refine tst_d H (fun b13 H=>?_) (fun b13 H=>?_)
 ·conv=>whnf
  obtain rfl:=Option.some.inj H
  have H:=HQ9
  try dsimp only at H
  refine finP_c (y:=r) (st0:=[.live (cellsM SyncatomicInt64.v a0.counts++([.lit (.int .u32 a0.once.done.v_),.lit (.int .i32 a0.once.m.mu.state),.lit (.int .u32 a0.once.m.mu.sema),.sl (List.map V.s a0.names) u1])) 0]) (enc:=(fun _:TallyTally=>V.tup [])) (T:=(fun r:TallyTally=>(cellsM SyncatomicInt64.v r.counts++([.lit (.int .u32 r.once.done.v_),.lit (.int .i32 r.once.m.mu.state),.lit (.int .u32 r.once.m.mu.sema),.sl (List.map V.s r.names) false])))) (i:=0) [] (.inl rfl) H (Nat.le_of_ble_eq_true rfl) ?_;conv=>whnf
  exact ⟨trivial,⟨_,_,rfl,(fzl_app (.cons (.id rfl) (.cons (.id rfl) (.cons (.id rfl) (.cons (.id rfl) (.nil))))) (fzl_lit (cellsM_idlt (f:=SyncatomicInt64.v) (fun _=>rfl) _))),(one_app (one_M (f:=SyncatomicInt64.v) (fun _=>rfl) _) rfl)⟩,⟨rfl,rfl⟩⟩
 conv=>whnf
 refine ixs_c (f:=Ref33Said.v) H (fun _=>rfl) (fun x14 H=>?_);conv=>whnf
 refine lq_ ?_;conv=>whnf
 refine ask_c (p_stanza_Put_v _) H rfl rfl (fun v15 H=>?_);conv=>whnf
 refine ask_c (p_frame_Size_v _) H rfl rfl (fun v16 H=>?_);conv=>whnf
 refine askCo_c [0] (fun s hs=>p_tally_Tally_more_p1_0 _ _ _ s hs) H (fun _=>rfl) rfl ⟨rfl,trivial⟩ rfl (closed_cons (belowL_app (cellsM_idlt (f:=SyncatomicInt64.v) (fun _=>rfl) _) rfl) closed_nil) (fun s=>(closed_cons (belowL_app (cellsM_idlt (f:=SyncatomicInt64.v) (fun _=>rfl) _) rfl) closed_nil)) (fun _=>rfl) (.kp rfl (.kp rfl (.kp rfl (.nil)))) (fun v17 H=>?_);conv=>whnf
 refine ask_c (p_tally_kind_v _) H rfl rfl (fun v18 H=>?_);conv=>whnf
 refine tst_d H (fun b19 H=>?_) (fun b19 H=>?_)
 ·conv=>whnf
  refine Ari.w ?_;conv=>whnf
  exact again_c [5,6,7,8,32,33,34,35,36,37,38,39,40,41,42,43,44,45,46,47,48,49,50,51,52,53,54,3,9,11,13,16,18,19,23,24,28] n10 1 [] (⟨_,_,H,rfl,rfl⟩) (Nat.lt_succ_self _) (Nat.le_of_ble_eq_true rfl) rfl (by kernel_rfl) (by kernel_rfl) rfl (wkB_live0 rfl (belowL_app (cellsM_idlt (f:=SyncatomicInt64.v) (fun _=>rfl) _) rfl) rfl wkB_nil)
 conv=>whnf
 refine askCo_c [0] (fun s hs=>p_tally_Tally_more_p1_0 _ _ _ s hs) H (fun _=>rfl) rfl ⟨rfl,trivial⟩ rfl (closed_cons (belowL_app (cellsM_idlt (f:=SyncatomicInt64.v) (fun _=>rfl) _) rfl) closed_nil) (fun s=>(closed_cons (belowL_app (cellsM_idlt (f:=SyncatomicInt64.v) (fun _=>rfl) _) rfl) closed_nil)) (fun _=>rfl) (.kp rfl (.kp rfl (.kp rfl (.nil)))) (fun v20 H=>?_);conv=>whnf
 refine Ari.w ?_;conv=>whnf
 exact again_c [5,6,7,8,32,33,34,35,36,37,38,39,40,41,42,43,44,45,46,47,48,49,50,51,52,53,54,3,9,11,13,16,18,19,23,24,28] n10 1 [] (⟨_,_,H,rfl,rfl⟩) (Nat.lt_succ_self _) (Nat.le_of_ble_eq_true rfl) rfl (by kernel_rfl) (by kernel_rfl) rfl (wkB_live0 rfl (belowL_app (cellsM_idlt (f:=SyncatomicInt64.v) (fun _=>rfl) _) rfl) rfl wkB_nil)
end Go.Proofs.YtpkodpcfafipdaaGreat

