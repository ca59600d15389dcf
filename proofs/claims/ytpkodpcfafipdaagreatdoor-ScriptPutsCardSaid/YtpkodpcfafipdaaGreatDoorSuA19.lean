/- A part of the proof: 8 texts joined. -/
import Derived.Test.YtpkodpcfafipdaaGreatDoorSuA13
import Derived.Test.YtpkodpcfafipdaaGreatDoorSuA18
import Derived.KernelRfl
import Derived.Test.YtpkodpcfafipdaaGreatDoorSuA17
set_option linter.all false
namespace Go.Proofs.YtpkodpcfafipdaaGreatDoor
open Go.ChangeShapes Go.WideShapes Go.ChangeAt Go.RowKit Go.Joins Go.Deep
structure BrokerStep.Wf (x:BrokerStep):Prop where
 Kind:(Lit.int .u8 x.Kind).wf=true
 Conn:(Lit.int .i64 x.Conn).wf=true
 N:(Lit.int .i64 x.N).wf=true
set_option maxRecDepth 100000 in
theorem rd_T31 {H:Type} {enc:TypeId × Value→H} {W:World} {spare:Nat→Bool} {held:Bool} {fuel:Nat} {cs:List Value} {y:DataW H × List MemPlace} (h:DataW.trod enc Tryz.prog W 0 spare held fuel 31 cs=some y):∃ x:BrokerStep,BrokerStep.Wf x∧RepL (MW W) noBk cs [.y8 x.Kind,.i x.Conn,.i x.N,.s x.Text]:=by
 obtain ⟨xs,n,_,_,hl,hx,hall⟩:=DataW.trod_struct Tryz.underlying31 h
 have hce:Tryz.prog.cellsOf 31=4:=by kernel_rfl
 rw [hce] at hl
 match cs,hl,hall with
 | [c0,c1,c2,c3],_,hall =>
  obtain ⟨y0,hy0⟩:=get_some hx (show 0 < 4 by omega)
  have g0:DataW.trod enc Tryz.prog W 0 spare held n 5 [c0]=some y0:=by
   have hz:Tryz.prog.cellsOf 5=1:=by kernel_rfl
   have g:DataW.trod enc Tryz.prog W 0 spare held n 5 (([c0,c1,c2,c3].drop 0).take (Tryz.prog.cellsOf 5))=some y0:=(hall 0 _ rfl).trans hy0
   rw [hz] at g;exact g
  obtain ⟨x0,w0,r0⟩:=rd_int Tryz.underlying5 g0
  obtain ⟨y1,hy1⟩:=get_some hx (show 1 < 4 by omega)
  have g1:DataW.trod enc Tryz.prog W 0 spare held n 3 [c1]=some y1:=by
   have hz:Tryz.prog.cellsOf 3=1:=by kernel_rfl
   have g:DataW.trod enc Tryz.prog W 0 spare held n 3 (([c0,c1,c2,c3].drop 1).take (Tryz.prog.cellsOf 3))=some y1:=(hall 1 _ rfl).trans hy1
   rw [hz] at g;exact g
  obtain ⟨x1,w1,r1⟩:=rd_int Tryz.underlying3 g1
  obtain ⟨y2,hy2⟩:=get_some hx (show 2 < 4 by omega)
  have g2:DataW.trod enc Tryz.prog W 0 spare held n 3 [c2]=some y2:=by
   have hz:Tryz.prog.cellsOf 3=1:=by kernel_rfl
   have g:DataW.trod enc Tryz.prog W 0 spare held n 3 (([c0,c1,c2,c3].drop 2).take (Tryz.prog.cellsOf 3))=some y2:=(hall 2 _ rfl).trans hy2
   rw [hz] at g;exact g
  obtain ⟨x2,w2,r2⟩:=rd_int Tryz.underlying3 g2
  obtain ⟨y3,hy3⟩:=get_some hx (show 3 < 4 by omega)
  have g3:DataW.trod enc Tryz.prog W 0 spare held n 9 [c3]=some y3:=by
   have hz:Tryz.prog.cellsOf 9=1:=by kernel_rfl
   have g:DataW.trod enc Tryz.prog W 0 spare held n 9 (([c0,c1,c2,c3].drop 3).take (Tryz.prog.cellsOf 9))=some y3:=(hall 3 _ rfl).trans hy3
   rw [hz] at g;exact g
  obtain ⟨x3,r3⟩:=rd_string Tryz.underlying9 g3
  exact ⟨⟨x0,x1,x2,x3⟩,⟨w0,w1,w2⟩,repL_app r0 (repL_app r1 (repL_app r2 (repL_app r3 (repL_nil))))⟩
theorem rd_T22 {H:Type} {enc:TypeId × Value→H} {W:World} {spare:Nat→Bool} {held:Bool} {fuel:Nat} {cs:List Value} {y:DataW H × List MemPlace} (h:DataW.trod enc Tryz.prog W 0 spare held fuel 22 cs=some y):∃ x:List BrokerStep,(∀ z ∈ x,BrokerStep.Wf z)∧RepL (MW W) noBk cs [(fun l:List BrokerStep=>V.sl (l.map BrokerStep.v) false) x] :=
 rd_slice (f:=BrokerStep.v) (es:=4) (wf:=BrokerStep.Wf) Tryz.underlying22 (fun _=>rfl) (by intro a v hv;simp [V.cells] at hv;first | (subst hv;rfl) | (rcases hv with rfl | rfl | rfl | rfl <;> rfl)) (by omega) (by kernel_rfl) (fun n cs y h=>rd_T31 h) h
structure StanzaStanza.Wf (x:StanzaStanza):Prop where
 Kind:(Lit.int .u8 x.Kind).wf=true
 Show:(Lit.int .i64 x.Show).wf=true
 Prio:(Lit.int .i64 x.Prio).wf=true
 Code:(Lit.int .i64 x.Code).wf=true
 N:(Lit.int .i64 x.N).wf=true
set_option maxRecDepth 100000 in
theorem rd_T28 {H:Type} {enc:TypeId × Value→H} {W:World} {spare:Nat→Bool} {held:Bool} {fuel:Nat} {cs:List Value} {y:DataW H × List MemPlace} (h:DataW.trod enc Tryz.prog W 0 spare held fuel 28 cs=some y):∃ x:StanzaStanza,StanzaStanza.Wf x∧RepL (MW W) noBk cs [.y8 x.Kind,.s x.User,.s x.Res,.s x.Name,.i x.Show,.i x.Prio,.i x.Code,.i x.N]:=by
 obtain ⟨xs,n,_,_,hl,hx,hall⟩:=DataW.trod_struct Tryz.underlying28 h
 have hce:Tryz.prog.cellsOf 28=8:=by kernel_rfl
 rw [hce] at hl
 match cs,hl,hall with
 | [c0,c1,c2,c3,c4,c5,c6,c7],_,hall =>
  obtain ⟨y0,hy0⟩:=get_some hx (show 0 < 8 by omega)
  have g0:DataW.trod enc Tryz.prog W 0 spare held n 5 [c0]=some y0:=by
   have hz:Tryz.prog.cellsOf 5=1:=by kernel_rfl
   have g:DataW.trod enc Tryz.prog W 0 spare held n 5 (([c0,c1,c2,c3,c4,c5,c6,c7].drop 0).take (Tryz.prog.cellsOf 5))=some y0:=(hall 0 _ rfl).trans hy0
   rw [hz] at g;exact g
  obtain ⟨x0,w0,r0⟩:=rd_int Tryz.underlying5 g0
  obtain ⟨y1,hy1⟩:=get_some hx (show 1 < 8 by omega)
  have g1:DataW.trod enc Tryz.prog W 0 spare held n 9 [c1]=some y1:=by
   have hz:Tryz.prog.cellsOf 9=1:=by kernel_rfl
   have g:DataW.trod enc Tryz.prog W 0 spare held n 9 (([c0,c1,c2,c3,c4,c5,c6,c7].drop 1).take (Tryz.prog.cellsOf 9))=some y1:=(hall 1 _ rfl).trans hy1
   rw [hz] at g;exact g
  obtain ⟨x1,r1⟩:=rd_string Tryz.underlying9 g1
  obtain ⟨y2,hy2⟩:=get_some hx (show 2 < 8 by omega)
  have g2:DataW.trod enc Tryz.prog W 0 spare held n 9 [c2]=some y2:=by
   have hz:Tryz.prog.cellsOf 9=1:=by kernel_rfl
   have g:DataW.trod enc Tryz.prog W 0 spare held n 9 (([c0,c1,c2,c3,c4,c5,c6,c7].drop 2).take (Tryz.prog.cellsOf 9))=some y2:=(hall 2 _ rfl).trans hy2
   rw [hz] at g;exact g
  obtain ⟨x2,r2⟩:=rd_string Tryz.underlying9 g2
  obtain ⟨y3,hy3⟩:=get_some hx (show 3 < 8 by omega)
  have g3:DataW.trod enc Tryz.prog W 0 spare held n 9 [c3]=some y3:=by
   have hz:Tryz.prog.cellsOf 9=1:=by kernel_rfl
   have g:DataW.trod enc Tryz.prog W 0 spare held n 9 (([c0,c1,c2,c3,c4,c5,c6,c7].drop 3).take (Tryz.prog.cellsOf 9))=some y3:=(hall 3 _ rfl).trans hy3
   rw [hz] at g;exact g
  obtain ⟨x3,r3⟩:=rd_string Tryz.underlying9 g3
  obtain ⟨y4,hy4⟩:=get_some hx (show 4 < 8 by omega)
  have g4:DataW.trod enc Tryz.prog W 0 spare held n 3 [c4]=some y4:=by
   have hz:Tryz.prog.cellsOf 3=1:=by kernel_rfl
   have g:DataW.trod enc Tryz.prog W 0 spare held n 3 (([c0,c1,c2,c3,c4,c5,c6,c7].drop 4).take (Tryz.prog.cellsOf 3))=some y4:=(hall 4 _ rfl).trans hy4
   rw [hz] at g;exact g
  obtain ⟨x4,w4,r4⟩:=rd_int Tryz.underlying3 g4
  obtain ⟨y5,hy5⟩:=get_some hx (show 5 < 8 by omega)
  have g5:DataW.trod enc Tryz.prog W 0 spare held n 3 [c5]=some y5:=by
   have hz:Tryz.prog.cellsOf 3=1:=by kernel_rfl
   have g:DataW.trod enc Tryz.prog W 0 spare held n 3 (([c0,c1,c2,c3,c4,c5,c6,c7].drop 5).take (Tryz.prog.cellsOf 3))=some y5:=(hall 5 _ rfl).trans hy5
   rw [hz] at g;exact g
  obtain ⟨x5,w5,r5⟩:=rd_int Tryz.underlying3 g5
  obtain ⟨y6,hy6⟩:=get_some hx (show 6 < 8 by omega)
  have g6:DataW.trod enc Tryz.prog W 0 spare held n 3 [c6]=some y6:=by
   have hz:Tryz.prog.cellsOf 3=1:=by kernel_rfl
   have g:DataW.trod enc Tryz.prog W 0 spare held n 3 (([c0,c1,c2,c3,c4,c5,c6,c7].drop 6).take (Tryz.prog.cellsOf 3))=some y6:=(hall 6 _ rfl).trans hy6
   rw [hz] at g;exact g
  obtain ⟨x6,w6,r6⟩:=rd_int Tryz.underlying3 g6
  obtain ⟨y7,hy7⟩:=get_some hx (show 7 < 8 by omega)
  have g7:DataW.trod enc Tryz.prog W 0 spare held n 3 [c7]=some y7:=by
   have hz:Tryz.prog.cellsOf 3=1:=by kernel_rfl
   have g:DataW.trod enc Tryz.prog W 0 spare held n 3 (([c0,c1,c2,c3,c4,c5,c6,c7].drop 7).take (Tryz.prog.cellsOf 3))=some y7:=(hall 7 _ rfl).trans hy7
   rw [hz] at g;exact g
  obtain ⟨x7,w7,r7⟩:=rd_int Tryz.underlying3 g7
  exact ⟨⟨x0,x1,x2,x3,x4,x5,x6,x7⟩,⟨w0,w4,w5,w6,w7⟩,repL_app r0 (repL_app r1 (repL_app r2 (repL_app r3 (repL_app r4 (repL_app r5 (repL_app r6 (repL_app r7 (repL_nil))))))))⟩
theorem rd_T23 {H:Type} {enc:TypeId × Value→H} {W:World} {spare:Nat→Bool} {held:Bool} {fuel:Nat} {cs:List Value} {y:DataW H × List MemPlace} (h:DataW.trod enc Tryz.prog W 0 spare held fuel 23 cs=some y):∃ x:List StanzaStanza,(∀ z ∈ x,StanzaStanza.Wf z)∧RepL (MW W) noBk cs [(fun l:List StanzaStanza=>V.sl (l.map StanzaStanza.v) false) x] :=
 rd_slice (f:=StanzaStanza.v) (es:=8) (wf:=StanzaStanza.Wf) Tryz.underlying23 (fun _=>rfl) (by intro a v hv;simp [V.cells] at hv;first | (subst hv;rfl) | (rcases hv with rfl | rfl | rfl | rfl | rfl | rfl | rfl | rfl <;> rfl)) (by omega) (by kernel_rfl) (fun n cs y h=>rd_T28 h) h
end Go.Proofs.YtpkodpcfafipdaaGreatDoor

namespace Go.Proofs.YtpkodpcfafipdaaGreatDoor
open Go.RowKit
theorem at_nat {α:Type} (l:List α) (k:Nat):at? l (k:Int)=l[k]?:=by
 unfold at?;rw [if_pos (Int.natCast_nonneg k)];rfl
theorem at_lt {α:Type} {l:List α} {k:Nat} (h:k < l.length):at? l (k:Int)=some l[k]:=by rw [at_nat,List.getElem?_eq_getElem h]
theorem w64_id {r:Int} (h:-9223372036854775808≤r∧r≤9223372036854775807):w64 r=r:=wrap_ok h
theorem w64_succ {k:Nat} (h:k≤1000000):w64 ((k:Int) + 1)=((k + 1:Nat):Int):=by rw [w64_id (by omega)];rfl
theorem lt_tt {a b:Nat} (h:a < b):decide ((a:Int) < (b:Int))=true:=by simpa using h
theorem lt_ff {a b:Nat} (h:b≤a):decide ((a:Int) < (b:Int))=false:=by simpa using h
theorem drop_at {α:Type} {l:List α} {k:Nat} (h:k < l.length):l.drop k=l[k] :: l.drop (k + 1):=List.drop_eq_getElem_cons h
theorem fuel_pos:(1000000:Nat) < fuel:=by decide
theorem fdivN (m p:Nat):(m:Int).fdiv (2 ^ p)=((m / 2 ^ p:Nat):Int):=by
 rw [show ((2:Int) ^ p)=((2 ^ p:Nat):Int) by simp,Int.fdiv_eq_ediv_of_nonneg _ (Int.natCast_nonneg _)];rfl
theorem app_ok {α:Type} {a b:List α} (h:a.length + b.length≤1000000):app? a b=some (a++b):=if_pos h
theorem byte_at {s:ByteArray} {k:Nat} (h:k < s.size):byte? s (k:Int)=some (s[k].toNat:Int):=by
 unfold byte?
 rw [dif_pos ⟨Int.natCast_nonneg k,h⟩];rfl
theorem tl_data (s:ByteArray):s.toList=s.data.toList:=by rw [ByteArray.toList_eq]
def eqT (a b:ByteArray):Bool:=a.toList == b.toList
theorem eqT_iff {a b:ByteArray}:(a.toList == b.toList)=true ↔ a=b:=by
 rw [beq_iff_eq,tl_data,tl_data]
 exact ⟨fun h=>by cases a;cases b;congr 1;exact Array.ext' h,fun h=>by rw [h]⟩
end Go.Proofs.YtpkodpcfafipdaaGreatDoor

namespace Go.Proofs.YtpkodpcfafipdaaGreatDoor
open Go.RowKit
abbrev toZ (l:List UInt8):List Int:=l.map fun b=>(b.toNat:Int)
def beB (n:Nat):Nat→List UInt8
 | 0=>[]
 | w + 1=>beB (n / 256) w++[UInt8.ofNat n]
theorem beB_len (w:Nat):∀ n,(beB n w).length=w:=by
 induction w with
 | zero=>intro n;rfl
 | succ w ih=>intro n;rw [beB,List.length_append,ih];rfl
theorem fdivN' (n k:Nat):Int.fdiv (n:Int) (2 ^ k)=((n / 2 ^ k:Nat):Int):=by
 have e:((2:Int) ^ k)=((2 ^ k:Nat):Int):=by simp
 rw [e,Int.fdiv_eq_ediv_of_nonneg _ (Int.natCast_nonneg _)];rfl
theorem shrZ (n k:Nat) (hk:k≤64):shrI .i64 (n:Int) (k:Int)=((n / 2 ^ k:Nat):Int):=by
 have e:(min (k:Int).toNat IntKind.i64.bits)=k:=by
  have:IntKind.i64.bits=64:=rfl
  rw [this];omega
 unfold shrI
 rw [e,fdivN']
theorem u8Z (n:Nat):IntKind.wrap .u8 (n:Int)=((n % 256:Nat):Int):=by
 simp only [IntKind.wrap,IntKind.signed,IntKind.bits]
 first | omega | (simp <;> omega)
theorem ofNat_toZ (n:Nat):((UInt8.ofNat n).toNat:Int)=((n % 256:Nat):Int):=by rw [UInt8.toNat_ofNat']
theorem lay_w {w:Nat} (hw:w=1∨w=2∨w=4∨w=6) (n:Int):p_octet_Lay n (w:Int)=if 0≤n∧n < 256 ^ w then some (toZ (beB n.toNat w),0) else some ([],8):=by
 have h1:p_octet_wide (w:Int)=some true:=by rcases hw with rfl | rfl | rfl | rfl <;> kernel_rfl
 unfold p_octet_Lay
 rw [h1,Option.bind_some,cond_true]
 by_cases h0:n < 0
 ·rw [decide_eq_true h0,if_neg (by omega)];rfl
 obtain ⟨N,rfl⟩:=Int.eq_ofNat_of_zero_le (show 0≤n by omega)
 rw [decide_eq_false h0,cond_false]
 have h8:w64 ((8:Int) * (w:Int))=((8 * w:Nat):Int):=by rcases hw with rfl | rfl | rfl | rfl <;> kernel_rfl
 have hp:pos? ((8 * w:Nat):Int)=some ():=by unfold pos?;rw [if_pos (by omega)]
 have hs:shrI .i64 (N:Int) ((8 * w:Nat):Int)=((N / 2 ^ (8 * w):Nat):Int):=shrZ N (8 * w) (by rcases hw with rfl | rfl | rfl | rfl <;> decide)
 have h2:(2:Nat) ^ (8 * w)=256 ^ w:=by rw [Nat.pow_mul]
 rw [h8,hp,Option.bind_some,hs,h2]
 have h3:((256:Int) ^ w)=((256 ^ w:Nat):Int):=by simp
 by_cases hb:N < 256 ^ w
 ·rw [Nat.div_eq_of_lt hb,if_pos ⟨by omega,by rw [h3];omega⟩,Int.toNat_natCast]
  rw [show (((0:Nat):Int) != 0)=false from rfl,cond_false]
  have hl:∃ L,mk? (w:Int) (0:Int)=some L∧p_octet_Lay_l1 (w:Int) (N:Int) (w:Int) (w:Int) fuel 0 L=some ((w:Int),toZ (beB N w)):=by
   rcases hw with rfl | rfl | rfl | rfl
   ·refine ⟨[0],by kernel_rfl,?_⟩
    have key:p_octet_Lay_l1 ((1:Nat):Int) (N:Int) ((1:Nat):Int) ((1:Nat):Int) fuel 0 [0]=some (((1:Nat):Int),[IntKind.wrap .u8 (shrI .i64 N (0:Nat))]):=by kernel_rfl
    rw [key,shrZ N 0 (by decide),u8Z]
    simp only [toZ,beB,List.nil_append,List.map_cons,List.map_nil,ofNat_toZ,Nat.pow_zero,Nat.div_one]
   ·refine ⟨[0,0],by kernel_rfl,?_⟩
    have key:p_octet_Lay_l1 ((2:Nat):Int) (N:Int) ((2:Nat):Int) ((2:Nat):Int) fuel 0 [0,0]=some (((2:Nat):Int),[IntKind.wrap .u8 (shrI .i64 N (8:Nat)),IntKind.wrap .u8 (shrI .i64 N (0:Nat))]):=by kernel_rfl
    rw [key,shrZ N 8 (by decide),shrZ N 0 (by decide),u8Z,u8Z]
    simp only [toZ,beB,List.nil_append,List.cons_append,List.map_cons,List.map_nil,ofNat_toZ,Nat.pow_zero,Nat.div_one]
   ·refine ⟨[0,0,0,0],by kernel_rfl,?_⟩
    have key:p_octet_Lay_l1 ((4:Nat):Int) (N:Int) ((4:Nat):Int) ((4:Nat):Int) fuel 0 [0,0,0,0]=some (((4:Nat):Int),[IntKind.wrap .u8 (shrI .i64 N (24:Nat)),IntKind.wrap .u8 (shrI .i64 N (16:Nat)),IntKind.wrap .u8 (shrI .i64 N (8:Nat)),IntKind.wrap .u8 (shrI .i64 N (0:Nat))]):=by kernel_rfl
    rw [key,shrZ N 24 (by decide),shrZ N 16 (by decide),shrZ N 8 (by decide),shrZ N 0 (by decide),u8Z,u8Z,u8Z,u8Z]
    simp only [toZ,beB,List.nil_append,List.cons_append,List.map_cons,List.map_nil,ofNat_toZ,Nat.pow_zero,Nat.div_one,Nat.div_div_eq_div_mul,Nat.reduceMul,Nat.reducePow]
   ·refine ⟨[0,0,0,0,0,0],by kernel_rfl,?_⟩
    have key:p_octet_Lay_l1 ((6:Nat):Int) (N:Int) ((6:Nat):Int) ((6:Nat):Int) fuel 0 [0,0,0,0,0,0]=some (((6:Nat):Int),[IntKind.wrap .u8 (shrI .i64 N (40:Nat)),IntKind.wrap .u8 (shrI .i64 N (32:Nat)),IntKind.wrap .u8 (shrI .i64 N (24:Nat)),IntKind.wrap .u8 (shrI .i64 N (16:Nat)),IntKind.wrap .u8 (shrI .i64 N (8:Nat)),IntKind.wrap .u8 (shrI .i64 N (0:Nat))]):=by kernel_rfl
    rw [key,shrZ N 40 (by decide),shrZ N 32 (by decide),shrZ N 24 (by decide),shrZ N 16 (by decide),shrZ N 8 (by decide),shrZ N 0 (by decide),u8Z,u8Z,u8Z,u8Z,u8Z,u8Z]
    simp only [toZ,beB,List.nil_append,List.cons_append,List.map_cons,List.map_nil,ofNat_toZ,Nat.pow_zero,Nat.div_one,Nat.div_div_eq_div_mul,Nat.reduceMul,Nat.reducePow]
  obtain ⟨L,hL,hl⟩:=hl
  rw [hL,Option.bind_some,hl,Option.bind_some]
  have hg:lenG? w (toZ (beB N w))=some ():=by
   unfold lenG?
   rw [if_pos (by rw [List.length_map,beB_len])]
  show (lenG? w (toZ (beB N w))).bind (fun _=>some (toZ (beB N w),(0:Int)))=_
  rw [hg];rfl
 ·have hd:N / 256 ^ w≠0:=by
   have:=Nat.div_pos (Nat.le_of_not_lt hb) (Nat.pow_pos (n:=w) (by decide:0 < 256));omega
  rw [if_neg (by rw [h3];omega),show (((N / 256 ^ w:Nat):Int) != 0)=true from bne_iff_ne.2 (by omega)];rfl
theorem say_w (s:ByteArray):p_octet_Say s 255=if s.size≤255 then some (toZ (UInt8.ofNat s.size :: s.data.toList),0) else some ([],5):=by
 unfold p_octet_Say
 rw [show (if (255:Int) < 255 then (255:Int) else 255)=255 from rfl]
 by_cases h:s.size≤255
 ·have hb:(bytesI s).length=s.size:=by unfold bytesI;simp
  rw [decide_eq_false (by omega),cond_false,u8Z,app_ok (by rw [List.length_singleton];omega),if_pos h]
  show some (_,_)=some (_,_)
  congr 2
 ·rw [decide_eq_true (by omega),if_neg h];rfl
theorem text_toZ (l:List UInt8):text? (toZ l)=some ⟨l.toArray⟩:=by
 unfold text?
 have h:((toZ l).all fun b=>decide (0≤b) && decide (b≤255))=true:=by
  rw [List.all_eq_true]
  intro b hb
  obtain ⟨c,_,rfl⟩:=List.mem_map.1 hb
  have:=c.toNat_lt
  simp;omega
 rw [if_pos h]
 congr 3
 unfold toZ
 rw [List.map_map]
 conv=>rhs;rw [← List.map_id l]
 apply List.map_congr_left
 intro b _
 simp
def okN (n:Int) (w:Nat):Prop:=0≤n∧n < 256 ^ w
instance (n:Int) (w:Nat):Decidable (okN n w):=inferInstanceAs (Decidable (_∧_))
theorem emptyT {t:ByteArray}:(t.toList == (⟨#[]⟩ : ByteArray).toList)=decide (t=⟨#[]⟩):=by
 rw [Bool.eq_iff_iff,eqT_iff,decide_eq_true_eq]
theorem lay1 (n:Int):p_octet_Lay n 1=if okN n 1 then some (toZ (beB n.toNat 1),0) else some ([],8):=lay_w (w:=1) (.inl rfl) n
theorem lay2 (n:Int):p_octet_Lay n 2=if okN n 2 then some (toZ (beB n.toNat 2),0) else some ([],8):=lay_w (w:=2) (.inr (.inl rfl)) n
theorem lay4 (n:Int):p_octet_Lay n 4=if okN n 4 then some (toZ (beB n.toNat 4),0) else some ([],8):=lay_w (w:=4) (.inr (.inr (.inl rfl))) n
theorem lay6 (n:Int):p_octet_Lay n 6=if okN n 6 then some (toZ (beB n.toNat 6),0) else some ([],8):=lay_w (w:=6) (.inr (.inr (.inr rfl))) n
theorem app_toZ (a b:List UInt8) (h:a.length + b.length≤1000000):app? (toZ a) (toZ b)=some (toZ (a++b)):=by
 rw [app_ok (by simpa using h)];unfold toZ;rw [List.map_append]
theorem kind_toZ {k:Nat} (h:k < 256):[(k:Int)]=toZ [UInt8.ofNat k]:=by
 show _=[((UInt8.ofNat k).toNat:Int)]
 rw [ofNat_toZ,Nat.mod_eq_of_lt h]
theorem z00:((0:Int) == 0)=true:=rfl
theorem z80:((8:Int) == 0)=false:=rfl
theorem z8n:((8:Int) != 0)=true:=rfl
theorem z0n:((0:Int) != 0)=false:=rfl
theorem z5n:((5:Int) != 0)=true:=rfl
theorem d00:decide ((0:Int) < 0)=false:=rfl
theorem d02:decide ((0:Int) < 2)=true:=rfl
theorem d04:decide ((0:Int) < 4)=true:=rfl
theorem d06:decide ((0:Int) < 6)=true:=rfl
theorem app_no (k:Int):app? [k] []=some [k]:=by rw [app_ok (by simp)];rfl
theorem app_noZ (l:List UInt8) (h:l.length≤1000000):app? (toZ l) []=some (toZ l):=by
 rw [app_ok (by simpa using h),List.append_nil]
theorem beq_dec (a b:Int):(a == b)=decide (a=b):=by rw [Bool.eq_iff_iff,beq_iff_eq,decide_eq_true_eq]
theorem shp0:p_script_shapes ((0:Nat):Int)=some (ScriptShape.mk (⟨#[99,111,110,110,101,99,116]⟩ : ByteArray) true (2:Int) false,true):=rfl
theorem fit0 (s:BrokerStep):p_script_shape_fits (ScriptShape.mk (⟨#[99,111,110,110,101,99,116]⟩ : ByteArray) true (2:Int) false) s=some (decide (s.Text=⟨#[]⟩)):=by
 unfold p_script_shape_fits
 simp only [cond_true,cond_false,d00,d02,d04,d06,emptyT,beq_dec]
theorem shp1:p_script_shapes ((1:Nat):Int)=some (ScriptShape.mk (⟨#[98,121,116,101,115]⟩ : ByteArray) true (0:Int) true,true):=rfl
theorem fit1 (s:BrokerStep):p_script_shape_fits (ScriptShape.mk (⟨#[98,121,116,101,115]⟩ : ByteArray) true (0:Int) true) s=some (decide (s.N=0)):=by
 unfold p_script_shape_fits
 simp only [cond_true,cond_false,d00,d02,d04,d06,emptyT,beq_dec]
 cases decide (s.N=0) <;> rfl
theorem shp2:p_script_shapes ((2:Nat):Int)=some (ScriptShape.mk (⟨#[99,108,111,115,101]⟩ : ByteArray) true (0:Int) false,true):=rfl
theorem fit2 (s:BrokerStep):p_script_shape_fits (ScriptShape.mk (⟨#[99,108,111,115,101]⟩ : ByteArray) true (0:Int) false) s=some (decide (s.N=0) && decide (s.Text=⟨#[]⟩)):=by
 unfold p_script_shape_fits
 simp only [cond_true,cond_false,d00,d02,d04,d06,emptyT,beq_dec]
 cases decide (s.N=0) <;> rfl
theorem shp3:p_script_shapes ((3:Nat):Int)=some (ScriptShape.mk (⟨#[116,105,99,107]⟩ : ByteArray) false (0:Int) false,true):=rfl
theorem fit3 (s:BrokerStep):p_script_shape_fits (ScriptShape.mk (⟨#[116,105,99,107]⟩ : ByteArray) false (0:Int) false) s=some (decide (s.Conn=0) && decide (s.N=0) && decide (s.Text=⟨#[]⟩)):=by
 unfold p_script_shape_fits
 simp only [cond_true,cond_false,d00,d02,d04,d06,emptyT,beq_dec]
 cases decide (s.Conn=0) <;> cases decide (s.N=0) <;> rfl
theorem shp4:p_script_shapes ((4:Nat):Int)=some (ScriptShape.mk (⟨#[99,114,101,100,105,116]⟩ : ByteArray) true (4:Int) false,true):=rfl
theorem fit4 (s:BrokerStep):p_script_shape_fits (ScriptShape.mk (⟨#[99,114,101,100,105,116]⟩ : ByteArray) true (4:Int) false) s=some (decide (s.Text=⟨#[]⟩)):=by
 unfold p_script_shape_fits
 simp only [cond_true,cond_false,d00,d02,d04,d06,emptyT,beq_dec]
theorem shp5:p_script_shapes ((5:Nat):Int)=some (ScriptShape.mk (⟨#[100,114,97,119]⟩ : ByteArray) false (6:Int) false,true):=rfl
theorem fit5 (s:BrokerStep):p_script_shape_fits (ScriptShape.mk (⟨#[100,114,97,119]⟩ : ByteArray) false (6:Int) false) s=some (decide (s.Conn=0) && decide (s.Text=⟨#[]⟩)):=by
 unfold p_script_shape_fits
 simp only [cond_true,cond_false,d00,d02,d04,d06,emptyT,beq_dec]
 cases decide (s.Conn=0) <;> rfl
def putX0 (c n:Int) (t:ByteArray):Option (ByteArray × Int):=if t=⟨#[]⟩ then (if okN c 1 then (if okN n 2 then (some (⟨([0]++(beB c.toNat 1)++(beB n.toNat 2)).toArray⟩,0)) else some (⟨#[]⟩,8)) else some (⟨#[]⟩,8)) else some (⟨#[]⟩,4)
def putX1 (c n:Int) (t:ByteArray):Option (ByteArray × Int):=if n=0 then (if okN c 1 then (if t.size≤255 then (some (⟨([1]++(beB c.toNat 1)++(UInt8.ofNat t.size :: t.data.toList)).toArray⟩,0)) else some (⟨#[]⟩,5)) else some (⟨#[]⟩,8)) else some (⟨#[]⟩,4)
def putX2 (c n:Int) (t:ByteArray):Option (ByteArray × Int):=if n=0 then (if t=⟨#[]⟩ then (if okN c 1 then (some (⟨([2]++(beB c.toNat 1)).toArray⟩,0)) else some (⟨#[]⟩,8)) else some (⟨#[]⟩,4)) else some (⟨#[]⟩,4)
def putX3 (c n:Int) (t:ByteArray):Option (ByteArray × Int):=if c=0 then (if n=0 then (if t=⟨#[]⟩ then (some (⟨([3]).toArray⟩,0)) else some (⟨#[]⟩,4)) else some (⟨#[]⟩,4)) else some (⟨#[]⟩,4)
def putX4 (c n:Int) (t:ByteArray):Option (ByteArray × Int):=if t=⟨#[]⟩ then (if okN c 1 then (if okN n 4 then (some (⟨([4]++(beB c.toNat 1)++(beB n.toNat 4)).toArray⟩,0)) else some (⟨#[]⟩,8)) else some (⟨#[]⟩,8)) else some (⟨#[]⟩,4)
def putX5 (c n:Int) (t:ByteArray):Option (ByteArray × Int):=if c=0 then (if t=⟨#[]⟩ then (if okN n 6 then (some (⟨([5]++(beB n.toNat 6)).toArray⟩,0)) else some (⟨#[]⟩,8)) else some (⟨#[]⟩,4)) else some (⟨#[]⟩,4)
def stepL (m:Option (List Int × Int)) (acc:List Int) (K:List Int→Option ((ByteArray × Int) ⊕ (List Int × Int))):Option ((ByteArray × Int) ⊕ (List Int × Int)) :=
 m.bind fun v=>bif v.2 != (0:Int) then some (.inl ((⟨#[]⟩ : ByteArray),v.2)) else (app? acc v.1).bind fun l=>K l
theorem stepL_ok {L acc:List UInt8} {m:Option (List Int × Int)} {K:List Int→Option ((ByteArray × Int) ⊕ (List Int × Int))} (h:m=some (toZ L,0)) (hl:acc.length + L.length≤1000000):stepL m (toZ acc) K=K (toZ (acc++L)):=by
 unfold stepL
 rw [h,Option.bind_some,z0n,cond_false,app_toZ _ _ hl,Option.bind_some]
theorem stepL_bad {L acc:List Int} {e:Int} {m:Option (List Int × Int)} {K:List Int→Option ((ByteArray × Int) ⊕ (List Int × Int))} (h:m=some (L,e)) (he:(e != 0)=true):stepL m acc K=some (.inl (⟨#[]⟩,e)):=by
 unfold stepL
 rw [h,Option.bind_some,he,cond_true]
theorem rlay_z1 (w:Nat):∀ (n j F N:Nat) (acc:List Int),j + n=w→w≤10→n < F→N≤9223372036854775807→acc.length≤j→p_ref01_Lay_l1 (w:Int) F (N:Int) acc (j:Int)=some (((N / 256 ^ n:Nat):Int),toZ (beB N n)++acc,(w:Int))
 | 0,j,F + 1,N,acc,hj,hw,hF,hN,ha=>by
  rw [p_ref01_Lay_l1,lt_ff (by omega),show j=w by omega]
  simp [beB]
 | n + 1,j,F + 1,N,acc,hj,hw,hF,hN,ha=>by
  have e1:Int.tmod (N:Int) (256:Int)=((N % 256:Nat):Int):=rfl
  have e2:Int.tdiv (N:Int) (256:Int)=((N / 256:Nat):Int):=rfl
  have e4:IntKind.wrap .u8 ((N % 256:Nat):Int)=((N % 256:Nat):Int):=by rw [u8Z];omega
  rw [p_ref01_Lay_l1,lt_tt (by omega),cond_true,e1,e4,app_ok (by simp;omega),Option.bind_some,e2,w64_id (show -9223372036854775808≤((N / 256:Nat):Int)∧((N / 256:Nat):Int)≤9223372036854775807 by omega),w64_succ (by omega)]
  rw [rlay_z1 w n (j + 1) F (N / 256) _ (by omega) hw (by omega) (by omega) (by simp;omega),Nat.div_div_eq_div_mul,← Nat.pow_succ']
  congr 3
  show toZ (beB (N / 256) n)++([((N % 256:Nat):Int)]++acc)=toZ (beB N (n + 1))++acc
  rw [beB,toZ,toZ,List.map_append,List.append_assoc,List.map_singleton,ofNat_toZ]
theorem rlay_w {w:Nat} (hw:w=1∨w=2∨w=4∨w=6) {n:Int} (h1:n≤9223372036854775807):p_ref01_Lay n (w:Int)=if okN n w then some (toZ (beB n.toNat w),0) else some ([],8):=by
 have hwd:p_ref01_wide (w:Int)=some true:=by rcases hw with rfl | rfl | rfl | rfl <;> rfl
 unfold p_ref01_Lay
 rw [hwd,Option.bind_some,cond_true]
 by_cases h0:n < 0
 ·rw [decide_eq_true h0,if_neg (by unfold okN;omega)];rfl
 obtain ⟨N,rfl⟩:=Int.eq_ofNat_of_zero_le (show 0≤n by omega)
 rw [decide_eq_false h0,cond_false]
 have e:=rlay_z1 w w 0 fuel N [] (by omega) (by omega) (by have:=fuel_pos;have:fuel=100000000:=rfl;omega) (by omega) (by simp)
 rw [List.append_nil] at e
 have e' : p_ref01_Lay_l1 (w:Int) fuel (N:Int) [] (0:Int)=_:=e
 rw [e',Option.bind_some]
 simp only
 have h3:((256:Int) ^ w)=((256 ^ w:Nat):Int):=by simp
 by_cases hb:N < 256 ^ w
 ·rw [Nat.div_eq_of_lt hb,if_pos ⟨by omega,by rw [h3];omega⟩];rfl
 ·have hd:0 < N / 256 ^ w:=Nat.div_pos (Nat.le_of_not_lt hb) (Nat.pow_pos (n:=w) (by decide:0 < 256))
  rw [decide_eq_true (show (0:Int) < ((N / 256 ^ w:Nat):Int) by omega),cond_true,if_neg (fun h=>by have:=h.2;rw [h3] at this;omega)]
theorem rlay1 {n:Int} (h:n≤9223372036854775807):p_ref01_Lay n 1=if okN n 1 then some (toZ (beB n.toNat 1),0) else some ([],8):=rlay_w (w:=1) (.inl rfl) h
theorem rlay2 {n:Int} (h:n≤9223372036854775807):p_ref01_Lay n 2=if okN n 2 then some (toZ (beB n.toNat 2),0) else some ([],8):=rlay_w (w:=2) (.inr (.inl rfl)) h
theorem rlay4 {n:Int} (h:n≤9223372036854775807):p_ref01_Lay n 4=if okN n 4 then some (toZ (beB n.toNat 4),0) else some ([],8):=rlay_w (w:=4) (.inr (.inr (.inl rfl))) h
theorem rlay6 {n:Int} (h:n≤9223372036854775807):p_ref01_Lay n 6=if okN n 6 then some (toZ (beB n.toNat 6),0) else some ([],8):=rlay_w (w:=6) (.inr (.inr (.inr rfl))) h
theorem rsay_w (s:ByteArray):p_ref01_Say s 255=if s.size≤255 then some (toZ (UInt8.ofNat s.size :: s.data.toList),0) else some ([],5):=by
 rw [← say_w]
 unfold p_ref01_Say p_octet_Say
 rw [show (if (255:Int) < 255 then (255:Int) else 255)=255 from rfl]
 by_cases h:(255:Int) < (s.size:Int)
 ·rw [decide_eq_true h];rfl
 ·rw [decide_eq_false h];rfl
theorem sput0 (c n:Int) (t:ByteArray):p_script_Put ⟨((0:Nat):Int),c,n,t⟩=putX0 c n t:=by
 unfold p_script_Put putX0
 simp only [shp0,fit0,Option.bind_some,cond_true,cond_false]
 by_cases h0:t=⟨#[]⟩
 rotate_left
 ·simp only [h0,decide_false,Bool.false_and,Bool.and_false,cond_false,if_false,ite_self]
  try rfl
 simp only [h0,decide_true,Bool.and_self,cond_true,cond_false,if_true,z00,d00,d02,d04,d06]
 rw [lay1]
 by_cases p0:okN c 1
 rotate_left
 ·simp only [p0,if_false,Option.bind_some,app_no,z80,z8n,cond_false,cond_true]
  try rfl
 simp only [p0,if_true,Option.bind_some,kind_toZ (show 0 < 256 by decide)]
 rw [app_toZ _ _ (by simp [beB_len])]
 simp only [Option.bind_some,z00,z0n,cond_true,cond_false]
 rw [lay2]
 by_cases p1:okN n 2
 rotate_left
 ·rw [if_neg p1,Option.bind_some,app_noZ _ (by simp [beB_len])]
  simp only [p1,if_false,Option.bind_some,z80,z8n,z5n,cond_false,cond_true]
  try rfl
 rw [if_pos p1,Option.bind_some,app_toZ _ _ (by simp only [List.length_append,List.length_cons,List.length_nil,beB_len];omega)]
 simp only [p1,if_true,Option.bind_some,z00,z0n,cond_true,cond_false]
 simp only [text_toZ,Option.bind_some]
 rfl
theorem sput1 (c n:Int) (t:ByteArray):p_script_Put ⟨((1:Nat):Int),c,n,t⟩=putX1 c n t:=by
 unfold p_script_Put putX1
 simp only [shp1,fit1,Option.bind_some,cond_true,cond_false]
 by_cases h0:n=0
 rotate_left
 ·simp only [h0,decide_false,Bool.false_and,Bool.and_false,cond_false,if_false,ite_self]
  try rfl
 simp only [h0,decide_true,Bool.and_self,cond_true,cond_false,if_true,z00,d00,d02,d04,d06]
 rw [lay1]
 by_cases p0:okN c 1
 rotate_left
 ·simp only [p0,if_false,Option.bind_some,app_no,z80,z8n,cond_false,cond_true]
  try rfl
 simp only [p0,if_true,Option.bind_some,kind_toZ (show 1 < 256 by decide)]
 rw [app_toZ _ _ (by simp [beB_len])]
 simp only [Option.bind_some,z00,z0n,cond_true,cond_false]
 rw [say_w]
 by_cases p1:t.size≤255
 rotate_left
 ·rw [if_neg p1,Option.bind_some,app_noZ _ (by simp [beB_len])]
  simp only [p1,if_false,Option.bind_some,z80,z8n,z5n,cond_false,cond_true]
  try rfl
 have htl:t.data.toList.length=t.size:=by simp
 rw [if_pos p1,Option.bind_some,app_toZ _ _ (by simp only [List.length_append,List.length_cons,List.length_nil,beB_len,htl];omega)]
 simp only [p1,if_true,Option.bind_some,z00,z0n,cond_true,cond_false]
 simp only [text_toZ,Option.bind_some]
 rfl
theorem sput2 (c n:Int) (t:ByteArray):p_script_Put ⟨((2:Nat):Int),c,n,t⟩=putX2 c n t:=by
 unfold p_script_Put putX2
 simp only [shp2,fit2,Option.bind_some,cond_true,cond_false]
 by_cases h0:n=0
 rotate_left
 ·simp only [h0,decide_false,Bool.false_and,Bool.and_false,cond_false,if_false,ite_self]
  try rfl
 by_cases h1:t=⟨#[]⟩
 rotate_left
 ·simp only [h1,decide_false,Bool.false_and,Bool.and_false,cond_false,if_false,ite_self]
  try rfl
 simp only [h0,h1,decide_true,Bool.and_self,cond_true,cond_false,if_true,z00,d00,d02,d04,d06]
 rw [lay1]
 by_cases p0:okN c 1
 rotate_left
 ·simp only [p0,if_false,Option.bind_some,app_no,z80,z8n,cond_false,cond_true]
  try rfl
 simp only [p0,if_true,Option.bind_some,kind_toZ (show 2 < 256 by decide)]
 rw [app_toZ _ _ (by simp [beB_len])]
 simp only [Option.bind_some,z00,z0n,cond_true,cond_false]
 simp only [text_toZ,Option.bind_some]
 rfl
theorem sput3 (c n:Int) (t:ByteArray):p_script_Put ⟨((3:Nat):Int),c,n,t⟩=putX3 c n t:=by
 unfold p_script_Put putX3
 simp only [shp3,fit3,Option.bind_some,cond_true,cond_false]
 by_cases h0:c=0
 rotate_left
 ·simp only [h0,decide_false,Bool.false_and,Bool.and_false,cond_false,if_false,ite_self]
  try rfl
 by_cases h1:n=0
 rotate_left
 ·simp only [h1,decide_false,Bool.false_and,Bool.and_false,cond_false,if_false,ite_self]
  try rfl
 by_cases h2:t=⟨#[]⟩
 rotate_left
 ·simp only [h2,decide_false,Bool.false_and,Bool.and_false,cond_false,if_false,ite_self]
  try rfl
 simp only [h0,h1,h2,decide_true,Bool.and_self,cond_true,cond_false,if_true,z00,d00,d02,d04,d06]
 simp only [kind_toZ (show 3 < 256 by decide),Option.bind_some,z0n,cond_false,text_toZ]
 rfl
theorem sput4 (c n:Int) (t:ByteArray):p_script_Put ⟨((4:Nat):Int),c,n,t⟩=putX4 c n t:=by
 unfold p_script_Put putX4
 simp only [shp4,fit4,Option.bind_some,cond_true,cond_false]
 by_cases h0:t=⟨#[]⟩
 rotate_left
 ·simp only [h0,decide_false,Bool.false_and,Bool.and_false,cond_false,if_false,ite_self]
  try rfl
 simp only [h0,decide_true,Bool.and_self,cond_true,cond_false,if_true,z00,d00,d02,d04,d06]
 rw [lay1]
 by_cases p0:okN c 1
 rotate_left
 ·simp only [p0,if_false,Option.bind_some,app_no,z80,z8n,cond_false,cond_true]
  try rfl
 simp only [p0,if_true,Option.bind_some,kind_toZ (show 4 < 256 by decide)]
 rw [app_toZ _ _ (by simp [beB_len])]
 simp only [Option.bind_some,z00,z0n,cond_true,cond_false]
 rw [lay4]
 by_cases p1:okN n 4
 rotate_left
 ·rw [if_neg p1,Option.bind_some,app_noZ _ (by simp [beB_len])]
  simp only [p1,if_false,Option.bind_some,z80,z8n,z5n,cond_false,cond_true]
  try rfl
 rw [if_pos p1,Option.bind_some,app_toZ _ _ (by simp only [List.length_append,List.length_cons,List.length_nil,beB_len];omega)]
 simp only [p1,if_true,Option.bind_some,z00,z0n,cond_true,cond_false]
 simp only [text_toZ,Option.bind_some]
 rfl
theorem sput5 (c n:Int) (t:ByteArray):p_script_Put ⟨((5:Nat):Int),c,n,t⟩=putX5 c n t:=by
 unfold p_script_Put putX5
 simp only [shp5,fit5,Option.bind_some,cond_true,cond_false]
 by_cases h0:c=0
 rotate_left
 ·simp only [h0,decide_false,Bool.false_and,Bool.and_false,cond_false,if_false,ite_self]
  try rfl
 by_cases h1:t=⟨#[]⟩
 rotate_left
 ·simp only [h1,decide_false,Bool.false_and,Bool.and_false,cond_false,if_false,ite_self]
  try rfl
 simp only [h0,h1,decide_true,Bool.and_self,cond_true,cond_false,if_true,z00,d00,d02,d04,d06]
 rw [lay6]
 by_cases p0:okN n 6
 rotate_left
 ·simp only [p0,if_false,Option.bind_some,app_no,z80,z8n,cond_false,cond_true]
  try rfl
 simp only [p0,if_true,Option.bind_some,kind_toZ (show 5 < 256 by decide)]
 rw [app_toZ _ _ (by simp [beB_len])]
 simp only [Option.bind_some,z00,z0n,cond_true,cond_false]
 simp only [text_toZ,Option.bind_some]
 rfl
theorem bne_dec (a b:Int):(a != b)=!decide (a=b):=by rw [bne,beq_dec]
theorem zero0 (c n:Int) (t:ByteArray):p_ref34_zero ⟨((0:Nat):Int),c,n,t⟩=some (decide (t=⟨#[]⟩)):=by
 unfold p_ref34_zero
 simp only [emptyT,beq_dec,bne_dec]
 by_cases h0:c=0 <;> by_cases h1:n=0 <;> by_cases h2:t=⟨#[]⟩ <;> simp [h0,h1,h2]
theorem rl0 (c n:Int) (t:ByteArray):p_ref34_Put_l1 (⟨#[99,50]⟩ : ByteArray) ⟨((0:Nat):Int),c,n,t⟩ fuel [((0:Nat):Int)] (0:Int)=stepL (p_ref01_Lay c 1) [((0:Nat):Int)] fun l1=>stepL (p_ref01_Lay n 2) l1 fun l2=>some (.inr (l2,2)):=by kernel_rfl
theorem rput0 {c n:Int} (hc:c≤9223372036854775807) (hn:n≤9223372036854775807) (t:ByteArray):p_ref34_Put ⟨((0:Nat):Int),c,n,t⟩=putX0 c n t:=by
 have hh:p_ref34_has ((0:Nat):Int)=some ⟨#[99,50]⟩:=rfl
 unfold p_ref34_Put putX0
 simp only [show decide ((5:Int) < ((0:Nat):Int))=false from rfl,cond_false,zero0,Option.bind_some,hh,rl0]
 by_cases h0:t=⟨#[]⟩
 rotate_left
 ·simp only [h0,decide_false,Bool.false_and,Bool.and_false,cond_false,if_false,ite_self]
  try rfl
 simp only [h0,decide_true,Bool.and_self,cond_true,if_true]
 rw [kind_toZ (show 0 < 256 by decide)]
 by_cases p0:okN c 1
 rotate_left
 ·rw [if_neg p0,stepL_bad ((rlay1 hc).trans (if_neg p0)) (by decide)];rfl
 rw [if_pos p0,stepL_ok ((rlay1 hc).trans (if_pos p0)) (by simp only [List.length_append,List.length_cons,List.length_nil,beB_len];omega)]
 by_cases p1:okN n 2
 rotate_left
 ·rw [if_neg p1,stepL_bad ((rlay2 hn).trans (if_neg p1)) (by decide)];rfl
 rw [if_pos p1,stepL_ok ((rlay2 hn).trans (if_pos p1)) (by simp only [List.length_append,List.length_cons,List.length_nil,beB_len];omega)]
 simp only [Option.bind_some,text_toZ]
 rfl
theorem zero1 (c n:Int) (t:ByteArray):p_ref34_zero ⟨((1:Nat):Int),c,n,t⟩=some (decide (n=0)):=by
 unfold p_ref34_zero
 simp only [emptyT,beq_dec,bne_dec]
 by_cases h0:c=0 <;> by_cases h1:n=0 <;> by_cases h2:t=⟨#[]⟩ <;> simp [h0,h1,h2]
theorem rl1 (c n:Int) (t:ByteArray):p_ref34_Put_l1 (⟨#[99,116]⟩ : ByteArray) ⟨((1:Nat):Int),c,n,t⟩ fuel [((1:Nat):Int)] (0:Int)=stepL (p_ref01_Lay c 1) [((1:Nat):Int)] fun l1=>stepL (p_ref01_Say t 255) l1 fun l2=>some (.inr (l2,2)):=by kernel_rfl
theorem rput1 {c n:Int} (hc:c≤9223372036854775807) (hn:n≤9223372036854775807) (t:ByteArray):p_ref34_Put ⟨((1:Nat):Int),c,n,t⟩=putX1 c n t:=by
 have hh:p_ref34_has ((1:Nat):Int)=some ⟨#[99,116]⟩:=rfl
 unfold p_ref34_Put putX1
 simp only [show decide ((5:Int) < ((1:Nat):Int))=false from rfl,cond_false,zero1,Option.bind_some,hh,rl1]
 by_cases h0:n=0
 rotate_left
 ·simp only [h0,decide_false,Bool.false_and,Bool.and_false,cond_false,if_false,ite_self]
  try rfl
 simp only [h0,decide_true,Bool.and_self,cond_true,if_true]
 rw [kind_toZ (show 1 < 256 by decide)]
 by_cases p0:okN c 1
 rotate_left
 ·rw [if_neg p0,stepL_bad ((rlay1 hc).trans (if_neg p0)) (by decide)];rfl
 rw [if_pos p0,stepL_ok ((rlay1 hc).trans (if_pos p0)) (by simp only [List.length_append,List.length_cons,List.length_nil,beB_len];omega)]
 by_cases p1:t.size≤255
 rotate_left
 ·rw [if_neg p1,stepL_bad ((rsay_w t).trans (if_neg p1)) (by decide)];rfl
 have htl:t.data.toList.length=t.size:=by simp
 rw [if_pos p1,stepL_ok ((rsay_w t).trans (if_pos p1)) (by simp only [List.length_append,List.length_cons,List.length_nil,beB_len,htl];omega)]
 simp only [Option.bind_some,text_toZ]
 rfl
theorem zero2 (c n:Int) (t:ByteArray):p_ref34_zero ⟨((2:Nat):Int),c,n,t⟩=some (decide (n=0) && decide (t=⟨#[]⟩)):=by
 unfold p_ref34_zero
 simp only [emptyT,beq_dec,bne_dec]
 by_cases h0:c=0 <;> by_cases h1:n=0 <;> by_cases h2:t=⟨#[]⟩ <;> simp [h0,h1,h2]
theorem rl2 (c n:Int) (t:ByteArray):p_ref34_Put_l1 (⟨#[99]⟩ : ByteArray) ⟨((2:Nat):Int),c,n,t⟩ fuel [((2:Nat):Int)] (0:Int)=stepL (p_ref01_Lay c 1) [((2:Nat):Int)] fun l1=>some (.inr (l1,1)):=by kernel_rfl
theorem rput2 {c n:Int} (hc:c≤9223372036854775807) (hn:n≤9223372036854775807) (t:ByteArray):p_ref34_Put ⟨((2:Nat):Int),c,n,t⟩=putX2 c n t:=by
 have hh:p_ref34_has ((2:Nat):Int)=some ⟨#[99]⟩:=rfl
 unfold p_ref34_Put putX2
 simp only [show decide ((5:Int) < ((2:Nat):Int))=false from rfl,cond_false,zero2,Option.bind_some,hh,rl2]
 by_cases h0:n=0
 rotate_left
 ·simp only [h0,decide_false,Bool.false_and,Bool.and_false,cond_false,if_false,ite_self]
  try rfl
 by_cases h1:t=⟨#[]⟩
 rotate_left
 ·simp only [h1,decide_false,Bool.false_and,Bool.and_false,cond_false,if_false,ite_self]
  try rfl
 simp only [h0,h1,decide_true,Bool.and_self,cond_true,if_true]
 rw [kind_toZ (show 2 < 256 by decide)]
 by_cases p0:okN c 1
 rotate_left
 ·rw [if_neg p0,stepL_bad ((rlay1 hc).trans (if_neg p0)) (by decide)];rfl
 rw [if_pos p0,stepL_ok ((rlay1 hc).trans (if_pos p0)) (by simp only [List.length_append,List.length_cons,List.length_nil,beB_len];omega)]
 simp only [Option.bind_some,text_toZ]
 rfl
theorem zero3 (c n:Int) (t:ByteArray):p_ref34_zero ⟨((3:Nat):Int),c,n,t⟩=some (decide (c=0) && (decide (n=0) && decide (t=⟨#[]⟩))):=by
 unfold p_ref34_zero
 simp only [emptyT,beq_dec,bne_dec]
 by_cases h0:c=0 <;> by_cases h1:n=0 <;> by_cases h2:t=⟨#[]⟩ <;> simp [h0,h1,h2]
theorem rl3 (c n:Int) (t:ByteArray):p_ref34_Put_l1 (⟨#[]⟩ : ByteArray) ⟨((3:Nat):Int),c,n,t⟩ fuel [((3:Nat):Int)] (0:Int)=some (.inr ([((3:Nat):Int)],0)):=by kernel_rfl
theorem rput3 {c n:Int} (hc:c≤9223372036854775807) (hn:n≤9223372036854775807) (t:ByteArray):p_ref34_Put ⟨((3:Nat):Int),c,n,t⟩=putX3 c n t:=by
 have hh:p_ref34_has ((3:Nat):Int)=some ⟨#[]⟩:=rfl
 unfold p_ref34_Put putX3
 simp only [show decide ((5:Int) < ((3:Nat):Int))=false from rfl,cond_false,zero3,Option.bind_some,hh,rl3]
 by_cases h0:c=0
 rotate_left
 ·simp only [h0,decide_false,Bool.false_and,Bool.and_false,cond_false,if_false,ite_self]
  try rfl
 by_cases h1:n=0
 rotate_left
 ·simp only [h1,decide_false,Bool.false_and,Bool.and_false,cond_false,if_false,ite_self]
  try rfl
 by_cases h2:t=⟨#[]⟩
 rotate_left
 ·simp only [h2,decide_false,Bool.false_and,Bool.and_false,cond_false,if_false,ite_self]
  try rfl
 simp only [h0,h1,h2,decide_true,Bool.and_self,cond_true,if_true]
 rw [kind_toZ (show 3 < 256 by decide)]
 simp only [Option.bind_some,text_toZ]
 rfl
theorem zero4 (c n:Int) (t:ByteArray):p_ref34_zero ⟨((4:Nat):Int),c,n,t⟩=some (decide (t=⟨#[]⟩)):=by
 unfold p_ref34_zero
 simp only [emptyT,beq_dec,bne_dec]
 by_cases h0:c=0 <;> by_cases h1:n=0 <;> by_cases h2:t=⟨#[]⟩ <;> simp [h0,h1,h2]
theorem rl4 (c n:Int) (t:ByteArray):p_ref34_Put_l1 (⟨#[99,52]⟩ : ByteArray) ⟨((4:Nat):Int),c,n,t⟩ fuel [((4:Nat):Int)] (0:Int)=stepL (p_ref01_Lay c 1) [((4:Nat):Int)] fun l1=>stepL (p_ref01_Lay n 4) l1 fun l2=>some (.inr (l2,2)):=by kernel_rfl
theorem rput4 {c n:Int} (hc:c≤9223372036854775807) (hn:n≤9223372036854775807) (t:ByteArray):p_ref34_Put ⟨((4:Nat):Int),c,n,t⟩=putX4 c n t:=by
 have hh:p_ref34_has ((4:Nat):Int)=some ⟨#[99,52]⟩:=rfl
 unfold p_ref34_Put putX4
 simp only [show decide ((5:Int) < ((4:Nat):Int))=false from rfl,cond_false,zero4,Option.bind_some,hh,rl4]
 by_cases h0:t=⟨#[]⟩
 rotate_left
 ·simp only [h0,decide_false,Bool.false_and,Bool.and_false,cond_false,if_false,ite_self]
  try rfl
 simp only [h0,decide_true,Bool.and_self,cond_true,if_true]
 rw [kind_toZ (show 4 < 256 by decide)]
 by_cases p0:okN c 1
 rotate_left
 ·rw [if_neg p0,stepL_bad ((rlay1 hc).trans (if_neg p0)) (by decide)];rfl
 rw [if_pos p0,stepL_ok ((rlay1 hc).trans (if_pos p0)) (by simp only [List.length_append,List.length_cons,List.length_nil,beB_len];omega)]
 by_cases p1:okN n 4
 rotate_left
 ·rw [if_neg p1,stepL_bad ((rlay4 hn).trans (if_neg p1)) (by decide)];rfl
 rw [if_pos p1,stepL_ok ((rlay4 hn).trans (if_pos p1)) (by simp only [List.length_append,List.length_cons,List.length_nil,beB_len];omega)]
 simp only [Option.bind_some,text_toZ]
 rfl
theorem zero5 (c n:Int) (t:ByteArray):p_ref34_zero ⟨((5:Nat):Int),c,n,t⟩=some (decide (c=0) && decide (t=⟨#[]⟩)):=by
 unfold p_ref34_zero
 simp only [emptyT,beq_dec,bne_dec]
 by_cases h0:c=0 <;> by_cases h1:n=0 <;> by_cases h2:t=⟨#[]⟩ <;> simp [h0,h1,h2]
theorem rl5 (c n:Int) (t:ByteArray):p_ref34_Put_l1 (⟨#[54]⟩ : ByteArray) ⟨((5:Nat):Int),c,n,t⟩ fuel [((5:Nat):Int)] (0:Int)=stepL (p_ref01_Lay n 6) [((5:Nat):Int)] fun l1=>some (.inr (l1,1)):=by kernel_rfl
theorem rput5 {c n:Int} (hc:c≤9223372036854775807) (hn:n≤9223372036854775807) (t:ByteArray):p_ref34_Put ⟨((5:Nat):Int),c,n,t⟩=putX5 c n t:=by
 have hh:p_ref34_has ((5:Nat):Int)=some ⟨#[54]⟩:=rfl
 unfold p_ref34_Put putX5
 simp only [show decide ((5:Int) < ((5:Nat):Int))=false from rfl,cond_false,zero5,Option.bind_some,hh,rl5]
 by_cases h0:c=0
 rotate_left
 ·simp only [h0,decide_false,Bool.false_and,Bool.and_false,cond_false,if_false,ite_self]
  try rfl
 by_cases h1:t=⟨#[]⟩
 rotate_left
 ·simp only [h1,decide_false,Bool.false_and,Bool.and_false,cond_false,if_false,ite_self]
  try rfl
 simp only [h0,h1,decide_true,Bool.and_self,cond_true,if_true]
 rw [kind_toZ (show 5 < 256 by decide)]
 by_cases p0:okN n 6
 rotate_left
 ·rw [if_neg p0,stepL_bad ((rlay6 hn).trans (if_neg p0)) (by decide)];rfl
 rw [if_pos p0,stepL_ok ((rlay6 hn).trans (if_pos p0)) (by simp only [List.length_append,List.length_cons,List.length_nil,beB_len];omega)]
 simp only [Option.bind_some,text_toZ]
 rfl
def SzOK (m:Option (ByteArray × Int)):Prop:=∃ y,m=some y∧y.1.size≤1000
theorem szB {l:List UInt8} (e:Int) (h:l.length≤1000):SzOK (some (⟨l.toArray⟩,e)):=⟨_,rfl,by simpa [ByteArray.size] using h⟩
theorem sz_e (e:Int):SzOK (some (⟨#[]⟩,e)):=szB (l:=[]) e (by simp)
theorem sz0 (c n:Int) {t:ByteArray} (ht:t.size≤300):SzOK (putX0 c n t):=by
 have htl:t.data.toList.length=t.size:=by simp
 unfold putX0
 repeat' split
 all_goals first | exact sz_e _ | (refine szB _ ?_;simp only [List.length_append,List.length_cons,List.length_nil,beB_len,htl];omega) | (refine szB _ ?_;simp)
theorem sz1 (c n:Int) {t:ByteArray} (ht:t.size≤300):SzOK (putX1 c n t):=by
 have htl:t.data.toList.length=t.size:=by simp
 unfold putX1
 repeat' split
 all_goals first | exact sz_e _ | (refine szB _ ?_;simp only [List.length_append,List.length_cons,List.length_nil,beB_len,htl];omega) | (refine szB _ ?_;simp)
theorem sz2 (c n:Int) {t:ByteArray} (ht:t.size≤300):SzOK (putX2 c n t):=by
 have htl:t.data.toList.length=t.size:=by simp
 unfold putX2
 repeat' split
 all_goals first | exact sz_e _ | (refine szB _ ?_;simp only [List.length_append,List.length_cons,List.length_nil,beB_len,htl];omega) | (refine szB _ ?_;simp)
theorem sz3 (c n:Int) {t:ByteArray} (ht:t.size≤300):SzOK (putX3 c n t):=by
 have htl:t.data.toList.length=t.size:=by simp
 unfold putX3
 repeat' split
 all_goals first | exact sz_e _ | (refine szB _ ?_;simp only [List.length_append,List.length_cons,List.length_nil,beB_len,htl];omega) | (refine szB _ ?_;simp)
theorem sz4 (c n:Int) {t:ByteArray} (ht:t.size≤300):SzOK (putX4 c n t):=by
 have htl:t.data.toList.length=t.size:=by simp
 unfold putX4
 repeat' split
 all_goals first | exact sz_e _ | (refine szB _ ?_;simp only [List.length_append,List.length_cons,List.length_nil,beB_len,htl];omega) | (refine szB _ ?_;simp)
theorem sz5 (c n:Int) {t:ByteArray} (ht:t.size≤300):SzOK (putX5 c n t):=by
 have htl:t.data.toList.length=t.size:=by simp
 unfold putX5
 repeat' split
 all_goals first | exact sz_e _ | (refine szB _ ?_;simp only [List.length_append,List.length_cons,List.length_nil,beB_len,htl];omega) | (refine szB _ ?_;simp)
theorem put_same {s:BrokerStep} (hk:0≤s.Kind∧s.Kind≤255) (hc:s.Conn≤9223372036854775807) (hn:s.N≤9223372036854775807) (ht:s.Text.size≤300):∃ y,p_script_Put s=some y∧p_ref34_Put s=some y∧y.1.size≤1000:=by
 obtain ⟨k,c,n,t⟩:=s
 obtain ⟨k,rfl⟩:=Int.eq_ofNat_of_zero_le hk.1
 have fin:∀ m,p_script_Put ⟨(k:Int),c,n,t⟩=m→p_ref34_Put ⟨(k:Int),c,n,t⟩=m→SzOK m→∃ y,p_script_Put ⟨(k:Int),c,n,t⟩=some y∧p_ref34_Put ⟨(k:Int),c,n,t⟩=some y∧y.1.size≤1000:=by
  rintro m h1 h2 ⟨y,rfl,hy⟩
  exact ⟨y,h1,h2,hy⟩
 have h:k=0∨k=1∨k=2∨k=3∨k=4∨k=5∨6≤k:=by omega
 rcases h with rfl | rfl | rfl | rfl | rfl | rfl | h
 ·exact fin _ (sput0 c n t) (rput0 hc hn t) (sz0 c n ht)
 ·exact fin _ (sput1 c n t) (rput1 hc hn t) (sz1 c n ht)
 ·exact fin _ (sput2 c n t) (rput2 hc hn t) (sz2 c n ht)
 ·exact fin _ (sput3 c n t) (rput3 hc hn t) (sz3 c n ht)
 ·exact fin _ (sput4 c n t) (rput4 hc hn t) (sz4 c n ht)
 ·exact fin _ (sput5 c n t) (rput5 hc hn t) (sz5 c n ht)
 ·have e0:((k:Int) == 0)=false:=beq_eq_false_iff_ne.2 (by omega)
  have e1:((k:Int) == 1)=false:=beq_eq_false_iff_ne.2 (by omega)
  have e2:((k:Int) == 2)=false:=beq_eq_false_iff_ne.2 (by omega)
  have e3:((k:Int) == 3)=false:=beq_eq_false_iff_ne.2 (by omega)
  have e4:((k:Int) == 4)=false:=beq_eq_false_iff_ne.2 (by omega)
  have e5:((k:Int) == 5)=false:=beq_eq_false_iff_ne.2 (by omega)
  refine fin (some (⟨#[]⟩,12)) ?_ ?_ (sz_e _)
  ·unfold p_script_Put p_script_shapes
   simp only [e0,e1,e2,e3,e4,e5,cond_false,Option.bind_some]
  ·unfold p_ref34_Put
   simp only [show decide ((5:Int) < (k:Int))=true from decide_eq_true (by omega),cond_true]
end Go.Proofs.YtpkodpcfafipdaaGreatDoor

namespace Go.Proofs.YtpkodpcfafipdaaGreatDoor
open Go.RowKit
theorem baA (a b:List UInt8):(⟨a.toArray⟩ : ByteArray)++⟨b.toArray⟩=⟨(a++b).toArray⟩:=by
 apply ByteArray.ext
 simp
theorem bas_size (a:List UInt8):(⟨a.toArray⟩ : ByteArray).size=a.length:=by simp [ByteArray.size]
theorem cat_l {a b:List UInt8} (h:a.length + b.length≤1000000):cat? ⟨a.toArray⟩ ⟨b.toArray⟩=some ⟨(a++b).toArray⟩:=by
 unfold cat?
 rw [bas_size,bas_size,if_pos (by omega),baA]
theorem bas_list (s:ByteArray):s=⟨s.data.toList.toArray⟩:=by
 apply ByteArray.ext
 simp
theorem dec_len:∀ (k u:Nat),u < 10 ^ (k + 1)→(Lib.decDigits u).length≤k + 1
 | k,u,h=>by
  rw [Lib.decDigits]
  by_cases h1:u < 10
  ·rw [dif_pos h1];simp
  ·rw [dif_neg h1]
   match k,h with
   | 0,h=>exact absurd h (by simpa using h1)
   | k + 1,h =>
    have:=dec_len k (u / 10) (by rw [Nat.pow_succ] at h;omega)
    rw [List.length_append,List.length_singleton];omega
theorem p19:(10:Nat) ^ (18 + 1)=10000000000000000000:=by decide
theorem digits_u:∀ (k F u:Nat),u < 10 ^ (k + 1)→k < F→u≤9223372036854775808→k≤1000→p_ref34_digits_f F (-(u:Int))=some ⟨(Lib.decDigits u).toArray⟩
 | k,F + 1,u,h,hF,hu,hk=>by
  have e1:Int.tmod (-(u:Int)) (10:Int)=-((u % 10:Nat):Int):=by rw [Int.neg_tmod];rfl
  have e2:Int.tdiv (-(u:Int)) (10:Int)=-((u / 10:Nat):Int):=by rw [Int.neg_tdiv];rfl
  have e3:w64 ((48:Int) - -((u % 10:Nat):Int))=((48 + u % 10:Nat):Int):=by rw [w64_id (by omega)];omega
  have e4:w64 (-((u / 10:Nat):Int))=-((u / 10:Nat):Int):=w64_id (by omega)
  have e5:IntKind.wrap .u8 ((48 + u % 10:Nat):Int)=((UInt8.ofNat (48 + u % 10)).toNat:Int):=by rw [u8Z,ofNat_toZ]
  have e6:text? [((UInt8.ofNat (48 + u % 10)).toNat:Int)]=some ⟨[UInt8.ofNat (48 + u % 10)].toArray⟩:=text_toZ [UInt8.ofNat (48 + u % 10)]
  rw [p_ref34_digits_f,e1,e2,e3,e4,e5,e6,Option.bind_some,Lib.decDigits]
  by_cases h1:u < 10
  ·rw [dif_pos h1,show (-((u / 10:Nat):Int) == 0)=true from beq_iff_eq.2 (by omega),cond_true,Nat.mod_eq_of_lt h1]
  ·rw [dif_neg h1,show (-((u / 10:Nat):Int) == 0)=false from beq_eq_false_iff_ne.2 (by omega),cond_false]
   match k,h,hF,hk with
   | 0,h,hF,hk=>exact absurd h (by simpa using h1)
   | k + 1,h,hF,hk =>
    have hl:=dec_len k (u / 10) (by rw [Nat.pow_succ] at h;omega)
    rw [digits_u k F (u / 10) (by rw [Nat.pow_succ] at h;omega) (by omega) (by omega) (by omega),Option.bind_some,cat_l (by rw [List.length_singleton];omega)];rfl
theorem itoa_len {n:Int} (h0:-9223372036854775808≤n) (h1:n≤9223372036854775807):(Lib.itoa n).length≤20:=by
 unfold Lib.itoa
 split
 ·have:=dec_len 18 n.natAbs (by rw [p19];omega)
  rw [List.length_cons];omega
 ·have:=dec_len 18 n.toNat (by rw [p19];omega)
  omega
theorem decimal_p {n:Int} (h0:-9223372036854775808≤n) (h1:n≤9223372036854775807):p_ref34_decimal n=some ⟨(Lib.itoa n).toArray⟩:=by
 have hf:18 < fuel:=by show 18 < 100000000;omega
 unfold p_ref34_decimal
 by_cases h:n < 0
 ·obtain ⟨u,hu⟩ : ∃ u:Nat,n=-(u:Int):=⟨n.natAbs,by omega⟩
  subst hu
  have hn:(-(u:Int)).natAbs=u:=by omega
  have hl:=dec_len 18 u (by rw [p19];omega)
  rw [decide_eq_true h,cond_true]
  unfold p_ref34_digits Lib.itoa
  rw [digits_u 18 fuel u (by rw [p19];omega) hf (by omega) (by omega),Option.bind_some,if_pos h,hn]
  have:=cat_l (a:=[45]) (b:=Lib.decDigits u) (by rw [List.length_singleton];omega)
  show (cat? (⟨[45].toArray⟩ : ByteArray) _).bind _=_
  rw [this];rfl
 ·obtain ⟨u,rfl⟩ : ∃ u:Nat,n=(u:Int):=⟨n.toNat,by omega⟩
  rw [decide_eq_false h,cond_false,show w64 (0 - (u:Int))=-(u:Int) by rw [w64_id (by omega)];omega]
  unfold p_ref34_digits Lib.itoa
  rw [digits_u 18 fuel u (by rw [p19];omega) hf (by omega) (by omega),Option.bind_some,if_neg h,Int.toNat_natCast]
theorem name_cases {k:Int} (hk:0≤k∧k≤255):(k≤5∧∃ sh,p_script_shapes k=some (sh,true)∧p_ref34_Name k=some sh.name∧sh.name.size≤10)∨(5 < k∧p_script_shapes k=some ((ScriptShape.mk (⟨#[]⟩ : ByteArray) false (0:Int) false),false)∧p_ref34_Name k=some ⟨#[]⟩):=by
 obtain ⟨k,rfl⟩:=Int.eq_ofNat_of_zero_le hk.1
 have h:k=0∨k=1∨k=2∨k=3∨k=4∨k=5∨6≤k:=by omega
 rcases h with rfl | rfl | rfl | rfl | rfl | rfl | h
 ·exact .inl ⟨by omega,_,rfl,rfl,by decide⟩
 ·exact .inl ⟨by omega,_,rfl,rfl,by decide⟩
 ·exact .inl ⟨by omega,_,rfl,rfl,by decide⟩
 ·exact .inl ⟨by omega,_,rfl,rfl,by decide⟩
 ·exact .inl ⟨by omega,_,rfl,rfl,by decide⟩
 ·exact .inl ⟨by omega,_,rfl,rfl,by decide⟩
 ·have e0:((k:Int) == 0)=false:=beq_eq_false_iff_ne.2 (by omega)
  have e1:((k:Int) == 1)=false:=beq_eq_false_iff_ne.2 (by omega)
  have e2:((k:Int) == 2)=false:=beq_eq_false_iff_ne.2 (by omega)
  have e3:((k:Int) == 3)=false:=beq_eq_false_iff_ne.2 (by omega)
  have e4:((k:Int) == 4)=false:=beq_eq_false_iff_ne.2 (by omega)
  have e5:((k:Int) == 5)=false:=beq_eq_false_iff_ne.2 (by omega)
  refine .inr ⟨by omega,?_,?_⟩
  ·unfold p_script_shapes
   simp only [e0,e1,e2,e3,e4,e5,cond_false]
  ·unfold p_ref34_Name
   simp only [e0,e1,e2,e3,e4,e5,cond_false]
theorem name_same {k:Int} (hk:0≤k∧k≤255):∃ y,p_script_Name k=some y∧p_ref34_Name k=some y:=by
 unfold p_script_Name
 rcases name_cases hk with ⟨_,sh,h1,h2,_⟩ | ⟨_,h1,h2⟩
 ·rw [h1];exact ⟨_,rfl,h2⟩
 ·rw [h1];exact ⟨_,rfl,h2⟩
theorem join4 (a b c d:List UInt8):Lib.join [a,b,c,d] [32]=a++[32]++b++[32]++c++[32]++d:=by
 unfold Lib.join
 simp [List.intercalate,List.intersperse]
theorem say_same {s:BrokerStep} (hk:0≤s.Kind∧s.Kind≤255) (hc:-9223372036854775808≤s.Conn∧s.Conn≤9223372036854775807) (hn:-9223372036854775808≤s.N∧s.N≤9223372036854775807) (ht:s.Text.size≤300):∃ y,p_script_Say s=some y∧p_ref34_Say s=some y:=by
 unfold p_script_Say p_ref34_Say
 rcases name_cases hk with ⟨h5,sh,h1,h2,h3⟩ | ⟨h5,h1,h2⟩
 ·have ht0:-9223372036854775808≤(s.Text.size:Int):=by omega
  have ht1:(s.Text.size:Int)≤9223372036854775807:=by omega
  have l1:=itoa_len hc.1 hc.2
  have l2:=itoa_len hn.1 hn.2
  have l3:=itoa_len ht0 ht1
  have ln:sh.name.data.toList.length≤10:=by simpa using h3
  rw [h1,Option.bind_some,itoa_p hc.1 hc.2,itoa_p hn.1 hn.2,itoa_p ht0 ht1,decide_eq_false (show ¬ (5:Int) < s.Kind by omega),h2,decimal_p hc.1 hc.2,decimal_p hn.1 hn.2,decimal_p ht0 ht1]
  generalize hA:Lib.itoa s.Conn=A at *
  generalize hB:Lib.itoa s.N=B at *
  generalize hC:Lib.itoa (s.Text.size:Int)=C at *
  generalize hN:sh.name=nm at *
  rw [bas_list nm]
  generalize nm.data.toList=M at *
  simp only [cond_true,cond_false,Option.bind_some]
  have s32:(⟨#[32]⟩ : ByteArray)=⟨[(32:UInt8)].toArray⟩:=rfl
  refine ⟨⟨(M++[32]++A++[32]++B++[32]++C).toArray⟩,?_,?_⟩
  ·unfold p_strings_Join
   have hj:Lib.join ([(⟨M.toArray⟩ : ByteArray),⟨A.toArray⟩,⟨B.toArray⟩,⟨C.toArray⟩].map (·.data.toList)) (⟨#[32]⟩ : ByteArray).data.toList=M++[32]++A++[32]++B++[32]++C:=join4 M A B C
   rw [hj,if_pos ⟨by simp,by simp only [List.length_append,List.length_singleton];omega⟩];rfl
  ·rw [s32,cat_l (by simp only [List.length_append,List.length_singleton];omega),Option.bind_some,cat_l (by simp only [List.length_append,List.length_singleton];omega),Option.bind_some,cat_l (by simp only [List.length_append,List.length_singleton];omega),Option.bind_some,
    cat_l (by simp only [List.length_append,List.length_singleton];omega),Option.bind_some,cat_l (by simp only [List.length_append,List.length_singleton];omega),Option.bind_some,cat_l (by simp only [List.length_append,List.length_singleton];omega),Option.bind_some]
 ·rw [h1,Option.bind_some,decide_eq_true h5]
  exact ⟨_,rfl,rfl⟩
structure StpOK (s:BrokerStep):Prop where
 kind:0≤s.Kind∧s.Kind≤255
 conn:-9223372036854775808≤s.Conn∧s.Conn≤9223372036854775807
 n:-9223372036854775808≤s.N∧s.N≤9223372036854775807
 text:s.Text.size≤300
theorem StpOK.put {s:BrokerStep} (h:StpOK s):∃ y,p_script_Put s=some y∧p_ref34_Put s=some y∧y.1.size≤1000:=put_same h.kind h.conn.2 h.n.2 h.text
theorem StpOK.say {s:BrokerStep} (h:StpOK s):∃ y,p_script_Say s=some y∧p_ref34_Say s=some y:=say_same h.kind h.conn h.n h.text
theorem rjoin_l (z:List BrokerStep) (hz:∀ s ∈ z,StpOK s) (hn:z.length≤1000):∀ (n k F:Nat) (A:List UInt8),k + n=z.length→n < F→A.length≤1000 * k →
  ∃ r,joinS p_script_Put (z.drop k) A=some r∧(p_ref34_Join_l1 z F ⟨A.toArray⟩ (k:Int)=some (.inl r)∨∃ s j,p_ref34_Join_l1 z F ⟨A.toArray⟩ (k:Int)=some (.inr (s,j))∧r=(s,0))
 | 0,k,F + 1,A,hk,hF,hA=>by
  rw [List.drop_eq_nil_of_le (by omega),joinS,p_ref34_Join_l1,lt_ff (by omega),cond_false]
  exact ⟨_,rfl,.inr ⟨_,_,rfl,rfl⟩⟩
 | n + 1,k,F + 1,A,hk,hF,hA=>by
  have hlt:k < z.length:=by omega
  obtain ⟨y,h1,h2,h3⟩:=(hz z[k] (List.getElem_mem hlt)).put
  rw [drop_at hlt,joinS,p_ref34_Join_l1,lt_tt hlt,cond_true,at_lt hlt,Option.bind_some,h1,h2,Option.bind_some,Option.bind_some]
  obtain ⟨y1,y2⟩:=y
  simp only at h3
  by_cases h0:y2=0
  ·subst h0
   have hy:y1.data.toList.length=y1.size:=by simp
   simp only
   rw [if_neg (by simp),if_pos (by omega),show ((0:Int) != 0)=false from rfl,cond_false]
   conv=>rhs;rw [bas_list y1]
   rw [w64_succ (by omega)]
   obtain ⟨r,r1,r2⟩:=rjoin_l z hz hn n (k + 1) F (A++y1.data.toList) (by omega) (by omega) (by rw [List.length_append];omega)
   refine ⟨r,r1,?_⟩
   have hc:cat? ⟨A.toArray⟩ y1=some ⟨(A++y1.data.toList).toArray⟩:=by
    conv=>lhs;rw [bas_list y1]
    exact cat_l (by omega)
   rw [hc,Option.bind_some]
   exact r2
  ·simp only
   rw [if_pos h0,show (y2 != 0)=true from bne_iff_ne.2 h0,cond_true]
   exact ⟨_,rfl,.inl rfl⟩
theorem join_same {z:List BrokerStep} (hz:∀ s ∈ z,StpOK s) (hn:z.length≤1000):∃ y,p_script_Join z=some y∧p_ref34_Join z=some y:=by
 obtain ⟨r,h1,h2⟩:=rjoin_l z hz hn z.length 0 fuel [] (by omega) (by show _ < 100000000;omega) (Nat.zero_le _)
 unfold p_script_Join p_ref34_Join
 rw [if_pos (by omega)]
 refine ⟨r,h1,?_⟩
 rcases h2 with h2 | ⟨s,j,h2,rfl⟩
 ·have h2' : p_ref34_Join_l1 z fuel (⟨#[]⟩ : ByteArray) (0:Int)=_:=h2
  rw [h2'];rfl
 ·have h2' : p_ref34_Join_l1 z fuel (⟨#[]⟩ : ByteArray) (0:Int)=_:=h2
  rw [h2'];rfl
theorem steps_l (z:List BrokerStep) (hn:z.length≤1000):∀ (n k F:Nat) (acc:List BrokerStep),k + n=z.length→n < F→acc.length=k→p_law33_Steps_l1 z F acc (k:Int)=some (acc++z.drop k,(z.length:Int))
 | 0,k,F + 1,acc,hk,hF,ha=>by
  rw [p_law33_Steps_l1,lt_ff (by omega),List.drop_eq_nil_of_le (by omega),List.append_nil,show k=z.length by omega];rfl
 | n + 1,k,F + 1,acc,hk,hF,ha=>by
  have hlt:k < z.length:=by omega
  rw [p_law33_Steps_l1,lt_tt hlt,cond_true,at_lt hlt,Option.bind_some,app_ok (by rw [List.length_singleton];omega),Option.bind_some,w64_succ (by omega),steps_l z hn n (k + 1) F _ (by omega) (by omega) (by rw [List.length_append,List.length_singleton,ha]),drop_at hlt,List.append_assoc];rfl
theorem steps_p {z:List BrokerStep} (hn:z.length≤1000):p_law33_Steps z=some z:=by
 unfold p_law33_Steps
 have e:=steps_l z hn z.length 0 fuel [] (by omega) (by show _ < 100000000;omega) rfl
 have e' : p_law33_Steps_l1 z fuel [] (0:Int)=_:=e
 rw [e'];rfl
theorem scount_l (z:List BrokerStep) (k:Int) (hn:z.length≤1000):∀ (n j F a:Nat),j + n=z.length→n < F→a≤j→p_script_Count_l1 k z (z.length:Int) F (a:Int) (j:Int)=some (((a + (z.drop j).countP (fun s=>s.Kind == k):Nat):Int),(z.length:Int))
 | 0,j,F + 1,a,hj,hF,ha=>by
  rw [p_script_Count_l1,lt_ff (by omega),List.drop_eq_nil_of_le (by omega),show j=z.length by omega];rfl
 | n + 1,j,F + 1,a,hj,hF,ha=>by
  have hlt:j < z.length:=by omega
  rw [p_script_Count_l1,lt_tt hlt,cond_true,at_lt hlt,Option.bind_some,w64_succ (by omega),w64_succ (by omega),drop_at hlt]
  cases h:(z[j].Kind == k)
  ·rw [cond_false,scount_l z k hn n (j + 1) F a (by omega) (by omega) (by omega),List.countP_cons_of_neg (by simp [h])]
  ·rw [cond_true,scount_l z k hn n (j + 1) F (a + 1) (by omega) (by omega) (by omega),List.countP_cons_of_pos (by simp [h])]
   congr 3;omega
theorem rcount_l (z:List BrokerStep) (k:Int) (hn:z.length≤1000):∀ (n j F a:Nat),j + n=z.length→n < F→a≤j→p_ref34_Count_l1 z k F (a:Int) (j:Int)=some (((a + (z.drop j).countP (fun s=>s.Kind == k):Nat):Int),(z.length:Int))
 | 0,j,F + 1,a,hj,hF,ha=>by
  rw [p_ref34_Count_l1,lt_ff (by omega),List.drop_eq_nil_of_le (by omega),show j=z.length by omega];rfl
 | n + 1,j,F + 1,a,hj,hF,ha=>by
  have hlt:j < z.length:=by omega
  rw [p_ref34_Count_l1,lt_tt hlt,cond_true,at_lt hlt,Option.bind_some,w64_succ (by omega),w64_succ (by omega),drop_at hlt]
  cases h:(z[j].Kind == k)
  ·rw [cond_false,rcount_l z k hn n (j + 1) F a (by omega) (by omega) (by omega),List.countP_cons_of_neg (by simp [h])]
  ·rw [cond_true,rcount_l z k hn n (j + 1) F (a + 1) (by omega) (by omega) (by omega),List.countP_cons_of_pos (by simp [h])]
   congr 3;omega
theorem count_same {z:List BrokerStep} (k:Int) (hn:z.length≤1000):∃ y,p_script_Count z k=some y∧p_ref34_Count z k=some y:=by
 unfold p_script_Count p_ref34_Count
 have e:=scount_l z k hn z.length 0 fuel 0 (by omega) (by show _ < 100000000;omega) (by omega)
 have e' : p_script_Count_l1 k z (z.length:Int) fuel (0:Int) (0:Int)=_:=e
 have f:=rcount_l z k hn z.length 0 fuel 0 (by omega) (by show _ < 100000000;omega) (by omega)
 have f' : p_ref34_Count_l1 z k fuel (0:Int) (0:Int)=_:=f
 rw [e',f']
 exact ⟨_,rfl,rfl⟩
end Go.Proofs.YtpkodpcfafipdaaGreatDoor

namespace Go.Proofs.YtpkodpcfafipdaaGreatDoor
def letterS (c:UInt8):Prop:=c=117∨c=114∨c=109∨c=115∨c=112∨c=99∨c=110
theorem letters (k:Nat):∀ c ∈ hasN k,letterS c:=hasN_in k
end Go.Proofs.YtpkodpcfafipdaaGreatDoor

namespace Go.Proofs.YtpkodpcfafipdaaGreatDoor
def encS (s:StzD):List UInt8:=s.kind :: bodyB s (hasN s.kind.toNat)
theorem let_ok {s:StzD} (h:checkS s=0):∀ c ∈ hasN s.kind.toNat,letterS c∧okF s c:=fun c hc=>⟨letters _ c hc,check_ok h c hc⟩
def fmax (c:UInt8):Nat:=if c=117 then 34 else if c=114 then 13 else if c=109 then 25 else if c=110 then 6 else 1
theorem field_max {s:StzD} {c:UInt8} (hc:letterS c) (h:okF s c):(fieldB s c).length≤fmax c:=by
 have b1:∀ n,(beL n 1).length=1:=fun _=>rfl
 have b6:∀ n,(beL n 6).length=6:=fun _=>rfl
 rcases hc with rfl | rfl | rfl | rfl | rfl | rfl | rfl
 ·rw [fld117,sayB_len];have:=ok117 h;show _≤34;omega
 ·rw [fld114,sayB_len];have:=ok114 h;show _≤13;omega
 ·rw [fld109,sayB_len];have:=ok109 h;show _≤25;omega
 ·rw [fld115,b1];decide
 ·rw [fld112,b1];decide
 ·rw [fld99,b1];decide
 ·rw [fld110,b6];decide
theorem body_max {s:StzD}:∀ {L:List UInt8},(∀ c ∈ L,letterS c∧okF s c)→(bodyB s L).length≤(L.map fmax).sum
 | [],_=>by simp [bodyB]
 | c :: L,h=>by
  have h1:=body_max (s:=s) (L:=L) (fun d hd=>h d (List.mem_cons_of_mem _ hd))
  have h2:=field_max (h c (by simp)).1 (h c (by simp)).2
  have e:bodyB s (c :: L)=fieldB s c++bodyB s L:=by simp [bodyB]
  rw [e,List.length_append,List.map_cons,List.sum_cons];omega
theorem ite_p {p:Prop} [Decidable p] {a b:List UInt8} {Q:List UInt8→Prop} (ha:Q a) (hb:Q b):Q (if p then a else b):=by split <;> assumption
theorem sum_max (k:Nat):((hasN k).map fmax).sum≤80:=by
 have:(fun l:List UInt8=>(l.map fmax).sum≤80) (hasN k):=by
  unfold hasN
  repeat' (refine ite_p (Q:=fun l:List UInt8=>(l.map fmax).sum≤80) ?_ ?_)
  all_goals decide
 exact this
theorem enc_len {s:StzD} (h:checkS s=0):0 < (encS s).length∧(encS s).length≤81:=by
 have:=body_max (let_ok h)
 have:=sum_max s.kind.toNat
 unfold encS
 rw [List.length_cons];omega
end Go.Proofs.YtpkodpcfafipdaaGreatDoor

namespace Go.Proofs.YtpkodpcfafipdaaGreatDoor
namespace Enc
open Go.RowKit
abbrev toI (l:List UInt8):List Int:=l.map fun b=>(b.toNat:Int)
theorem u8_fit {n:Int} (h:0≤n∧n≤255):IntKind.wrap .u8 n=n:=by
 obtain ⟨k,rfl⟩ : ∃ k:Nat,n=k:=⟨n.toNat,by omega⟩
 show (k:Int) % 256=k
 omega
def frm (t:List UInt8):List UInt8:=0 :: UInt8.ofNat t.length :: t
theorem lay2 {n:Nat} (h:n≤255):p_octet_Lay (n:Int) 2=some ([0,(n:Int)],0):=by
 have key:∀ F,p_octet_Lay_l1 2 n 2 2 (F + 3) 0 [0,0]=some (2,[0,(n:Int)]):=fun F=>by
  have u0:IntKind.wrap .u8 (shrI .i64 (n:Int) 0)=(n:Int):=by
   have e:shrI .i64 (n:Int) 0=(n:Int):=by
    show (n:Int).fdiv (2 ^ (min (0:Int).toNat 64))=_
    simp
   rw [e]
   exact u8_fit (by omega)
  have u1:IntKind.wrap .u8 (shrI .i64 (n:Int) 8)=0:=by
   have e:shrI .i64 (n:Int) 8=0:=by
    show (n:Int).fdiv (2 ^ 8)=_
    rw [fdivN]
    have:n / 2 ^ 8=0:=Nat.div_eq_of_lt (by omega)
    rw [this];rfl
   rw [e];rfl
  rw [p_octet_Lay_l1]
  show p_octet_Lay_l1 2 n 2 2 (F + 2) 1 (List.set [0,0] 1 (IntKind.wrap .u8 (shrI .i64 (n:Int) 0)))=_
  rw [u0,p_octet_Lay_l1]
  show p_octet_Lay_l1 2 n 2 2 (F + 1) 2 (List.set [0,(n:Int)] 0 (IntKind.wrap .u8 (shrI .i64 (n:Int) 8)))=_
  rw [u1,p_octet_Lay_l1];rfl
 have k2:p_octet_Lay_l1 2 n 2 2 fuel 0 [0,0]=_:=key (fuel - 3)
 have s0:(shrI .i64 (n:Int) 16 != 0)=false:=by
  have e:shrI .i64 (n:Int) 16=0:=by
   show (n:Int).fdiv (2 ^ 16)=_
   rw [fdivN]
   have:n / 2 ^ 16=0:=Nat.div_eq_of_lt (by omega)
   rw [this];rfl
  rw [e];rfl
 unfold p_octet_Lay
 rw [show p_octet_wide 2=some true from rfl]
 simp only [Option.bind_some,cond_true]
 rw [show decide ((n:Int) < 0)=false by simp,cond_false,show pos? (w64 ((8:Int) * 2))=some () from rfl,Option.bind_some,show w64 ((8:Int) * 2)=16 from rfl,s0,cond_false,show mk? (2:Int) (0:Int)=some [0,0] from rfl,Option.bind_some,k2]
 rfl
theorem put_frm (t:List UInt8) (h0:0 < t.length) (h:t.length≤128):p_frame_Put (ba t)=some (ba (frm t),0):=by
 have e1:((ba t).toList == (⟨#[]⟩ : ByteArray).toList)=false:=by
  rw [Bool.eq_false_iff]
  intro g
  have:=eqT_iff.1 g
  have:=congrArg ByteArray.size this
  rw [ba_size] at this
  have e:(⟨#[]⟩ : ByteArray).size=0:=rfl
  omega
 have tx:text? [0,(t.length:Int)]=some (ba [0,UInt8.ofNat t.length]):=by
  unfold text?
  rw [if_pos (by simp;omega)];rfl
 have ct:cat? (ba [0,UInt8.ofNat t.length]) (ba t)=some (ba (frm t)):=by
  unfold cat?
  rw [if_pos (by rw [ba_size,ba_size];simp;omega),ba_app];rfl
 unfold p_frame_Put
 rw [e1,cond_false,ba_size,decide_eq_false (show ¬ (128:Int) < (t.length:Int) by omega),cond_false,lay2 (by omega),Option.bind_some,tx,Option.bind_some,ct];rfl
theorem join_frm:∀ (ts:List (List UInt8)) (acc:List UInt8),(∀ t ∈ ts,0 < t.length∧t.length≤128)→acc.length + 200 * ts.length≤1000000→joinL p_frame_Put (ts.map ba) acc=some (ba (acc++(ts.map frm).flatten),0)
 | [],acc,_,_=>by simp [joinL,ba]
 | t :: ts,acc,h,hl=>by
  obtain ⟨h0,h1⟩:=h t (List.mem_cons_self ..)
  rw [List.length_cons] at hl
  have hf:(ba (frm t)).size=t.length + 2:=by rw [ba_size];rfl
  rw [List.map_cons,joinL,put_frm t h0 h1]
  rw [Option.bind_some,if_neg (by simp),if_pos (show acc.length + (ba (frm t)).size≤1000000000 by omega),show (ba (frm t),(0:Int)).1=ba (frm t) from rfl,ba_list,join_frm ts _ (fun x hx=>h x (List.mem_cons_of_mem _ hx)) (by rw [List.length_append];show acc.length + (t.length + 2) + _≤_;omega)]
  simp
structure Fine (x:StanzaStanza):Prop where
 kind:0≤x.Kind∧x.Kind≤255
 user:x.User.size≤100
 res:x.Res.size≤100
 name:x.Name.size≤100
theorem Fine.fits {x:StanzaStanza} (h:Fine x):stzFits x:=⟨h.kind,by have:=h.user;omega,by have:=h.res;omega,by have:=h.name;omega⟩
def encX (x:StanzaStanza):List UInt8:=encS (stzOf x)
theorem put_fine {x:StanzaStanza} (h:Fine x) (hc:checkS (stzOf x)=0):p_stanza_Put x=some (ba (encX x),0):=by
 unfold p_stanza_Put putP
 rw [if_pos h.fits,if_neg (by simpa using hc)];rfl
theorem encode_l (ws:List StanzaStanza) (hw:∀ x ∈ ws,Fine x∧checkS (stzOf x)=0) (hn:ws.length≤1000):∀ (n k F:Nat) (acc:List ByteArray),k + n=ws.length→n < F→acc.length≤k→p_deframe_Encode_l1 ws (ws.length:Int) F acc (k:Int)=some (.inr (acc++(ws.drop k).map fun x=>ba (encX x),(ws.length:Int)))
 | 0,k,F + 1,acc,hk,hF,ha=>by
  rw [p_deframe_Encode_l1,lt_ff (by omega),show k=ws.length by omega,List.drop_length];simp
 | n + 1,k,F + 1,acc,hk,hF,ha=>by
  have hlt:k < ws.length:=by omega
  obtain ⟨f1,f2⟩:=hw _ (List.getElem_mem hlt)
  rw [p_deframe_Encode_l1,lt_tt hlt,cond_true,at_lt hlt,Option.bind_some,put_fine f1 f2,Option.bind_some]
  simp only [bne_self_eq_false,cond_false]
  rw [app_ok (by simp;omega),Option.bind_some,w64_succ (by omega),encode_l ws hw hn n (k + 1) F _ (by omega) (by omega) (by simp;omega),drop_at hlt,List.map_cons,List.append_assoc]
  rfl
theorem encode_p (ws:List StanzaStanza) (hw:∀ x ∈ ws,Fine x∧checkS (stzOf x)=0) (hn:ws.length≤1000):p_deframe_Encode ws=some (ba ((ws.map fun x=>frm (encX x)).flatten),0):=by
 unfold p_deframe_Encode
 have e:=encode_l ws hw hn ws.length 0 fuel [] (by omega) (by have:=fuel_pos;omega) (Nat.zero_le _)
 rw [List.drop_zero,List.nil_append] at e
 have e' : p_deframe_Encode_l1 ws (ws.length:Int) fuel [] (0:Int)=_:=e
 rw [e']
 simp only [Option.bind_some]
 have hm:(ws.map fun x=>ba (encX x))=(ws.map encX).map ba:=by rw [List.map_map];rfl
 have hj:=join_frm (ws.map encX) [] (fun t ht=>by
  obtain ⟨x,hx,rfl⟩:=List.mem_map.1 ht
  have:=enc_len (hw x hx).2
  exact ⟨this.1,by have:=this.2;show (encS (stzOf x)).length≤128;omega⟩) (by rw [List.length_map];simp;omega)
 unfold p_frame_Join
 rw [if_pos (by rw [List.length_map];omega),hm,hj,List.nil_append,List.map_map]
 rfl

theorem rsay_b {t:ByteArray} {m:Int} (h:(t.size:Int)≤m) (hm:m≤255):p_ref01_Say t m=some (toI (sayB t),0):=by
 unfold p_ref01_Say
 have e:(UInt8.ofNat t.size).toNat=t.size:=by rw [UInt8.toNat_ofNat'];omega
 rw [decide_eq_false (show ¬ m < (t.size:Int) by omega),decide_eq_false (show ¬ (255:Int) < (t.size:Int) by omega),cond_false,cond_false,u8_fit (show 0≤(t.size:Int)∧(t.size:Int)≤255 by omega),app_ok (by rw [List.length_singleton];unfold bytesI;rw [List.length_map,bl_len];omega),Option.bind_some]
 unfold toI sayB bytesI
 rw [List.map_cons,e];rfl
def beM:Nat→Nat→List UInt8
 | _,0=>[]
 | N,n + 1=>beM (N / 256) n++[UInt8.ofNat N]
theorem beM1 (N:Nat):beM N 1=beL N 1:=by simp [beM,beL]
theorem beM6 (N:Nat):beM N 6=beL N 6:=by
 simp only [beM,beL,Nat.div_div_eq_div_mul,List.nil_append,List.cons_append,Nat.reduceMul,Nat.reducePow,Nat.div_one]
theorem rlay_b1 (w:Nat):∀ (n j F N:Nat) (acc:List Int),j + n=w→w≤10→n < F→N < 256 ^ 7→acc.length≤j→p_ref01_Lay_l1 (w:Int) F (N:Int) acc (j:Int)=some (((N / 256 ^ n:Nat):Int),toI (beM N n)++acc,(w:Int))
 | 0,j,F + 1,N,acc,hj,hw,hF,hN,ha=>by
  rw [p_ref01_Lay_l1,lt_ff (by omega),show j=w by omega]
  simp [beM,toI]
 | n + 1,j,F + 1,N,acc,hj,hw,hF,hN,ha=>by
  have h7:(256:Nat) ^ 7=72057594037927936:=by decide
  have e1:Int.tmod (N:Int) (256:Int)=((N % 256:Nat):Int):=rfl
  have e2:Int.tdiv (N:Int) (256:Int)=((N / 256:Nat):Int):=rfl
  have e3:(UInt8.ofNat N).toNat=N % 256:=by rw [UInt8.toNat_ofNat']
  rw [p_ref01_Lay_l1,lt_tt (by omega),cond_true,e1,u8_fit (show 0≤((N % 256:Nat):Int)∧((N % 256:Nat):Int)≤255 by omega),app_ok (by simp;omega),Option.bind_some,e2,w64_id (show -9223372036854775808≤((N / 256:Nat):Int)∧((N / 256:Nat):Int)≤9223372036854775807 by omega),w64_succ (by omega)]
  rw [rlay_b1 w n (j + 1) F (N / 256) _ (by omega) hw (by omega) (Nat.lt_of_le_of_lt (Nat.div_le_self N 256) hN) (by simp;omega),Nat.div_div_eq_div_mul,← Nat.pow_succ']
  congr 3
  show toI (beM (N / 256) n)++([((N % 256:Nat):Int)]++acc)=toI (beM N (n + 1))++acc
  unfold toI
  rw [beM,List.map_append,List.append_assoc,List.map_singleton,e3]
theorem rlay_b {n:Int} {w:Nat} (hw:w=1∨w=6) (h0:0≤n) (h1:n < 256 ^ w):p_ref01_Lay n (w:Int)=some (toI (beL n.toNat w),0):=by
 obtain ⟨N,rfl⟩:=Int.eq_ofNat_of_zero_le h0
 have hN:N < 256 ^ w:=by
  rcases hw with rfl | rfl
  ·have e:(256:Int) ^ 1=256:=by decide
   have e' : (256:Nat) ^ 1=256:=by decide
   rw [e] at h1;rw [e'];omega
  ·have e:(256:Int) ^ 6=281474976710656:=by decide
   have e' : (256:Nat) ^ 6=281474976710656:=by decide
   rw [e] at h1;rw [e'];omega
 have hwd:p_ref01_wide (w:Int)=some true:=by rcases hw with rfl | rfl <;> rfl
 have hp:(256:Nat) ^ w≤256 ^ 7:=Nat.pow_le_pow_right (by decide) (by rcases hw with rfl | rfl <;> omega)
 have e:=rlay_b1 w w 0 fuel N [] (by omega) (by rcases hw with rfl | rfl <;> omega) (by have:=fuel_pos;rcases hw with rfl | rfl <;> omega) (by omega) (by simp)
 rw [Nat.div_eq_of_lt hN,List.append_nil] at e
 have hM:beM N w=beL N w:=by rcases hw with rfl | rfl;exact beM1 N;exact beM6 N
 rw [hM] at e
 have e' : p_ref01_Lay_l1 (w:Int) fuel (N:Int) [] (0:Int)=_:=e
 unfold p_ref01_Lay
 rw [hwd,Option.bind_some,cond_true,decide_eq_false (show ¬ (N:Int) < 0 by omega),cond_false,e']
 rfl
theorem field_p {x:StanzaStanza} {c:UInt8} (hc:letterS c) (ho:okF (stzOf x) c):p_ref10_field x (c.toNat:Int)=some (toI (fieldB (stzOf x) c)):=by
 rcases hc with rfl | rfl | rfl | rfl | rfl | rfl | rfl
 ·have h:x.User.size≤33:=ok117 ho
  rw [fld117]
  show (p_ref01_Say x.User 33).bind _=_
  rw [rsay_b (by omega) (by omega)];rfl
 ·have h:x.Res.size≤12:=ok114 ho
  rw [fld114]
  show (p_ref01_Say x.Res 12).bind _=_
  rw [rsay_b (by omega) (by omega)];rfl
 ·have h:x.Name.size≤24:=ok109 ho
  rw [fld109]
  show (p_ref01_Say x.Name 24).bind _=_
  rw [rsay_b (by omega) (by omega)];rfl
 ·have h:0≤x.Show∧x.Show≤63:=ok115 ho
  rw [fld115]
  show (p_ref01_Lay x.Show ((1:Nat):Int)).bind _=_
  rw [rlay_b (.inl rfl) h.1 (by show x.Show < 256;omega)];rfl
 ·have h:-128≤x.Prio∧x.Prio≤127:=ok112 ho
  rw [fld112]
  show (p_ref01_Lay (w64 (x.Prio + 128)) ((1:Nat):Int)).bind _=_
  rw [w64_id (by omega),rlay_b (.inl rfl) (by omega) (by show x.Prio + 128 < 256;omega)];rfl
 ·have h:0≤x.Code∧x.Code≤255:=ok99 ho
  rw [fld99]
  show (p_ref01_Lay x.Code ((1:Nat):Int)).bind _=_
  rw [rlay_b (.inl rfl) h.1 (by show x.Code < 256;omega)];rfl
 ·have h:0≤x.N∧x.N < 256 ^ 6:=ok110 ho
  rw [fld110]
  show (p_ref01_Lay x.N ((6:Nat):Int)).bind _=_
  rw [rlay_b (.inr rfl) h.1 h.2];rfl
theorem rput_l (x:StanzaStanza) (L:List UInt8) (hL:∀ c ∈ L,letterS c∧okF (stzOf x) c) (hn:L.length≤5):∀ (n k F:Nat) (acc:List Int),k + n=L.length→n < F→acc.length≤1 + 34 * k→p_ref10_Put_l1 (ba L) x F acc (k:Int)=some (acc++toI (bodyB (stzOf x) (L.drop k)),(L.length:Int))
 | 0,k,F + 1,acc,hk,hF,ha=>by
  rw [p_ref10_Put_l1,ba_size,lt_ff (by omega),show k=L.length by omega,List.drop_length]
  simp [bodyB,toI]
 | n + 1,k,F + 1,acc,hk,hF,ha=>by
  have hlt:k < L.length:=by omega
  obtain ⟨hc,ho⟩:=hL _ (List.getElem_mem hlt)
  obtain ⟨f1,f2⟩:=field_len ho
  have bt:byte? (ba L) (k:Int)=some ((L[k]).toNat:Int):=by
   rw [byte_at (by rw [ba_size];exact hlt),← bl_get (ba L) k (by rw [ba_size];exact hlt)]
   simp only [ba_list]
  have hfl:(toI (fieldB (stzOf x) L[k])).length≤34:=by unfold toI;rw [List.length_map];exact f2
  rw [p_ref10_Put_l1,ba_size,lt_tt hlt,cond_true,bt,Option.bind_some,field_p hc ho,Option.bind_some,app_ok (by omega),Option.bind_some,w64_succ (by omega),rput_l x L hL hn n (k + 1) F _ (by omega) (by omega) (by rw [List.length_append];omega),drop_at hlt]
  unfold bodyB toI
  rw [List.flatMap_cons,List.map_append,List.append_assoc]
theorem text_toI (l:List UInt8):text? (toI l)=some (ba l):=by
 unfold text? toI
 rw [if_pos]
 ·congr 1
  unfold ba
  congr 1
  rw [List.map_map]
  congr 1
  refine (List.map_congr_left fun b _=>?_).trans (List.map_id l)
  show UInt8.ofNat ((b.toNat:Int)).toNat=b
  rw [Int.toNat_natCast,UInt8.ofNat_toNat]
 ·rw [List.all_eq_true]
  intro y hy
  obtain ⟨b,_,rfl⟩:=List.mem_map.1 hy
  have:=b.toNat_lt
  simp;omega
theorem rhas_all:(List.range 256).all (fun k=>((p_ref10_Has (k:Int)).map (·.data.toList) == some (hasN k)))=true:=by kernel_rfl
theorem rhas_p (k:UInt8):p_ref10_Has (k.toNat:Int)=some (ba (hasN k.toNat)):=by
 have:=List.all_eq_true.1 rhas_all k.toNat (List.mem_range.2 k.toNat_lt)
 simp only [beq_iff_eq] at this
 cases h:p_ref10_Has (k.toNat:Int) with
 | none=>rw [h] at this;cases this
 | some b=>rw [h] at this;have:=Option.some.inj this;rw [← this,ba_of]
theorem rput_p {x:StanzaStanza} (h:Fine x):p_ref10_Put x=some (putP (stzOf x)):=by
 have hc:p_ref10_Check x=some (checkS (stzOf x)):=by unfold p_ref10_Check;rw [if_pos h.fits]
 unfold p_ref10_Put putP
 rw [hc,Option.bind_some]
 by_cases h0:checkS (stzOf x)=0
 ·rw [show (checkS (stzOf x) != 0)=false by simpa using h0,cond_false,if_neg (by simpa using h0)]
  have hk:=rhas_p (stzOf x).kind
  have ek:((stzOf x).kind.toNat:Int)=x.Kind:=u8_of h.kind
  rw [ek] at hk
  have hl:=rput_l x (hasN (stzOf x).kind.toNat) (let_ok h0) (hasN_len _) (hasN (stzOf x).kind.toNat).length 0 fuel [x.Kind] (by omega) (by have:=fuel_pos;have:=hasN_len (stzOf x).kind.toNat;omega) (by simp)
  rw [List.drop_zero] at hl
  have hl' : p_ref10_Put_l1 (ba (hasN (stzOf x).kind.toNat)) x fuel [x.Kind] (0:Int)=_:=hl
  rw [hk,Option.bind_some,hl']
  simp only [Option.bind_some]
  have e:[x.Kind]++toI (bodyB (stzOf x) (hasN (stzOf x).kind.toNat))=toI ((stzOf x).kind :: bodyB (stzOf x) (hasN (stzOf x).kind.toNat)):=by
   unfold toI;rw [List.map_cons,ek];rfl
  rw [e,text_toI];rfl
 ·rw [show (checkS (stzOf x) != 0)=true by simpa using h0,if_pos h0];rfl
theorem rput_frm (t:List UInt8) (h0:0 < t.length) (h:t.length≤128):p_ref11_Put (ba t)=some (ba (frm t),0):=by
 have e1:((ba t).toList == (⟨#[]⟩ : ByteArray).toList)=false:=by
  rw [Bool.eq_false_iff]
  intro g
  have:=eqT_iff.1 g
  have:=congrArg ByteArray.size this
  rw [ba_size] at this
  have e:(⟨#[]⟩ : ByteArray).size=0:=rfl
  omega
 have d1:Int.tdiv (t.length:Int) 256=0:=by
  show ((t.length / 256:Nat):Int)=0
  rw [Nat.div_eq_of_lt (by omega)];rfl
 have d2:Int.tmod (t.length:Int) 256=(t.length:Int):=by
  show ((t.length % 256:Nat):Int)=_
  rw [Nat.mod_eq_of_lt (by omega)]
 have tx:text? [0,(t.length:Int)]=some (ba [0,UInt8.ofNat t.length]):=by
  unfold text?
  rw [if_pos (by simp;omega)];rfl
 have ct:cat? (ba [0,UInt8.ofNat t.length]) (ba t)=some (ba (frm t)):=by
  unfold cat?
  rw [if_pos (by rw [ba_size,ba_size];simp;omega),ba_app];rfl
 unfold p_ref11_Put
 rw [e1,cond_false,ba_size,decide_eq_false (show ¬ (128:Int) < (t.length:Int) by omega),cond_false,d1,d2,u8_fit (n:=(t.length:Int)) (by omega),show IntKind.wrap .u8 (w64 0)=0 from rfl,tx,Option.bind_some,ct];rfl
def encR:List StanzaStanza→List UInt8→ByteArray × Int
 | [],acc=>(ba acc,0)
 | x :: l,acc=>if checkS (stzOf x)≠0 then (⟨#[]⟩,checkS (stzOf x)) else encR l (acc++frm (encX x))
theorem encR_all:∀ (l:List StanzaStanza) (acc:List UInt8),(∀ x ∈ l,checkS (stzOf x)=0)→encR l acc=(ba (acc++(l.map fun x=>frm (encX x)).flatten),0)
 | [],acc,_=>by simp [encR]
 | x :: l,acc,h=>by
  rw [encR,if_neg (by simpa using h x (List.mem_cons_self ..)),encR_all l _ fun y hy=>h y (List.mem_cons_of_mem _ hy)]
  simp
theorem putFine {x:StanzaStanza} (h:Fine x):p_stanza_Put x=some (putP (stzOf x)):=by unfold p_stanza_Put;rw [if_pos h.fits]
theorem enc_l1 (ws:List StanzaStanza) (hw:∀ x ∈ ws,Fine x) (hn:ws.length≤1000):∀ (n k F:Nat) (acc:List ByteArray) (A:List UInt8),k + n=ws.length→n < F→acc.length≤k →
  (∃ q,p_deframe_Encode_l1 ws (ws.length:Int) F acc (k:Int)=some (.inl q)∧encR (ws.drop k) A=q)∨(p_deframe_Encode_l1 ws (ws.length:Int) F acc (k:Int)=some (.inr (acc++(ws.drop k).map fun x=>ba (encX x),(ws.length:Int)))∧∀ x ∈ ws.drop k,checkS (stzOf x)=0)
 | 0,k,F + 1,acc,A,hk,hF,ha=>by
  right
  rw [p_deframe_Encode_l1,lt_ff (by omega),show k=ws.length by omega,List.drop_length]
  exact ⟨by simp,fun x hx=>by cases hx⟩
 | n + 1,k,F + 1,acc,A,hk,hF,ha=>by
  have hlt:k < ws.length:=by omega
  have hf:=hw _ (List.getElem_mem hlt)
  rw [p_deframe_Encode_l1,lt_tt hlt,cond_true,at_lt hlt,Option.bind_some,putFine hf,Option.bind_some,drop_at hlt]
  unfold putP
  by_cases h0:checkS (stzOf ws[k])=0
  ·rw [if_neg (by simpa using h0)]
   simp only [bne_self_eq_false,cond_false]
   rw [app_ok (by simp;omega),Option.bind_some,w64_succ (by omega)]
   rcases enc_l1 ws hw hn n (k + 1) F (acc++[ba ((stzOf ws[k]).kind :: bodyB (stzOf ws[k]) (hasN (stzOf ws[k]).kind.toNat))]) (A++frm (encX ws[k])) (by omega) (by omega) (by simp;omega) with ⟨q,e1,e2⟩ | ⟨e1,e2⟩
   ·exact .inl ⟨q,e1,by rw [encR,if_neg (by simpa using h0)];exact e2⟩
   ·refine .inr ⟨?_,fun x hx=>?_⟩
    ·rw [e1,List.map_cons,List.append_assoc];rfl
    ·rcases List.mem_cons.1 hx with rfl | hx
     ·exact h0
     ·exact e2 x hx
  ·rw [if_pos h0]
   simp only
   rw [show (checkS (stzOf ws[k]) != 0)=true by simpa using h0,cond_true]
   exact .inl ⟨_,rfl,by rw [encR,if_pos h0]⟩
theorem enc_p (ws:List StanzaStanza) (hw:∀ x ∈ ws,Fine x) (hn:ws.length≤1000):p_deframe_Encode ws=some (encR ws []):=by
 rcases enc_l1 ws hw hn ws.length 0 fuel [] [] (by omega) (by have:=fuel_pos;omega) (Nat.zero_le _) with ⟨q,e1,e2⟩ | ⟨e1,e2⟩
 ·have e1' : p_deframe_Encode_l1 ws (ws.length:Int) fuel [] (0:Int)=_:=e1
  rw [List.drop_zero] at e2
  unfold p_deframe_Encode
  rw [e1',e2];rfl
 ·rw [List.drop_zero] at e2
  rw [encode_p ws (fun x hx=>⟨hw x hx,e2 x hx⟩) hn,encR_all ws [] e2,List.nil_append]
theorem renc_l1 (ws:List StanzaStanza) (hw:∀ x ∈ ws,Fine x) (hn:ws.length≤1000):∀ (n k F:Nat) (A:List UInt8),k + n=ws.length→n < F→A.length≤100 * k →
  (∃ q,p_ref12_Encode_l1 ws F (ba A) (k:Int)=some (.inl q)∧encR (ws.drop k) A=q)∨∃ s z,p_ref12_Encode_l1 ws F (ba A) (k:Int)=some (.inr (s,z))∧encR (ws.drop k) A=(s,0)
 | 0,k,F + 1,A,hk,hF,ha=>by
  right
  refine ⟨ba A,(k:Int),?_,?_⟩
  ·rw [p_ref12_Encode_l1,lt_ff (by omega)];rfl
  ·rw [show k=ws.length by omega,List.drop_length];rfl
 | n + 1,k,F + 1,A,hk,hF,ha=>by
  have hlt:k < ws.length:=by omega
  have hf:=hw _ (List.getElem_mem hlt)
  rw [p_ref12_Encode_l1,lt_tt hlt,cond_true,at_lt hlt,Option.bind_some,rput_p hf,Option.bind_some,drop_at hlt]
  unfold putP
  by_cases h0:checkS (stzOf ws[k])=0
  ·obtain ⟨hL0,hL1⟩:=enc_len h0
   have hlen:(encX ws[k]).length=(encS (stzOf ws[k])).length:=rfl
   have hfr:(frm (encX ws[k])).length=(encX ws[k]).length + 2:=rfl
   rw [if_neg (by simpa using h0)]
   simp only [bne_self_eq_false,cond_false]
   have hp:p_ref11_Put (ba ((stzOf ws[k]).kind :: bodyB (stzOf ws[k]) (hasN (stzOf ws[k]).kind.toNat)))=some (ba (frm (encX ws[k])),0):=rput_frm (encX ws[k]) (by omega) (by omega)
   have hct:cat? (ba A) (ba (frm (encX ws[k])))=some (ba (A++frm (encX ws[k]))):=by
    unfold cat?
    rw [if_pos (by rw [ba_size,ba_size];omega),ba_app]
   rw [hp]
   simp only [Option.bind_some,bne_self_eq_false,cond_false,hct]
   rw [w64_succ (by omega)]
   rcases renc_l1 ws hw hn n (k + 1) F (A++frm (encX ws[k])) (by omega) (by omega) (by rw [List.length_append];omega) with ⟨q,e1,e2⟩ | ⟨s,z,e1,e2⟩
   ·exact .inl ⟨q,e1,by rw [encR,if_neg (by simpa using h0)];exact e2⟩
   ·exact .inr ⟨s,z,e1,by rw [encR,if_neg (by simpa using h0)];exact e2⟩
  ·rw [if_pos h0]
   simp only
   rw [show (checkS (stzOf ws[k]) != 0)=true by simpa using h0,cond_true]
   exact .inl ⟨_,rfl,by rw [encR,if_pos h0]⟩
theorem renc_p (ws:List StanzaStanza) (hw:∀ x ∈ ws,Fine x) (hn:ws.length≤1000):p_ref12_Encode ws=some (encR ws []):=by
 unfold p_ref12_Encode
 rcases renc_l1 ws hw hn ws.length 0 fuel [] (by omega) (by have:=fuel_pos;omega) (Nat.zero_le _) with ⟨q,e1,e2⟩ | ⟨s,z,e1,e2⟩
 ·have e1' : p_ref12_Encode_l1 ws fuel (⟨#[]⟩ : ByteArray) (0:Int)=_:=e1
  rw [List.drop_zero] at e2
  rw [e1',e2];rfl
 ·have e1' : p_ref12_Encode_l1 ws fuel (⟨#[]⟩ : ByteArray) (0:Int)=_:=e1
  rw [List.drop_zero] at e2
  rw [e1',e2];rfl
theorem light_p (x:StanzaStanza) (hk:0≤x.Kind∧x.Kind≤255):p_ref10_Light x=some false∨(p_ref10_Light x=some true∧Fine x):=by
 unfold p_ref10_Light
 by_cases h1:(x.User.size:Int)≤100
 ·rw [decide_eq_true h1,cond_true]
  by_cases h2:(x.Res.size:Int)≤100
  ·rw [decide_eq_true h2,cond_true]
   by_cases h3:(x.Name.size:Int)≤100
   ·rw [decide_eq_true h3];exact .inr ⟨rfl,⟨hk,by omega,by omega,by omega⟩⟩
   ·rw [decide_eq_false h3];exact .inl rfl
  ·rw [decide_eq_false h2];exact .inl rfl
 ·rw [decide_eq_false h1];exact .inl rfl
end Enc
end Go.Proofs.YtpkodpcfafipdaaGreatDoor

namespace Go.Proofs.YtpkodpcfafipdaaGreatDoor
open Go.RowKit
def AskOK (x:StanzaStanza):Prop:=0≤x.Kind∧x.Kind≤255
theorem puts_l1 (haw:p_law34_awake=some true) (z:List StanzaStanza) (hz:∀ x ∈ z,AskOK x) (hn:z.length≤1000):∀ (n k F:Nat) (acc:List StanzaStanza),k + n=z.length→n < F→acc.length=k→(∀ x ∈ acc,Enc.Fine x) →
  p_law34_ScriptPuts_l1 z F acc (k:Int)=some (.inl true)∨(∃ j,p_law34_ScriptPuts_l1 z F acc (k:Int)=some (.inr (acc++z.drop k,j))∧∀ x ∈ acc++z.drop k,Enc.Fine x)
 | 0,k,F + 1,acc,hk,hF,ha,hf=>by
  rw [p_law34_ScriptPuts_l1,lt_ff (by omega),List.drop_eq_nil_of_le (by omega),List.append_nil,cond_false]
  exact .inr ⟨_,rfl,hf⟩
 | n + 1,k,F + 1,acc,hk,hF,ha,hf=>by
  have hlt:k < z.length:=by omega
  rw [p_law34_ScriptPuts_l1,lt_tt hlt,cond_true,at_lt hlt,Option.bind_some]
  rcases Enc.light_p z[k] (hz z[k] (List.getElem_mem hlt)) with h | ⟨h,hfine⟩
  ·rw [h,Option.bind_some,cond_false,haw]
   exact .inl rfl
  ·rw [h,Option.bind_some,cond_true,Option.bind_some,app_ok (by rw [List.length_singleton];omega),Option.bind_some,w64_succ (by omega)]
   have hd:acc++z.drop k=(acc++[z[k]])++z.drop (k + 1):=by rw [drop_at hlt,List.append_assoc];rfl
   rw [hd]
   refine puts_l1 haw z hz hn n (k + 1) F _ (by omega) (by omega) (by rw [List.length_append,List.length_singleton,ha]) fun x hx=>?_
   rcases List.mem_append.1 hx with hx | hx
   ·exact hf x hx
   ·rw [List.mem_singleton.1 hx];exact hfine
structure RawOK (s:BrokerStep):Prop where
 kind:0≤s.Kind∧s.Kind≤255
 conn:-9223372036854775808≤s.Conn∧s.Conn≤9223372036854775807
 n:-9223372036854775808≤s.N∧s.N≤9223372036854775807
theorem puts_l2 (haw:p_law34_awake=some true) (z:List BrokerStep) (hz:∀ s ∈ z,RawOK s) (hn:z.length≤1000):∀ (n k F:Nat),k + n=z.length→n < F→(∀ s ∈ z.take k,StpOK s) →
  p_law34_ScriptPuts_l2 z F (k:Int)=some (.inl true)∨(∃ j,p_law34_ScriptPuts_l2 z F (k:Int)=some (.inr j)∧∀ s ∈ z,StpOK s)
 | 0,k,F + 1,hk,hF,ha=>by
  rw [p_law34_ScriptPuts_l2,lt_ff (by omega),cond_false]
  rw [List.take_of_length_le (by omega)] at ha
  exact .inr ⟨_,rfl,ha⟩
 | n + 1,k,F + 1,hk,hF,ha=>by
  have hlt:k < z.length:=by omega
  have hr:=hz z[k] (List.getElem_mem hlt)
  rw [p_law34_ScriptPuts_l2,lt_tt hlt,cond_true,at_lt hlt,Option.bind_some]
  by_cases ht:(300:Int) < (z[k].Text.size:Int)
  ·rw [decide_eq_true ht,cond_true,haw]
   exact .inl rfl
  ·have hs:StpOK z[k]:=⟨hr.kind,hr.conn,hr.n,by omega⟩
   obtain ⟨y,h1,h2,_⟩:=hs.put
   obtain ⟨v,g1,g2⟩:=hs.say
   rw [decide_eq_false ht,cond_false]
   simp only [Option.bind_some,h1,h2,g1,g2,beq_self_eq_true,cond_true,bne_self_eq_false,cond_false]
   rw [w64_succ (by omega)]
   refine puts_l2 haw z hz hn n (k + 1) F (by omega) (by omega) fun s hx=>?_
   rw [List.take_succ_eq_append_getElem hlt] at hx
   rcases List.mem_append.1 hx with hx | hx
   ·exact ha s hx
   ·rw [List.mem_singleton.1 hx];exact hs
theorem ask_same (k:Int) {z:List StanzaStanza} (hz:∀ x ∈ z,Enc.Fine x) (hn:z.length≤1000):∃ y,p_script_Ask k z=some y∧p_ref34_Ask k z=some y:=by
 unfold p_script_Ask p_ref34_Ask
 rw [Enc.enc_p z hz hn,Enc.renc_p z hz hn,Option.bind_some]
 generalize Enc.encR z []=v
 cases (v.2 != (0:Int))
 ·cases decide ((255:Int) < (v.1.size:Int)) <;> exact ⟨_,rfl,rfl⟩
 ·exact ⟨_,rfl,rfl⟩
theorem scriptPuts_pure (haw:p_law34_awake=some true) (l:List BrokerStep) (asks:List StanzaStanza) (k:Int) (hl:∀ s ∈ l,RawOK s) (ha:∀ x ∈ asks,AskOK x) (hk:0≤k∧k≤255):p_law34_ScriptPuts l asks k=some true:=by
 unfold p_law34_ScriptPuts
 by_cases h1:(10:Int) < (l.length:Int)
 ·rw [decide_eq_true h1,cond_true,haw];rfl
 rw [decide_eq_false h1,cond_false]
 by_cases h2:(6:Int) < (asks.length:Int)
 ·rw [decide_eq_true h2,cond_true,haw];rfl
 rw [decide_eq_false h2,cond_false,Option.bind_some]
 simp only
 have e0:=puts_l1 haw asks ha (by omega) asks.length 0 fuel [] (by omega) (by show _ < 100000000;omega) rfl (fun x hx=>nomatch hx)
 have e1:p_law34_ScriptPuts_l1 asks fuel [] (0:Int)=some (.inl true)∨(∃ j,p_law34_ScriptPuts_l1 asks fuel [] (0:Int)=some (.inr ([]++asks.drop 0,j))∧∀ x ∈ []++asks.drop 0,Enc.Fine x):=e0
 rw [List.drop_zero,List.nil_append] at e1
 rcases e1 with e1 | ⟨j,e1,hf⟩
 ·rw [e1];rfl
 rw [e1,Option.bind_some]
 simp only
 have f0:=puts_l2 haw l hl (by omega) l.length 0 fuel (by omega) (by show _ < 100000000;omega) (fun x hx=>by simp at hx)
 have f1:p_law34_ScriptPuts_l2 l fuel (0:Int)=some (.inl true)∨(∃ j,p_law34_ScriptPuts_l2 l fuel (0:Int)=some (.inr j)∧∀ s ∈ l,StpOK s):=f0
 rcases f1 with f1 | ⟨i,f1,hs⟩
 ·rw [f1];rfl
 obtain ⟨a,a1,a2⟩:=join_same hs (by omega)
 obtain ⟨b,b1,b2⟩:=ask_same (w64 k) hf (by omega)
 obtain ⟨c,c1,c2⟩:=name_same hk
 obtain ⟨d,d1,d2⟩:=count_same (z:=l) k (by omega)
 rw [f1,Option.bind_some]
 simp only [steps_p (show l.length≤1000 by omega),Option.bind_some,a1,a2,b1,b2,c1,c2,d1,d2,beq_self_eq_true,Bool.true_and,Bool.and_self,cond_true,haw]
end Go.Proofs.YtpkodpcfafipdaaGreatDoor

