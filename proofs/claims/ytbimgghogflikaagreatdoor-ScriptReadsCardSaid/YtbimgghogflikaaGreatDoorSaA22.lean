/- ScriptReads: for every input the call returns true, and its arguments read as they did. -/
import Derived.Test.YtbimgghogflikaaGreatDoorSaA11
import Derived.HandedShaped
import Derived.Shelf.Vars
import Derived.Lib.SmallJoins
import Derived.Deep.Slices
import Derived.ProofKit
import Derived.Test.YtbimgghogflikaaGreatDoorChecked
import Derived.OpenShut
import Derived.Test.YtbimgghogflikaaGreatDoorSaA12
import Derived.Test.YtbimgghogflikaaGreatDoorSaA18
import Derived.Test.YtbimgghogflikaaGreatDoorSaA17
import Derived.KernelRfl
import Derived.Test.YtbimgghogflikaaGreatDoorSaA21
import Derived.LaidMore
import Derived.LaidLaws
import Derived.Stop.Joined
import Derived.Test.YtbimgghogflikaaGreatDoorRows
import Derived.Test.YtbimgghogflikaaGreatDoorCards
import Derived.Test.YtbimgghogflikaaGreatDoorTie
set_option linter.all false
namespace Go.Proofs.YtbimgghogflikaaGreatDoor
open Go.ChangeShapes Go.WideShapes Go.ChangeAt Go.RowKit
theorem own0:ownKnob Tryz.prog.godebug=none:=by kernel_rfl
theorem laid0:laidOutB Tryz.prog=true:=by kernel_rfl
theorem maxLen_cell (W:World) (h:W.ShapedOpen Tryz.prog):∃ n,W.cell? ⟨0,0,none⟩=some (.int .i64 n) :=
 cell_of_shapedOpen_int (zero:=#[.int .i64 0]) (t:=3) h (of_decide_eq_true (by kernel_rfl)) (by kernel_rfl) (by kernel_rfl) (by kernel_rfl) (by kernel_rfl) (by kernel_rfl)
theorem trodAll_below {H:Type} {enc:TypeId × Value→H} {P:Program} (hl:laidOutB P=true) {W W' : World} (hb:Below W.heap.size W W') :
  ∀ {ts:List TypeId} {vs:List Value} {ds:List (DataW H)} {ps:List MemPlace},(∀ t ∈ ts,P.readableRec t=true∧t < P.types.size)→DataW.TrodAll enc P W 0 (fun _=>true) true ts vs ds ps →
   DataW.TrodAll enc P W' 0 (fun b=>decide (b < W.heap.size)) true ts vs ds ps
 | [],[],[],_,_,h=>h
 | t :: ts,v :: vs,d :: ds,ps,ht,h=>by
  have hlt:=h.lt
  obtain ⟨p,q,h1,h2,rfl⟩:=h
  exact ⟨p,q,Below.trod hl (ht t (by simp)).1 (ht t (by simp)).2 h1 hb (fun x hx=>hlt x (by simp [hx])),trodAll_below hl hb (fun t' h'=>ht t' (by simp [h'])) h2,rfl⟩
theorem rep_one {P:Program} {f:FuncId} {vs:List V} {W:World} {args:Array Value} (hc:CallsV P f vs (.b true)) (hg:∃ n,W.cell? ⟨0,0,none⟩=some (.int .i64 n)) (ha:RepA (fun a=>W.cell? a) noBk args vs) :
  Calls P f args W fun e W'=>e=.returned (.bool true)∧Below W.heap.size W W':=by
 refine (hc (fun a=>W.cell? a) W args hg (fun _ _ h=>h) ha).mono ?_
 rintro e W' ⟨c,m',rfl,hb,_,_,_,hr⟩
 exact ⟨by rw [hr.int],hb⟩
end Go.Proofs.YtbimgghogflikaaGreatDoor

namespace Go.Proofs.YtbimgghogflikaaGreatDoor
open Go.ChangeShapes Go.WideShapes Go.ChangeAt Go.RowKit Go.Joins Go.Deep
section
variable {H : Type} {enc : TypeId × Value → H} {P : Program} {W : World} {spare : Nat → Bool} {held : Bool} {fuel : Nat} {t e : TypeId} {cs : List Value} {y : DataW H × List MemPlace}
abbrev MW (W:World):Mem:=fun a=>W.cell? a
theorem repL_one {m:Mem} {bk:Bks} {c:Value} {v:V} (h:Rep m bk c v):RepL m bk [c] [v] :=
 ⟨rfl,fun j g1 g2=>match j,g1 with
  | 0,_=>h
  | j + 1,g=>absurd g (by simp)⟩
theorem rd_string (ht:P.underlying t=some .string) (h:DataW.trod enc P W 0 spare held fuel t cs=some y):∃ s,RepL (MW W) noBk cs [.lit (.string s)]:=by
 obtain ⟨n,rfl,_⟩:=DataW.trod_string ht h
 exact ⟨n,repL_one (.lit rfl)⟩
theorem repAr1 {m:Mem} {a:Value} {x:V} (h1:Rep m noBk a x):RepA m noBk #[a] [x] :=
 ⟨rfl,fun j g1 g2=>match j,g1 with
  | 0,_=>h1
  | j + 1,g=>absurd g (by simp)⟩
theorem callsO_true {f:FuncId} {args:List V} {m:Option Bool} (h:CallsO P f args V.b m) (hm:m=some true):CallsV P f args (.b true):=h true hm
end
end Go.Proofs.YtbimgghogflikaaGreatDoor

namespace Go.Proofs.YtbimgghogflikaaGreatDoor
open Go.ChangeShapes Go.WideShapes Go.ChangeAt Go.RowKit Go.Joins Go.Deep
end Go.Proofs.YtbimgghogflikaaGreatDoor

namespace Go.Proofs.YtbimgghogflikaaGreatDoor
open Go.RowKit
theorem at_nat {α:Type} (l:List α) (k:Nat):at? l (k:Int)=l[k]?:=by
 unfold at?;rw [if_pos (Int.natCast_nonneg k)];rfl
theorem at_lt {α:Type} {l:List α} {k:Nat} (h:k < l.length):at? l (k:Int)=some l[k]:=by rw [at_nat,List.getElem?_eq_getElem h]
theorem w64_id {r:Int} (h:-9223372036854775808≤r∧r≤9223372036854775807):w64 r=r:=wrap_ok h
theorem w64_succ {k:Nat} (h:k≤1000000):w64 ((k:Int) + 1)=((k + 1:Nat):Int):=by rw [w64_id (by omega)];rfl
theorem lt_tt {a b:Nat} (h:a < b):decide ((a:Int) < (b:Int))=true:=by simpa using h
theorem lt_ff {a b:Nat} (h:b≤a):decide ((a:Int) < (b:Int))=false:=by simpa using h
theorem drop_at {α:Type} {l:List α} {k:Nat} (h:k < l.length):l.drop k=l[k] :: l.drop (k + 1):=List.drop_eq_getElem_cons h
theorem fuel_pos:(1000000:Nat) < fuel:=by decide
theorem app_ok {α:Type} {a b:List α} (h:a.length + b.length≤1000000):app? a b=some (a++b):=if_pos h
theorem byte_at {s:ByteArray} {k:Nat} (h:k < s.size):byte? s (k:Int)=some (s[k].toNat:Int):=by
 unfold byte?
 rw [dif_pos ⟨Int.natCast_nonneg k,h⟩];rfl
theorem tl_data (s:ByteArray):s.toList=s.data.toList:=by rw [ByteArray.toList_eq]
def eqT (a b:ByteArray):Bool:=a.toList == b.toList
theorem eqT_refl (a:ByteArray):(a.toList == a.toList)=true:=by simp
theorem eqT_iff {a b:ByteArray}:(a.toList == b.toList)=true ↔ a=b:=by
 rw [beq_iff_eq,tl_data,tl_data]
 exact ⟨fun h=>by cases a;cases b;congr 1;exact Array.ext' h,fun h=>by rw [h]⟩
end Go.Proofs.YtbimgghogflikaaGreatDoor

namespace Go.Proofs.YtbimgghogflikaaGreatDoor
open Go.RowKit
def fold8 (N:Nat) (l:List UInt8):Nat:=l.foldl (fun n b=>n * 256 + b.toNat) N
theorem or8 (a:Nat) (b:UInt8) (h:a < 281474976710656):orI .i64 (shlI .i64 (a:Int) (8:Int)) (w64 (b.toNat:Int))=((a * 256 + b.toNat:Nat):Int):=by
 have hb:b.toNat < 256:=b.toNat_lt
 have hs:shlI .i64 (a:Int) (8:Int)=((a * 256:Nat):Int):=by
  unfold shlI
  rw [show min (8:Int).toNat IntKind.i64.bits=8 by decide,wrap_ok (by omega)];omega
 rw [hs,w64_id (by omega)]
 have e:(BitVec.ofInt 64 ((a * 256:Nat):Int) ||| BitVec.ofInt 64 ((b.toNat:Nat):Int)).toNat=a * 256 + b.toNat:=by
  rw [BitVec.toNat_or,BitVec.ofInt_natCast,BitVec.ofInt_natCast,BitVec.toNat_ofNat,BitVec.toNat_ofNat,Nat.mod_eq_of_lt (by omega),Nat.mod_eq_of_lt (by omega)]
  have:=Nat.shiftLeft_add_eq_or_of_lt (i:=8) (by omega:b.toNat < 2 ^ 8) a
  rw [Nat.shiftLeft_eq] at this
  exact this.symm
 show IntKind.i64.wrap ((BitVec.ofInt 64 ((a * 256:Nat):Int) ||| BitVec.ofInt 64 ((b.toNat:Nat):Int)).toNat:Int)=_
 rw [e]
 exact wrap_ok (by omega)
theorem bytesI_at {s:ByteArray} {k:Nat} (h:k < s.data.toList.length):at? (bytesI s) (k:Int)=some ((s.data.toList[k]).toNat:Int):=by
 unfold bytesI
 rw [at_nat,List.getElem?_map,List.getElem?_eq_getElem h];rfl
theorem num_l (s:ByteArray) (hl:s.data.toList.length≤6):∀ (n k F N:Nat),k + n=s.data.toList.length→n < F→N < 256 ^ k→p_octet_Num_l1 (bytesI s) ((bytesI s).length:Int) F (N:Int) (k:Int)=some (((fold8 N (s.data.toList.drop k):Nat):Int),((bytesI s).length:Int))
 | 0,k,F + 1,N,hk,hF,hN=>by
  have e:(bytesI s).length=s.data.toList.length:=by unfold bytesI;simp
  rw [p_octet_Num_l1,lt_ff (by omega),show k=s.data.toList.length by omega,List.drop_length,e];rfl
 | n + 1,k,F + 1,N,hk,hF,hN=>by
  have e:(bytesI s).length=s.data.toList.length:=by unfold bytesI;simp
  have hlt:k < s.data.toList.length:=by omega
  have hb:(s.data.toList[k]).toNat < 256:=(s.data.toList[k]).toNat_lt
  have h48:N < 281474976710656:=Nat.lt_of_lt_of_le hN (by
   have:(256:Nat) ^ k≤256 ^ 6:=Nat.pow_le_pow_right (by decide) (by omega)
   have h6:(256:Nat) ^ 6=281474976710656:=by decide
   omega)
  rw [p_octet_Num_l1,lt_tt (by omega),cond_true,bytesI_at hlt,Option.bind_some,or8 _ _ h48,w64_succ (by omega),num_l s hl n (k + 1) F _ (by omega) (by omega) (by rw [Nat.pow_succ];omega),drop_at hlt]
  rfl
theorem rnum_l (s:ByteArray) (bad:Int) (hs:s.data.toList.length≤1000) (z:Nat):∀ (n j at_ F N:Nat),j + n=z→z≤6→at_ + n≤s.data.toList.length→n < F→N < 256 ^ j→p_ref01_Num_l1 (z:Int) F (N:Int) (j:Int) ⟨s,(at_:Int),bad⟩=some (((fold8 N ((s.data.toList.drop at_).take n):Nat):Int),(z:Int),⟨s,((at_ + n:Nat):Int),bad⟩)
 | 0,j,at_,F + 1,N,hj,hz,ha,hF,hN=>by
  rw [p_ref01_Num_l1,lt_ff (by omega),show j=z by omega]
  rw [List.take_zero];rfl
 | n + 1,j,at_,F + 1,N,hj,hz,ha,hF,hN=>by
  have hlt:at_ < s.data.toList.length:=by omega
  have hsz:at_ < s.size:=by simpa using hlt
  have hb:(s.data.toList[at_]).toNat < 256:=(s.data.toList[at_]).toNat_lt
  have h48:N < 281474976710656:=Nat.lt_of_lt_of_le hN (by
   have:(256:Nat) ^ j≤256 ^ 6:=Nat.pow_le_pow_right (by decide) (by omega)
   have h6:(256:Nat) ^ 6=281474976710656:=by decide
   omega)
  have hbyte:byte? s (at_:Int)=some ((s.data.toList[at_]).toNat:Int):=by
   rw [byte_at hsz];simp [ByteArray.getElem_eq_getElem_data]
  rw [p_ref01_Num_l1,lt_tt (by omega),cond_true]
  show ((byte? s (at_:Int)).bind _)=_
  have e1:w64 (w64 ((256:Int) * (N:Int)) + w64 ((s.data.toList[at_]).toNat:Int))=((N * 256 + (s.data.toList[at_]).toNat:Nat):Int):=by
   rw [w64_id (r:=(256:Int) * (N:Int)) (by omega),w64_id (r:=((s.data.toList[at_]).toNat:Int)) (by omega),w64_id (by omega)];omega
  rw [hbyte,Option.bind_some,e1,w64_succ (k:=j) (by omega)]
  show p_ref01_Num_l1 (z:Int) F _ _ ⟨s,w64 ((at_:Int) + 1),bad⟩=_
  rw [w64_succ (by omega),rnum_l s bad hs z n (j + 1) (at_ + 1) F _ (by omega) hz (by omega) (by omega) (by rw [Nat.pow_succ];omega),drop_at hlt]
  rw [show at_ + 1 + n=at_ + (n + 1) by omega,List.take_succ_cons]
  rfl
theorem sub_list {s:ByteArray} {a n:Nat} (h:a + n≤s.data.toList.length):∃ x:ByteArray,sub? s (some (a:Int)) (some ((a + n:Nat):Int))=some x∧x.data.toList=(s.data.toList.drop a).take n:=by
 have hs:s.data.toList.length=s.size:=by simp
 refine ⟨s.extract a (a + n),?_,?_⟩
 ·unfold sub?
  simp only [Option.getD_some]
  rw [if_pos (by omega)];rfl
 ·rw [ByteArray.data_extract,Array.toList_extract,List.extract_eq_take_drop,Nat.add_sub_cancel_left]
theorem fold8_lt:∀ (l:List UInt8) (N k:Nat),N < 256 ^ k→fold8 N l < 256 ^ (k + l.length)
 | [],N,k,h=>by simpa [fold8] using h
 | b :: l,N,k,h=>by
  have hb:b.toNat < 256:=b.toNat_lt
  have:=fold8_lt l (N * 256 + b.toNat) (k + 1) (by rw [Nat.pow_succ];omega)
  rw [List.length_cons,show k + (l.length + 1)=k + 1 + l.length by omega]
  exact this
structure RdOk (r:OctetRead):Prop where
 size:r.S.data.toList.length≤1000
theorem fault_cases (r:OctetRead):∃ e,p_octet_Read_fault r=some e∧(e≠0∨(r.Bad=0∧∃ a:Nat,r.At=a∧a≤r.S.data.toList.length)):=by
 have hs:r.S.data.toList.length=r.S.size:=by simp
 unfold p_octet_Read_fault
 by_cases h:r.Bad=0
 ·rw [show (r.Bad == 0)=true by simpa using h,cond_true]
  by_cases h1:r.At < 0
  ·rw [show decide (r.At < 0)=true by simpa using h1];exact ⟨_,rfl,.inl (by decide)⟩
  ·rw [show decide (r.At < 0)=false by simpa using h1,cond_false]
   by_cases h2:(r.S.size:Int) < r.At
   ·rw [show decide ((r.S.size:Int) < r.At)=true by simpa using h2];exact ⟨_,rfl,.inl (by decide)⟩
   ·rw [show decide ((r.S.size:Int) < r.At)=false by simpa using h2]
    exact ⟨_,rfl,.inr ⟨h,r.At.toNat,by omega,by omega⟩⟩
 ·rw [show (r.Bad == 0)=false by simpa using h];exact ⟨_,rfl,.inl h⟩
theorem left_p {r:OctetRead} (hr:RdOk r):∃ n:Int,p_octet_Left r=some n∧p_ref01_Left r=some n∧∀ e,p_octet_Read_fault r=some e→e=0→n=(r.S.size:Int) - r.At:=by
 have h1:=hr.size
 have hs:r.S.data.toList.length=r.S.size:=by simp
 obtain ⟨e,he,hc⟩:=fault_cases r
 have e2:p_ref01_bad r=some e:=he
 unfold p_octet_Left p_ref01_Left
 rw [he,e2]
 simp only [Option.bind_some]
 by_cases h:e=0
 ·rw [show (e != 0)=false by simpa using h,cond_false]
  rcases hc with hc | ⟨_,a,ha,hl⟩
  ·exact absurd h hc
  ·refine ⟨_,rfl,rfl,fun _ _ _=>?_⟩
   rw [w64_id (by omega)]
 ·rw [show (e != 0)=true by simpa using h,cond_true]
  exact ⟨_,rfl,rfl,fun e' he' h0=>by
   cases he'
   exact absurd h0 h⟩
theorem num_p {r:OctetRead} (hr:RdOk r) {w:Nat} (hw:w=1∨w=2∨w=4∨w=6):∃ (r' : OctetRead) (n:Nat),p_octet_Num r (w:Int)=some (r',(n:Int))∧p_ref01_Num r (w:Int)=some (r',(n:Int))∧r'.S=r.S∧n < 256 ^ w∧(r'.Bad=0→∃ a:Nat,r'.At=(a:Int)∧a≤r'.S.data.toList.length):=by
 have hsz:=hr.size
 have hs:r.S.data.toList.length=r.S.size:=by simp
 have hp0:0 < 256 ^ w:=Nat.pos_of_ne_zero (by rcases hw with rfl | rfl | rfl | rfl <;> decide)
 obtain ⟨e,he,hc⟩:=fault_cases r
 have e2:p_ref01_bad r=some e:=he
 obtain ⟨lf,hl1,hl2,hl3⟩:=left_p hr
 unfold p_octet_Num p_ref01_Num
 rw [he,e2]
 simp only [Option.bind_some]
 by_cases h:e=0
 ·rw [show (e != 0)=false by simpa using h,cond_false,cond_false]
  have w1:p_octet_wide (w:Int)=some true:=by rcases hw with rfl | rfl | rfl | rfl <;> kernel_rfl
  have w2:p_ref01_wide (w:Int)=some true:=by rcases hw with rfl | rfl | rfl | rfl <;> kernel_rfl
  rw [w1,w2,hl1,hl2]
  simp only [Option.bind_some,cond_true]
  rcases hc with hc | ⟨hb,a,ha,hal⟩
  ·exact absurd h hc
  have hlf:=hl3 e he h
  by_cases h2:lf < (w:Int)
  ·rw [show decide (lf < (w:Int))=true by simpa using h2,cond_true,cond_true]
   exact ⟨_,0,rfl,rfl,rfl,hp0,fun h=>by have h3:(3:Int)=0:=h;omega⟩
  ·rw [show decide (lf < (w:Int))=false by simpa using h2,cond_false,cond_false]
   have haw:a + w≤r.S.data.toList.length:=by omega
   have hw6:w≤6:=by omega
   obtain ⟨x,hx1,hx2⟩:=sub_list haw
   have hxl:x.data.toList.length=w:=by rw [hx2,List.length_take,List.length_drop];omega
   rw [ha,w64_id (by omega),show (a:Int) + (w:Int)=((a + w:Nat):Int) by omega,hx1,Option.bind_some]
   have n1:=num_l x (by omega) w 0 fuel 0 (by omega) (by have:=fuel_pos;omega) (by decide)
   have n2:=rnum_l r.S r.Bad hsz w w 0 a fuel 0 (by omega) hw6 haw (by have:=fuel_pos;omega) (by decide)
   have er:(⟨r.S,(a:Int),r.Bad⟩ : OctetRead)=r:=by cases r;simp at ha;simp [ha]
   rw [er] at n2
   rw [List.drop_zero,hx2] at n1
   have z0:((0:Nat):Int)=0:=rfl
   rw [z0] at n1 n2
   rw [n1,n2]
   refine ⟨_,fold8 0 ((r.S.data.toList.drop a).take w),rfl,rfl,rfl,?_,fun _=>⟨a + w,rfl,haw⟩⟩
   have:=fold8_lt ((r.S.data.toList.drop a).take w) 0 0 (by decide)
   rw [Nat.zero_add,List.length_take,List.length_drop,Nat.min_eq_left (by omega)] at this
   exact this
 ·rw [show (e != 0)=true by simpa using h]
  exact ⟨_,0,rfl,rfl,rfl,hp0,fun h'=>absurd h' h⟩
theorem fault_ok {r:OctetRead} (h:r.Bad=0) {a:Nat} (ha:r.At=(a:Int)) (hl:a≤r.S.data.toList.length):p_octet_Read_fault r=some 0:=by
 have hs:r.S.data.toList.length=r.S.size:=by simp
 unfold p_octet_Read_fault
 rw [h,ha,show decide ((a:Int) < 0)=false by simp,show decide ((r.S.size:Int) < (a:Int))=false by simp;omega]
 rfl
theorem stext_r {r:OctetRead} (hr:RdOk r) (m:Int):∃ (r' : OctetRead) (s:ByteArray),p_octet_Text r m=some (r',s)∧p_ref01_Text r m=some (r',s)∧r'.S=r.S∧(r'.Bad=0→∃ a:Nat,r'.At=(a:Int)∧a≤r'.S.data.toList.length):=by
 have hsz:=hr.size
 obtain ⟨r1,n,h1,h2,h3,h4,h5⟩:=num_p hr (w:=1) (.inl rfl)
 have h1' : p_octet_Num r 1=some (r1,(n:Int)):=h1
 have h2' : p_ref01_Num r 1=some (r1,(n:Int)):=h2
 have hr1:RdOk r1:=⟨by rw [h3];exact hsz⟩
 obtain ⟨lf,l1,l2,l3⟩:=left_p hr1
 unfold p_octet_Text p_ref01_Text
 rw [h1',h2']
 simp only [Option.bind_some]
 by_cases hb:r1.Bad=0
 ·rw [show (r1.Bad != 0)=false by simpa using hb,cond_false,cond_false]
  obtain ⟨a,ha,hal⟩:=h5 hb
  have hf:=fault_ok hb ha hal
  have hlf:=l3 0 hf rfl
  have hs1:r1.S.data.toList.length=r1.S.size:=by simp
  by_cases hm:m < (n:Int)
  ·rw [show decide (m < (n:Int))=true by simpa using hm,cond_true,cond_true]
   exact ⟨_,_,rfl,rfl,rfl,fun h=>by first | (have h3:(5:Int)=0:=h;omega) | (have h3:(3:Int)=0:=h;omega)⟩
  ·rw [show decide (m < (n:Int))=false by simpa using hm,cond_false,cond_false,l1,l2]
   simp only [Option.bind_some]
   by_cases hn:lf < (n:Int)
   ·rw [show decide (lf < (n:Int))=true by simpa using hn,cond_true,cond_true]
    exact ⟨_,_,rfl,rfl,rfl,fun h=>by first | (have h3:(5:Int)=0:=h;omega) | (have h3:(3:Int)=0:=h;omega)⟩
   ·rw [show decide (lf < (n:Int))=false by simpa using hn,cond_false,cond_false]
    have hlen:a + n≤r1.S.data.toList.length:=by omega
    obtain ⟨x,hx1,hx2⟩:=sub_list hlen
    have hxl:x.size=n:=by
     have:x.data.toList.length=n:=by rw [hx2,List.length_take,List.length_drop];omega
     simpa using this
    rw [h3] at hx1
    rw [ha,h3,w64_id (by rw [h3] at hlen;omega),show (a:Int) + (n:Int)=((a + n:Nat):Int) by omega,hx1]
    exact ⟨_,_,rfl,rfl,rfl,fun _=>⟨a + n,rfl,by rw [h3] at hlen;exact hlen⟩⟩
 ·rw [show (r1.Bad != 0)=true by simpa using hb,cond_true,cond_true]
  exact ⟨_,_,rfl,rfl,h3,fun h=>absurd h hb⟩

theorem getl_c {z:ByteArray} {k F:Nat} (hk:k < z.size) (hz:z.size≤10) (h:byte? z (k:Int)=some 99) {s:BrokerStep} {r r' : OctetRead} {n:Int} (hn:p_ref01_Num r 1=some (r',n)):p_ref34_Get_l1 z (F + 1) (k:Int) s r=p_ref34_Get_l1 z F ((k + 1:Nat):Int) ⟨s.Kind,n,s.N,s.Text⟩ r':=by
 rw [p_ref34_Get_l1,decide_eq_true (show (k:Int) < (z.size:Int) by omega),h]
 simp only [cond_true,Option.bind_some]
 rw [show ((99:Int) == 99)=true from rfl,cond_true,hn,Option.bind_some,w64_succ (by omega)]
theorem getl_t {z:ByteArray} {k F:Nat} (hk:k < z.size) (hz:z.size≤10) (h:byte? z (k:Int)=some 116) {s:BrokerStep} {r r' : OctetRead} {t:ByteArray} (hn:p_ref01_Text r 255=some (r',t)):p_ref34_Get_l1 z (F + 1) (k:Int) s r=p_ref34_Get_l1 z F ((k + 1:Nat):Int) ⟨s.Kind,s.Conn,s.N,t⟩ r':=by
 rw [p_ref34_Get_l1,decide_eq_true (show (k:Int) < (z.size:Int) by omega),h]
 simp only [cond_true,Option.bind_some]
 rw [show ((116:Int) == 99)=false from rfl,cond_false,show ((116:Int) == 116)=true from rfl,cond_true,hn,Option.bind_some,w64_succ (by omega)]
theorem getl_n {z:ByteArray} {k F w:Nat} (hw:w=2∨w=4∨w=6) (hk:k < z.size) (hz:z.size≤10) (h:byte? z (k:Int)=some ((48 + w:Nat):Int)) {s:BrokerStep} {r r' : OctetRead} {n:Int} (hn:p_ref01_Num r (w:Int)=some (r',n)):p_ref34_Get_l1 z (F + 1) (k:Int) s r=p_ref34_Get_l1 z F ((k + 1:Nat):Int) ⟨s.Kind,s.Conn,n,s.Text⟩ r':=by
 have e1:w64 (IntKind.wrap .u8 (((48 + w:Nat):Int) - 48))=(w:Int):=by rcases hw with rfl | rfl | rfl <;> kernel_rfl
 have e2:(((48 + w:Nat):Int) == 99)=false:=beq_eq_false_iff_ne.2 (by omega)
 have e3:(((48 + w:Nat):Int) == 116)=false:=beq_eq_false_iff_ne.2 (by omega)
 rw [p_ref34_Get_l1,decide_eq_true (show (k:Int) < (z.size:Int) by omega),h]
 simp only [cond_true,Option.bind_some]
 rw [e2,e3,cond_false,cond_false,e1,hn,Option.bind_some,w64_succ (by omega)]
theorem getl_end {z:ByteArray} {k F:Nat} (hk:k=z.size) {s:BrokerStep} {r:OctetRead}:p_ref34_Get_l1 z (F + 1) (k:Int) s r=some ((k:Int),s,r):=by
 rw [p_ref34_Get_l1,decide_eq_false (show ¬ (k:Int) < (z.size:Int) by omega)];rfl
def rd0 (s:ByteArray):OctetRead:=⟨s,0,0⟩
def endG (k c n:Int) (t:ByteArray) (r:OctetRead):BrokerStep × Int × Int :=
 if r.Bad≠0 then (⟨0,0,0,⟨#[]⟩⟩,0,r.Bad) else (⟨k,c,n,t⟩,w64 (1 + r.At),0)
theorem endG_p (k c n:Int) (t:ByteArray) (r:OctetRead):(bif (r.Bad != (0:Int)) then some ((BrokerStep.mk (0:Int) (0:Int) (0:Int) (⟨#[]⟩ : ByteArray)),(0:Int),r.Bad) else some ((BrokerStep.mk k c n t),w64 ((1:Int) + r.At),(0:Int)))=some (endG k c n t r):=by
 unfold endG
 by_cases h:r.Bad=0
 ·rw [show (r.Bad != 0)=false by simpa using h,if_neg (by simpa using h)];rfl
 ·rw [show (r.Bad != 0)=true by simpa using h,if_pos h];rfl
theorem endG_at {k c n:Int} {t s:ByteArray} {r:OctetRead} (hS:r.S=s) (hs:s.data.toList.length≤999) (h:r.Bad=0→∃ a:Nat,r.At=(a:Int)∧a≤r.S.data.toList.length) (h0:(endG k c n t r).2.2=0):∃ a:Nat,(endG k c n t r).2.1=((a + 1:Nat):Int)∧a≤s.data.toList.length:=by
 unfold endG at h0 ⊢
 by_cases hb:r.Bad=0
 ·rw [if_neg (by simpa using hb)]
  obtain ⟨a,ha,hl⟩:=h hb
  rw [hS] at hl
  refine ⟨a,?_,hl⟩
  show w64 (1 + r.At)=_
  rw [ha,w64_id (by omega)];omega
 ·rw [if_pos hb] at h0;exact absurd h0 hb
theorem fuel4:∃ F,fuel=F + 4:=⟨99999996,rfl⟩
theorem get_p {b:ByteArray} (hb:b.size≤1000):∃ x,p_script_Get b=some x∧p_ref34_Get b=some x∧(x.2.2=0→∃ a:Nat,x.2.1=((a + 1:Nat):Int)∧a + 1≤b.size):=by
 unfold p_script_Get p_ref34_Get
 cases he:(b.toList == (⟨#[]⟩ : ByteArray).toList) with
 | true=>exact ⟨_,rfl,rfl,fun h=>by have h3:(3:Int)=0:=h;omega⟩
 | false =>
  have hpos:0 < b.size:=by
   rcases Nat.eq_zero_or_pos b.size with h | h
   ·exfalso
    have:b=⟨#[]⟩:=by
     obtain ⟨d⟩:=b
     congr 1
     exact Array.eq_empty_of_size_eq_zero h
    rw [this] at he
    have e0:((⟨#[]⟩ : ByteArray).toList == (⟨#[]⟩ : ByteArray).toList)=true:=eqT_refl _
    rw [e0] at he;cases he
   ·exact h
  have hc0:=byte_at hpos
  have hc:byte? b (0:Int)=some ((b[0]).toNat:Int):=hc0
  obtain ⟨s,hs1,hs2⟩ : ∃ s:ByteArray,sub? b (some (1:Int)) none=some s∧s.data.toList.length=b.size - 1:=by
   refine ⟨b.extract 1 b.size,?_,?_⟩
   ·unfold sub?
    simp only [Option.getD_some,Option.getD_none]
    rw [if_pos (by omega)];rfl
   ·have:(b.extract 1 b.size).size=b.size - 1:=by simp
    simpa using this
  have hr0:RdOk (rd0 s):=⟨by show s.data.toList.length≤1000;omega⟩
  have hs9:s.data.toList.length≤999:=by omega
  have h5:=(b[0]).toNat_lt
  generalize (b[0]).toNat=c at hc h5
  obtain ⟨F,hF⟩:=fuel4
  obtain ⟨r1,n1,a1,a2,a3,a4,a5⟩:=num_p hr0 (w:=1) (.inl rfl)
  have hr1:RdOk r1:=⟨by rw [a3];exact hr0.size⟩
  have a1' : p_octet_Num (rd0 s) (1:Int)=_:=a1
  have a2' : p_ref01_Num (rd0 s) (1:Int)=_:=a2
  obtain ⟨r2,n2,b1,b2,b3,_,b5⟩:=num_p hr1 (w:=2) (.inr (.inl rfl))
  obtain ⟨r4,n4,c1,c2,c3,_,c5⟩:=num_p hr1 (w:=4) (.inr (.inr (.inl rfl)))
  obtain ⟨r6,n6,d1,d2,d3,_,d5⟩:=num_p hr0 (w:=6) (.inr (.inr (.inr rfl)))
  obtain ⟨rt,t,t1,t2,t3,t5⟩:=stext_r hr1 255
  have b1' : p_octet_Num r1 (2:Int)=_:=b1
  have c1' : p_octet_Num r1 (4:Int)=_:=c1
  have d1' : p_octet_Num (rd0 s) (6:Int)=_:=d1
  have at_:∀ {k c n:Int} {t:ByteArray} {r:OctetRead},r.S=s→(r.Bad=0→∃ a:Nat,r.At=(a:Int)∧a≤r.S.data.toList.length)→((endG k c n t r).2.2=0→∃ a:Nat,(endG k c n t r).2.1=((a + 1:Nat):Int)∧a + 1≤b.size):=fun hS h h0=>by
   obtain ⟨a,e1,e2⟩:=endG_at hS hs9 h h0
   have e3:a + 1≤b.size:=Nat.le_trans (Nat.succ_le_succ e2) (by rw [hs2];exact Nat.le_of_eq (Nat.sub_add_cancel hpos))
   exact ⟨a,e1,e3⟩
  have o1:p_octet_Open s=some (rd0 s):=rfl
  have o2:p_ref01_Open s=some (rd0 s):=rfl
  simp only [cond_false]
  rw [hc]
  simp only [Option.bind_some]
  rw [hs1]
  simp only [Option.bind_some]
  rw [o1,o2]
  simp only [Option.bind_some]
  have hk:c=0∨c=1∨c=2∨c=3∨c=4∨c=5∨6≤c:=by omega
  rcases hk with rfl | rfl | rfl | rfl | rfl | rfl | hk
  ·have e:p_ref34_Get_l1 (⟨#[99,50]⟩ : ByteArray) fuel (0:Int) (BrokerStep.mk ((0:Nat):Int) 0 0 ⟨#[]⟩) (rd0 s)=some (((2:Nat):Int),⟨((0:Nat):Int),(n1:Int),(n2:Int),⟨#[]⟩⟩,r2):=by
    rw [hF]
    exact (getl_c (k:=0) (by decide) (by decide) rfl a2').trans ((getl_n (k:=1) (w:=2) (.inl rfl) (by decide) (by decide) rfl b2).trans (getl_end (k:=2) rfl))
   have x1:p_script_shapes ((0:Nat):Int)=some (ScriptShape.mk (⟨#[99,111,110,110,101,99,116]⟩ : ByteArray) true (2:Int) false,true):=rfl
   have x2:p_ref34_has ((0:Nat):Int)=some (⟨#[99,50]⟩ : ByteArray):=rfl
   rw [x1,x2,show decide ((5:Int) < ((0:Nat):Int))=false from rfl]
   simp only [Option.bind_some,cond_true,cond_false,a1',e,show decide ((0:Int) < 2)=true from rfl,b1',endG_p]
   exact ⟨_,rfl,rfl,at_ (b3.trans a3) b5⟩
  ·have e:p_ref34_Get_l1 (⟨#[99,116]⟩ : ByteArray) fuel (0:Int) (BrokerStep.mk ((1:Nat):Int) 0 0 ⟨#[]⟩) (rd0 s)=some (((2:Nat):Int),⟨((1:Nat):Int),(n1:Int),0,t⟩,rt):=by
    rw [hF]
    exact (getl_c (k:=0) (by decide) (by decide) rfl a2').trans ((getl_t (k:=1) (by decide) (by decide) rfl t2).trans (getl_end (k:=2) rfl))
   have x1:p_script_shapes ((1:Nat):Int)=some (ScriptShape.mk (⟨#[98,121,116,101,115]⟩ : ByteArray) true (0:Int) true,true):=rfl
   have x2:p_ref34_has ((1:Nat):Int)=some (⟨#[99,116]⟩ : ByteArray):=rfl
   rw [x1,x2,show decide ((5:Int) < ((1:Nat):Int))=false from rfl]
   simp only [Option.bind_some,cond_true,cond_false,a1',e,show decide ((0:Int) < 0)=false from rfl,t1,endG_p]
   exact ⟨_,rfl,rfl,at_ (t3.trans a3) t5⟩
  ·have e:p_ref34_Get_l1 (⟨#[99]⟩ : ByteArray) fuel (0:Int) (BrokerStep.mk ((2:Nat):Int) 0 0 ⟨#[]⟩) (rd0 s)=some (((1:Nat):Int),⟨((2:Nat):Int),(n1:Int),0,⟨#[]⟩⟩,r1):=by
    rw [hF]
    exact (getl_c (k:=0) (by decide) (by decide) rfl a2').trans (getl_end (k:=1) rfl)
   have x1:p_script_shapes ((2:Nat):Int)=some (ScriptShape.mk (⟨#[99,108,111,115,101]⟩ : ByteArray) true (0:Int) false,true):=rfl
   have x2:p_ref34_has ((2:Nat):Int)=some (⟨#[99]⟩ : ByteArray):=rfl
   rw [x1,x2,show decide ((5:Int) < ((2:Nat):Int))=false from rfl]
   simp only [Option.bind_some,cond_true,cond_false,a1',e,show decide ((0:Int) < 0)=false from rfl,endG_p]
   exact ⟨_,rfl,rfl,at_ a3 a5⟩
  ·have e:p_ref34_Get_l1 (⟨#[]⟩ : ByteArray) fuel (0:Int) (BrokerStep.mk ((3:Nat):Int) 0 0 ⟨#[]⟩) (rd0 s)=some (((0:Nat):Int),⟨((3:Nat):Int),0,0,⟨#[]⟩⟩,rd0 s):=by
    rw [hF]
    exact getl_end (k:=0) rfl
   have x1:p_script_shapes ((3:Nat):Int)=some (ScriptShape.mk (⟨#[116,105,99,107]⟩ : ByteArray) false (0:Int) false,true):=rfl
   have x2:p_ref34_has ((3:Nat):Int)=some (⟨#[]⟩ : ByteArray):=rfl
   rw [x1,x2,show decide ((5:Int) < ((3:Nat):Int))=false from rfl]
   simp only [Option.bind_some,cond_true,cond_false,e,show decide ((0:Int) < 0)=false from rfl,endG_p]
   exact ⟨_,rfl,rfl,at_ rfl (fun _=>⟨0,rfl,Nat.zero_le _⟩)⟩
  ·have e:p_ref34_Get_l1 (⟨#[99,52]⟩ : ByteArray) fuel (0:Int) (BrokerStep.mk ((4:Nat):Int) 0 0 ⟨#[]⟩) (rd0 s)=some (((2:Nat):Int),⟨((4:Nat):Int),(n1:Int),(n4:Int),⟨#[]⟩⟩,r4):=by
    rw [hF]
    exact (getl_c (k:=0) (by decide) (by decide) rfl a2').trans ((getl_n (k:=1) (w:=4) (.inr (.inl rfl)) (by decide) (by decide) rfl c2).trans (getl_end (k:=2) rfl))
   have x1:p_script_shapes ((4:Nat):Int)=some (ScriptShape.mk (⟨#[99,114,101,100,105,116]⟩ : ByteArray) true (4:Int) false,true):=rfl
   have x2:p_ref34_has ((4:Nat):Int)=some (⟨#[99,52]⟩ : ByteArray):=rfl
   rw [x1,x2,show decide ((5:Int) < ((4:Nat):Int))=false from rfl]
   simp only [Option.bind_some,cond_true,cond_false,a1',e,show decide ((0:Int) < 4)=true from rfl,c1',endG_p]
   exact ⟨_,rfl,rfl,at_ (c3.trans a3) c5⟩
  ·have e:p_ref34_Get_l1 (⟨#[54]⟩ : ByteArray) fuel (0:Int) (BrokerStep.mk ((5:Nat):Int) 0 0 ⟨#[]⟩) (rd0 s)=some (((1:Nat):Int),⟨((5:Nat):Int),0,(n6:Int),⟨#[]⟩⟩,r6):=by
    rw [hF]
    exact (getl_n (k:=0) (w:=6) (.inr (.inr rfl)) (by decide) (by decide) rfl d2).trans (getl_end (k:=1) rfl)
   have x1:p_script_shapes ((5:Nat):Int)=some (ScriptShape.mk (⟨#[100,114,97,119]⟩ : ByteArray) false (6:Int) false,true):=rfl
   have x2:p_ref34_has ((5:Nat):Int)=some (⟨#[54]⟩ : ByteArray):=rfl
   rw [x1,x2,show decide ((5:Int) < ((5:Nat):Int))=false from rfl]
   simp only [Option.bind_some,cond_true,cond_false,e,show decide ((0:Int) < 6)=true from rfl,d1',endG_p]
   exact ⟨_,rfl,rfl,at_ d3 d5⟩
  ·have x1:p_script_shapes (c:Int)=some (ScriptShape.mk (⟨#[]⟩ : ByteArray) false (0:Int) false,false):=by
    unfold p_script_shapes
    rw [show ((c:Int) == 0)=false from beq_eq_false_iff_ne.2 (by omega),show ((c:Int) == 1)=false from beq_eq_false_iff_ne.2 (by omega),show ((c:Int) == 2)=false from beq_eq_false_iff_ne.2 (by omega),show ((c:Int) == 3)=false from beq_eq_false_iff_ne.2 (by omega),show ((c:Int) == 4)=false from beq_eq_false_iff_ne.2 (by omega),show ((c:Int) == 5)=false from beq_eq_false_iff_ne.2 (by omega)];rfl
   rw [x1,decide_eq_true (show (5:Int) < (c:Int) by omega)]
   exact ⟨_,rfl,rfl,fun h=>by have h3:(12:Int)=0:=h;omega⟩
end Go.Proofs.YtbimgghogflikaaGreatDoor

namespace Go.Proofs.YtbimgghogflikaaGreatDoor
open Go.RowKit
def suf (b:ByteArray) (k:Nat):ByteArray:=b.extract k b.size
theorem suf_size (b:ByteArray) (k:Nat):(suf b k).size=b.size - k:=by unfold suf;simp
theorem ba_ext {x y:ByteArray} (h:x.data.toList=y.data.toList):x=y:=by
 obtain ⟨x⟩:=x;obtain ⟨y⟩:=y
 congr 1
 exact Array.toList_inj.1 h
theorem suf_list (b:ByteArray) (k:Nat):(suf b k).data.toList=b.data.toList.drop k:=by
 unfold suf
 rw [ByteArray.data_extract,Array.toList_extract,List.extract_eq_take_drop]
 have:b.size=b.data.toList.length:=by simp
 rw [this,List.take_of_length_le (by simp)]
theorem sub_suf {b:ByteArray} {k:Nat} (h:k≤b.size):sub? b (some (k:Int)) none=some (suf b k):=by
 unfold sub? suf
 simp only [Option.getD_some,Option.getD_none]
 rw [if_pos (by omega)];rfl
theorem suf_suf (b:ByteArray) (k n:Nat):suf (suf b k) n=suf b (k + n):=ba_ext (by rw [suf_list,suf_list,suf_list,List.drop_drop])
theorem suf_0 (b:ByteArray):suf b 0=b:=ba_ext (by rw [suf_list,List.drop_zero])
theorem emptyB {b:ByteArray}:(b.toList == (⟨#[]⟩ : ByteArray).toList)=decide (b.size=0):=by
 rw [Bool.eq_iff_iff,eqT_iff,decide_eq_true_eq]
 constructor
 ·rintro rfl;rfl
 ·intro h
  obtain ⟨d⟩:=b
  congr 1
  exact Array.eq_empty_of_size_eq_zero h
theorem all_l (b:ByteArray) (hb:b.size≤1000):∀ (n k F G:Nat) (acc:List BrokerStep),b.size - k≤n→k≤b.size→n < F→n < G→acc.length≤k →
  (∃ y l,p_script_All_l1 F (suf b k) acc=some (.inl (y,l))∧p_ref34_All_l1 b G acc (k:Int)=some (.inr (l,(b.size:Int)))∧l.length≤1000)∨(∃ e,p_script_All_l1 F (suf b k) acc=some (.inr ([],e))∧p_ref34_All_l1 b G acc (k:Int)=some (.inl ([],e)))
 | n,k,F + 1,G + 1,acc,hn,hk,hF,hG,ha=>by
  have hsz:=suf_size b k
  rw [p_script_All_l1,p_ref34_All_l1,emptyB]
  by_cases he:k=b.size
  ·left
   rw [decide_eq_true (by omega),decide_eq_false (show ¬ (k:Int) < (b.size:Int) by omega)]
   exact ⟨_,_,rfl,by rw [he];rfl,by omega⟩
  ·rw [decide_eq_false (by omega),decide_eq_true (show (k:Int) < (b.size:Int) by omega),sub_suf hk]
   simp only [cond_true,cond_false,Option.bind_some]
   obtain ⟨x,x1,x2,x3⟩:=get_p (b:=suf b k) (by omega)
   rw [x1,x2]
   simp only [Option.bind_some]
   by_cases h0:x.2.2=0
   ·obtain ⟨a,a1,a2⟩:=x3 h0
    obtain ⟨n,rfl⟩ : ∃ m,n=m + 1:=⟨n - 1,by omega⟩
    rw [show (x.2.2 != (0:Int))=false by simpa using h0,app_ok (by simp;omega),a1,sub_suf (b:=suf b k) a2]
    simp only [cond_false,Option.bind_some]
    rw [suf_suf,show (if (1:Int) > ((a + 1:Nat):Int) then (1:Int) else ((a + 1:Nat):Int))=((a + 1:Nat):Int) from if_neg (by omega),w64_id (by omega),show (k:Int) + ((a + 1:Nat):Int)=((k + (a + 1):Nat):Int) by omega]
    exact all_l b hb n (k + (a + 1)) F G _ (by omega) (by omega) (by omega) (by omega) (by simp;omega)
   ·right
    rw [show (x.2.2 != (0:Int))=true by simpa using h0]
    exact ⟨_,rfl,rfl⟩
theorem all_p {b:ByteArray} (hb:b.size≤1000):∃ x,p_script_All b=some x∧p_ref34_All b=some x∧x.1.length≤1000:=by
 have hf:=fuel_pos
 have h:=all_l b hb b.size 0 fuel fuel [] (by omega) (Nat.zero_le _) (by omega) (by omega) (Nat.zero_le _)
 rw [suf_0,show ((0:Nat):Int)=0 from rfl] at h
 unfold p_script_All p_ref34_All
 rcases h with ⟨y,l,h1,h2,h3⟩ | ⟨e,h1,h2⟩
 ·rw [h1,h2];exact ⟨_,rfl,rfl,h3⟩
 ·rw [h1,h2];exact ⟨_,rfl,rfl,by simp⟩
theorem sback_l (z:List BrokerStep) (hn:z.length≤1000):∀ (n k F:Nat) (acc:List BrokerStep),k + n=z.length→n < F→acc.length=k→p_law34_back_l1 z F acc (k:Int)=some (acc++z.drop k,(z.length:Int))
 | 0,k,F + 1,acc,hk,hF,ha=>by
  rw [p_law34_back_l1,lt_ff (by omega),show k=z.length by omega,List.drop_length,List.append_nil];rfl
 | n + 1,k,F + 1,acc,hk,hF,ha=>by
  have hlt:k < z.length:=by omega
  have i1:=sback_l z hn n (k + 1) F (acc++[z[k]]) (by omega) (by omega) (by simp;omega)
  rw [p_law34_back_l1,lt_tt hlt,cond_true,at_lt hlt]
  simp only [Option.bind_some]
  rw [app_ok (by simp;omega),Option.bind_some,w64_succ (by omega),i1,drop_at hlt]
  simp
theorem sback_p {z:List BrokerStep} (hn:z.length≤1000):p_law34_back z=some z:=by
 have h1:p_law34_back_l1 z fuel [] (0:Int)=_:=sback_l z hn z.length 0 fuel [] (by omega) (by have:=fuel_pos;omega) rfl
 unfold p_law34_back
 rw [h1];rfl
theorem ssame_l (z:List BrokerStep) (hn:z.length≤1000):∀ (n k F:Nat),k + n=z.length→n < F→p_ref34_SameSteps_l1 z z F (k:Int)=some (.inr (z.length:Int))
 | 0,k,F + 1,hk,hF=>by
  rw [p_ref34_SameSteps_l1,lt_ff (by omega),show k=z.length by omega];rfl
 | n + 1,k,F + 1,hk,hF=>by
  have hlt:k < z.length:=by omega
  rw [p_ref34_SameSteps_l1,lt_tt hlt,cond_true,at_lt hlt]
  simp only [Option.bind_some,eqT_refl,beq_self_eq_true,Bool.and_self,cond_true]
  rw [w64_succ (by omega)];exact ssame_l z hn n (k + 1) F (by omega) (by omega)
theorem ssame_p {z:List BrokerStep} (hn:z.length≤1000):p_ref34_SameSteps z z=some true:=by
 have e:p_ref34_SameSteps_l1 z z fuel (0:Int)=_:=ssame_l z hn z.length 0 fuel (by omega) (by have:=fuel_pos;omega)
 unfold p_ref34_SameSteps
 rw [bne_self_eq_false,cond_false,e];rfl
theorem scriptReads_pure (haw:p_law34_awake=some true) (b:ByteArray):p_law34_ScriptReads b=some true:=by
 unfold p_law34_ScriptReads
 rw [haw]
 by_cases h:(300:Int) < (b.size:Int)
 ·rw [decide_eq_true h];rfl
 rw [decide_eq_false h]
 obtain ⟨x,x1,x2,_⟩:=get_p (b:=b) (by omega)
 obtain ⟨y,y1,y2,y3⟩:=all_p (b:=b) (by omega)
 rw [x1,x2,y1,y2]
 simp only [cond_false,Option.bind_some,sback_p y3,ssame_p y3,eqT_refl,beq_self_eq_true,Bool.and_self,cond_true]
end Go.Proofs.YtbimgghogflikaaGreatDoor

namespace Go.Proofs.YtbimgghogflikaaGreatDoor
open Go.RowKit
theorem scriptReads_all (b:ByteArray):p_law34_ScriptReads b=some true:=scriptReads_pure p_law34_awake_true b
end Go.Proofs.YtbimgghogflikaaGreatDoor

namespace Go.Proofs.YtbimgghogflikaaGreatDoor
open Go
theorem returnsInHanded_laid {H:Type} {enc:TypeId × Value→H} {a:Assume} {C:Checked} {os:Os} {f:FuncId} {fn:Func} {s:ChangeSpec} {conds:List PathCond} {apart fresh handsOn again:Bool} {X:World→Array Value→Prop}
  (hX:∀ (w w' : World) (args:Array Value),w.heap=w'.heap→X w args→X w' args)
  (own:ownKnob C.prog.godebug=none) (started:os.Started) (noInit:C.prog.inits.idxOf? f=none) (hfn:C.prog.funcs[f]?=some fn)
  (witness:∃ (w:World) (tape:Tape) (i:Input),w.os=os∧(w.forCall tape i).Shaped C.prog∧i.vars=[]∧Input.okWide C.prog (w.forCall tape i) .any w.heap.size f i ∧
   ((s.pre enc C.prog fn conds apart (w.forCall tape i).memory i.args∧X (w.forCall tape i).memory i.args)∧sizedMet enc C.prog fn (OpenSpec.ofChange s) apart (w.forCall tape i).memory i.args)∧a.holds C.prog (lone (Frame.enter C.prog f i.args .normal) [] (w.forCall tape i)))
  (contract:∀ (W:World) (base:Nat) (args:Array Value) (ds gs:List (DataW H)) (before:List MemPlace),
   (∀ (j:Nat) t v,fn.params[j]?=some t→args[j]?=some v→Value.okWide C.prog W .any base t v) →
   DataW.Whole enc C.prog fn.params.toList s.vars apart W args.toList ds gs before →
   conds.all (PathCond.test C.prog ⟨fn.params.toList,ds,s.plain.varTypes C.prog,gs⟩)=true →
   X W args→W.ShapedOpen C.prog →
   Calls C.prog f args W fun e W'=>∃ v,e=.returned v∧s.post enc C.prog fn apart fresh handsOn again W args v W') :
  ReturnsInHanded a C os f .any (fun w args=>(s.pre enc C.prog fn conds apart w args∧X w args)∧sizedMet enc C.prog fn (OpenSpec.ofChange s) apart w args) (s.post enc C.prog fn apart fresh handsOn again):=by
 refine returnsInHanded_of_calls own started noInit witness ?_
 intro w tape i _ hsh _ hok hpre hholds
 obtain ⟨_,_,_,fn',hfn',_,_,_,_,hval⟩:=hok
 have e:fn'=fn:=Option.some.inj (hfn'.symm.trans hfn)
 subst e
 obtain ⟨⟨⟨ds,gs,before,hw,hc⟩,hx⟩,hz⟩:=hpre
 have hw':=DataW.Whole.of_heap (w':=w.forCall tape i) (by rfl) hw
 refine (contract (w.forCall tape i) w.heap.size i.args ds gs before hval hw' hc (hX _ _ _ (by rfl) hx) hsh).mono fun e W' ⟨v,he,hp⟩=>?_
 subst he
 exact ChangeSpec.post_blind hp
end Go.Proofs.YtbimgghogflikaaGreatDoor

namespace Go.Proofs.YtbimgghogflikaaGreatDoor
open Go.ChangeShapes Go.WideShapes Go.ChangeAt Go.RowKit Go.Joins Go.Deep
theorem scriptReads_named:Tryz.pinned.checked.prog.funcNamed Rows.scriptReadsRow.func=some 3:=by kernel_rfl
theorem scriptReads_closed:joinedFacts Tryz.pinned.checked.prog 3 Tryz.f3 Rows.scriptReadsSpec Rows.scriptReadsRow=true:=by kernel_rfl
end Go.Proofs.YtbimgghogflikaaGreatDoor

namespace Go.Proofs.YtbimgghogflikaaGreatDoor
open Go.ChangeShapes Go.WideShapes Go.ChangeAt Go.RowKit Go.Joins Go.Deep
theorem scriptReads_door (os:Os) (args:Array Value):laidMetH Tryz.prog Rows.scriptReadsRow.laid ((World.doorLaid Tryz.prog 400 os).forCall (fun _ _=>0) ⟨#[],args,[]⟩).memory :=
 laidMetH_of_parts3 (fuel:=8) (laidMet_of_run' 8 (by kernel_rfl) (by kernel_rfl)) (by kernel_rfl) (by kernel_rfl)
set_option maxRecDepth 100000 in
theorem scriptReads_lifted (os:Os) (started:os.Started) (H:Type) (enc:TypeId × Value→H) :
  ReturnsInHanded {} Tryz.checked os 3 .any (fun w args=>(Rows.scriptReadsSpec.pre enc Tryz.prog Tryz.f3 Rows.scriptReadsRow.domain false w args∧laidMetH Tryz.prog Rows.scriptReadsRow.laid w)∧sizedMet enc Tryz.prog Tryz.f3 (OpenSpec.ofChange Rows.scriptReadsSpec) false w args) (Rows.scriptReadsSpec.post enc Tryz.prog Tryz.f3 false true false false):=by
 refine returnsInHanded_laid (C:=Tryz.checked) (X:=fun w _=>laidMetH Tryz.prog Rows.scriptReadsRow.laid w) (fun _ _ _ hh h=>h.of_heap hh) own0 started (by kernel_rfl) Tryz.func3
  (ChangeSpec.witness_shaped (enc:=enc) (C:=Tryz.checked) (os:=os) (X:=fun w _=>laidMetH Tryz.prog Rows.scriptReadsRow.laid w) false (World.doorLaid Tryz.prog 400 os) #[.string ⟨#[]⟩] 8 rfl (World.shaped_of_RefB (by kernel_rfl) (by kernel_rfl)) (by kernel_rfl) (by kernel_rfl) (by kernel_rfl) (scriptReads_door os _)) ?_
 intro W base args ds gs before hval0 hW hcnd hL hsh
 have hval:∀ (j:Nat) t v,Tryz.f3.params[j]?=some t→args[j]?=some v→Value.okWide Tryz.prog W .any base t v:=hval0
 have hW':=hW
 obtain ⟨p,q,hA0,hV,rfl,hfz,hnd⟩:=hW
 have hA:DataW.TrodAll enc Tryz.prog W 0 (fun _=>true) true Tryz.f3.params.toList args.toList ds p:=hA0
 rw [Tryz.params3] at hA hval
 have hA2:=hA
 obtain ⟨v0,d0,rfl,rfl,h0⟩:=trodAll_one hA
 obtain ⟨rfl,rfl⟩:=trodVars_none hV
 obtain ⟨fu0,hf0⟩:=h0
 obtain ⟨q0,rfl⟩:=okWide_string Tryz.underlying9 (hval 0 _ v0 rfl rfl)
 obtain ⟨a0,r0⟩:=rd_string Tryz.underlying9 hf0
 have hx0:Rep (MW W) noBk _ _:=r0.2 0 (by simp [Value.cells]) (by simp)
 refine (rep_one (callsO_true (p_law34_ScriptReads_v a0) (tru_ok (scriptReads_all a0))) (maxLen_cell W hsh) (repAr1 hx0)).mono ?_
 rintro e W' ⟨rfl,bel⟩
 refine ⟨_,rfl,_,_,_,[],p,[],hW',?_,?_,?_,?_,?_⟩
 ·exact trodAll_mk1 (shut_bool Tryz.underlying4 true)
 ·exact trodAll_below laid0 bel (by
   intro t ht
   simp at ht
   rcases ht with rfl <;> exact ⟨by kernel_rfl,of_decide_eq_true (by kernel_rfl)⟩) hA2
 ·rfl
 ·exact bel.frame _
 ·exact fun h=>by cases h
theorem scriptReads_holds:Rows.ScriptReadsSaid :=
 OpenClaim.holds_of_wide 3 Tryz.f3 rfl rfl rfl rfl rfl rfl rfl ⟨rfl,rfl,rfl,rfl,rfl⟩ rfl rfl rfl rfl rfl scriptReads_named Tryz.func3 scriptReads_closed
  (of_decide_eq_true (by kernel_rfl)) (by unfold Func.isWrapper;first | (rw [if_pos (by decide +kernel)];kernel_rfl) | (rw [if_neg (by decide +kernel)];exact ⟨rfl,rfl⟩))
  (fun os started H enc _=>scriptReads_lifted os started H enc)
#print axioms scriptReads_holds
theorem scriptReads_card_holds:Rows.ScriptReadsCardSaid :=
 Claim7.holds_tied_plain_at .later [] [.data,.data,.data] true (true, "abeadf2c4bbb9f2e9949abc0bcfee45dd1f83af7222c4346bbfd8757d93b5057") false
  scriptReads_holds (fun _ h=>by cases h) (by kernel_rfl) (fun _ h=>by cases h) scriptReads_row_tie rfl ⟨rfl,rfl⟩ (by kernel_rfl) rfl
  (fun f fn hf hfn=>by
   obtain rfl:f=3:=Option.some.inj ((show Tryz.prog.funcNamed "callboy/callboylaw34.ScriptReads"=some 3 by kernel_rfl).symm.trans hf) |>.symm
   obtain rfl:fn=Tryz.f3:=(Option.some.inj (Tryz.func3.symm.trans hfn)).symm
   exact ⟨by kernel_rfl,fun j t ht=>by
    rw [Tryz.params3] at ht
    have hm:t ∈ [9]:=by simpa using Array.mem_of_getElem? ht
    have hall:([9].all fun u=>!Tryz.prog.wantsStandIn u)=true:=by kernel_rfl
    exact (show Tryz.prog.wantsStandIn t=false by simpa using List.all_eq_true.1 hall t hm)⟩)
  (by kernel_rfl)
#print axioms scriptReads_card_holds
end Go.Proofs.YtbimgghogflikaaGreatDoor

