/- A part of the proof: 14 texts joined. -/
import Derived.Test.YtmmmcpeickfolaaYdA5
import Derived.BigRegion
set_option linter.all false
namespace Go.Proofs.Ytmmmcpeickfolaa
open Go.RowKit
def nameL (l:List UInt8):Bool:=plainL l && !l.any sepC && !l.any upC
theorem lowC_ne {c:UInt8} (h:upC c=true):lowC c≠c:=by
 intro e
 have:=lowC_up h
 rw [e] at this
 omega
theorem map_low (l:List UInt8):(l.map lowC=l) ↔ l.any upC=false:=by
 induction l with
 | nil=>simp
 | cons a r ih =>
  rw [List.map_cons,List.cons.injEq,ih,List.any_cons,Bool.or_eq_false_iff]
  constructor
  ·rintro ⟨h1,h2⟩
   refine ⟨?_,h2⟩
   cases hu:upC a with
   | false=>rfl
   | true=>exact absurd h1 (lowC_ne hu)
  ·rintro ⟨h1,h2⟩
   exact ⟨lowC_not h1,h2⟩
theorem bl_inj {a b:ByteArray} (h:a.data.toList=b.data.toList):a=b:=by
 rw [← ba_of a,← ba_of b,h]
theorem str_iff (a b:ByteArray):(a.toList=b.toList) ↔ a=b:=by
 rw [ByteArray.toList_eq,ByteArray.toList_eq]
 exact ⟨bl_inj,fun h=>by rw [h]⟩
theorem low_same_iff (s:ByteArray):(lowB s=s) ↔ s.data.toList.any upC=false:=by
 rw [← map_low]
 constructor
 ·intro h
  have:=congrArg (fun x:ByteArray=>x.data.toList) h
  simpa only [lowB_list] using this
 ·intro h
  exact bl_inj (by rw [lowB_list];exact h)
set_option maxHeartbeats 1000000 in
theorem name_c (s:ByteArray) (w:World) (hs:s.size≤100000) :
  Calls Try.prog 146 #[.string s] w (Ret w (.bool (nameL s.data.toList))):=by
 have K1:=fun w'=>plain_c s w' (by omega)
 have K2:=fun w'=>containsAny_c s w' (by omega)
 have K3:=fun w'=>low_c s w' (by omega)
 have hl:=low_same_iff s
 obtain ⟨b1,h1⟩ : ∃ b,plainL s.data.toList=b:=⟨_,rfl⟩
 obtain ⟨b2,h2⟩ : ∃ b,s.data.toList.any sepC=b:=⟨_,rfl⟩
 obtain ⟨b3,h3⟩ : ∃ b,s.data.toList.any upC=b:=⟨_,rfl⟩
 have hspec:nameL s.data.toList=(b1 && !b2 && !b3):=by unfold nameL;rw [h1,h2,h3]
 have HS:=Lib.hid hspec
 rw [hspec,]
 rw [h3] at hl
 simp only [h1,h2] at K1 K2
 obtain ⟨t,ht⟩ : ∃ t,lowB s=t:=⟨_,rfl⟩
 rw [ht] at hl
 simp only [ht] at K3
 have HK1:=Lib.hid K1
 have HK2:=Lib.hid K2
 have HK3:=Lib.hid K3
 clear K1 K2 K3 hspec h1 h2 h3 ht
 go_enter Try.func146,Try.ntmps146
 cases b1 <;> cases b2 <;>
 go_wp2_with (first | (go_at_call 39;(with_reducible refine (HK1.out _).mono ?_);rintro e w1 ⟨rfl,hcb1⟩;obtain ⟨hcc1,hcf1⟩:=bcell hcb1;have hcz1:=hcb1.size;have hcB1:Below w.heap.size w w1:=below_then bel_ hcb1) | (go_at_call 150;(with_reducible refine (HK2.out _).mono ?_);rintro e w2 ⟨rfl,hcb2⟩;obtain ⟨hcc2,hcf2⟩:=bcell hcb2;have hcz2:=hcb2.size;have hcB2:Below w.heap.size w w2:=below_then bel_ hcb2) | (go_at_call 137;(with_reducible refine (HK3.out _).mono ?_);rintro e w3 ⟨rfl,hcb3⟩;obtain ⟨hcc3,hcf3⟩:=bcell hcb3;have hcz3:=hcb3.size;have hcB3:Below w.heap.size w w3:=below_then bel_ hcb3))
 all_goals (go_ret;refine ⟨?_,bel_⟩)
 all_goals first
  | rfl
  | (have e:=str_iff t s;cases b3 <;> simp_all)
def upSep (c:UInt8):Bool:=sepC c || upC c
def NoUp (l:List UInt8) (k:Nat):Prop:=∀ j (hj:j < l.length),j < k→upSep l[j]=false
theorem NoUp.succ {l:List UInt8} {i:Nat} (h:NoUp l i) {x:UInt8} {hi:i < l.length} (hx:l[i]=x) (hs:upSep x=false):NoUp l (i + 1):=by
 intro j hj hlt
 rcases Nat.lt_or_ge j i with h1 | h1
 ·exact h j hj h1
 ·obtain rfl:j=i:=by omega
  rw [hx];exact hs
theorem NoUp.all {l:List UInt8} {i:Nat} (h:NoUp l i) (hi:l.length≤i):l.any upSep=false:=by
 rw [List.any_eq_false]
 intro x hx
 obtain ⟨j,hj,rfl⟩:=List.getElem_of_mem hx
 simp [h j hj (by omega)]
def resL (l:List UInt8):Int:=if 12 < l.length then 5 else if plainL l=true then 0 else 11
set_option maxHeartbeats 400000 in
theorem res_c (s:ByteArray) (w:World) (hs:s.size≤100000) :
  Calls Try.prog 41 #[.string s] w (Ret w (.int .i64 (resL s.data.toList))):=by
 have HK:=fun w'=>plain_c s w' (by omega)
 unfold resL
 rw [bl_len]
 generalize plainL s.data.toList=b at *
 go_enter Try.func41,Try.ntmps41
 by_cases h:12 < s.size <;> cases b <;>
 go_wp2_with (go_at_call 39;(with_reducible refine (HK _).mono ?_);rintro e w1 ⟨rfl,hcb1⟩;obtain ⟨hcc1,hcf1⟩:=bcell hcb1;have hcz1:=hcb1.size;have hcB1:Below w.heap.size w w1:=below_then bel_ hcb1)
 all_goals (go_ret;refine ⟨?_,bel_⟩;simp [h])
end Go.Proofs.Ytmmmcpeickfolaa

namespace Go.Proofs.Ytmmmcpeickfolaa
open Go.RowKit
end Go.Proofs.Ytmmmcpeickfolaa

namespace Go.Proofs.Ytmmmcpeickfolaa
open Go.RowKit
def checkA (n h r:List UInt8):Int :=
 if (decide (16 < n.length) || decide (16 < h.length) || decide (12 < r.length))=true then 5 else if (n.isEmpty || h.isEmpty)=true then 4 else if (nameL n && hostP h && plainL r)=true then 0 else 11
set_option maxHeartbeats 400000 in
theorem parts_c (a b c:ByteArray) (w:World) :
  Calls Try.prog 145 #[.agg #[.string a,.string b,.string c]] w (Ret w (.agg #[.string a,.string b,.string c])):=by
 go_enter Try.func145,Try.ntmps145
 go_wp2
 refine bodyPost_ret (v:=.agg #[.string a,.string b,.string c]) (by simp [results,Try.results145,go_sem]) rfl ⟨rfl,bel_⟩
theorem ixp0 (n h r:ByteArray) (w:World):(Instr.index 214 (.agg #[.string n,.string h,.string r]) (.int .i64 0)).run Try.prog w=.ok (.string n) w:=by kernel_rfl
theorem ixp1 (n h r:ByteArray) (w:World):(Instr.index 214 (.agg #[.string n,.string h,.string r]) (.int .i64 1)).run Try.prog w=.ok (.string h) w:=by kernel_rfl
theorem ixp2 (n h r:ByteArray) (w:World):(Instr.index 214 (.agg #[.string n,.string h,.string r]) (.int .i64 2)).run Try.prog w=.ok (.string r) w:=by kernel_rfl
theorem checkA_bytes (n h r:ByteArray):checkA n.data.toList h.data.toList r.data.toList=(if (decide (16 < n.size) || decide (16 < h.size) || decide (12 < r.size))=true then 5 else if (n.toList.isEmpty || h.toList.isEmpty)=true then 4 else if (nameL n.data.toList && hostP h.data.toList && plainL r.data.toList)=true then 0 else 11):=by
 unfold checkA
 rw [bl_len,bl_len,bl_len,isEmpty_bl,isEmpty_bl]
set_option maxRecDepth 100000 in
set_option maxHeartbeats 2000000 in
theorem check_c (n h r:ByteArray) (w:World) (hm:ML w) (hn:n.size≤100000) (hh:h.size≤100000) (hr:r.size≤100000) :
  Calls Try.prog 138 #[.agg #[.string n,.string h,.string r]] w (Ret w (.int .i64 (checkA n.data.toList h.data.toList r.data.toList))):=by
 have x0:=ixp0 n h r
 have x1:=ixp1 n h r
 have x2:=ixp2 n h r
 have HX:=Lib.hid (checkA_bytes n h r)
 have HK1:=Lib.hid (fun w'=>name_c n w' hn)
 have HK2:=Lib.hid (fun w' (hm' : ML w')=>host_c h w' hm' (by omega))
 have HK3:=Lib.hid (fun w'=>plain_c r w' (by omega))
 obtain ⟨v,hv⟩ : ∃ v,checkA n.data.toList h.data.toList r.data.toList=v:=⟨_,rfl⟩
 rw [hv] at HX ⊢
 clear hv
 generalize nameL n.data.toList=b1 at HX HK1
 generalize hostP h.data.toList=b2 at HX HK2
 generalize plainL r.data.toList=b3 at HX HK3
 go_enter Try.func138,Try.ntmps138
 go_wp2_with fail
 refine wp_loop_rounds 4 ?_
 rw [rounds_succ]
 go_wp2
 go_region_held3 (fun w'=>Below w.heap.size w w'∧w.heap.size + 1 < w'.heap.size∧w'.cell? ⟨w.heap.size,0,none⟩=some (.string n)∧w'.cell? ⟨w.heap.size,1,none⟩=some (.string h)∧w'.cell? ⟨w.heap.size,2,none⟩=some (.string r)∧w'.cell? ⟨w.heap.size + 1,0,none⟩=some (.int .i64 16)∧w'.cell? ⟨w.heap.size + 1,1,none⟩=some (.int .i64 16)∧w'.cell? ⟨w.heap.size + 1,2,none⟩=some (.int .i64 12)) (first | assumption | (obtain ⟨hx0,hx1,hx2⟩:=(‹Below w.heap.size w _∧w.heap.size + 1 < _∧_›);have hxa:=Nat.lt_of_succ_lt hx1;obtain ⟨hc1,_⟩:=bcell hb1;exact ⟨below_then hx0 hb1,Nat.lt_of_lt_of_le hx1 hb1.size,by simp only [hc1,hx1,hxa];exact hx2⟩) | (refine ⟨bel_,by first | assumption | (simp;done) | omega,?_⟩;go_keep)) (first | (go_at_call 145;(with_reducible refine (parts_c _ _ _ _).mono ?_);rintro e w' ⟨rfl,hb1⟩))
 obtain ⟨hy0,hy1,hy2⟩:=(‹Below w.heap.size w _∧w.heap.size + 1 < _∧_›)
 go_wp2
 ·have e:=HX.out
  rw [if_pos (by simp;omega)] at e
  go_ret
  exact ⟨by rw [e];rfl,bel_⟩
 rw [rounds_succ]
 go_wp2
 go_region_held3 (fun w'=>Below w.heap.size w w'∧w.heap.size + 1 < w'.heap.size∧w'.cell? ⟨w.heap.size,0,none⟩=some (.string n)∧w'.cell? ⟨w.heap.size,1,none⟩=some (.string h)∧w'.cell? ⟨w.heap.size,2,none⟩=some (.string r)∧w'.cell? ⟨w.heap.size + 1,0,none⟩=some (.int .i64 16)∧w'.cell? ⟨w.heap.size + 1,1,none⟩=some (.int .i64 16)∧w'.cell? ⟨w.heap.size + 1,2,none⟩=some (.int .i64 12)) (first | assumption | (obtain ⟨hx0,hx1,hx2⟩:=(‹Below w.heap.size w _∧w.heap.size + 1 < _∧_›);have hxa:=Nat.lt_of_succ_lt hx1;obtain ⟨hc1,_⟩:=bcell hb1;exact ⟨below_then hx0 hb1,Nat.lt_of_lt_of_le hx1 hb1.size,by simp only [hc1,hx1,hxa];exact hx2⟩) | (refine ⟨bel_,by first | assumption | (simp;done) | omega,?_⟩;go_keep)) (first | (go_at_call 145;(with_reducible refine (parts_c _ _ _ _).mono ?_);rintro e w' ⟨rfl,hb1⟩))
 clear hy0 hy1 hy2
 obtain ⟨hy0,hy1,hy2⟩:=(‹Below w.heap.size w _∧w.heap.size + 1 < _∧_›)
 go_wp2
 ·have e:=HX.out
  rw [if_pos (by simp;omega)] at e
  go_ret
  exact ⟨by rw [e];rfl,bel_⟩
 rw [rounds_succ]
 go_wp2
 go_region_held3 (fun w'=>Below w.heap.size w w'∧w.heap.size + 1 < w'.heap.size∧w'.cell? ⟨w.heap.size,0,none⟩=some (.string n)∧w'.cell? ⟨w.heap.size,1,none⟩=some (.string h)∧w'.cell? ⟨w.heap.size,2,none⟩=some (.string r)∧w'.cell? ⟨w.heap.size + 1,0,none⟩=some (.int .i64 16)∧w'.cell? ⟨w.heap.size + 1,1,none⟩=some (.int .i64 16)∧w'.cell? ⟨w.heap.size + 1,2,none⟩=some (.int .i64 12)) (first | assumption | (obtain ⟨hx0,hx1,hx2⟩:=(‹Below w.heap.size w _∧w.heap.size + 1 < _∧_›);have hxa:=Nat.lt_of_succ_lt hx1;obtain ⟨hc1,_⟩:=bcell hb1;exact ⟨below_then hx0 hb1,Nat.lt_of_lt_of_le hx1 hb1.size,by simp only [hc1,hx1,hxa];exact hx2⟩) | (refine ⟨bel_,by first | assumption | (simp;done) | omega,?_⟩;go_keep)) (first | (go_at_call 145;(with_reducible refine (parts_c _ _ _ _).mono ?_);rintro e w' ⟨rfl,hb1⟩))
 clear hy0 hy1 hy2
 obtain ⟨hy0,hy1,hy2⟩:=(‹Below w.heap.size w _∧w.heap.size + 1 < _∧_›)
 go_wp2
 ·have e:=HX.out
  rw [if_pos (by simp;omega)] at e
  go_ret
  exact ⟨by rw [e];rfl,bel_⟩
 rw [rounds_succ]
 obtain ⟨c0,c1,c2,_⟩:=hy2
 have hxa:=Nat.lt_of_succ_lt hy1
 clear x0 x1 x2 hb1
 go_wp2_with (first | ((go_at_call 146;(with_reducible refine (HK1.out _).mono ?_);rintro e w1 ⟨rfl,hcb1⟩;obtain ⟨hcc1,hcf1⟩:=bcell hcb1;have hcz1:=hcb1.size;have hcB1:Below w.heap.size w w1:=below_then bel_ hcb1);have hxb:=Nat.lt_of_lt_of_le hxa hcz1) | ((go_at_call 147;(with_reducible refine (HK2.out _ (hm.then (by assumption))).mono ?_);rintro e w2 ⟨rfl,hcb2⟩;obtain ⟨hcc2,hcf2⟩:=bcell hcb2;have hcz2:=hcb2.size;have hcB2:Below w.heap.size w w2:=below_then bel_ hcb2);have hxc:=Nat.lt_of_lt_of_le hxb hcz2) | (go_at_call 39;(with_reducible refine (HK3.out _).mono ?_);rintro e w3 ⟨rfl,hcb3⟩;obtain ⟨hcc3,hcf3⟩:=bcell hcb3;have hcz3:=hcb3.size;have hcB3:Below w.heap.size w w3:=below_then bel_ hcb3))
 all_goals (have e:=HX.out)
 all_goals (go_ret;refine ⟨?_,bel_⟩)
 all_goals (refine ret_i ?_;rw [e])
 all_goals (have z1:¬ 16 < n.size:=by omega)
 all_goals (have z2:¬ 16 < h.size:=by omega)
 all_goals (have z3:¬ 12 < r.size:=by omega)
 all_goals (clear HX HK1 HK2 HK3 e;first | (simp [*];done) | grind)
end Go.Proofs.Ytmmmcpeickfolaa

namespace Go.Proofs.Ytmmmcpeickfolaa
open Go.RowKit
end Go.Proofs.Ytmmmcpeickfolaa

namespace Go.Proofs.Ytmmmcpeickfolaa
open Go.RowKit
theorem findL_cons (b c:UInt8) (l:List UInt8):findL (b :: l) c=if (b == c)=true then 0 else findL l c + 1:=by
 unfold findL
 rw [List.findIdx_cons]
 cases (b == c) <;> rfl
theorem findL_le (l:List UInt8) (c:UInt8):findL l c≤l.length:=List.findIdx_le_length
theorem byte_find:∀ (l:List UInt8) (c:UInt8),Lib.indexByte l c=if findL l c < l.length then (findL l c:Int) else -1
 | [],c=>rfl
 | b :: l,c=>by
  have ih:=byte_find l c
  have hle:=findL_le l c
  rw [findL_cons]
  unfold Lib.indexByte
  rw [ih]
  cases (b == c) with
  | true=>simp
  | false =>
   by_cases h:findL l c < l.length
   ·simp [h]
   ·simp [h]
theorem cut_one (l:List UInt8) (c:UInt8):Lib.cut l [c]=(l.take (findL l c),l.drop (findL l c + 1),decide (findL l c < l.length)):=by
 unfold Lib.cut
 rw [Lib.index_one,byte_find]
 have hle:=findL_le l c
 by_cases h:findL l c < l.length
 ·simp [h]
 ·have e:findL l c=l.length:=by omega
  rw [if_neg h,if_neg (by omega),e]
  simp
theorem cut_c (s:ByteArray) (c:UInt8) (w:World) (hm:ML w) (hs:s.size≤1000000) :
  Calls Try.prog 136 #[.string s,.string ⟨#[c]⟩] w (Ret w (.tuple #[.string (ba (s.data.toList.take (findL s.data.toList c))),.string (ba (s.data.toList.drop (findL s.data.toList c + 1))),.bool (decide (findL s.data.toList c < s.data.toList.length))])):=by
 obtain ⟨_,m,hm⟩:=hm
 refine (Try.strings_Cut s ⟨#[c]⟩ m w (by omega) hm).mono ?_
 rintro e w' ⟨rfl,n,rfl⟩
 have hc:=cut_one s.data.toList c
 refine ⟨?_,below_drewN (Below.refl _ _) _⟩
 show Ending.returned (.tuple #[.string ⟨(Lib.cut s.data.toList [c]).1.toArray⟩,.string ⟨(Lib.cut s.data.toList [c]).2.1.toArray⟩,.bool (Lib.cut s.data.toList [c]).2.2])=_
 rw [hc]
 rfl
end Go.Proofs.Ytmmmcpeickfolaa

namespace Go.Proofs.Ytmmmcpeickfolaa
open Go.RowKit
structure ParseD where
 own:List UInt8
 place:List UInt8
 res:List UInt8
 err:Int
def ParseD.val (x:ParseD):Value:=.tuple #[.agg #[.string (ba x.own),.string (ba x.place),.string (ba x.res)],.int .i64 x.err]
def frontL (l:List UInt8):List UInt8:=(l.take (findL l 47)).map lowC
def ownL (l:List UInt8):List UInt8:=(frontL l).take (findL (frontL l) 64)
def placeL (l:List UInt8):List UInt8:=(frontL l).drop (findL (frontL l) 64 + 1)
def tailR (l:List UInt8):List UInt8:=l.drop (findL l 47 + 1)
def parseL (l:List UInt8):ParseD :=
 if (!decide (findL (frontL l) 64 < (frontL l).length) || (decide (findL l 47 < l.length) && (tailR l).isEmpty))=true then ⟨[],[],[],4⟩
 else if checkA (ownL l) (placeL l) (tailR l)=0 then ⟨ownL l,placeL l,tailR l,0⟩ else ⟨[],[],[],checkA (ownL l) (placeL l) (tailR l)⟩
theorem lowB_ba (l:List UInt8):lowB (ba l)=ba (l.map lowC):=bl_inj (by rw [lowB_list,ba_list,ba_list])
theorem find_small (l:List UInt8) (h:l.length≤100000):(frontL l).length≤100000∧(ownL l).length≤100000∧(placeL l).length≤100000∧(tailR l).length≤100000:=by
 have h1:(frontL l).length≤l.length:=by unfold frontL;simp;omega
 refine ⟨by omega,?_,?_,?_⟩
 ·unfold ownL;simp;omega
 ·unfold placeL;simp;omega
 ·unfold tailR;simp;omega
theorem empty_ba (l:List UInt8):(ba l).toList.isEmpty=l.isEmpty:=by rw [ByteArray.toList_eq,ba_list]
set_option maxRecDepth 100000 in
set_option maxHeartbeats 2000000 in
theorem parse_c (s : ByteArray) (w : World) (hm : ML w) (hs : s.size ≤ 100000) :
    Calls Try.prog 124 #[.string s] w (Ret w (parseL s.data.toList).val) := by
  have hlen := bl_len s
  obtain ⟨l, hl⟩ : ∃ l, s.data.toList = l := ⟨_, rfl⟩
  have hll : l.length ≤ 100000 := by rw [← hl, hlen]; exact hs
  obtain ⟨z1, z2, z3, z4⟩ := find_small l hll
  have k1 := fun w' (hm' : ML w') => cut_c s 47 w' hm' (by omega)
  have k2 := fun w' => low_c (ba (l.take (findL l 47))) w' (by rw [ba_size]; simp; omega)
  have k3 := fun w' (hm' : ML w') => cut_c (ba (frontL l)) 64 w' hm' (by rw [ba_size]; omega)
  have k4 := fun w' (hm' : ML w') => check_c (ba (ownL l)) (ba (placeL l)) (ba (tailR l)) w' hm' (by rw [ba_size]; omega) (by rw [ba_size]; omega) (by rw [ba_size]; omega)
  rw [hl] at k1 ⊢
  rw [lowB_ba] at k2
  simp only [ba_list] at k3 k4
  have k1' : ∀ w', ML w' → Calls Try.prog 136 #[.string s, .string ⟨#[47]⟩] w' (Ret w' (.tuple #[.string (ba (l.take (findL l 47))), .string (ba (tailR l)), .bool (decide (findL l 47 < l.length))])) := k1
  have k2' : ∀ w', Calls Try.prog 137 #[.string (ba (l.take (findL l 47)))] w' (Ret w' (.string (ba (frontL l)))) := k2
  have k3' : ∀ w', ML w' → Calls Try.prog 136 #[.string (ba (frontL l)), .string ⟨#[64]⟩] w' (Ret w' (.tuple #[.string (ba (ownL l)), .string (ba (placeL l)), .bool (decide (findL (frontL l) 64 < (frontL l).length))])) := k3
  have he := empty_ba (tailR l)
  obtain ⟨p, hp⟩ : ∃ p, parseL l = p := ⟨_, rfl⟩
  have hx := hp
  unfold parseL at hx
  rw [← he] at hx
  rw [hp]
  clear k1 k2 k3 hp hl hlen hll z1 z2 z3 z4 he
  generalize ownL l = O at *
  generalize placeL l = H at *
  generalize tailR l = R at *
  generalize ba (l.take (findL l 47)) = F at *
  generalize checkA O H R = v at *
  generalize ba (frontL l) = G at *
  generalize decide (findL l 47 < l.length) = sl at *
  generalize decide (findL (frontL l) 64 < (frontL l).length) = ha at *
  have K1 := Lib.hid k1'
  have K2 := Lib.hid k2'
  have K3 := Lib.hid k3'
  have K4 := Lib.hid k4
  have HX := Lib.hid hx
  clear k1' k2' k3' k4 hx
  go_enter Try.func124, Try.ntmps124
  go_wp2_with (first | ((go_at_call 136; (with_reducible refine (K1.out _ (hm.then bel_)).mono ?_); rintro e w1 ⟨rfl, hcb1⟩; obtain ⟨hcc1, hcf1⟩ := bcell hcb1; have hcz1 := hcb1.size; have hcB1 : Below w.heap.size w w1 := below_then bel_ hcb1); have hl1 : w.heap.size < w1.heap.size := Nat.lt_of_lt_of_le (by rw [World.size_alloc]; exact Nat.lt_succ_self _) hcz1) | ((go_at_call 137; (with_reducible refine (K2.out _).mono ?_); rintro e w2 ⟨rfl, hcb2⟩; obtain ⟨hcc2, hcf2⟩ := bcell hcb2; have hcz2 := hcb2.size; have hcB2 : Below w.heap.size w w2 := below_then bel_ hcb2); have hl2 := Nat.lt_of_lt_of_le hl1 hcz2) | ((go_at_call 136; (with_reducible refine (K3.out _ (hm.then bel_)).mono ?_); rintro e w3 ⟨rfl, hcb3⟩; obtain ⟨hcc3, hcf3⟩ := bcell hcb3; have hcz3 := hcb3.size; have hcB3 : Below w.heap.size w w3 := below_then bel_ hcb3); have hl3 := Nat.lt_of_lt_of_le hl2 hcz3; have hl3' := Nat.lt_succ_of_lt hl3) | ((go_at_call 138; (with_reducible refine (K4.out _ (hm.then bel_)).mono ?_); rintro e w4 ⟨rfl, hcb4⟩; obtain ⟨hcc4, hcf4⟩ := bcell hcb4; have hcz4 := hcb4.size; have hcB4 : Below w.heap.size w w4 := below_then bel_ hcb4); have hl4 := Nat.lt_of_lt_of_le hl3' (by rw [World.size_alloc] at hcz4; exact hcz4)))
  all_goals (have e := HX.out; clear HX K1 K2 K3 K4)
  all_goals first
    | (have e2 : p = ⟨[], [], [], 4⟩ := by (rw [← e]; clear e; first | (simp [*]; done) | grind)
       refine bodyPost_ret (v := .tuple #[.agg #[.string ⟨#[]⟩, .string ⟨#[]⟩, .string ⟨#[]⟩], .int .i64 4]) (by simp [results, Try.results124, go_sem, *]) rfl ⟨by rw [e2]; rfl, bel_⟩)
    | (have e2 : p = ⟨[], [], [], v⟩ := by (rw [← e]; clear e; first | (simp [*]; done) | grind)
       refine bodyPost_ret (v := .tuple #[.agg #[.string ⟨#[]⟩, .string ⟨#[]⟩, .string ⟨#[]⟩], .int .i64 v]) (by simp [results, Try.results124, go_sem, *]) rfl ⟨by rw [e2]; rfl, bel_⟩)
    | (have e2 : p = ⟨O, H, R, 0⟩ := by (rw [← e]; clear e; first | (simp [*]; done) | grind)
       refine bodyPost_ret (v := .tuple #[.agg #[.string (ba O), .string (ba H), .string (ba R)], .int .i64 0]) (by simp [results, Try.results124, go_sem, *]) rfl ⟨by rw [e2]; rfl, bel_⟩)
end Go.Proofs.Ytmmmcpeickfolaa

namespace Go.Proofs.Ytmmmcpeickfolaa
open Go.RowKit
theorem cut_drop (s:ByteArray) (k:Nat):s.extract k s.size=ba (s.data.toList.drop k):=by
 apply bl_inj
 rw [ba_list,Lib.extract_eq,List.take_of_length_le (by rw [List.length_drop,bl_len];exact Nat.le_refl _)]
end Go.Proofs.Ytmmmcpeickfolaa

namespace Go.Proofs.Ytmmmcpeickfolaa
open Go.RowKit
theorem ba_app (a b:List UInt8):ba a++ba b=ba (a++b):=by
 apply bl_inj
 simp [ba_list]
def textL (n h r:List UInt8):List UInt8:=if r.isEmpty=true then n++[64]++h else n++[64]++h++[47]++r
set_option maxHeartbeats 1000000 in
theorem text_c (n h r:List UInt8) (w:World) (hn:n.length≤100000) (hh:h.length≤100000) (hr:r.length≤100000) :
  Calls Try.prog 125 #[.agg #[.string (ba n),.string (ba h),.string (ba r)]] w (Ret w (.string (ba (textL n h r)))):=by
 have he:=empty_ba r
 have z1:=ba_size n
 have z2:=ba_size h
 have z3:=ba_size r
 go_enter Try.func125,Try.ntmps125
 go_wp2
 all_goals (go_ret;refine ⟨ret_v (congrArg Value.string (bl_inj ?_)),bel_⟩)
 all_goals (rw [ba_list];unfold textL;simp_all [ba_list])
theorem parse_small (l:List UInt8) (h:l.length≤100000):(parseL l).own.length≤100000∧(parseL l).place.length≤100000∧(parseL l).res.length≤100000:=by
 obtain ⟨z1,z2,z3,z4⟩:=find_small l h
 unfold parseL
 split
 ·simp
 ·split
  ·exact ⟨z2,z3,z4⟩
  ·simp
def bareT (l:List UInt8):List UInt8:=if (parseL l).err=0 then textL (parseL l).own (parseL l).place [] else []
def bareV (l:List UInt8):Value:=.tuple #[.string (ba (bareT l)),.int .i64 (parseL l).err]
set_option maxHeartbeats 1000000 in
theorem bare_c (s:ByteArray) (w:World) (hm:ML w) (hs:s.size≤100000) :
  Calls Try.prog 79 #[.string s] w (Ret w (bareV s.data.toList)):=by
 have hlen:=bl_len s
 obtain ⟨l,hl⟩ : ∃ l,s.data.toList=l:=⟨_,rfl⟩
 obtain ⟨z1,z2,z3⟩:=parse_small l (by rw [← hl,hlen];exact hs)
 have k1:=fun w' (hm' : ML w')=>parse_c s w' hm' hs
 have k2:=fun w'=>text_c (parseL l).own (parseL l).place [] w' z1 z2 (by simp)
 rw [hl] at k1 ⊢
 unfold bareV bareT
 obtain ⟨⟨O,H,R,v⟩,hp⟩ : ∃ p,parseL l=p:=⟨_,rfl⟩
 rw [hp] at k1 k2 ⊢
 generalize textL O H []=T at k2 ⊢
 have k1' : ∀ w',ML w'→Calls Try.prog 124 #[.string s] w' (Ret w' (.tuple #[.agg #[.string (ba O),.string (ba H),.string (ba R)],.int .i64 v])):=k1
 have k2' : ∀ w',Calls Try.prog 125 #[.agg #[.string (ba O),.string (ba H),.string ⟨#[]⟩]] w' (Ret w' (.string (ba T))):=k2
 clear k1 k2 hp hl z1 z2 z3 hlen
 have K1:=Lib.hid k1'
 have K2:=Lib.hid k2'
 clear k1' k2'
 go_enter Try.func79,Try.ntmps79
 go_wp2_with (first | (go_at_call 124;(with_reducible refine (K1.out _ hm).mono ?_);rintro e w1 ⟨rfl,hcb1⟩;obtain ⟨hcc1,hcf1⟩:=bcell hcb1;have hcz1:=hcb1.size;have hcB1:Below w.heap.size w w1:=below_then bel_ hcb1) | (go_at_call 125;(with_reducible refine (K2.out _).mono ?_);rintro e w2 ⟨rfl,hcb2⟩;obtain ⟨hcc2,hcf2⟩:=bcell hcb2;have hcz2:=hcb2.size;have hcB2:Below w.heap.size w w2:=below_then bel_ hcb2))
 all_goals (go_ret2;refine ⟨ret_v ?_,bel_⟩)
 all_goals simp_all
 all_goals rfl
def isBareL (l:List UInt8):Bool:=decide ((parseL l).err=0) && (bareT l == l)
theorem isBare_bytes (s:ByteArray):isBareL s.data.toList=(decide ((parseL s.data.toList).err=0) && ((ba (bareT s.data.toList)).toList == s.toList)):=by
 unfold isBareL
 rw [ByteArray.toList_eq,ByteArray.toList_eq,ba_list]
set_option maxHeartbeats 1000000 in
theorem isBare_c (s:ByteArray) (w:World) (hm:ML w) (hs:s.size≤100000) :
  Calls Try.prog 40 #[.string s] w (Ret w (.bool (isBareL s.data.toList))):=by
 have k1:=bare_c s w hm hs
 rw [isBare_bytes]
 unfold bareV at k1
 generalize bareT s.data.toList=T at *
 generalize (parseL s.data.toList).err=v at *
 have K1:=Lib.hid k1
 clear k1
 go_enter Try.func40,Try.ntmps40
 go_wp2_with (go_at_call 79;(with_reducible refine (K1.out).mono ?_);rintro e w1 ⟨rfl,hcb1⟩;obtain ⟨hcc1,hcf1⟩:=bcell hcb1;have hcz1:=hcb1.size;have hcB1:Below w.heap.size w w1:=below_then bel_ hcb1)
 all_goals (go_ret;refine ⟨ret_b ?_,bel_⟩)
 all_goals simp_all
end Go.Proofs.Ytmmmcpeickfolaa

namespace Go.Proofs.Ytmmmcpeickfolaa
open Go.RowKit
end Go.Proofs.Ytmmmcpeickfolaa

namespace Go.Proofs.Ytmmmcpeickfolaa
open Go.RowKit
def hasN (k:Nat):List UInt8 :=
 if k=1 then [117,114] else if k=3 then [115,112] else if k=5 then [117,115,112]
 else if k=6∨k=7∨k=8∨k=9∨k=10∨k=11∨k=14 then [117]
 else if k=12∨k=15∨k=36∨k=41 then [110]
 else if k=13 then [117,109] else if k=32 then [99,110] else if k=33 then [99,115,110]
 else if k=34 then [117,114,115,112,110] else if k=35 then [117,114,110] else if k=38 then [117,109,115,110]
 else if k=39 then [117,110] else if k=40 then [117,99] else []
set_option maxRecDepth 100000 in
set_option maxHeartbeats 2000000 in
theorem has_c (k:UInt8) (w:World):Calls Try.prog 35 #[.int .u8 k.toNat] w fun e w'=>e=.returned (.string (ba (hasN k.toNat)))∧w=w':=by
 obtain ⟨n,hn⟩ : ∃ n,k.toNat=n:=⟨_,rfl⟩
 rw [hn]
 clear hn
 go_enter Try.func35,Try.ntmps35
 go_wp2
 all_goals (go_ret;refine ⟨ret_v (congrArg Value.string ?_),rfl⟩)
 all_goals go_tidy
 all_goals (simp only [beq_iff_eq,beq_eq_false_iff_ne,ne_eq] at *)
 all_goals (unfold hasN;repeat first | rfl | rw [if_pos (by omega)] | rw [if_neg (by omega)])
end Go.Proofs.Ytmmmcpeickfolaa

namespace Go.Proofs.Ytmmmcpeickfolaa
open Go.RowKit
def knownN (k:Nat):Bool:=(decide (1≤k) && decide (k≤15)) || (decide (32≤k) && decide (k≤41))
theorem asks_c (k:UInt8) (w:World):Calls Try.prog 74 #[.int .u8 k.toNat] w fun e w'=>e=.returned (.bool (decide (1≤k.toNat) && decide (k.toNat≤15)))∧w=w':=by
 obtain ⟨n,hn⟩ : ∃ n,k.toNat=n:=⟨_,rfl⟩
 rw [hn]
 clear hn
 go_enter Try.func74,Try.ntmps74
 go_wp2
 all_goals (go_ret;refine ⟨ret_b ?_,rfl⟩)
 all_goals go_tidy
 all_goals grind
theorem known_c (k:UInt8) (w:World):Calls Try.prog 36 #[.int .u8 k.toNat] w fun e w'=>e=.returned (.bool (knownN k.toNat))∧w=w':=by
 have k1:=asks_c k w
 obtain ⟨n,hn⟩ : ∃ n,k.toNat=n:=⟨_,rfl⟩
 rw [hn] at k1 ⊢
 have K1:=Lib.hid k1
 clear hn k1
 unfold knownN
 by_cases h:(decide (1≤n) && decide (n≤15))=true
 ·rw [h] at K1 ⊢
  go_enter Try.func36,Try.ntmps36
  go_wp2_with (go_at_call 74;(with_reducible refine (K1.out).mono ?_);rintro e w' ⟨rfl,rfl⟩)
  all_goals (go_ret;refine ⟨ret_b ?_,rfl⟩)
  all_goals go_tidy
  all_goals simp_all
 ·simp only [Bool.not_eq_true] at h
  rw [h] at K1 ⊢
  go_enter Try.func36,Try.ntmps36
  go_wp2_with (go_at_call 74;(with_reducible refine (K1.out).mono ?_);rintro e w' ⟨rfl,rfl⟩)
  all_goals (go_ret;refine ⟨ret_b ?_,rfl⟩)
  all_goals go_tidy
  all_goals grind
theorem stzIn_c (n a b:Int) (w:World):Calls Try.prog 38 #[.int .i64 n,.int .i64 a,.int .i64 b] w fun e w'=>e=.returned (.bool (decide (a≤n) && decide (n≤b)))∧w=w':=by
 go_enter Try.func38,Try.ntmps38
 go_wp2
 all_goals (go_ret;refine ⟨ret_b ?_,rfl⟩)
 all_goals go_tidy
 all_goals grind
end Go.Proofs.Ytmmmcpeickfolaa

namespace Go.Proofs.Ytmmmcpeickfolaa
open Go.RowKit
structure StzD where
 kind:UInt8
 user:ByteArray
 res:ByteArray
 name:ByteArray
 show_:Int
 prio:Int
 code:Int
 n:Int
def StzD.arr (s:StzD):Array Value:=#[.int .u8 s.kind.toNat,.string s.user,.string s.res,.string s.name,.int .i64 s.show_,.int .i64 s.prio,.int .i64 s.code,.int .i64 s.n]
def hasC (k:UInt8) (c:UInt8):Bool:=(hasN k.toNat).any (· == c)
theorem ite_len {p:Prop} [Decidable p] {a b:List UInt8} {n:Nat} (ha:a.length≤n) (hb:b.length≤n):(if p then a else b).length≤n:=by
 by_cases h:p
 ·rw [if_pos h];exact ha
 ·rw [if_neg h];exact hb
theorem hasN_len (k:Nat):(hasN k).length≤5:=by
 unfold hasN
 repeat' first | (apply ite_len) | decide
def extraL (s:StzD):Bool :=
 ((!s.user.toList.isEmpty && !hasC s.kind 117) || (!s.res.toList.isEmpty && !hasC s.kind 114) || (!s.name.toList.isEmpty && !hasC s.kind 109)) ||
 ((s.show_ != 0 && !hasC s.kind 115) || (s.prio != 0 && !hasC s.kind 112) || (s.code != 0 && !hasC s.kind 99) || (s.n != 0 && !hasC s.kind 110))
def rangeL (s:StzD):Bool:=(decide (0≤s.show_) && decide (s.show_≤63)) && (decide (-128≤s.prio) && decide (s.prio≤127)) && (decide (0≤s.code) && decide (s.code≤255)) && (decide (0≤s.n) && decide (s.n≤281474976710655))
def checkS (s:StzD):Int :=
 if knownN s.kind.toNat=false then 12 else if extraL s=true then 4 else if rangeL s=false then 8 else if 24 < s.name.size then 5
 else if plainL s.name.data.toList=false then 11 else if (hasC s.kind 117 && !isBareL s.user.data.toList)=true then 11 else resL s.res.data.toList
end Go.Proofs.Ytmmmcpeickfolaa

namespace Go.Proofs.Ytmmmcpeickfolaa
open Go.RowKit
end Go.Proofs.Ytmmmcpeickfolaa

namespace Go.Proofs.Ytmmmcpeickfolaa
open Go.RowKit
end Go.Proofs.Ytmmmcpeickfolaa

