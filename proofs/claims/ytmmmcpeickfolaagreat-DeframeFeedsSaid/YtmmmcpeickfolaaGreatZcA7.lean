/- A part of the proof: 11 texts joined. -/
import Derived.Test.YtmmmcpeickfolaaGreatZcA6
import Derived.BigRegion
set_option linter.all false
namespace Go.Proofs.YtmmmcpeickfolaaGreat
open Go.RowKit
theorem same_mono {P:Program} {f:FuncId} {args:Array Value} {w:World} {v:Value} (h:Calls P f args w fun e w'=>e=.returned v∧w=w'):Calls P f args w (Ret w v) :=
 h.mono fun _ _ h=>⟨h.1,h.2 ▸ Below.refl _ _⟩
set_option maxRecDepth 100000 in
set_option maxHeartbeats 2000000 in
theorem refCheck_c (n h r:ByteArray) (w:World) (hn:n.size≤100000) (hh:h.size≤100000) (hr:r.size≤100000) :
  Calls Tryz.prog 220 #[.agg #[.string n,.string h,.string r]] w (Ret w (.int .i64 (checkA n.data.toList h.data.toList r.data.toList))):=by
 have HX:=Lib.hid (checkA_bytes n h r)
 have HK1:=Lib.hid (fun w'=>refName_c n w' hn)
 have HK2:=Lib.hid (fun w'=>same_mono (refHost_c h w' (by omega)))
 have hk3:=(fun w'=>refPlain_c r w' (by omega))
 rw [plain_same] at hk3
 have HK3:=Lib.hid hk3
 clear hk3
 have hsame:h.toList.isEmpty=false→hostR h.data.toList=hostP h.data.toList:=fun he=>host_same _ (by intro h0;rw [← isEmpty_bl,h0] at he;exact absurd he (by simp))
 obtain ⟨v,hv⟩ : ∃ v,checkA n.data.toList h.data.toList r.data.toList=v:=⟨_,rfl⟩
 rw [hv] at HX ⊢
 clear hv
 generalize nameL n.data.toList=b1 at HX HK1
 generalize hostP h.data.toList=b2 at HX hsame
 generalize hostR h.data.toList=b4 at HK2 hsame
 generalize plainL r.data.toList=b3 at HX HK3
 have HSM:=Lib.hid hsame
 clear hsame
 go_enter Tryz.func220,Tryz.ntmps220
 go_wp2_with (first | ((go_at_call 236;(with_reducible refine (HK1.out _).mono ?_);rintro e w1 ⟨rfl,hcb1⟩;obtain ⟨hcc1,hcf1⟩:=bcell hcb1;have hcz1:=hcb1.size;have hcB1:Below w.heap.size w w1:=below_then bel_ hcb1);have hxb:w.heap.size < w1.heap.size:=by (have q:=hcz1;rw [World.size_alloc] at q;omega)) | ((go_at_call 237;(with_reducible refine (HK2.out _).mono ?_);rintro e w2 ⟨rfl,hcb2⟩;obtain ⟨hcc2,hcf2⟩:=bcell hcb2;have hcz2:=hcb2.size;have hcB2:Below w.heap.size w w2:=below_then bel_ hcb2);have hxc:=Nat.lt_of_lt_of_le hxb hcz2) | (go_at_call 150;(with_reducible refine (HK3.out _).mono ?_);rintro e w3 ⟨rfl,hcb3⟩;obtain ⟨hcc3,hcf3⟩:=bcell hcb3;have hcz3:=hcb3.size;have hcB3:Below w.heap.size w w3:=below_then bel_ hcb3))
 all_goals (have e:=HX.out;have e4:=HSM.out)
 all_goals (go_ret;refine ⟨?_,bel_⟩)
 all_goals (refine ret_i ?_;rw [e])
 all_goals (clear HX HK1 HK2 HK3 HSM e)
 all_goals first | (simp [*];done) | grind
end Go.Proofs.YtmmmcpeickfolaaGreat

namespace Go.Proofs.YtmmmcpeickfolaaGreat
open Go.RowKit
theorem findL_cons (b c:UInt8) (l:List UInt8):findL (b :: l) c=if (b == c)=true then 0 else findL l c + 1:=by
 unfold findL
 rw [List.findIdx_cons]
 cases (b == c) <;> rfl
theorem findL_le (l:List UInt8) (c:UInt8):findL l c≤l.length:=List.findIdx_le_length
theorem byte_find:∀ (l:List UInt8) (c:UInt8),Lib.indexByte l c=if findL l c < l.length then (findL l c:Int) else -1
 | [],c=>rfl
 | b :: l,c=>by
  have ih:=byte_find l c
  have hle:=findL_le l c
  rw [findL_cons]
  unfold Lib.indexByte
  rw [ih]
  cases (b == c) with
  | true=>simp
  | false =>
   by_cases h:findL l c < l.length
   ·simp [h]
   ·simp [h]
theorem cut_one (l:List UInt8) (c:UInt8):Lib.cut l [c]=(l.take (findL l c),l.drop (findL l c + 1),decide (findL l c < l.length)):=by
 unfold Lib.cut
 rw [Lib.index_one,byte_find]
 have hle:=findL_le l c
 by_cases h:findL l c < l.length
 ·simp [h]
 ·have e:findL l c=l.length:=by omega
  rw [if_neg h,if_neg (by omega),e]
  simp
theorem cut_c (s:ByteArray) (c:UInt8) (w:World) (hm:ML w) (hs:s.size≤1000000) :
  Calls Tryz.prog 197 #[.string s,.string ⟨#[c]⟩] w (Ret w (.tuple #[.string (ba (s.data.toList.take (findL s.data.toList c))),.string (ba (s.data.toList.drop (findL s.data.toList c + 1))),.bool (decide (findL s.data.toList c < s.data.toList.length))])):=by
 obtain ⟨_,m,hm⟩:=hm
 refine (Tryz.strings_Cut s ⟨#[c]⟩ m w (by omega) hm).mono ?_
 rintro e w' ⟨rfl,n,rfl⟩
 have hc:=cut_one s.data.toList c
 refine ⟨?_,below_drewN (Below.refl _ _) _⟩
 show Ending.returned (.tuple #[.string ⟨(Lib.cut s.data.toList [c]).1.toArray⟩,.string ⟨(Lib.cut s.data.toList [c]).2.1.toArray⟩,.bool (Lib.cut s.data.toList [c]).2.2])=_
 rw [hc]
 rfl
end Go.Proofs.YtmmmcpeickfolaaGreat

namespace Go.Proofs.YtmmmcpeickfolaaGreat
open Go.RowKit
structure ParseD where
 own:List UInt8
 place:List UInt8
 res:List UInt8
 err:Int
def ParseD.val (x:ParseD):Value:=.tuple #[.agg #[.string (ba x.own),.string (ba x.place),.string (ba x.res)],.int .i64 x.err]
def frontL (l:List UInt8):List UInt8:=(l.take (findL l 47)).map lowC
def ownL (l:List UInt8):List UInt8:=(frontL l).take (findL (frontL l) 64)
def placeL (l:List UInt8):List UInt8:=(frontL l).drop (findL (frontL l) 64 + 1)
def tailR (l:List UInt8):List UInt8:=l.drop (findL l 47 + 1)
def parseL (l:List UInt8):ParseD :=
 if (!decide (findL (frontL l) 64 < (frontL l).length) || (decide (findL l 47 < l.length) && (tailR l).isEmpty))=true then ⟨[],[],[],4⟩
 else if checkA (ownL l) (placeL l) (tailR l)=0 then ⟨ownL l,placeL l,tailR l,0⟩ else ⟨[],[],[],checkA (ownL l) (placeL l) (tailR l)⟩
theorem lowB_ba (l:List UInt8):lowB (ba l)=ba (l.map lowC):=bl_inj (by rw [lowB_list,ba_list,ba_list])
theorem find_small (l:List UInt8) (h:l.length≤100000):(frontL l).length≤100000∧(ownL l).length≤100000∧(placeL l).length≤100000∧(tailR l).length≤100000:=by
 have h1:(frontL l).length≤l.length:=by unfold frontL;simp;omega
 refine ⟨by omega,?_,?_,?_⟩
 ·unfold ownL;simp;omega
 ·unfold placeL;simp;omega
 ·unfold tailR;simp;omega
theorem empty_ba (l:List UInt8):(ba l).toList.isEmpty=l.isEmpty:=by rw [ByteArray.toList_eq,ba_list]
set_option maxRecDepth 100000 in
set_option maxHeartbeats 2000000 in
theorem parse_c (s : ByteArray) (w : World) (hm : ML w) (hs : s.size ≤ 100000) :
    Calls Tryz.prog 171 #[.string s] w (Ret w (parseL s.data.toList).val) := by
  have hlen := bl_len s
  obtain ⟨l, hl⟩ : ∃ l, s.data.toList = l := ⟨_, rfl⟩
  have hll : l.length ≤ 100000 := by rw [← hl, hlen]; exact hs
  obtain ⟨z1, z2, z3, z4⟩ := find_small l hll
  have k1 := fun w' (hm' : ML w') => cut_c s 47 w' hm' (by omega)
  have k2 := fun w' => low_c (ba (l.take (findL l 47))) w' (by rw [ba_size]; simp; omega)
  have k3 := fun w' (hm' : ML w') => cut_c (ba (frontL l)) 64 w' hm' (by rw [ba_size]; omega)
  have k4 := fun w' (hm' : ML w') => check_c (ba (ownL l)) (ba (placeL l)) (ba (tailR l)) w' hm' (by rw [ba_size]; omega) (by rw [ba_size]; omega) (by rw [ba_size]; omega)
  rw [hl] at k1 ⊢
  rw [lowB_ba] at k2
  simp only [ba_list] at k3 k4
  have k1' : ∀ w', ML w' → Calls Tryz.prog 197 #[.string s, .string ⟨#[47]⟩] w' (Ret w' (.tuple #[.string (ba (l.take (findL l 47))), .string (ba (tailR l)), .bool (decide (findL l 47 < l.length))])) := k1
  have k2' : ∀ w', Calls Tryz.prog 198 #[.string (ba (l.take (findL l 47)))] w' (Ret w' (.string (ba (frontL l)))) := k2
  have k3' : ∀ w', ML w' → Calls Tryz.prog 197 #[.string (ba (frontL l)), .string ⟨#[64]⟩] w' (Ret w' (.tuple #[.string (ba (ownL l)), .string (ba (placeL l)), .bool (decide (findL (frontL l) 64 < (frontL l).length))])) := k3
  have he := empty_ba (tailR l)
  obtain ⟨p, hp⟩ : ∃ p, parseL l = p := ⟨_, rfl⟩
  have hx := hp
  unfold parseL at hx
  rw [← he] at hx
  rw [hp]
  clear k1 k2 k3 hp hl hlen hll z1 z2 z3 z4 he
  generalize ownL l = O at *
  generalize placeL l = H at *
  generalize tailR l = R at *
  generalize ba (l.take (findL l 47)) = F at *
  generalize checkA O H R = v at *
  generalize ba (frontL l) = G at *
  generalize decide (findL l 47 < l.length) = sl at *
  generalize decide (findL (frontL l) 64 < (frontL l).length) = ha at *
  have K1 := Lib.hid k1'
  have K2 := Lib.hid k2'
  have K3 := Lib.hid k3'
  have K4 := Lib.hid k4
  have HX := Lib.hid hx
  clear k1' k2' k3' k4 hx
  go_enter Tryz.func171, Tryz.ntmps171
  go_wp2_with (first | ((go_at_call 197; (with_reducible refine (K1.out _ (hm.then bel_)).mono ?_); rintro e w1 ⟨rfl, hcb1⟩; obtain ⟨hcc1, hcf1⟩ := bcell hcb1; have hcz1 := hcb1.size; have hcB1 : Below w.heap.size w w1 := below_then bel_ hcb1); have hl1 : w.heap.size < w1.heap.size := Nat.lt_of_lt_of_le (by rw [World.size_alloc]; exact Nat.lt_succ_self _) hcz1) | ((go_at_call 198; (with_reducible refine (K2.out _).mono ?_); rintro e w2 ⟨rfl, hcb2⟩; obtain ⟨hcc2, hcf2⟩ := bcell hcb2; have hcz2 := hcb2.size; have hcB2 : Below w.heap.size w w2 := below_then bel_ hcb2); have hl2 := Nat.lt_of_lt_of_le hl1 hcz2) | ((go_at_call 197; (with_reducible refine (K3.out _ (hm.then bel_)).mono ?_); rintro e w3 ⟨rfl, hcb3⟩; obtain ⟨hcc3, hcf3⟩ := bcell hcb3; have hcz3 := hcb3.size; have hcB3 : Below w.heap.size w w3 := below_then bel_ hcb3); have hl3 := Nat.lt_of_lt_of_le hl2 hcz3; have hl3' := Nat.lt_succ_of_lt hl3) | ((go_at_call 199; (with_reducible refine (K4.out _ (hm.then bel_)).mono ?_); rintro e w4 ⟨rfl, hcb4⟩; obtain ⟨hcc4, hcf4⟩ := bcell hcb4; have hcz4 := hcb4.size; have hcB4 : Below w.heap.size w w4 := below_then bel_ hcb4); have hl4 := Nat.lt_of_lt_of_le hl3' (by rw [World.size_alloc] at hcz4; exact hcz4)))
  all_goals (have e := HX.out; clear HX K1 K2 K3 K4)
  all_goals first
    | (have e2 : p = ⟨[], [], [], 4⟩ := by (rw [← e]; clear e; first | (simp [*]; done) | grind)
       refine bodyPost_ret (v := .tuple #[.agg #[.string ⟨#[]⟩, .string ⟨#[]⟩, .string ⟨#[]⟩], .int .i64 4]) (by simp [results, Tryz.results171, go_sem, *]) rfl ⟨by rw [e2]; rfl, bel_⟩)
    | (have e2 : p = ⟨[], [], [], v⟩ := by (rw [← e]; clear e; first | (simp [*]; done) | grind)
       refine bodyPost_ret (v := .tuple #[.agg #[.string ⟨#[]⟩, .string ⟨#[]⟩, .string ⟨#[]⟩], .int .i64 v]) (by simp [results, Tryz.results171, go_sem, *]) rfl ⟨by rw [e2]; rfl, bel_⟩)
    | (have e2 : p = ⟨O, H, R, 0⟩ := by (rw [← e]; clear e; first | (simp [*]; done) | grind)
       refine bodyPost_ret (v := .tuple #[.agg #[.string (ba O), .string (ba H), .string (ba R)], .int .i64 0]) (by simp [results, Tryz.results171, go_sem, *]) rfl ⟨by rw [e2]; rfl, bel_⟩)
end Go.Proofs.YtmmmcpeickfolaaGreat

namespace Go.Proofs.YtmmmcpeickfolaaGreat
open Go.RowKit
theorem cut_take (s:ByteArray) (k:Nat):s.extract 0 k=ba (s.data.toList.take k):=by
 apply bl_inj
 rw [ba_list,Lib.extract_eq]
 simp
theorem cut_drop (s:ByteArray) (k:Nat):s.extract k s.size=ba (s.data.toList.drop k):=by
 apply bl_inj
 rw [ba_list,Lib.extract_eq,List.take_of_length_le (by rw [List.length_drop,bl_len];exact Nat.le_refl _)]
set_option maxRecDepth 100000 in
set_option maxHeartbeats 2000000 in
theorem refParse_c (s : ByteArray) (w : World) (hs : s.size ≤ 100000) :
    Calls Tryz.prog 205 #[.string s] w (Ret w (parseL s.data.toList).val) := by
  have hlen := bl_len s
  obtain ⟨l, hl⟩ : ∃ l, s.data.toList = l := ⟨_, rfl⟩
  have hll : l.length ≤ 100000 := by rw [← hl, hlen]; exact hs
  obtain ⟨z1, z2, z3, z4⟩ := find_small l hll
  have k1 := fun w' => same_mono (find_c s 47 w' (by omega))
  have k2 := fun w' => refLow_c (ba (l.take (findL l 47))) w' (by rw [ba_size]; simp; omega)
  have k3 := fun w' => same_mono (find_c (ba (frontL l)) 64 w' (by rw [ba_size]; omega))
  have k4 := fun w' => refCheck_c (ba (ownL l)) (ba (placeL l)) (ba (tailR l)) w' (by rw [ba_size]; omega) (by rw [ba_size]; omega) (by rw [ba_size]; omega)
  rw [hl] at k1 ⊢
  rw [lowB_ba] at k2
  simp only [ba_list] at k3 k4
  have e1 : s.extract 0 (findL l 47) = ba (l.take (findL l 47)) := by rw [cut_take, hl]
  have e2 : s.extract (findL l 47 + 1) s.size = ba (tailR l) := by rw [cut_drop, hl]; rfl
  have e3 : (ba (frontL l)).extract 0 (findL (frontL l) 64) = ba (ownL l) := by rw [cut_take, ba_list]; rfl
  have e4 : (ba (frontL l)).extract (findL (frontL l) 64 + 1) (ba (frontL l)).size = ba (placeL l) := by rw [cut_drop, ba_list]; rfl
  have k1' : ∀ w', Calls Tryz.prog 218 #[.string s, .int .u8 47] w' (Ret w' (.int .i64 (findL l 47))) := k1
  have k3' : ∀ w', Calls Tryz.prog 218 #[.string (ba (frontL l)), .int .u8 64] w' (Ret w' (.int .i64 (findL (frontL l) 64))) := k3
  have k2' : ∀ w', Calls Tryz.prog 219 #[.string (ba (l.take (findL l 47)))] w' (Ret w' (.string (ba (frontL l)))) := k2
  have g1 : findL l 47 ≤ s.size := by have := findL_le l 47; rw [← hlen, hl]; exact this
  have g2 : findL (frontL l) 64 ≤ (ba (frontL l)).size := by rw [ba_size]; exact findL_le _ _
  have g7 : (ba (frontL l)).size ≤ 100000 := by rw [ba_size]; exact z1
  have g3 : l.length = s.size := by rw [← hl, hlen]
  have g4 : (frontL l).length = (ba (frontL l)).size := (ba_size _).symm
  have g5 : (tailR l).isEmpty = decide (s.size ≤ findL l 47 + 1) := by
    rw [Bool.eq_iff_iff, List.isEmpty_iff_length_eq_zero, decide_eq_true_eq]
    unfold tailR; rw [List.length_drop, g3]; omega
  obtain ⟨p, hp⟩ : ∃ p, parseL l = p := ⟨_, rfl⟩
  have hx := hp
  unfold parseL at hx
  rw [g3, g4, g5] at hx
  have g6 : s.size ≤ findL l 47 → tailR l = [] := fun h => by unfold tailR; exact List.drop_eq_nil_of_le (by rw [g3]; omega)
  rw [hp]
  clear k1 k2 k3 hp hl hlen hll z1 z2 z3 z4 g3 g4 g5
  generalize ownL l = O at *
  generalize placeL l = H at *
  generalize tailR l = R at *
  generalize ba (l.take (findL l 47)) = F at *
  generalize checkA O H R = v at *
  generalize findL (frontL l) 64 = j at *
  generalize ba (frontL l) = G at *
  generalize findL l 47 = k at *
  have K1 := Lib.hid k1'
  have K2 := Lib.hid k2'
  have K3 := Lib.hid k3'
  have K4 := Lib.hid k4
  have HX := Lib.hid hx
  have HR := Lib.hid g6
  clear k1' k2' k3' k4 hx g6
  go_enter Tryz.func205, Tryz.ntmps205
  go_wp2_with (first | ((go_at_call 218; (with_reducible refine (K1.out _).mono ?_); rintro e w1 ⟨rfl, hcb1⟩; obtain ⟨hcc1, hcf1⟩ := bcell hcb1; have hcz1 := hcb1.size; have hcB1 : Below w.heap.size w w1 := below_then bel_ hcb1); have hl1 : w.heap.size < w1.heap.size := Nat.lt_of_lt_of_le (by rw [World.size_alloc]; exact Nat.lt_succ_self _) hcz1) | ((go_at_call 219; (with_reducible refine (K2.out _).mono ?_); rintro e w2 ⟨rfl, hcb2⟩; obtain ⟨hcc2, hcf2⟩ := bcell hcb2; have hcz2 := hcb2.size; have hcB2 : Below w.heap.size w w2 := below_then bel_ hcb2); have hl2 := Nat.lt_of_lt_of_le hl1 hcz2) | ((go_at_call 218; (with_reducible refine (K3.out _).mono ?_); rintro e w3 ⟨rfl, hcb3⟩; obtain ⟨hcc3, hcf3⟩ := bcell hcb3; have hcz3 := hcb3.size; have hcB3 : Below w.heap.size w w3 := below_then bel_ hcb3); have hl3 := Nat.lt_of_lt_of_le hl2 hcz3; have hl3' := Nat.lt_succ_of_lt hl3) | ((go_at_call 220; (with_reducible refine (K4.out _).mono ?_); rintro e w4 ⟨rfl, hcb4⟩; obtain ⟨hcc4, hcf4⟩ := bcell hcb4; have hcz4 := hcb4.size; have hcB4 : Below w.heap.size w w4 := below_then bel_ hcb4); have hl4 := Nat.lt_of_lt_of_le hl3' (by rw [World.size_alloc] at hcz4; exact hcz4)))
  rotate_left 2
  have q1 : IntKind.i64.wrap ((j : Int) + 1) = (j : Int) + 1 := IntWalk.i64_in _ (by omega)
  have q2 : (0 : Int) ≤ (j : Int) + 1 := by omega
  have q3 : ((j : Int) + 1).toNat = j + 1 := by omega
  · go_region
    clear q1 q2 q3
    by_cases hk : k < s.size
    · have K4' := K4.out
      clear K4 HR
      go_wp2_with (first | (have hq5 := hl4; (go_at_call 220; (with_reducible refine (K4' _).mono ?_); rintro e w5 ⟨rfl, hcb5⟩; obtain ⟨hcc5, hcf5⟩ := bcell hcb5; have hcz5 := hcb5.size; have hcB5 : Below w.heap.size w w5 := below_then bel_ hcb5); have hl5 := Nat.lt_of_lt_of_le hl4 hcz5) | ((go_at_call 220; (with_reducible refine (K4' _).mono ?_); rintro e w4 ⟨rfl, hcb4⟩; obtain ⟨hcc4, hcf4⟩ := bcell hcb4; have hcz4 := hcb4.size; have hcB4 : Below w.heap.size w w4 := below_then bel_ hcb4); have hl4 := Nat.lt_of_lt_of_le hl3' (by rw [World.size_drew, World.size_alloc] at hcz4; exact hcz4)))
      all_goals (have e := HX.out; clear HX K1 K2 K3)
      all_goals first
        | (have e9 : p = ⟨[], [], [], 4⟩ := by (rw [← e]; clear e; first | (simp [*]; done) | grind)
           refine bodyPost_ret (v := .tuple #[.agg #[.string ⟨#[]⟩, .string ⟨#[]⟩, .string ⟨#[]⟩], .int .i64 4]) (by simp [results, Tryz.results205, go_sem, *]) rfl ⟨by rw [e9]; rfl, bel_⟩)
        | (have e9 : p = ⟨[], [], [], v⟩ := by (rw [← e]; clear e; first | (simp [*]; done) | grind)
           refine bodyPost_ret (v := .tuple #[.agg #[.string ⟨#[]⟩, .string ⟨#[]⟩, .string ⟨#[]⟩], .int .i64 v]) (by simp [results, Tryz.results205, go_sem, *]) rfl ⟨by rw [e9]; rfl, bel_⟩)
        | (have e9 : p = ⟨O, H, R, 0⟩ := by (rw [← e]; clear e; first | (simp [*]; done) | grind)
           refine bodyPost_ret (v := .tuple #[.agg #[.string (ba O), .string (ba H), .string (ba R)], .int .i64 0]) (by simp [results, Tryz.results205, go_sem, *]) rfl ⟨by rw [e9]; rfl, bel_⟩)
    · have hR := HR.out (by omega)
      subst hR
      have K4' : ∀ w', Calls Tryz.prog 220 #[.agg #[.string (ba O), .string (ba H), .string ⟨#[]⟩]] w' (Ret w' (.int .i64 v)) := K4.out
      clear K4 HR
      go_wp2_with (first | (have hq5 := hl4; (go_at_call 220; (with_reducible refine (K4' _).mono ?_); rintro e w5 ⟨rfl, hcb5⟩; obtain ⟨hcc5, hcf5⟩ := bcell hcb5; have hcz5 := hcb5.size; have hcB5 : Below w.heap.size w w5 := below_then bel_ hcb5); have hl5 := Nat.lt_of_lt_of_le hl4 hcz5) | ((go_at_call 220; (with_reducible refine (K4' _).mono ?_); rintro e w4 ⟨rfl, hcb4⟩; obtain ⟨hcc4, hcf4⟩ := bcell hcb4; have hcz4 := hcb4.size; have hcB4 : Below w.heap.size w w4 := below_then bel_ hcb4); have hl4 := Nat.lt_of_lt_of_le hl3' (by rw [World.size_drew, World.size_alloc] at hcz4; exact hcz4)))
      all_goals (have e := HX.out; clear HX K1 K2 K3)
      all_goals first
        | (have e9 : p = ⟨[], [], [], 4⟩ := by (rw [← e]; clear e; first | (simp [*]; done) | grind)
           refine bodyPost_ret (v := .tuple #[.agg #[.string ⟨#[]⟩, .string ⟨#[]⟩, .string ⟨#[]⟩], .int .i64 4]) (by simp [results, Tryz.results205, go_sem, *]) rfl ⟨by rw [e9]; rfl, bel_⟩)
        | (have e9 : p = ⟨[], [], [], v⟩ := by (rw [← e]; clear e; first | (simp [*]; done) | grind)
           refine bodyPost_ret (v := .tuple #[.agg #[.string ⟨#[]⟩, .string ⟨#[]⟩, .string ⟨#[]⟩], .int .i64 v]) (by simp [results, Tryz.results205, go_sem, *]) rfl ⟨by rw [e9]; rfl, bel_⟩)
        | (have e9 : p = ⟨O, H, [], 0⟩ := by (rw [← e]; clear e; first | (simp [*]; done) | grind)
           refine bodyPost_ret (v := .tuple #[.agg #[.string (ba O), .string (ba H), .string ⟨#[]⟩], .int .i64 0]) (by simp [results, Tryz.results205, go_sem, *]) rfl ⟨by rw [e9]; rfl, bel_⟩)
  all_goals (have e := HX.out; clear HX K1 K2 K3)
  all_goals first
    | (have e9 : p = ⟨[], [], [], 4⟩ := by (rw [← e]; clear e; first | (simp [*]; done) | grind)
       refine bodyPost_ret (v := .tuple #[.agg #[.string ⟨#[]⟩, .string ⟨#[]⟩, .string ⟨#[]⟩], .int .i64 4]) (by simp [results, Tryz.results205, go_sem, *]) rfl ⟨by rw [e9]; rfl, bel_⟩)
end Go.Proofs.YtmmmcpeickfolaaGreat

namespace Go.Proofs.YtmmmcpeickfolaaGreat
open Go.RowKit
theorem ba_app (a b:List UInt8):ba a++ba b=ba (a++b):=by
 apply bl_inj
 simp [ba_list]
def textL (n h r:List UInt8):List UInt8:=if r.isEmpty=true then n++[64]++h else n++[64]++h++[47]++r
set_option maxHeartbeats 1000000 in
theorem text_c (n h r:List UInt8) (w:World) (hn:n.length≤100000) (hh:h.length≤100000) (hr:r.length≤100000) :
  Calls Tryz.prog 172 #[.agg #[.string (ba n),.string (ba h),.string (ba r)]] w (Ret w (.string (ba (textL n h r)))):=by
 have he:=empty_ba r
 have z1:=ba_size n
 have z2:=ba_size h
 have z3:=ba_size r
 go_enter Tryz.func172,Tryz.ntmps172
 go_wp2
 all_goals (go_ret;refine ⟨ret_v (congrArg Value.string (bl_inj ?_)),bel_⟩)
 all_goals (rw [ba_list];unfold textL;simp_all [ba_list])
theorem parse_small (l:List UInt8) (h:l.length≤100000):(parseL l).own.length≤100000∧(parseL l).place.length≤100000∧(parseL l).res.length≤100000:=by
 obtain ⟨z1,z2,z3,z4⟩:=find_small l h
 unfold parseL
 split
 ·simp
 ·split
  ·exact ⟨z2,z3,z4⟩
  ·simp
def bareT (l:List UInt8):List UInt8:=if (parseL l).err=0 then textL (parseL l).own (parseL l).place [] else []
def bareV (l:List UInt8):Value:=.tuple #[.string (ba (bareT l)),.int .i64 (parseL l).err]
set_option maxHeartbeats 1000000 in
theorem bare_c (s:ByteArray) (w:World) (hm:ML w) (hs:s.size≤100000) :
  Calls Tryz.prog 122 #[.string s] w (Ret w (bareV s.data.toList)):=by
 have hlen:=bl_len s
 obtain ⟨l,hl⟩ : ∃ l,s.data.toList=l:=⟨_,rfl⟩
 obtain ⟨z1,z2,z3⟩:=parse_small l (by rw [← hl,hlen];exact hs)
 have k1:=fun w' (hm' : ML w')=>parse_c s w' hm' hs
 have k2:=fun w'=>text_c (parseL l).own (parseL l).place [] w' z1 z2 (by simp)
 rw [hl] at k1 ⊢
 unfold bareV bareT
 obtain ⟨⟨O,H,R,v⟩,hp⟩ : ∃ p,parseL l=p:=⟨_,rfl⟩
 rw [hp] at k1 k2 ⊢
 generalize textL O H []=T at k2 ⊢
 have k1' : ∀ w',ML w'→Calls Tryz.prog 171 #[.string s] w' (Ret w' (.tuple #[.agg #[.string (ba O),.string (ba H),.string (ba R)],.int .i64 v])):=k1
 have k2' : ∀ w',Calls Tryz.prog 172 #[.agg #[.string (ba O),.string (ba H),.string ⟨#[]⟩]] w' (Ret w' (.string (ba T))):=k2
 clear k1 k2 hp hl z1 z2 z3 hlen
 have K1:=Lib.hid k1'
 have K2:=Lib.hid k2'
 clear k1' k2'
 go_enter Tryz.func122,Tryz.ntmps122
 go_wp2_with (first | (go_at_call 171;(with_reducible refine (K1.out _ hm).mono ?_);rintro e w1 ⟨rfl,hcb1⟩;obtain ⟨hcc1,hcf1⟩:=bcell hcb1;have hcz1:=hcb1.size;have hcB1:Below w.heap.size w w1:=below_then bel_ hcb1) | (go_at_call 172;(with_reducible refine (K2.out _).mono ?_);rintro e w2 ⟨rfl,hcb2⟩;obtain ⟨hcc2,hcf2⟩:=bcell hcb2;have hcz2:=hcb2.size;have hcB2:Below w.heap.size w w2:=below_then bel_ hcb2))
 all_goals (go_ret2;refine ⟨ret_v ?_,bel_⟩)
 all_goals simp_all
 all_goals rfl
def isBareL (l:List UInt8):Bool:=decide ((parseL l).err=0) && (bareT l == l)
theorem isBare_bytes (s:ByteArray):isBareL s.data.toList=(decide ((parseL s.data.toList).err=0) && ((ba (bareT s.data.toList)).toList == s.toList)):=by
 unfold isBareL
 rw [ByteArray.toList_eq,ByteArray.toList_eq,ba_list]
set_option maxHeartbeats 1000000 in
theorem isBare_c (s:ByteArray) (w:World) (hm:ML w) (hs:s.size≤100000) :
  Calls Tryz.prog 70 #[.string s] w (Ret w (.bool (isBareL s.data.toList))):=by
 have k1:=bare_c s w hm hs
 rw [isBare_bytes]
 unfold bareV at k1
 generalize bareT s.data.toList=T at *
 generalize (parseL s.data.toList).err=v at *
 have K1:=Lib.hid k1
 clear k1
 go_enter Tryz.func70,Tryz.ntmps70
 go_wp2_with (go_at_call 122;(with_reducible refine (K1.out).mono ?_);rintro e w1 ⟨rfl,hcb1⟩;obtain ⟨hcc1,hcf1⟩:=bcell hcb1;have hcz1:=hcb1.size;have hcB1:Below w.heap.size w w1:=below_then bel_ hcb1)
 all_goals (go_ret;refine ⟨ret_b ?_,bel_⟩)
 all_goals simp_all
theorem checkA_nores {n h r:List UInt8} (e:checkA n h r=0):checkA n h []=0:=by
 unfold checkA at e ⊢
 split at e
 ·exact absurd e (by decide)
 ·next h1 =>
  split at e
  ·exact absurd e (by decide)
  ·next h2 =>
   split at e
   ·next h3 =>
    have hp:plainL []=true:=rfl
    simp only [Bool.and_eq_true] at h3
    rw [if_neg (by simp at h1 ⊢;exact h1.1),if_neg h2,if_pos (by simp [h3,hp])]
   ·exact absurd e (by decide)
theorem parse_ok {l:List UInt8} (h:(parseL l).err=0):checkA (parseL l).own (parseL l).place (parseL l).res=0:=by
 unfold parseL at h ⊢
 split at h
 ·exact absurd h (by decide)
 ·next h1 =>
  rw [if_neg h1]
  split at h
  ·next h2=>rw [if_pos h2];exact h2
  ·next h2=>exact absurd h h2
set_option maxHeartbeats 1000000 in
theorem refPrint_c (n h r:List UInt8) (w:World) (hn:n.length≤100000) (hh:h.length≤100000) (hr:r.length≤100000) :
  Calls Tryz.prog 206 #[.agg #[.string (ba n),.string (ba h),.string (ba r)]] w (Ret w (.tuple #[.string (ba (if checkA n h r=0 then textL n h r else [])),.int .i64 (checkA n h r)])):=by
 have he:=empty_ba r
 have z1:=ba_size n
 have z2:=ba_size h
 have z3:=ba_size r
 have k1:=fun w'=>refCheck_c (ba n) (ba h) (ba r) w' (by omega) (by omega) (by omega)
 simp only [ba_list] at k1
 obtain ⟨v,hv⟩ : ∃ v,checkA n h r=v:=⟨_,rfl⟩
 rw [hv] at k1 ⊢
 have K1:=Lib.hid k1
 clear k1 hv
 go_enter Tryz.func206,Tryz.ntmps206
 go_wp2_with (first | (have hq:=hl1;(go_at_call 220;(with_reducible refine (K1.out _).mono ?_);rintro e w2 ⟨rfl,hcb2⟩;obtain ⟨hcc2,hcf2⟩:=bcell hcb2;have hcz2:=hcb2.size;have hcB2:Below w.heap.size w w2:=below_then bel_ hcb2);have hl2:=Nat.lt_of_lt_of_le hl1 hcz2) | ((go_at_call 220;(with_reducible refine (K1.out _).mono ?_);rintro e w1 ⟨rfl,hcb1⟩;obtain ⟨hcc1,hcf1⟩:=bcell hcb1;have hcz1:=hcb1.size;have hcB1:Below w.heap.size w w1:=below_then bel_ hcb1);have hl1:w.heap.size < w1.heap.size:=Nat.lt_of_lt_of_le (by rw [World.size_alloc];exact Nat.lt_succ_self _) hcz1))
 all_goals (go_ret2;refine ⟨ret_v ?_,bel_⟩)
 all_goals (clear K1)
 all_goals (try unfold textL)
 all_goals simp_all
 all_goals first
  | rfl
  | (apply bl_inj;simp [ba_list])
end Go.Proofs.YtmmmcpeickfolaaGreat

namespace Go.Proofs.YtmmmcpeickfolaaGreat
open Go.RowKit
set_option maxHeartbeats 1000000 in
theorem refBare_c (s:ByteArray) (w:World) (hs:s.size≤100000) :
  Calls Tryz.prog 188 #[.string s] w (Ret w (bareV s.data.toList)):=by
 have hlen:=bl_len s
 obtain ⟨l,hl⟩ : ∃ l,s.data.toList=l:=⟨_,rfl⟩
 obtain ⟨z1,z2,z3⟩:=parse_small l (by rw [← hl,hlen];exact hs)
 have k1:=fun w'=>refParse_c s w' hs
 have k2:=fun w'=>refPrint_c (parseL l).own (parseL l).place [] w' z1 z2 (by simp)
 have hok:(parseL l).err=0→checkA (parseL l).own (parseL l).place []=0:=fun h=>checkA_nores (parse_ok h)
 rw [hl] at k1 ⊢
 unfold bareV bareT
 obtain ⟨⟨O,H,R,v⟩,hp⟩ : ∃ p,parseL l=p:=⟨_,rfl⟩
 rw [hp] at k1 k2 hok ⊢
 have k1' : ∀ w',Calls Tryz.prog 205 #[.string s] w' (Ret w' (.tuple #[.agg #[.string (ba O),.string (ba H),.string (ba R)],.int .i64 v])):=k1
 have k2' : ∀ w',v=0→Calls Tryz.prog 206 #[.agg #[.string (ba O),.string (ba H),.string ⟨#[]⟩]] w' (Ret w' (.tuple #[.string (ba (textL O H [])),.int .i64 0])):=by
  intro w' hv
  have:=k2 w'
  rw [hok hv] at this
  exact this
 generalize textL O H []=T at k2' ⊢
 clear k1 k2 hp hl z1 z2 z3 hlen hok
 have K1:=Lib.hid k1'
 have K2:=Lib.hid k2'
 clear k1' k2'
 by_cases hv:v=0
 ·subst hv
  go_enter Tryz.func188,Tryz.ntmps188
  have K3:=K2.out
  simp only [forall_const] at K3
  go_wp2_with (first | (go_at_call 205;(with_reducible refine (K1.out _).mono ?_);rintro e w1 ⟨rfl,hcb1⟩;obtain ⟨hcc1,hcf1⟩:=bcell hcb1;have hcz1:=hcb1.size;have hcB1:Below w.heap.size w w1:=below_then bel_ hcb1) | (go_at_call 206;(with_reducible refine (K3 _).mono ?_);rintro e w2 ⟨rfl,hcb2⟩;obtain ⟨hcc2,hcf2⟩:=bcell hcb2;have hcz2:=hcb2.size;have hcB2:Below w.heap.size w w2:=below_then bel_ hcb2))
  all_goals (go_ret2;refine ⟨ret_v ?_,bel_⟩)
  all_goals rfl
 ·have hv2:(v != 0)=true:=by simpa using hv
  go_enter Tryz.func188,Tryz.ntmps188
  go_wp2_with (first | (go_at_call 205;(with_reducible refine (K1.out _).mono ?_);rintro e w1 ⟨rfl,hcb1⟩;obtain ⟨hcc1,hcf1⟩:=bcell hcb1;have hcz1:=hcb1.size;have hcB1:Below w.heap.size w w1:=below_then bel_ hcb1))
  all_goals (go_ret2;refine ⟨ret_v ?_,bel_⟩)
  all_goals simp_all
  all_goals rfl
set_option maxHeartbeats 1000000 in
theorem refIsBare_c (s:ByteArray) (w:World) (hs:s.size≤100000) :
  Calls Tryz.prog 152 #[.string s] w (Ret w (.bool (isBareL s.data.toList))):=by
 have k1:=refBare_c s w hs
 rw [isBare_bytes]
 unfold bareV at k1
 generalize bareT s.data.toList=T at *
 generalize (parseL s.data.toList).err=v at *
 have K1:=Lib.hid k1
 clear k1
 go_enter Tryz.func152,Tryz.ntmps152
 go_wp2_with (go_at_call 188;(with_reducible refine (K1.out).mono ?_);rintro e w1 ⟨rfl,hcb1⟩;obtain ⟨hcc1,hcf1⟩:=bcell hcb1;have hcz1:=hcb1.size;have hcB1:Below w.heap.size w w1:=below_then bel_ hcb1)
 all_goals (go_ret;refine ⟨ret_b ?_,bel_⟩)
 all_goals simp_all
end Go.Proofs.YtmmmcpeickfolaaGreat

namespace Go.Proofs.YtmmmcpeickfolaaGreat
open Go.RowKit
def hasN (k:Nat):List UInt8 :=
 if k=1 then [117,114] else if k=3 then [115,112] else if k=5 then [117,115,112]
 else if k=6∨k=7∨k=8∨k=9∨k=10∨k=11∨k=14 then [117]
 else if k=12∨k=15∨k=36∨k=41 then [110]
 else if k=13 then [117,109] else if k=32 then [99,110] else if k=33 then [99,115,110]
 else if k=34 then [117,114,115,112,110] else if k=35 then [117,114,110] else if k=38 then [117,109,115,110]
 else if k=39 then [117,110] else if k=40 then [117,99] else []
set_option maxRecDepth 100000 in
set_option maxHeartbeats 2000000 in
theorem has_c (k:UInt8) (w:World):Calls Tryz.prog 65 #[.int .u8 k.toNat] w fun e w'=>e=.returned (.string (ba (hasN k.toNat)))∧w=w':=by
 obtain ⟨n,hn⟩ : ∃ n,k.toNat=n:=⟨_,rfl⟩
 rw [hn]
 clear hn
 go_enter Tryz.func65,Tryz.ntmps65
 go_wp2
 all_goals (go_ret;refine ⟨ret_v (congrArg Value.string ?_),rfl⟩)
 all_goals go_tidy
 all_goals (simp only [beq_iff_eq,beq_eq_false_iff_ne,ne_eq] at *)
 all_goals (unfold hasN;repeat first | rfl | rw [if_pos (by omega)] | rw [if_neg (by omega)])
set_option maxRecDepth 100000 in
set_option maxHeartbeats 2000000 in
theorem refHas_c (k:UInt8) (w:World):Calls Tryz.prog 100 #[.int .u8 k.toNat] w fun e w'=>e=.returned (.string (ba (hasN k.toNat)))∧w=w':=by
 obtain ⟨n,hn⟩ : ∃ n,k.toNat=n:=⟨_,rfl⟩
 rw [hn]
 clear hn
 go_enter Tryz.func100,Tryz.ntmps100
 go_wp2
 all_goals (go_ret;refine ⟨ret_v (congrArg Value.string ?_),rfl⟩)
 all_goals go_tidy
 all_goals (simp only [beq_iff_eq,beq_eq_false_iff_ne,ne_eq] at *)
 all_goals (unfold hasN;repeat first | rfl | rw [if_pos (by omega)] | rw [if_neg (by omega)])
end Go.Proofs.YtmmmcpeickfolaaGreat

namespace Go.Proofs.YtmmmcpeickfolaaGreat
open Go.RowKit
def knownN (k:Nat):Bool:=(decide (1≤k) && decide (k≤15)) || (decide (32≤k) && decide (k≤41))
theorem asks_c (k:UInt8) (w:World):Calls Tryz.prog 118 #[.int .u8 k.toNat] w fun e w'=>e=.returned (.bool (decide (1≤k.toNat) && decide (k.toNat≤15)))∧w=w':=by
 obtain ⟨n,hn⟩ : ∃ n,k.toNat=n:=⟨_,rfl⟩
 rw [hn]
 clear hn
 go_enter Tryz.func118,Tryz.ntmps118
 go_wp2
 all_goals (go_ret;refine ⟨ret_b ?_,rfl⟩)
 all_goals go_tidy
 all_goals grind
theorem known_c (k:UInt8) (w:World):Calls Tryz.prog 66 #[.int .u8 k.toNat] w fun e w'=>e=.returned (.bool (knownN k.toNat))∧w=w':=by
 have k1:=asks_c k w
 obtain ⟨n,hn⟩ : ∃ n,k.toNat=n:=⟨_,rfl⟩
 rw [hn] at k1 ⊢
 have K1:=Lib.hid k1
 clear hn k1
 unfold knownN
 by_cases h:(decide (1≤n) && decide (n≤15))=true
 ·rw [h] at K1 ⊢
  go_enter Tryz.func66,Tryz.ntmps66
  go_wp2_with (go_at_call 118;(with_reducible refine (K1.out).mono ?_);rintro e w' ⟨rfl,rfl⟩)
  all_goals (go_ret;refine ⟨ret_b ?_,rfl⟩)
  all_goals go_tidy
  all_goals simp_all
 ·simp only [Bool.not_eq_true] at h
  rw [h] at K1 ⊢
  go_enter Tryz.func66,Tryz.ntmps66
  go_wp2_with (go_at_call 118;(with_reducible refine (K1.out).mono ?_);rintro e w' ⟨rfl,rfl⟩)
  all_goals (go_ret;refine ⟨ret_b ?_,rfl⟩)
  all_goals go_tidy
  all_goals grind
theorem refKnown_c (k:UInt8) (w:World):Calls Tryz.prog 107 #[.int .u8 k.toNat] w fun e w'=>e=.returned (.bool (knownN k.toNat))∧w=w':=by
 obtain ⟨n,hn⟩ : ∃ n,k.toNat=n:=⟨_,rfl⟩
 rw [hn]
 clear hn
 unfold knownN
 go_enter Tryz.func107,Tryz.ntmps107
 go_wp2
 all_goals (go_ret;refine ⟨ret_b ?_,rfl⟩)
 all_goals go_tidy
 all_goals grind
theorem stzIn_c (n a b:Int) (w:World):Calls Tryz.prog 68 #[.int .i64 n,.int .i64 a,.int .i64 b] w fun e w'=>e=.returned (.bool (decide (a≤n) && decide (n≤b)))∧w=w':=by
 go_enter Tryz.func68,Tryz.ntmps68
 go_wp2
 all_goals (go_ret;refine ⟨ret_b ?_,rfl⟩)
 all_goals go_tidy
 all_goals grind
theorem refIn_c (n a b:Int) (w:World):Calls Tryz.prog 149 #[.int .i64 n,.int .i64 a,.int .i64 b] w fun e w'=>e=.returned (.bool (decide (a≤n) && decide (n≤b)))∧w=w':=by
 go_enter Tryz.func149,Tryz.ntmps149
 go_wp2
 all_goals (go_ret;refine ⟨ret_b ?_,rfl⟩)
 all_goals go_tidy
 all_goals grind
end Go.Proofs.YtmmmcpeickfolaaGreat

namespace Go.Proofs.YtmmmcpeickfolaaGreat
open Go.RowKit
structure StzD where
 kind:UInt8
 user:ByteArray
 res:ByteArray
 name:ByteArray
 show_:Int
 prio:Int
 code:Int
 n:Int
def StzD.arr (s:StzD):Array Value:=#[.int .u8 s.kind.toNat,.string s.user,.string s.res,.string s.name,.int .i64 s.show_,.int .i64 s.prio,.int .i64 s.code,.int .i64 s.n]
def hasC (k:UInt8) (c:UInt8):Bool:=(hasN k.toNat).any (· == c)
theorem ite_len {p:Prop} [Decidable p] {a b:List UInt8} {n:Nat} (ha:a.length≤n) (hb:b.length≤n):(if p then a else b).length≤n:=by
 by_cases h:p
 ·rw [if_pos h];exact ha
 ·rw [if_neg h];exact hb
theorem hasN_len (k:Nat):(hasN k).length≤5:=by
 unfold hasN
 repeat' first | (apply ite_len) | decide
theorem any_find (l:List UInt8) (c:UInt8):l.any (· == c)=decide (findL l c < l.length):=by
 unfold findL
 rw [Bool.eq_iff_iff,decide_eq_true_eq,List.findIdx_lt_length,List.any_eq_true]
set_option maxRecDepth 100000 in
set_option maxHeartbeats 1000000 in
theorem refHasC_c (k c:UInt8) (w:World):Calls Tryz.prog 151 #[.int .u8 k.toNat,.int .u8 c.toNat] w fun e w'=>e=.returned (.bool (hasC k c))∧w=w':=by
 have k1:=refHas_c k w
 have hl:=hasN_len k.toNat
 unfold hasC
 rw [any_find]
 obtain ⟨l,hl2⟩ : ∃ l,hasN k.toNat=l:=⟨_,rfl⟩
 rw [hl2] at k1 hl ⊢
 have hsz:=ba_size l
 have hbl:(ba l).data.toList=l:=ba_list l
 obtain ⟨s,hs⟩ : ∃ s,ba l=s:=⟨_,rfl⟩
 rw [hs] at k1 hsz hbl
 rw [← hbl]
 rw [← hsz] at hl
 rw [bl_len]
 have K1:=Lib.hid k1
 clear hs hl2 hsz hbl k1
 go_enter Tryz.func151,Tryz.ntmps151
 go_wp2_with (go_at_call 100;(with_reducible refine (K1.out).mono ?_);rintro e w' ⟨rfl,rfl⟩)
 go_loop [6] (fun i=>∃ k:Nat,k≤s.size∧i=.int .i64 k∧NoB s.data.toList c k) (fun i=>s.size - (intOf i).toNat)
 case atStart=>exact ⟨0,Nat.zero_le _,rfl,fun _ _ h=>absurd h (by omega)⟩
 case round =>
  obtain ⟨k,hk,rfl,hh⟩:=hrel
  have HH:=Lib.hid hh
  clear hh
  by_cases hlt:k < s.size
  ·have hkl:k < s.data.toList.length:=by rw [bl_len];exact hlt
   obtain ⟨x,hx⟩ : ∃ x,s[k]'hlt=x:=⟨_,rfl⟩
   have hg:s.data.toList[k]=x:=by rw [bl_get s k hlt];exact hx
   have hxc:=u8beq x c
   obtain ⟨q,hq⟩ : ∃ q,(x == c)=q:=⟨_,rfl⟩
   rw [hq] at hxc
   have HQ:Hid ((s.data.toList[k] == c)=q):=by rw [hg];exact hq
   clear hg hq
   cases q with
   | true =>
    have hf:=HH.out.hit hkl HQ.out
    have HF:Hid (decide (findL s.data.toList c < s.size)=true):=by rw [hf];exact decide_eq_true hlt
    clear hf
    go_wp2
    go_ret
    exact ⟨by rw [HF.out];rfl,rfl⟩
   | false =>
    go_wp2
    exact ⟨⟨k + 1,by omega,by go_num,HH.out.succ HQ.out⟩,by simp [intOf];omega⟩
  ·have hm:=HH.out.miss (by rw [bl_len];omega)
   have HM:Hid (decide (findL s.data.toList c < s.size)=false):=decide_eq_false (by rw [hm,bl_len];exact Nat.lt_irrefl _)
   clear hm
   go_wp2
   go_ret
   exact ⟨by rw [HM.out];rfl,rfl⟩
def extraL (s:StzD):Bool :=
 ((!s.user.toList.isEmpty && !hasC s.kind 117) || (!s.res.toList.isEmpty && !hasC s.kind 114) || (!s.name.toList.isEmpty && !hasC s.kind 109)) ||
 ((s.show_ != 0 && !hasC s.kind 115) || (s.prio != 0 && !hasC s.kind 112) || (s.code != 0 && !hasC s.kind 99) || (s.n != 0 && !hasC s.kind 110))
def rangeL (s:StzD):Bool:=(decide (0≤s.show_) && decide (s.show_≤63)) && (decide (-128≤s.prio) && decide (s.prio≤127)) && (decide (0≤s.code) && decide (s.code≤255)) && (decide (0≤s.n) && decide (s.n≤281474976710655))
def checkS (s:StzD):Int :=
 if knownN s.kind.toNat=false then 12 else if extraL s=true then 4 else if rangeL s=false then 8 else if 24 < s.name.size then 5
 else if plainL s.name.data.toList=false then 11 else if (hasC s.kind 117 && !isBareL s.user.data.toList)=true then 11 else resL s.res.data.toList
end Go.Proofs.YtmmmcpeickfolaaGreat

namespace Go.Proofs.YtmmmcpeickfolaaGreat
open Go.RowKit
set_option maxRecDepth 100000 in
set_option maxHeartbeats 8000000 in
theorem refExtra_c (s:StzD) (w:World):Calls Tryz.prog 148 #[.agg s.arr] w (Ret w (.bool (extraL s))):=by
 have k1:=fun w'=>refHasC_c s.kind 117 w'
 have k2:=fun w'=>refHasC_c s.kind 114 w'
 have k3:=fun w'=>refHasC_c s.kind 109 w'
 have k4:=fun w'=>refHasC_c s.kind 115 w'
 have k5:=fun w'=>refHasC_c s.kind 112 w'
 have k6:=fun w'=>refHasC_c s.kind 99 w'
 have k7:=fun w'=>refHasC_c s.kind 110 w'
 obtain ⟨v,hv⟩ : ∃ v,extraL s=v:=⟨_,rfl⟩
 have hx:=hv
 unfold extraL at hx
 rw [hv]
 clear hv
 obtain ⟨k,u,r,m,sh,pr,co,n⟩:=s
 unfold StzD.arr
 generalize hasC k 117=b1 at *
 generalize hasC k 114=b2 at *
 generalize hasC k 109=b3 at *
 generalize hasC k 115=b4 at *
 generalize hasC k 112=b5 at *
 generalize hasC k 99=b6 at *
 generalize hasC k 110=b7 at *
 have J1:Hid (∀ w',Calls Tryz.prog 151 #[.int .u8 k.toNat,.int .u8 117] w' fun e w''=>e=.returned (.bool b1)∧w'=w''):=k1
 have J2:Hid (∀ w',Calls Tryz.prog 151 #[.int .u8 k.toNat,.int .u8 114] w' fun e w''=>e=.returned (.bool b2)∧w'=w''):=k2
 have J3:Hid (∀ w',Calls Tryz.prog 151 #[.int .u8 k.toNat,.int .u8 109] w' fun e w''=>e=.returned (.bool b3)∧w'=w''):=k3
 have J4:Hid (∀ w',Calls Tryz.prog 151 #[.int .u8 k.toNat,.int .u8 115] w' fun e w''=>e=.returned (.bool b4)∧w'=w''):=k4
 have J5:Hid (∀ w',Calls Tryz.prog 151 #[.int .u8 k.toNat,.int .u8 112] w' fun e w''=>e=.returned (.bool b5)∧w'=w''):=k5
 have J6:Hid (∀ w',Calls Tryz.prog 151 #[.int .u8 k.toNat,.int .u8 99] w' fun e w''=>e=.returned (.bool b6)∧w'=w''):=k6
 have J7:Hid (∀ w',Calls Tryz.prog 151 #[.int .u8 k.toNat,.int .u8 110] w' fun e w''=>e=.returned (.bool b7)∧w'=w''):=k7
 have HX:=Lib.hid hx
 clear k1 k2 k3 k4 k5 k6 k7 hx
 go_enter Tryz.func148,Tryz.ntmps148
 go_wp2_with (first | (go_at_call 151;(with_reducible refine (J1.out _).mono ?_);rintro e w' ⟨rfl,rfl⟩) | (go_at_call 151;(with_reducible refine (J2.out _).mono ?_);rintro e w' ⟨rfl,rfl⟩) | (go_at_call 151;(with_reducible refine (J3.out _).mono ?_);rintro e w' ⟨rfl,rfl⟩) | (go_at_call 151;(with_reducible refine (J4.out _).mono ?_);rintro e w' ⟨rfl,rfl⟩) | (go_at_call 151;(with_reducible refine (J5.out _).mono ?_);rintro e w' ⟨rfl,rfl⟩) | (go_at_call 151;(with_reducible refine (J6.out _).mono ?_);rintro e w' ⟨rfl,rfl⟩) | (go_at_call 151;(with_reducible refine (J7.out _).mono ?_);rintro e w' ⟨rfl,rfl⟩))
 all_goals (have e:=HX.out;clear HX J1 J2 J3 J4 J5 J6 J7)
 all_goals (go_ret;refine ⟨ret_b ?_,bel_⟩)
 all_goals go_tidy
 all_goals (rw [← e];clear e;simp_all;done)
end Go.Proofs.YtmmmcpeickfolaaGreat

namespace Go.Proofs.YtmmmcpeickfolaaGreat
open Go.RowKit
set_option maxRecDepth 100000 in
set_option maxHeartbeats 4000000 in
theorem refStzCheck_c (s:StzD) (w:World) (hu:s.user.size≤100000) (hr:s.res.size≤100000) (hn:s.name.size≤100000) :
  Calls Tryz.prog 99 #[.agg s.arr] w (Ret w (.int .i64 (checkS s))):=by
 have k1:=fun w'=>refKnown_c s.kind w'
 have k2:=fun w'=>refExtra_c s w'
 have k3:=fun w'=>refIn_c s.show_ 0 63 w'
 have k4:=fun w'=>refIn_c s.prio (-128) 127 w'
 have k5:=fun w'=>refIn_c s.code 0 255 w'
 have k6:=fun w'=>refIn_c s.n 0 281474976710655 w'
 have k7:=fun w'=>refPlain_c s.name w' hn
 have k8:=fun w'=>refHasC_c s.kind 117 w'
 have k9:=fun w'=>refIsBare_c s.user w' hu
 have k10:=fun w'=>refRes_c s.res w' hr
 rw [plain_same] at k7
 obtain ⟨v,hv⟩ : ∃ v,checkS s=v:=⟨_,rfl⟩
 have hx:=hv
 unfold checkS rangeL at hx
 rw [hv]
 clear hv
 generalize knownN s.kind.toNat=b1 at *
 generalize extraL s=b2 at *
 generalize (decide (0≤s.show_) && decide (s.show_≤63))=b3 at *
 generalize (decide (-128≤s.prio) && decide (s.prio≤127))=b4 at *
 generalize (decide (0≤s.code) && decide (s.code≤255))=b5 at *
 generalize (decide (0≤s.n) && decide (s.n≤281474976710655))=b6 at *
 generalize plainL s.name.data.toList=b7 at *
 generalize hasC s.kind 117=b8 at *
 generalize isBareL s.user.data.toList=b9 at *
 generalize resL s.res.data.toList=x at *
 obtain ⟨k,u,r,m,sh,pr,co,n⟩:=s
 unfold StzD.arr at *
 have J1:=Lib.hid k1
 have J2:=Lib.hid k2
 have J3:=Lib.hid k3
 have J4:=Lib.hid k4
 have J5:=Lib.hid k5
 have J6:=Lib.hid k6
 have J7:=Lib.hid k7
 have J8:Hid (∀ w',Calls Tryz.prog 151 #[.int .u8 k.toNat,.int .u8 117] w' fun e w''=>e=.returned (.bool b8)∧w'=w''):=k8
 have J9:=Lib.hid k9
 have J10:=Lib.hid k10
 have HX:=Lib.hid hx
 clear k1 k2 k3 k4 k5 k6 k7 k8 k9 k10 hx
 go_enter Tryz.func99,Tryz.ntmps99
 go_wp2_with (first | (go_at_call 107;(with_reducible refine (J1.out _).mono ?_);rintro e w' ⟨rfl,rfl⟩) | (go_at_call 149;(with_reducible first | refine (J3.out _).mono ?_ | refine (J4.out _).mono ?_ | refine (J5.out _).mono ?_ | refine (J6.out _).mono ?_);rintro e w' ⟨rfl,rfl⟩) | (go_at_call 151;(with_reducible refine (J8.out _).mono ?_);rintro e w' ⟨rfl,rfl⟩) | ((go_at_call 148;(with_reducible refine (J2.out _).mono ?_);rintro e w1 ⟨rfl,hcb1⟩;obtain ⟨hcc1,hcf1⟩:=bcell hcb1;have hcz1:=hcb1.size;have hcB1:Below w.heap.size w w1:=below_then bel_ hcb1);have hl1:w.heap.size < w1.heap.size:=Nat.lt_of_lt_of_le (by rw [World.size_alloc];exact Nat.lt_succ_self _) hcz1) | ((go_at_call 150;(with_reducible refine (J7.out _).mono ?_);rintro e w2 ⟨rfl,hcb2⟩;obtain ⟨hcc2,hcf2⟩:=bcell hcb2;have hcz2:=hcb2.size;have hcB2:Below w.heap.size w w2:=below_then bel_ hcb2);have hl2:=Nat.lt_of_lt_of_le hl1 hcz2) | ((go_at_call 152;(with_reducible refine (J9.out _).mono ?_);rintro e w3 ⟨rfl,hcb3⟩;obtain ⟨hcc3,hcf3⟩:=bcell hcb3;have hcz3:=hcb3.size;have hcB3:Below w.heap.size w w3:=below_then bel_ hcb3);have hl3:=Nat.lt_of_lt_of_le hl2 hcz3) | ((go_at_call 153;(with_reducible refine (J10.out _).mono ?_);rintro e w4 ⟨rfl,hcb4⟩;obtain ⟨hcc4,hcf4⟩:=bcell hcb4;have hcz4:=hcb4.size;have hcB4:Below w.heap.size w w4:=below_then bel_ hcb4)))
 all_goals (have e:=HX.out;clear HX J1 J2 J3 J4 J5 J6 J7 J8 J9 J10)
 all_goals (go_ret;refine ⟨ret_i ?_,bel_⟩)
 all_goals go_tidy
 all_goals (rw [← e];clear e;first | (simp [*];done) | grind)
end Go.Proofs.YtmmmcpeickfolaaGreat

