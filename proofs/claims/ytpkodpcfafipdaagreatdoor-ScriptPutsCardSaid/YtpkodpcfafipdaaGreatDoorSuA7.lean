/- A part of the proof: 5 texts joined. -/
import Derived.Test.YtpkodpcfafipdaaGreatDoorSuA6
set_option linter.all false
namespace Go.Proofs.YtpkodpcfafipdaaGreatDoor
open Go.RowKit
def hasN (k:Nat):List UInt8 :=
 if k=1 then [117,114] else if k=3 then [115,112] else if k=5 then [117,115,112]
 else if k=6∨k=7∨k=8∨k=9∨k=10∨k=11∨k=14 then [117]
 else if k=12∨k=15∨k=36∨k=41 then [110]
 else if k=13 then [117,109] else if k=32 then [99,110] else if k=33 then [99,115,110]
 else if k=34 then [117,114,115,112,110] else if k=35 then [117,114,110] else if k=38 then [117,109,115,110]
 else if k=39 then [117,110] else if k=40 then [117,99] else []
set_option maxRecDepth 100000 in
set_option maxHeartbeats 2000000 in
theorem has_c (k:UInt8) (w:World):Calls Tryz.prog 71 #[.int .u8 k.toNat] w fun e w'=>e=.returned (.string (ba (hasN k.toNat)))∧w=w':=by
 obtain ⟨n,hn⟩ : ∃ n,k.toNat=n:=⟨_,rfl⟩
 rw [hn]
 clear hn
 go_enter Tryz.func71,Tryz.ntmps71
 go_wp2
 all_goals (go_ret;refine ⟨ret_v (congrArg Value.string ?_),rfl⟩)
 all_goals go_tidy
 all_goals (simp only [beq_iff_eq,beq_eq_false_iff_ne,ne_eq] at *)
 all_goals (unfold hasN;repeat first | rfl | rw [if_pos (by omega)] | rw [if_neg (by omega)])
set_option maxRecDepth 100000 in
set_option maxHeartbeats 2000000 in
theorem refHas_c (k:UInt8) (w:World):Calls Tryz.prog 64 #[.int .u8 k.toNat] w fun e w'=>e=.returned (.string (ba (hasN k.toNat)))∧w=w':=by
 obtain ⟨n,hn⟩ : ∃ n,k.toNat=n:=⟨_,rfl⟩
 rw [hn]
 clear hn
 go_enter Tryz.func64,Tryz.ntmps64
 go_wp2
 all_goals (go_ret;refine ⟨ret_v (congrArg Value.string ?_),rfl⟩)
 all_goals go_tidy
 all_goals (simp only [beq_iff_eq,beq_eq_false_iff_ne,ne_eq] at *)
 all_goals (unfold hasN;repeat first | rfl | rw [if_pos (by omega)] | rw [if_neg (by omega)])
end Go.Proofs.YtpkodpcfafipdaaGreatDoor

namespace Go.Proofs.YtpkodpcfafipdaaGreatDoor
open Go.RowKit
def knownN (k:Nat):Bool:=(decide (1≤k) && decide (k≤15)) || (decide (32≤k) && decide (k≤41))
theorem asks_c (k:UInt8) (w:World):Calls Tryz.prog 92 #[.int .u8 k.toNat] w fun e w'=>e=.returned (.bool (decide (1≤k.toNat) && decide (k.toNat≤15)))∧w=w':=by
 obtain ⟨n,hn⟩ : ∃ n,k.toNat=n:=⟨_,rfl⟩
 rw [hn]
 clear hn
 go_enter Tryz.func92,Tryz.ntmps92
 go_wp2
 all_goals (go_ret;refine ⟨ret_b ?_,rfl⟩)
 all_goals go_tidy
 all_goals grind
theorem known_c (k:UInt8) (w:World):Calls Tryz.prog 72 #[.int .u8 k.toNat] w fun e w'=>e=.returned (.bool (knownN k.toNat))∧w=w':=by
 have k1:=asks_c k w
 obtain ⟨n,hn⟩ : ∃ n,k.toNat=n:=⟨_,rfl⟩
 rw [hn] at k1 ⊢
 have K1:=Lib.hid k1
 clear hn k1
 unfold knownN
 by_cases h:(decide (1≤n) && decide (n≤15))=true
 ·rw [h] at K1 ⊢
  go_enter Tryz.func72,Tryz.ntmps72
  go_wp2_with (go_at_call 92;(with_reducible refine (K1.out).mono ?_);rintro e w' ⟨rfl,rfl⟩)
  all_goals (go_ret;refine ⟨ret_b ?_,rfl⟩)
  all_goals go_tidy
  all_goals simp_all
 ·simp only [Bool.not_eq_true] at h
  rw [h] at K1 ⊢
  go_enter Tryz.func72,Tryz.ntmps72
  go_wp2_with (go_at_call 92;(with_reducible refine (K1.out).mono ?_);rintro e w' ⟨rfl,rfl⟩)
  all_goals (go_ret;refine ⟨ret_b ?_,rfl⟩)
  all_goals go_tidy
  all_goals grind
theorem refKnown_c (k:UInt8) (w:World):Calls Tryz.prog 80 #[.int .u8 k.toNat] w fun e w'=>e=.returned (.bool (knownN k.toNat))∧w=w':=by
 obtain ⟨n,hn⟩ : ∃ n,k.toNat=n:=⟨_,rfl⟩
 rw [hn]
 clear hn
 unfold knownN
 go_enter Tryz.func80,Tryz.ntmps80
 go_wp2
 all_goals (go_ret;refine ⟨ret_b ?_,rfl⟩)
 all_goals go_tidy
 all_goals grind
theorem stzIn_c (n a b:Int) (w:World):Calls Tryz.prog 74 #[.int .i64 n,.int .i64 a,.int .i64 b] w fun e w'=>e=.returned (.bool (decide (a≤n) && decide (n≤b)))∧w=w':=by
 go_enter Tryz.func74,Tryz.ntmps74
 go_wp2
 all_goals (go_ret;refine ⟨ret_b ?_,rfl⟩)
 all_goals go_tidy
 all_goals grind
theorem refIn_c (n a b:Int) (w:World):Calls Tryz.prog 82 #[.int .i64 n,.int .i64 a,.int .i64 b] w fun e w'=>e=.returned (.bool (decide (a≤n) && decide (n≤b)))∧w=w':=by
 go_enter Tryz.func82,Tryz.ntmps82
 go_wp2
 all_goals (go_ret;refine ⟨ret_b ?_,rfl⟩)
 all_goals go_tidy
 all_goals grind
end Go.Proofs.YtpkodpcfafipdaaGreatDoor

namespace Go.Proofs.YtpkodpcfafipdaaGreatDoor
open Go.RowKit
structure StzD where
 kind:UInt8
 user:ByteArray
 res:ByteArray
 name:ByteArray
 show_:Int
 prio:Int
 code:Int
 n:Int
def StzD.arr (s:StzD):Array Value:=#[.int .u8 s.kind.toNat,.string s.user,.string s.res,.string s.name,.int .i64 s.show_,.int .i64 s.prio,.int .i64 s.code,.int .i64 s.n]
def hasC (k:UInt8) (c:UInt8):Bool:=(hasN k.toNat).any (· == c)
theorem ite_len {p:Prop} [Decidable p] {a b:List UInt8} {n:Nat} (ha:a.length≤n) (hb:b.length≤n):(if p then a else b).length≤n:=by
 by_cases h:p
 ·rw [if_pos h];exact ha
 ·rw [if_neg h];exact hb
theorem hasN_len (k:Nat):(hasN k).length≤5:=by
 unfold hasN
 repeat' first | (apply ite_len) | decide
theorem any_find (l:List UInt8) (c:UInt8):l.any (· == c)=decide (findL l c < l.length):=by
 unfold findL
 rw [Bool.eq_iff_iff,decide_eq_true_eq,List.findIdx_lt_length,List.any_eq_true]
set_option maxRecDepth 100000 in
set_option maxHeartbeats 1000000 in
theorem refHasC_c (k c:UInt8) (w:World):Calls Tryz.prog 84 #[.int .u8 k.toNat,.int .u8 c.toNat] w fun e w'=>e=.returned (.bool (hasC k c))∧w=w':=by
 have k1:=refHas_c k w
 have hl:=hasN_len k.toNat
 unfold hasC
 rw [any_find]
 obtain ⟨l,hl2⟩ : ∃ l,hasN k.toNat=l:=⟨_,rfl⟩
 rw [hl2] at k1 hl ⊢
 have hsz:=ba_size l
 have hbl:(ba l).data.toList=l:=ba_list l
 obtain ⟨s,hs⟩ : ∃ s,ba l=s:=⟨_,rfl⟩
 rw [hs] at k1 hsz hbl
 rw [← hbl]
 rw [← hsz] at hl
 rw [bl_len]
 have K1:=Lib.hid k1
 clear hs hl2 hsz hbl k1
 go_enter Tryz.func84,Tryz.ntmps84
 go_wp2_with (go_at_call 64;(with_reducible refine (K1.out).mono ?_);rintro e w' ⟨rfl,rfl⟩)
 go_loop [6] (fun i=>∃ k:Nat,k≤s.size∧i=.int .i64 k∧NoB s.data.toList c k) (fun i=>s.size - (intOf i).toNat)
 case atStart=>exact ⟨0,Nat.zero_le _,rfl,fun _ _ h=>absurd h (by omega)⟩
 case round =>
  obtain ⟨k,hk,rfl,hh⟩:=hrel
  have HH:=Lib.hid hh
  clear hh
  by_cases hlt:k < s.size
  ·have hkl:k < s.data.toList.length:=by rw [bl_len];exact hlt
   obtain ⟨x,hx⟩ : ∃ x,s[k]'hlt=x:=⟨_,rfl⟩
   have hg:s.data.toList[k]=x:=by rw [bl_get s k hlt];exact hx
   have hxc:=u8beq x c
   obtain ⟨q,hq⟩ : ∃ q,(x == c)=q:=⟨_,rfl⟩
   rw [hq] at hxc
   have HQ:Hid ((s.data.toList[k] == c)=q):=by rw [hg];exact hq
   clear hg hq
   cases q with
   | true =>
    have hf:=HH.out.hit hkl HQ.out
    have HF:Hid (decide (findL s.data.toList c < s.size)=true):=by rw [hf];exact decide_eq_true hlt
    clear hf
    go_wp2
    go_ret
    exact ⟨by rw [HF.out];rfl,rfl⟩
   | false =>
    go_wp2
    exact ⟨⟨k + 1,by omega,by go_num,HH.out.succ HQ.out⟩,by simp [intOf];omega⟩
  ·have hm:=HH.out.miss (by rw [bl_len];omega)
   have HM:Hid (decide (findL s.data.toList c < s.size)=false):=decide_eq_false (by rw [hm,bl_len];exact Nat.lt_irrefl _)
   clear hm
   go_wp2
   go_ret
   exact ⟨by rw [HM.out];rfl,rfl⟩
def extraL (s:StzD):Bool :=
 ((!s.user.toList.isEmpty && !hasC s.kind 117) || (!s.res.toList.isEmpty && !hasC s.kind 114) || (!s.name.toList.isEmpty && !hasC s.kind 109)) ||
 ((s.show_ != 0 && !hasC s.kind 115) || (s.prio != 0 && !hasC s.kind 112) || (s.code != 0 && !hasC s.kind 99) || (s.n != 0 && !hasC s.kind 110))
def rangeL (s:StzD):Bool:=(decide (0≤s.show_) && decide (s.show_≤63)) && (decide (-128≤s.prio) && decide (s.prio≤127)) && (decide (0≤s.code) && decide (s.code≤255)) && (decide (0≤s.n) && decide (s.n≤281474976710655))
def checkS (s:StzD):Int :=
 if knownN s.kind.toNat=false then 12 else if extraL s=true then 4 else if rangeL s=false then 8 else if 24 < s.name.size then 5
 else if plainL s.name.data.toList=false then 11 else if (hasC s.kind 117 && !isBareL s.user.data.toList)=true then 11 else resL s.res.data.toList
end Go.Proofs.YtpkodpcfafipdaaGreatDoor

namespace Go.Proofs.YtpkodpcfafipdaaGreatDoor
open Go.RowKit
set_option maxRecDepth 100000 in
set_option maxHeartbeats 8000000 in
theorem refExtra_c (s:StzD) (w:World):Calls Tryz.prog 81 #[.agg s.arr] w (Ret w (.bool (extraL s))):=by
 have k1:=fun w'=>refHasC_c s.kind 117 w'
 have k2:=fun w'=>refHasC_c s.kind 114 w'
 have k3:=fun w'=>refHasC_c s.kind 109 w'
 have k4:=fun w'=>refHasC_c s.kind 115 w'
 have k5:=fun w'=>refHasC_c s.kind 112 w'
 have k6:=fun w'=>refHasC_c s.kind 99 w'
 have k7:=fun w'=>refHasC_c s.kind 110 w'
 obtain ⟨v,hv⟩ : ∃ v,extraL s=v:=⟨_,rfl⟩
 have hx:=hv
 unfold extraL at hx
 rw [hv]
 clear hv
 obtain ⟨k,u,r,m,sh,pr,co,n⟩:=s
 unfold StzD.arr
 generalize hasC k 117=b1 at *
 generalize hasC k 114=b2 at *
 generalize hasC k 109=b3 at *
 generalize hasC k 115=b4 at *
 generalize hasC k 112=b5 at *
 generalize hasC k 99=b6 at *
 generalize hasC k 110=b7 at *
 have J1:Hid (∀ w',Calls Tryz.prog 84 #[.int .u8 k.toNat,.int .u8 117] w' fun e w''=>e=.returned (.bool b1)∧w'=w''):=k1
 have J2:Hid (∀ w',Calls Tryz.prog 84 #[.int .u8 k.toNat,.int .u8 114] w' fun e w''=>e=.returned (.bool b2)∧w'=w''):=k2
 have J3:Hid (∀ w',Calls Tryz.prog 84 #[.int .u8 k.toNat,.int .u8 109] w' fun e w''=>e=.returned (.bool b3)∧w'=w''):=k3
 have J4:Hid (∀ w',Calls Tryz.prog 84 #[.int .u8 k.toNat,.int .u8 115] w' fun e w''=>e=.returned (.bool b4)∧w'=w''):=k4
 have J5:Hid (∀ w',Calls Tryz.prog 84 #[.int .u8 k.toNat,.int .u8 112] w' fun e w''=>e=.returned (.bool b5)∧w'=w''):=k5
 have J6:Hid (∀ w',Calls Tryz.prog 84 #[.int .u8 k.toNat,.int .u8 99] w' fun e w''=>e=.returned (.bool b6)∧w'=w''):=k6
 have J7:Hid (∀ w',Calls Tryz.prog 84 #[.int .u8 k.toNat,.int .u8 110] w' fun e w''=>e=.returned (.bool b7)∧w'=w''):=k7
 have HX:=Lib.hid hx
 clear k1 k2 k3 k4 k5 k6 k7 hx
 go_enter Tryz.func81,Tryz.ntmps81
 go_wp2_with (first | (go_at_call 84;(with_reducible refine (J1.out _).mono ?_);rintro e w' ⟨rfl,rfl⟩) | (go_at_call 84;(with_reducible refine (J2.out _).mono ?_);rintro e w' ⟨rfl,rfl⟩) | (go_at_call 84;(with_reducible refine (J3.out _).mono ?_);rintro e w' ⟨rfl,rfl⟩) | (go_at_call 84;(with_reducible refine (J4.out _).mono ?_);rintro e w' ⟨rfl,rfl⟩) | (go_at_call 84;(with_reducible refine (J5.out _).mono ?_);rintro e w' ⟨rfl,rfl⟩) | (go_at_call 84;(with_reducible refine (J6.out _).mono ?_);rintro e w' ⟨rfl,rfl⟩) | (go_at_call 84;(with_reducible refine (J7.out _).mono ?_);rintro e w' ⟨rfl,rfl⟩))
 all_goals (have e:=HX.out;clear HX J1 J2 J3 J4 J5 J6 J7)
 all_goals (go_ret;refine ⟨ret_b ?_,bel_⟩)
 all_goals go_tidy
 all_goals (rw [← e];clear e;simp_all;done)
end Go.Proofs.YtpkodpcfafipdaaGreatDoor

namespace Go.Proofs.YtpkodpcfafipdaaGreatDoor
open Go.RowKit
set_option maxRecDepth 100000 in
set_option maxHeartbeats 4000000 in
theorem refStzCheck_c (s:StzD) (w:World) (hu:s.user.size≤100000) (hr:s.res.size≤100000) (hn:s.name.size≤100000) :
  Calls Tryz.prog 63 #[.agg s.arr] w (Ret w (.int .i64 (checkS s))):=by
 have k1:=fun w'=>refKnown_c s.kind w'
 have k2:=fun w'=>refExtra_c s w'
 have k3:=fun w'=>refIn_c s.show_ 0 63 w'
 have k4:=fun w'=>refIn_c s.prio (-128) 127 w'
 have k5:=fun w'=>refIn_c s.code 0 255 w'
 have k6:=fun w'=>refIn_c s.n 0 281474976710655 w'
 have k7:=fun w'=>refPlain_c s.name w' hn
 have k8:=fun w'=>refHasC_c s.kind 117 w'
 have k9:=fun w'=>refIsBare_c s.user w' hu
 have k10:=fun w'=>refRes_c s.res w' hr
 rw [plain_same] at k7
 obtain ⟨v,hv⟩ : ∃ v,checkS s=v:=⟨_,rfl⟩
 have hx:=hv
 unfold checkS rangeL at hx
 rw [hv]
 clear hv
 generalize knownN s.kind.toNat=b1 at *
 generalize extraL s=b2 at *
 generalize (decide (0≤s.show_) && decide (s.show_≤63))=b3 at *
 generalize (decide (-128≤s.prio) && decide (s.prio≤127))=b4 at *
 generalize (decide (0≤s.code) && decide (s.code≤255))=b5 at *
 generalize (decide (0≤s.n) && decide (s.n≤281474976710655))=b6 at *
 generalize plainL s.name.data.toList=b7 at *
 generalize hasC s.kind 117=b8 at *
 generalize isBareL s.user.data.toList=b9 at *
 generalize resL s.res.data.toList=x at *
 obtain ⟨k,u,r,m,sh,pr,co,n⟩:=s
 unfold StzD.arr at *
 have J1:=Lib.hid k1
 have J2:=Lib.hid k2
 have J3:=Lib.hid k3
 have J4:=Lib.hid k4
 have J5:=Lib.hid k5
 have J6:=Lib.hid k6
 have J7:=Lib.hid k7
 have J8:Hid (∀ w',Calls Tryz.prog 84 #[.int .u8 k.toNat,.int .u8 117] w' fun e w''=>e=.returned (.bool b8)∧w'=w''):=k8
 have J9:=Lib.hid k9
 have J10:=Lib.hid k10
 have HX:=Lib.hid hx
 clear k1 k2 k3 k4 k5 k6 k7 k8 k9 k10 hx
 go_enter Tryz.func63,Tryz.ntmps63
 go_wp2_with (first | (go_at_call 80;(with_reducible refine (J1.out _).mono ?_);rintro e w' ⟨rfl,rfl⟩) | (go_at_call 82;(with_reducible first | refine (J3.out _).mono ?_ | refine (J4.out _).mono ?_ | refine (J5.out _).mono ?_ | refine (J6.out _).mono ?_);rintro e w' ⟨rfl,rfl⟩) | (go_at_call 84;(with_reducible refine (J8.out _).mono ?_);rintro e w' ⟨rfl,rfl⟩) | ((go_at_call 81;(with_reducible refine (J2.out _).mono ?_);rintro e w1 ⟨rfl,hcb1⟩;obtain ⟨hcc1,hcf1⟩:=bcell hcb1;have hcz1:=hcb1.size;have hcB1:Below w.heap.size w w1:=below_then bel_ hcb1);have hl1:w.heap.size < w1.heap.size:=Nat.lt_of_lt_of_le (by rw [World.size_alloc];exact Nat.lt_succ_self _) hcz1) | ((go_at_call 83;(with_reducible refine (J7.out _).mono ?_);rintro e w2 ⟨rfl,hcb2⟩;obtain ⟨hcc2,hcf2⟩:=bcell hcb2;have hcz2:=hcb2.size;have hcB2:Below w.heap.size w w2:=below_then bel_ hcb2);have hl2:=Nat.lt_of_lt_of_le hl1 hcz2) | ((go_at_call 85;(with_reducible refine (J9.out _).mono ?_);rintro e w3 ⟨rfl,hcb3⟩;obtain ⟨hcc3,hcf3⟩:=bcell hcb3;have hcz3:=hcb3.size;have hcB3:Below w.heap.size w w3:=below_then bel_ hcb3);have hl3:=Nat.lt_of_lt_of_le hl2 hcz3) | ((go_at_call 86;(with_reducible refine (J10.out _).mono ?_);rintro e w4 ⟨rfl,hcb4⟩;obtain ⟨hcc4,hcf4⟩:=bcell hcb4;have hcz4:=hcb4.size;have hcB4:Below w.heap.size w w4:=below_then bel_ hcb4)))
 all_goals (have e:=HX.out;clear HX J1 J2 J3 J4 J5 J6 J7 J8 J9 J10)
 all_goals (go_ret;refine ⟨ret_i ?_,bel_⟩)
 all_goals go_tidy
 all_goals (rw [← e];clear e;first | (simp [*];done) | grind)
end Go.Proofs.YtpkodpcfafipdaaGreatDoor

