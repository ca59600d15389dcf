/- A part of the proof: 5 texts joined. -/
import Derived.Test.YthnihifblmnkdaaGreatPdA5
set_option linter.all false
namespace Go.Proofs.YthnihifblmnkdaaGreat
open Go.RowKit
def hasN (k:Nat):List UInt8 :=
 if k=1 then [117,114] else if k=3 then [115,112] else if k=5 then [117,115,112]
 else if k=6∨k=7∨k=8∨k=9∨k=10∨k=11∨k=14 then [117]
 else if k=12∨k=15∨k=36∨k=41 then [110]
 else if k=13 then [117,109] else if k=32 then [99,110] else if k=33 then [99,115,110]
 else if k=34 then [117,114,115,112,110] else if k=35 then [117,114,110] else if k=38 then [117,109,115,110]
 else if k=39 then [117,110] else if k=40 then [117,99] else []
set_option maxRecDepth 100000 in
set_option maxHeartbeats 2000000 in
theorem has_c (k:UInt8) (w:World):Calls Tryz.prog 108 #[.int .u8 k.toNat] w fun e w'=>e=.returned (.string (ba (hasN k.toNat)))∧w=w':=by
 obtain ⟨n,hn⟩ : ∃ n,k.toNat=n:=⟨_,rfl⟩
 rw [hn]
 clear hn
 go_enter Tryz.func108,Tryz.ntmps108
 go_wp2
 all_goals (go_ret;refine ⟨ret_v (congrArg Value.string ?_),rfl⟩)
 all_goals go_tidy
 all_goals (simp only [beq_iff_eq,beq_eq_false_iff_ne,ne_eq] at *)
 all_goals (unfold hasN;repeat first | rfl | rw [if_pos (by omega)] | rw [if_neg (by omega)])
end Go.Proofs.YthnihifblmnkdaaGreat

namespace Go.Proofs.YthnihifblmnkdaaGreat
open Go.RowKit
def knownN (k:Nat):Bool:=(decide (1≤k) && decide (k≤15)) || (decide (32≤k) && decide (k≤41))
theorem asks_c (k:UInt8) (w:World):Calls Tryz.prog 123 #[.int .u8 k.toNat] w fun e w'=>e=.returned (.bool (decide (1≤k.toNat) && decide (k.toNat≤15)))∧w=w':=by
 obtain ⟨n,hn⟩ : ∃ n,k.toNat=n:=⟨_,rfl⟩
 rw [hn]
 clear hn
 go_enter Tryz.func123,Tryz.ntmps123
 go_wp2
 all_goals (go_ret;refine ⟨ret_b ?_,rfl⟩)
 all_goals go_tidy
 all_goals grind
theorem known_c (k:UInt8) (w:World):Calls Tryz.prog 109 #[.int .u8 k.toNat] w fun e w'=>e=.returned (.bool (knownN k.toNat))∧w=w':=by
 have k1:=asks_c k w
 obtain ⟨n,hn⟩ : ∃ n,k.toNat=n:=⟨_,rfl⟩
 rw [hn] at k1 ⊢
 have K1:=Lib.hid k1
 clear hn k1
 unfold knownN
 by_cases h:(decide (1≤n) && decide (n≤15))=true
 ·rw [h] at K1 ⊢
  go_enter Tryz.func109,Tryz.ntmps109
  go_wp2_with (go_at_call 123;(with_reducible refine (K1.out).mono ?_);rintro e w' ⟨rfl,rfl⟩)
  all_goals (go_ret;refine ⟨ret_b ?_,rfl⟩)
  all_goals go_tidy
  all_goals simp_all
 ·simp only [Bool.not_eq_true] at h
  rw [h] at K1 ⊢
  go_enter Tryz.func109,Tryz.ntmps109
  go_wp2_with (go_at_call 123;(with_reducible refine (K1.out).mono ?_);rintro e w' ⟨rfl,rfl⟩)
  all_goals (go_ret;refine ⟨ret_b ?_,rfl⟩)
  all_goals go_tidy
  all_goals grind
theorem stzIn_c (n a b:Int) (w:World):Calls Tryz.prog 111 #[.int .i64 n,.int .i64 a,.int .i64 b] w fun e w'=>e=.returned (.bool (decide (a≤n) && decide (n≤b)))∧w=w':=by
 go_enter Tryz.func111,Tryz.ntmps111
 go_wp2
 all_goals (go_ret;refine ⟨ret_b ?_,rfl⟩)
 all_goals go_tidy
 all_goals grind
end Go.Proofs.YthnihifblmnkdaaGreat

namespace Go.Proofs.YthnihifblmnkdaaGreat
open Go.RowKit
structure StzD where
 kind:UInt8
 user:ByteArray
 res:ByteArray
 name:ByteArray
 show_:Int
 prio:Int
 code:Int
 n:Int
def StzD.arr (s:StzD):Array Value:=#[.int .u8 s.kind.toNat,.string s.user,.string s.res,.string s.name,.int .i64 s.show_,.int .i64 s.prio,.int .i64 s.code,.int .i64 s.n]
def hasC (k:UInt8) (c:UInt8):Bool:=(hasN k.toNat).any (· == c)
theorem ite_len {p:Prop} [Decidable p] {a b:List UInt8} {n:Nat} (ha:a.length≤n) (hb:b.length≤n):(if p then a else b).length≤n:=by
 by_cases h:p
 ·rw [if_pos h];exact ha
 ·rw [if_neg h];exact hb
theorem hasN_len (k:Nat):(hasN k).length≤5:=by
 unfold hasN
 repeat' first | (apply ite_len) | decide
def extraL (s:StzD):Bool :=
 ((!s.user.toList.isEmpty && !hasC s.kind 117) || (!s.res.toList.isEmpty && !hasC s.kind 114) || (!s.name.toList.isEmpty && !hasC s.kind 109)) ||
 ((s.show_ != 0 && !hasC s.kind 115) || (s.prio != 0 && !hasC s.kind 112) || (s.code != 0 && !hasC s.kind 99) || (s.n != 0 && !hasC s.kind 110))
def rangeL (s:StzD):Bool:=(decide (0≤s.show_) && decide (s.show_≤63)) && (decide (-128≤s.prio) && decide (s.prio≤127)) && (decide (0≤s.code) && decide (s.code≤255)) && (decide (0≤s.n) && decide (s.n≤281474976710655))
def checkS (s:StzD):Int :=
 if knownN s.kind.toNat=false then 12 else if extraL s=true then 4 else if rangeL s=false then 8 else if 24 < s.name.size then 5
 else if plainL s.name.data.toList=false then 11 else if (hasC s.kind 117 && !isBareL s.user.data.toList)=true then 11 else resL s.res.data.toList
end Go.Proofs.YthnihifblmnkdaaGreat

namespace Go.Proofs.YthnihifblmnkdaaGreat
open Go.RowKit
end Go.Proofs.YthnihifblmnkdaaGreat

namespace Go.Proofs.YthnihifblmnkdaaGreat
open Go.RowKit
end Go.Proofs.YthnihifblmnkdaaGreat

