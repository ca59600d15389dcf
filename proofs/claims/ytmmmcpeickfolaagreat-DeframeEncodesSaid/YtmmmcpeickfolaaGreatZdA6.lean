/- A part of the proof: 9 texts joined. -/
import Derived.Test.YtmmmcpeickfolaaGreatZdA5
set_option linter.all false
namespace Go.Proofs.YtmmmcpeickfolaaGreat
open Go.RowKit
def bv (l:List UInt8) (i:Nat):Int:=((l.getD i 0).toNat:Int)
def valL (l:List UInt8) (k:Nat):Int :=
 match k with
 | 1=>bv l 0
 | 2=>64 * (bv l 0 - 192) + bv l 1 - 128
 | 3=>4096 * (bv l 0 - 224) + 64 * (bv l 1 - 128) + bv l 2 - 128
 | _=>262144 * (bv l 0 - 240) + 4096 * (bv l 1 - 128) + 64 * (bv l 2 - 128) + bv l 3 - 128
def condN (l:List UInt8) (k:Nat):Bool:=charL (valL l k) && putL (valL l k) == l.take k
theorem by8_iff {n:Int} (h0:0≤n) (h1:n < 256) (b:UInt8):by8 n=b ↔ n=(b.toNat:Int):=by
 constructor
 ·rintro rfl;exact (by8_eq h0 h1).symm
 ·intro h;apply UInt8.toNat_inj.1;have:=by8_eq h0 h1;omega
theorem contL_iff (b:UInt8):contL b=true ↔ 128≤b.toNat∧b.toNat < 192:=by simp [contL]
theorem charL_iff (c:Int):charL c=true ↔ 0≤c∧c≤1114111∧(c < 55296∨57343 < c):=by simp [charL]
theorem putL_len (c:Int) (h:charL c=true):(putL c).length=if c < 128 then 1 else if c < 2048 then 2 else if c < 65536 then 3 else 4:=by
 unfold putL;rw [if_neg (by simp [h])];repeat' split
 all_goals first | rfl | omega
theorem tailL_ok (n c0 f:Nat) (r:List UInt8) (C:Nat) (h:n≤r.length) (ha:(r.take n).all contL=true) (hC:(r.take n).foldl (fun c b=>c * 64 + b.toNat % 64) c0=C) (hf:f≤C) (hch:charL C=true):tailL n c0 f r=((C:Int),n + 1):=by
 rw [tailL_eq n c0 f r C h ha hC,if_neg];simp [hch];omega
theorem cond_next (l:List UInt8) (k:Nat) (h1:1≤k) (h4:k≤4) (hk:k≤l.length) (h:condN l k=true):nextL l=(valL l k,k):=by
 simp only [condN,Bool.and_eq_true,beq_iff_eq] at h
 obtain ⟨hc,hp⟩:=h
 have hlen:=congrArg List.length hp
 rw [putL_len _ hc,List.length_take,Nat.min_eq_left hk] at hlen
 obtain ⟨hb0,hb1⟩:=charL_bd hc
 have hch:=(charL_iff _).1 hc
 rcases (show k=1∨k=2∨k=3∨k=4 by omega) with rfl | rfl | rfl | rfl
 ·cases l with
  | nil=>exact absurd hk (by decide)
  | cons b0 r =>
   have hv:valL (b0 :: r) 1=(b0.toNat:Int):=rfl
   rw [hv] at hlen ⊢
   have:b0.toNat < 128:=by
    split at hlen
    ·omega
    ·split at hlen
     ·omega
     ·split at hlen <;> omega
   simp only [nextL,if_pos this]
 ·match l,hk with
  | b0 :: b1 :: r,_ =>
   have hv:valL (b0 :: b1 :: r) 2=64 * ((b0.toNat:Int) - 192) + (b1.toNat:Int) - 128:=rfl
   obtain ⟨c,hcc⟩ : ∃ c,valL (b0 :: b1 :: r) 2=c:=⟨_,rfl⟩
   rw [hcc] at hc hp hlen hb0 hb1 hch hv ⊢
   have hr:128≤c∧c < 2048:=by split at hlen <;> (try omega);split at hlen <;> (try omega);split at hlen <;> omega
   have hpe:putL c=[by8 (192 + c / 64),by8 (128 + c % 64)]:=by simp only [putL];rw [if_neg (by simp [hc]),if_neg (by omega),if_pos (by omega)]
   rw [hpe] at hp
   simp only [List.take_succ_cons,List.take_zero,List.cons.injEq,and_true] at hp
   have e0:=(by8_iff (by omega) (by omega) _).1 hp.1
   have e1:=(by8_iff (by omega) (by omega) _).1 hp.2
   have q0:¬ b0.toNat < 128:=by omega
   have q1:192≤b0.toNat∧b0.toNat < 224:=by omega
   simp only [nextL,if_neg q0,if_pos q1]
   have hC:c=((b0.toNat % 32 * 64 + b1.toNat % 64:Nat):Int):=by omega
   rw [tailL_ok 1 _ 128 _ (b0.toNat % 32 * 64 + b1.toNat % 64) (by simp) (by simp [contL];omega) (by simp) (by omega) (by rw [← hC];exact hc),hC]
 ·match l,hk with
  | b0 :: b1 :: b2 :: r,_ =>
   have hv:valL (b0 :: b1 :: b2 :: r) 3=4096 * ((b0.toNat:Int) - 224) + 64 * ((b1.toNat:Int) - 128) + (b2.toNat:Int) - 128:=rfl
   obtain ⟨c,hcc⟩ : ∃ c,valL (b0 :: b1 :: b2 :: r) 3=c:=⟨_,rfl⟩
   rw [hcc] at hc hp hlen hb0 hb1 hch hv ⊢
   have hr:2048≤c∧c < 65536:=by split at hlen <;> (try omega);split at hlen <;> (try omega);split at hlen <;> omega
   have hpe:putL c=[by8 (224 + c / 4096),by8 (128 + c / 64 % 64),by8 (128 + c % 64)]:=by simp only [putL];rw [if_neg (by simp [hc]),if_neg (by omega),if_neg (by omega),if_pos (by omega)]
   rw [hpe] at hp
   simp only [List.take_succ_cons,List.take_zero,List.cons.injEq,and_true] at hp
   have e0:=(by8_iff (by omega) (by omega) _).1 hp.1
   have e1:=(by8_iff (by omega) (by omega) _).1 hp.2.1
   have e2:=(by8_iff (by omega) (by omega) _).1 hp.2.2
   have q0:¬ b0.toNat < 128:=by omega
   have q1:¬ (192≤b0.toNat∧b0.toNat < 224):=by omega
   have q2:224≤b0.toNat∧b0.toNat < 240:=by omega
   simp only [nextL,if_neg q0,if_neg q1,if_pos q2]
   have hC:c=(((b0.toNat % 16 * 64 + b1.toNat % 64) * 64 + b2.toNat % 64:Nat):Int):=by omega
   rw [tailL_ok 2 _ 2048 _ ((b0.toNat % 16 * 64 + b1.toNat % 64) * 64 + b2.toNat % 64) (by simp) (by simp [contL];omega) (by simp) (by omega) (by rw [← hC];exact hc),hC]
 ·match l,hk with
  | b0 :: b1 :: b2 :: b3 :: r,_ =>
   have hv:valL (b0 :: b1 :: b2 :: b3 :: r) 4=262144 * ((b0.toNat:Int) - 240) + 4096 * ((b1.toNat:Int) - 128) + 64 * ((b2.toNat:Int) - 128) + (b3.toNat:Int) - 128:=rfl
   obtain ⟨c,hcc⟩ : ∃ c,valL (b0 :: b1 :: b2 :: b3 :: r) 4=c:=⟨_,rfl⟩
   rw [hcc] at hc hp hlen hb0 hb1 hch hv ⊢
   have hr:65536≤c:=by split at hlen <;> (try omega);split at hlen <;> (try omega);split at hlen <;> omega
   have hpe:putL c=[by8 (240 + c / 262144),by8 (128 + c / 4096 % 64),by8 (128 + c / 64 % 64),by8 (128 + c % 64)]:=by simp only [putL];rw [if_neg (by simp [hc]),if_neg (by omega),if_neg (by omega),if_neg (by omega)]
   rw [hpe] at hp
   simp only [List.take_succ_cons,List.take_zero,List.cons.injEq,and_true] at hp
   have e0:=(by8_iff (by omega) (by omega) _).1 hp.1
   have e1:=(by8_iff (by omega) (by omega) _).1 hp.2.1
   have e2:=(by8_iff (by omega) (by omega) _).1 hp.2.2.1
   have e3:=(by8_iff (by omega) (by omega) _).1 hp.2.2.2
   have q0:¬ b0.toNat < 128:=by omega
   have q1:¬ (192≤b0.toNat∧b0.toNat < 224):=by omega
   have q2:¬ (224≤b0.toNat∧b0.toNat < 240):=by omega
   have q3:240≤b0.toNat∧b0.toNat < 248:=by omega
   simp only [nextL,if_neg q0,if_neg q1,if_neg q2,if_pos q3]
   have hC:c=((((b0.toNat % 8 * 64 + b1.toNat % 64) * 64 + b2.toNat % 64) * 64 + b3.toNat % 64:Nat):Int):=by omega
   rw [tailL_ok 3 _ 65536 _ (((b0.toNat % 8 * 64 + b1.toNat % 64) * 64 + b2.toNat % 64) * 64 + b3.toNat % 64) (by simp) (by simp [contL];omega) (by simp) (by omega) (by rw [← hC];exact hc),hC]
theorem next_cond (l:List UInt8) (h0:128≤(l.getD 0 0).toNat) (hne:l≠[]) :
  nextL l=(-1,1)∨∃ k,1≤k∧k≤4∧k≤l.length∧condN l k=true:=by
 cases l with
 | nil=>exact absurd rfl hne
 | cons b0 r =>
  have hb:128≤b0.toNat:=h0
  have q0:¬ b0.toNat < 128:=by omega
  have B0:=u8_lt b0
  by_cases q1:192≤b0.toNat∧b0.toNat < 224
  ·have e:nextL (b0 :: r)=tailL 1 (b0.toNat % 32) 128 r:=by simp only [nextL,if_neg q0,if_pos q1]
   rw [e]
   match r with
   | []=>exact .inl rfl
   | b1 :: r =>
    by_cases c1:contL b1=true
    ·rw [tailL_eq 1 _ 128 _ (b0.toNat % 32 * 64 + b1.toNat % 64) (by simp) (by simp [c1]) (by simp)]
     split
     ·exact .inl rfl
     ·rename_i hno
      refine .inr ⟨2,by omega,by omega,by simp,?_⟩
      have hc1:=(contL_iff _).1 c1
      obtain ⟨C,hC⟩ : ∃ C:Int,C=((b0.toNat % 32 * 64 + b1.toNat % 64:Nat):Int):=⟨_,rfl⟩
      rw [← hC] at hno
      have hv:valL (b0 :: b1 :: r) 2=C:=by show 64 * ((b0.toNat:Int) - 192) + (b1.toNat:Int) - 128=C;omega
      have hch:charL C=true:=by cases h:charL C with | true=>rfl | false=>exact absurd (.inr h) hno
      have hC128:128≤C:=by rcases Int.lt_or_le C 128 with h | h;exact absurd (.inl h) hno;exact h
      have hpe:putL C=[by8 (192 + C / 64),by8 (128 + C % 64)]:=by simp only [putL];rw [if_neg (by simp [hch]),if_neg (by omega),if_pos (by omega)]
      simp only [condN,hv,hch,hpe,Bool.true_and,beq_iff_eq,List.take_succ_cons,List.take_zero,List.cons.injEq,and_true]
      exact ⟨(by8_iff (by omega) (by omega) _).2 (by omega),(by8_iff (by omega) (by omega) _).2 (by omega)⟩
    ·left
     unfold tailL;rw [if_neg (by simp),if_pos (by simp [c1])]
  by_cases q2:224≤b0.toNat∧b0.toNat < 240
  ·have e:nextL (b0 :: r)=tailL 2 (b0.toNat % 16) 2048 r:=by simp only [nextL,if_neg q0,if_neg q1,if_pos q2]
   rw [e]
   match r with
   | []=>exact .inl rfl
   | [x]=>exact .inl rfl
   | b1 :: b2 :: r =>
    by_cases c1:contL b1=true∧contL b2=true
    ·rw [tailL_eq 2 _ 2048 _ ((b0.toNat % 16 * 64 + b1.toNat % 64) * 64 + b2.toNat % 64) (by simp) (by simp [c1]) (by simp)]
     split
     ·exact .inl rfl
     ·rename_i hno
      refine .inr ⟨3,by omega,by omega,by simp,?_⟩
      have hc1:=(contL_iff _).1 c1.1
      have hc2:=(contL_iff _).1 c1.2
      obtain ⟨C,hC⟩ : ∃ C:Int,C=(((b0.toNat % 16 * 64 + b1.toNat % 64) * 64 + b2.toNat % 64:Nat):Int):=⟨_,rfl⟩
      rw [← hC] at hno
      have hv:valL (b0 :: b1 :: b2 :: r) 3=C:=by show 4096 * ((b0.toNat:Int) - 224) + 64 * ((b1.toNat:Int) - 128) + (b2.toNat:Int) - 128=C;omega
      have hch:charL C=true:=by cases h:charL C with | true=>rfl | false=>exact absurd (.inr h) hno
      have hC128:2048≤C:=by rcases Int.lt_or_le C 2048 with h | h;exact absurd (.inl h) hno;exact h
      have hpe:putL C=[by8 (224 + C / 4096),by8 (128 + C / 64 % 64),by8 (128 + C % 64)]:=by simp only [putL];rw [if_neg (by simp [hch]),if_neg (by omega),if_neg (by omega),if_pos (by omega)]
      simp only [condN,hv,hch,hpe,Bool.true_and,beq_iff_eq,List.take_succ_cons,List.take_zero,List.cons.injEq,and_true]
      exact ⟨(by8_iff (by omega) (by omega) _).2 (by omega),(by8_iff (by omega) (by omega) _).2 (by omega),(by8_iff (by omega) (by omega) _).2 (by omega)⟩
    ·left
     unfold tailL;rw [if_neg (by simp),if_pos (by
      have:(b1 :: b2 :: r).take 2=[b1,b2]:=rfl
      rw [this];simp only [List.all_cons,List.all_nil,Bool.and_true]
      cases h1:contL b1 <;> cases h2:contL b2 <;> simp_all)]
  by_cases q3:240≤b0.toNat∧b0.toNat < 248
  ·have e:nextL (b0 :: r)=tailL 3 (b0.toNat % 8) 65536 r:=by simp only [nextL,if_neg q0,if_neg q1,if_neg q2,if_pos q3]
   rw [e]
   match r with
   | []=>exact .inl rfl
   | [x]=>exact .inl rfl
   | [x,y]=>exact .inl rfl
   | b1 :: b2 :: b3 :: r =>
    by_cases c1:contL b1=true∧contL b2=true∧contL b3=true
    ·rw [tailL_eq 3 _ 65536 _ (((b0.toNat % 8 * 64 + b1.toNat % 64) * 64 + b2.toNat % 64) * 64 + b3.toNat % 64) (by simp) (by simp [c1]) (by simp)]
     split
     ·exact .inl rfl
     ·rename_i hno
      refine .inr ⟨4,by omega,by omega,by simp,?_⟩
      have hc1:=(contL_iff _).1 c1.1
      have hc2:=(contL_iff _).1 c1.2.1
      have hc3:=(contL_iff _).1 c1.2.2
      obtain ⟨C,hC⟩ : ∃ C:Int,C=((((b0.toNat % 8 * 64 + b1.toNat % 64) * 64 + b2.toNat % 64) * 64 + b3.toNat % 64:Nat):Int):=⟨_,rfl⟩
      rw [← hC] at hno
      have hv:valL (b0 :: b1 :: b2 :: b3 :: r) 4=C:=by show 262144 * ((b0.toNat:Int) - 240) + 4096 * ((b1.toNat:Int) - 128) + 64 * ((b2.toNat:Int) - 128) + (b3.toNat:Int) - 128=C;omega
      have hch:charL C=true:=by cases h:charL C with | true=>rfl | false=>exact absurd (.inr h) hno
      have hC128:65536≤C:=by rcases Int.lt_or_le C 65536 with h | h;exact absurd (.inl h) hno;exact h
      have hbd:=charL_bd hch
      have hpe:putL C=[by8 (240 + C / 262144),by8 (128 + C / 4096 % 64),by8 (128 + C / 64 % 64),by8 (128 + C % 64)]:=by simp only [putL];rw [if_neg (by simp [hch]),if_neg (by omega),if_neg (by omega),if_neg (by omega)]
      simp only [condN,hv,hch,hpe,Bool.true_and,beq_iff_eq,List.take_succ_cons,List.take_zero,List.cons.injEq,and_true]
      exact ⟨(by8_iff (by omega) (by omega) _).2 (by omega),(by8_iff (by omega) (by omega) _).2 (by omega),(by8_iff (by omega) (by omega) _).2 (by omega),(by8_iff (by omega) (by omega) _).2 (by omega)⟩
    ·left
     unfold tailL;rw [if_neg (by simp),if_pos (by
      have:(b1 :: b2 :: b3 :: r).take 3=[b1,b2,b3]:=rfl
      rw [this];simp only [List.all_cons,List.all_nil,Bool.and_true]
      cases h1:contL b1 <;> cases h2:contL b2 <;> cases h3:contL b3 <;> simp_all)]
  left
  simp only [nextL,if_neg q0,if_neg q1,if_neg q2,if_neg q3]
end Go.Proofs.YtmmmcpeickfolaaGreat

namespace Go.Proofs.YtmmmcpeickfolaaGreat
open Go.RowKit
theorem bv_at (s:ByteArray) (i:Nat) (h:i < s.size) (b:UInt8) (hb:s[i]=b):bv s.data.toList i=(b.toNat:Int):=by
 unfold bv;rw [bl_getD s i h,hb]
set_option maxRecDepth 100000 in
set_option maxHeartbeats 400000 in
theorem refValue_c (s:ByteArray) (n:Nat) (w:World) (h1:1≤n) (h4:n≤4) (hn:n≤s.size) :
  Calls Tryz.prog 234 #[.string s,.int .i64 n] w fun e w'=>e=.returned (.int .i64 (valL s.data.toList n))∧∃ k,w'=w.drewN k:=by
 have h0:0 < s.size:=by omega
 obtain ⟨b0,hb0⟩ : ∃ b,s[0]=b:=⟨_,rfl⟩
 have B0:=u8_lt b0
 have e0:=bv_at s 0 h0 b0 hb0
 rcases (show n=1∨n=2∨n=3∨n=4 by omega) with rfl | rfl | rfl | rfl
 ·have hv:valL s.data.toList 1=(b0.toNat:Int):=e0
  have HV:=Lib.hid hv
  clear hv e0
  go_enter Tryz.func234,Tryz.ntmps234
  go_wp2
  go_ret
  exact ⟨by rw [HV.out];rfl,0,rfl⟩
 ·have h1' : 1 < s.size:=by omega
  obtain ⟨b1,hb1⟩ : ∃ b,s[1]=b:=⟨_,rfl⟩
  have B1:=u8_lt b1
  have e1:=bv_at s 1 h1' b1 hb1
  have hv:valL s.data.toList 2=64 * ((b0.toNat:Int) - 192) + (b1.toNat:Int) - 128:=by simp only [valL,e0,e1]
  have HV:=Lib.hid hv
  clear hv e0 e1
  go_enter Tryz.func234,Tryz.ntmps234
  go_wp2
  go_quiet (fail)
  go_wp2
  go_ret
  exact ⟨by rw [HV.out];rfl,_,rfl⟩
 ·have h1' : 1 < s.size:=by omega
  have h2' : 2 < s.size:=by omega
  obtain ⟨b1,hb1⟩ : ∃ b,s[1]=b:=⟨_,rfl⟩
  obtain ⟨b2,hb2⟩ : ∃ b,s[2]=b:=⟨_,rfl⟩
  have B1:=u8_lt b1
  have B2:=u8_lt b2
  have e1:=bv_at s 1 h1' b1 hb1
  have e2:=bv_at s 2 h2' b2 hb2
  have hv:valL s.data.toList 3=4096 * ((b0.toNat:Int) - 224) + 64 * ((b1.toNat:Int) - 128) + (b2.toNat:Int) - 128:=by simp only [valL,e0,e1,e2]
  have HV:=Lib.hid hv
  clear hv e0 e1 e2
  go_enter Tryz.func234,Tryz.ntmps234
  go_wp2
  go_quiet (fail)
  go_wp2
  go_ret
  exact ⟨by rw [HV.out];rfl,_,rfl⟩
 ·have h1' : 1 < s.size:=by omega
  have h2' : 2 < s.size:=by omega
  have h3' : 3 < s.size:=by omega
  obtain ⟨b1,hb1⟩ : ∃ b,s[1]=b:=⟨_,rfl⟩
  obtain ⟨b2,hb2⟩ : ∃ b,s[2]=b:=⟨_,rfl⟩
  obtain ⟨b3,hb3⟩ : ∃ b,s[3]=b:=⟨_,rfl⟩
  have B1:=u8_lt b1
  have B2:=u8_lt b2
  have B3:=u8_lt b3
  have e1:=bv_at s 1 h1' b1 hb1
  have e2:=bv_at s 2 h2' b2 hb2
  have e3:=bv_at s 3 h3' b3 hb3
  have hv:valL s.data.toList 4=262144 * ((b0.toNat:Int) - 240) + 4096 * ((b1.toNat:Int) - 128) + 64 * ((b2.toNat:Int) - 128) + (b3.toNat:Int) - 128:=by simp only [valL,e0,e1,e2,e3]
  have HV:=Lib.hid hv
  clear hv e0 e1 e2 e3
  go_enter Tryz.func234,Tryz.ntmps234
  go_wp2
  go_quiet (fail)
  go_wp2
  go_ret
  exact ⟨by rw [HV.out];rfl,_,rfl⟩
end Go.Proofs.YtmmmcpeickfolaaGreat

namespace Go.Proofs.YtmmmcpeickfolaaGreat
open Go.RowKit
def NoC (l:List UInt8) (k:Nat):Prop:=∀ m,1≤m→m < k→condN l m=false
theorem NoC.succ {l:List UInt8} {k:Nat} (h:NoC l k) (hk:condN l k=false):NoC l (k + 1):=by
 intro m h1 h2
 rcases Nat.lt_or_ge m k with h3 | h3
 ·exact h m h1 h3
 ·obtain rfl:m=k:=by omega
  exact hk
theorem NoC.none {l:List UInt8} {k:Nat} (h:NoC l k) (h0:128≤(l.getD 0 0).toNat) (hne:l≠[]) (hk:4 < k∨l.length < k):nextL l=(-1,1):=by
 rcases next_cond l h0 hne with h1 | ⟨m,h1,h2,h3,h4⟩
 ·exact h1
 ·rw [h m h1 (by omega)] at h4;cases h4
theorem nextLow (s:ByteArray) (h:0 < s.size) (b:UInt8) (hb:s[0]=b) (hlt:b.toNat < 128):nextL s.data.toList=((b.toNat:Int),1):=by
 have h1:=bl_getD s 0 h
 rw [hb] at h1
 cases hl:s.data.toList with
 | nil=>have:=bl_len s;rw [hl] at this;simp at this;omega
 | cons x r =>
  rw [hl] at h1
  have:x=b:=h1
  subst this
  simp only [nextL,if_pos hlt]
set_option maxRecDepth 100000 in
set_option maxHeartbeats 1000000 in
theorem refNext_c (s:ByteArray) (w:World) (hs:s.size≤1000000) :
  Calls Tryz.prog 217 #[.string s] w (Ret w (.tuple #[.int .i64 (nextL s.data.toList).1,.int .i64 ((nextL s.data.toList).2:Nat)])):=by
 by_cases he:s=ByteArray.empty
 ·subst he
  go_enter Tryz.func217,Tryz.ntmps217
  go_wp2
  go_loopw [4,5,6,7] (fun n _ _ _ wr=>n=.int .i64 1∧Below w.heap.size w wr) (fun _ _ _ _ _=>0)
  case atStart=>exact ⟨rfl,Below.refl _ _⟩
  case round =>
   obtain ⟨rfl,hB⟩:=hrel
   go_wp2
   go_ret2
   exact ⟨rfl,hB⟩
 have hpos:=pos_of_ne he
 obtain ⟨b0,hb0⟩ : ∃ b,s[0]=b:=⟨_,rfl⟩
 by_cases hlo:b0.toNat < 128
 ·have hn:=nextLow s hpos b0 hb0 hlo
  have HN:=Lib.hid hn
  have B0:=u8_lt b0
  clear hn
  go_enter Tryz.func217,Tryz.ntmps217
  go_wp2
  go_ret2
  exact ⟨by rw [HN.out];rfl,bel_⟩
 ·have hg:128≤(s.data.toList.getD 0 0).toNat:=by rw [bl_getD s 0 hpos,hb0];omega
  have hne:s.data.toList≠[]:=by intro h;have:=bl_len s;rw [h] at this;simp at this;omega
  have HG:=Lib.hid hg
  have HNE:=Lib.hid hne
  clear hg hne
  go_enter Tryz.func217,Tryz.ntmps217
  go_wp2
  go_loopw [4,5,6,7] (fun n _ _ _ wr=>∃ k:Nat,1≤k∧k≤5∧k≤s.size + 1∧n=.int .i64 k∧NoC s.data.toList k∧Below w.heap.size w wr) (fun n _ _ _ _=>6 - (intOf n).toNat)
  case atStart=>exact ⟨1,by omega,by omega,by omega,rfl,fun m h1 h2=>absurd h1 (by omega),Below.refl _ _⟩
  case round =>
   obtain ⟨k,h1,h5,hk,rfl,hno,hB⟩:=hrel
   have HNO:=Lib.hid hno
   clear hno
   by_cases hlt:k≤4∧k≤s.size
   ·obtain ⟨h4,hks⟩:=hlt
    obtain ⟨C,hC⟩ : ∃ C,valL s.data.toList k=C:=⟨_,rfl⟩
    have hcond:condN s.data.toList k=(charL C && (putL C == s.data.toList.take k)):=by unfold condN;rw [hC]
    obtain ⟨q,hq⟩ : ∃ q,(putL C == s.data.toList.take k)=q:=⟨_,rfl⟩
    have hq' : ((ba (putL C)).toList == (s.extract 0 k).toList)=q:=by rw [ByteArray.toList_eq,ByteArray.toList_eq,ba_list,ext_take];exact hq
    rw [hq] at hcond
    have HC:=Lib.hid hC
    have HCOND:=Lib.hid hcond
    clear hC hcond hq
    cases hch:charL C with
    | false =>
     rw [hch] at HCOND
     go_wp2_with (first | (go_at_call 234;(with_reducible refine (refValue_c s k _ h1 h4 hks).mono ?_);rw [HC.out];rintro e w1 ⟨rfl,j1,rfl⟩) | (go_at_call 235;(with_reducible refine (refPut_c C _).mono ?_);rw [hch];rintro e w2 ⟨rfl,hb2⟩))
     exact ⟨⟨k + 1,by omega,by omega,by omega,by go_num,HNO.out.succ HCOND.out,below_then (below_drewN hB _) hb2⟩,by simp [intOf];omega⟩
    | true =>
     rw [hch] at HCOND
     cases q with
     | false =>
      go_wp2_with (first | (go_at_call 234;(with_reducible refine (refValue_c s k _ h1 h4 hks).mono ?_);rw [HC.out];rintro e w1 ⟨rfl,j1,rfl⟩) | (go_at_call 235;(with_reducible refine (refPut_c C _).mono ?_);rw [hch];rintro e w2 ⟨rfl,hb2⟩))
      exact ⟨⟨k + 1,by omega,by omega,by omega,by go_num,HNO.out.succ HCOND.out,below_then (below_drewN hB _) hb2⟩,by simp [intOf];omega⟩
     | true =>
      go_wp2_with (first | (go_at_call 234;(with_reducible refine (refValue_c s k _ h1 h4 hks).mono ?_);rw [HC.out];rintro e w1 ⟨rfl,j1,rfl⟩) | (go_at_call 235;(with_reducible refine (refPut_c C _).mono ?_);rw [hch];rintro e w2 ⟨rfl,hb2⟩))
      go_ret2
      refine ⟨?_,below_then (below_drewN hB _) hb2⟩
      rw [cond_next s.data.toList k h1 h4 (by rw [bl_len];exact hks) HCOND.out,HC.out]
      rfl
   ·have hn:=HNO.out.none HG.out HNE.out (by rw [bl_len];omega)
    have HN:=Lib.hid hn
    clear hn
    have hk4:¬ k≤4∨¬ k≤s.size:=by omega
    by_cases h4:k≤4
    ·have hks:¬ k≤s.size:=by omega
     clear hlt hk4
     go_wp2
     go_ret2
     refine ⟨?_,hB⟩
     have hm:min (1:Int) (s.size:Int)=1:=by omega
     rw [HN.out]
     simp [hm]
    ·clear hlt hk4
     go_wp2
     go_ret2
     refine ⟨?_,hB⟩
     have hm:min (1:Int) (s.size:Int)=1:=by omega
     rw [HN.out]
     simp [hm]
end Go.Proofs.YtmmmcpeickfolaaGreat

namespace Go.Proofs.YtmmmcpeickfolaaGreat
open Go.RowKit
theorem Tryz.infoInt:(Tryz.prog.info? 3).map (fun i=>(i.zero,i.size,i.bytes))=some (some (.int .i64 0),1,8):=by kernel_rfl
def okC (x:Int × Nat):Bool:=decide (0≤x.1)
def okL (l:List UInt8):Bool:=(allL l.length l).all okC
def OkFrom (l:List UInt8) (a:Nat):Prop:=∃ m,(l.drop a).length≤m∧okL l=(allL m (l.drop a)).all okC
theorem OkFrom.start (l:List UInt8):OkFrom l 0:=⟨l.length,by simp,by simp [okL]⟩
theorem allL_step (l:List UInt8) (m:Nat) (h:l≠[]) (hm:l.length≤m):∃ m',m=m' + 1∧allL m l=nextL l :: allL m' (l.drop (nextL l).2)∧(l.drop (nextL l).2).length≤m'∧1≤(nextL l).2∧(nextL l).2≤l.length:=by
 cases l with
 | nil=>exact absurd rfl h
 | cons b r =>
  have hp:=nextL_pos b r
  obtain ⟨m',rfl⟩ : ∃ m',m=m' + 1:=⟨m - 1,by simp at hm;omega⟩
  refine ⟨m',rfl,rfl,?_,hp.1,by simpa using hp.2⟩
  rw [List.length_drop]
  simp at hm ⊢
  omega
theorem OkFrom.next {l:List UInt8} {a:Nat} (h:OkFrom l a) (ha:a < l.length) (hok:okC (nextL (l.drop a))=true):OkFrom l (a + (nextL (l.drop a)).2):=by
 obtain ⟨m,h1,h2⟩:=h
 obtain ⟨m',rfl,e,h3,_,_⟩:=allL_step (l.drop a) m (by intro e;have:=congrArg List.length e;simp at this;omega) h1
 refine ⟨m',by rw [← List.drop_drop];exact h3,?_⟩
 rw [h2,e,List.all_cons,hok,Bool.true_and,← List.drop_drop]
theorem OkFrom.bad {l:List UInt8} {a:Nat} (h:OkFrom l a) (ha:a < l.length) (hok:okC (nextL (l.drop a))=false):okL l=false:=by
 obtain ⟨m,h1,h2⟩:=h
 obtain ⟨m',rfl,e,h3,_,_⟩:=allL_step (l.drop a) m (by intro e;have:=congrArg List.length e;simp at this;omega) h1
 rw [h2,e,List.all_cons,hok,Bool.false_and]
theorem OkFrom.done {l:List UInt8} {a:Nat} (h:OkFrom l a) (ha:l.length≤a):okL l=true:=by
 obtain ⟨m,h1,h2⟩:=h
 rw [h2,List.drop_of_length_le ha]
 cases m <;> rfl
def AllPost (w:World) (b:Bool) (e:Ending) (w' : World):Prop:=∃ v,e=.returned (.tuple #[v,.int .i64 (if b=true then 0 else 11)])∧Below w.heap.size w w'
set_option maxRecDepth 100000 in
set_option maxHeartbeats 1000000 in
theorem refAll_c (s:ByteArray) (w:World) (hs:s.size≤100000) :
  Calls Tryz.prog 204 #[.string s] w (AllPost w (okL s.data.toList)):=by
 obtain ⟨i0,hi,hz0,hz1,hz2⟩:=info_parts Tryz.infoInt
 go_enter Tryz.func204,Tryz.ntmps204
 go_wp2
 go_loopw [4,5,6,7] (fun v a _ _ wr=>∃ k j:Nat,k≤s.size∧j≤k∧a=.int .i64 k∧(∃ A' c' xs,v=.slice A' j c'∧wr.ownsRow w.heap.size 3 1 v j xs)∧OkFrom s.data.toList k∧Below w.heap.size w wr) (fun _ a _ _ _=>s.size - (intOf a).toNat)
 case atStart=>exact ⟨0,0,Nat.zero_le _,Nat.zero_le _,rfl,⟨none,0,[],rfl,World.ownsRow_nil _ _ _ _⟩,OkFrom.start _,Below.refl _ _⟩
 case round =>
  obtain ⟨k,j,hk,hj,rfl,⟨A',c',xs,rfl,hown⟩,hok,hB⟩:=hrel
  have HOK:=Lib.hid hok
  clear hok
  by_cases hlt:k < s.size
  ·obtain ⟨c,n,hcn⟩ : ∃ c n,nextL (s.data.toList.drop k)=(c,n):=⟨_,_,rfl⟩
   have hne:s.data.toList.drop k≠[]:=by intro e;have:=congrArg List.length e;rw [List.length_drop,bl_len] at this;simp at this;omega
   obtain ⟨_,_,_,_,hn1,hn2⟩:=allL_step _ _ hne (Nat.le_refl _)
   rw [hcn,List.length_drop,bl_len] at hn2
   rw [hcn] at hn1
   dsimp only at hn1 hn2
   have hnc:∀ W,Calls Tryz.prog 217 #[.string (s.extract k s.size)] W (Ret W (.tuple #[.int .i64 c,.int .i64 n])):=by
    intro W
    have:=refNext_c (s.extract k s.size) W (by simp;omega)
    rw [ext_drop,hcn] at this
    exact this
   have HN:=Lib.hid hnc
   have HCN:=Lib.hid hcn
   have HO:=Lib.hid hown
   clear hnc hcn hne
   cases hc:decide (c < 0) with
   | true =>
    have hc' : c < 0:=of_decide_eq_true hc
    go_wp2_with (go_at_call 217;(with_reducible refine (HN.out _).mono ?_);rintro e w1 ⟨rfl,hb1⟩)
    go_ret2
    exact ⟨_,by rw [HOK.out.bad (by rw [bl_len];exact hlt) (by rw [HCN.out];simp [okC];omega)];rfl,below_then hB hb1⟩
   | false =>
    have hc' : ¬ c < 0:=of_decide_eq_false hc
    have hsz:=HO.out
    have hmax:max (n:Int) 1=(n:Int):=by omega
    go_wp2_with (first | (go_at_call 217;(with_reducible refine (HN.out _).mono ?_);rintro e w1 ⟨rfl,hb1⟩) | (at_builtin;refine append_new (w:=w1) rfl _ _ 30 rfl w.heap.size 3 i0 _ 1 8 Tryz.underlying30 hi hz0 hz1 hz2 rfl (by decide) _ j xs rfl (own_below HO.out hb1) _ rfl rfl (by intro u hu;simp at hu;subst hu;rfl) (by omega) (by decide) (Nat.le_trans hB.size hb1.size) ?_;intro A2 c2' w2 hown2 hg2 hB2))
    have hnx:=HOK.out.next (by rw [bl_len];exact hlt) (by rw [HCN.out];simp [okC];omega)
    rw [HCN.out] at hnx
    exact ⟨⟨k + n,j + 1,by omega,by omega,by simp,⟨A2,c2',_,rfl,hown2⟩,hnx,(hB.trans (hb1.mono hB.size)).trans hB2⟩,by simp [intOf];omega⟩
  ·have hd:=HOK.out.done (by rw [bl_len];omega)
   have HD:=Lib.hid hd
   clear hd
   go_wp2
   go_ret2
   exact ⟨_,by rw [HD.out];rfl,hB⟩
set_option maxHeartbeats 400000 in
theorem refUCheck_c (s:ByteArray) (w:World) (hs:s.size≤100000) :
  Calls Tryz.prog 187 #[.string s] w (Ret w (.int .i64 (if okL s.data.toList=true then 0 else 11))):=by
 obtain ⟨r,hr⟩ : ∃ r:Int,(if okL s.data.toList=true then (0:Int) else 11)=r:=⟨_,rfl⟩
 have H:∀ W,Calls Tryz.prog 204 #[.string s] W fun e w'=>∃ v,e=.returned (.tuple #[v,.int .i64 r])∧Below W.heap.size W w':=fun W=>(refAll_c s W hs).mono fun e w' ⟨v,h1,h2⟩=>⟨v,by rw [← hr];exact h1,h2⟩
 rw [hr]
 have HH:=Lib.hid H
 clear hr H
 go_enter Tryz.func187,Tryz.ntmps187
 go_wp2_with (go_at_call 204;(with_reducible refine (HH.out _).mono ?_);rintro e w1 ⟨v,rfl,hb1⟩)
 go_ret
 exact ⟨rfl,hb1⟩
def ctlC (b:UInt8):Bool:=decide (b.toNat < 32) || b.toNat == 127
def plainR (l:List UInt8):Bool:=!l.any ctlC && okL l
def NoCtl (l:List UInt8) (i:Nat):Prop:=∀ j (hj:j < l.length),j < i→ctlC l[j]=false
theorem NoCtl.succ {l:List UInt8} {i:Nat} (h:NoCtl l i) {x:UInt8} {hi:i < l.length} (hx:l[i]=x) (hs:ctlC x=false):NoCtl l (i + 1):=by
 intro j hj hlt
 rcases Nat.lt_or_ge j i with h1 | h1
 ·exact h j hj h1
 ·obtain rfl:j=i:=by omega
  rw [hx];exact hs
theorem NoCtl.all {l:List UInt8} {i:Nat} (h:NoCtl l i) (hi:l.length≤i):l.any ctlC=false:=by
 rw [List.any_eq_false]
 intro x hx
 obtain ⟨j,hj,rfl⟩:=List.getElem_of_mem hx
 simp [h j hj (by omega)]
set_option maxHeartbeats 1000000 in
theorem refPlain_c (s : ByteArray) (w : World) (hs : s.size ≤ 100000) :
    Calls Tryz.prog 150 #[.string s] w (Ret w (.bool (plainR s.data.toList))) := by
  go_enter Tryz.func150, Tryz.ntmps150
  go_wp2
  go_loop [3] (fun i => ∃ k : Nat, k ≤ s.size ∧ i = .int .i64 k ∧ NoCtl s.data.toList k) (fun i => s.size - (intOf i).toNat)
  case atStart => exact ⟨0, Nat.zero_le _, rfl, fun _ _ h => absurd h (by omega)⟩
  case round =>
    obtain ⟨k, hk, rfl, hh⟩ := hrel
    have HH := Lib.hid hh
    clear hh
    by_cases hlt : k < s.size
    · have hkl : k < s.data.toList.length := by rw [bl_len]; exact hlt
      obtain ⟨c, hc⟩ : ∃ c, s[k]'hlt = c := ⟨_, rfl⟩
      have hg : s.data.toList[k] = c := by rw [bl_get s k hlt]; exact hc
      obtain ⟨b127, h127⟩ : ∃ b, (c.toNat == 127) = b := ⟨_, rfl⟩
      have h127e : ((c.toNat : Int) == 127) = b127 := by rw [← h127]; exact ibeq _ _ _ rfl
      have hct : ctlC c = (decide (c.toNat < 32) || b127) := by unfold ctlC; rw [h127]
      have HG := Lib.hid hg
      have HCT := Lib.hid hct
      clear hg hct h127
      go_wp2
      all_goals go_tidy
      all_goals first
        | (refine ⟨⟨k + 1, by omega, by go_num, HH.out.succ HG.out ?_⟩, by simp [intOf]; omega⟩; rw [HCT.out]; grind)
        | (have hf : s.data.toList.any ctlC = true := List.any_eq_true.2 ⟨_, List.getElem_mem hkl, by rw [HG.out, HCT.out]; grind⟩
           go_ret; exact ⟨by unfold plainR; rw [hf]; rfl, Below.refl _ _⟩)
    · have hn := HH.out.all (by rw [bl_len]; omega)
      have HN := Lib.hid hn
      clear hn
      cases ho : okL s.data.toList with
      | true =>
        have HO := Lib.hid ho
        clear ho
        go_wp2_with (go_at_call 187; (with_reducible refine (refUCheck_c s _ hs).mono ?_); rw [HO.out]; rintro e w1 ⟨rfl, hb1⟩)
        go_ret
        exact ⟨by unfold plainR; rw [HN.out, HO.out]; rfl, hb1⟩
      | false =>
        have HO := Lib.hid ho
        clear ho
        go_wp2_with (go_at_call 187; (with_reducible refine (refUCheck_c s _ hs).mono ?_); rw [HO.out]; rintro e w1 ⟨rfl, hb1⟩)
        go_ret
        exact ⟨by unfold plainR; rw [HN.out, HO.out]; rfl, hb1⟩
end Go.Proofs.YtmmmcpeickfolaaGreat

namespace Go.Proofs.YtmmmcpeickfolaaGreat
open Go.RowKit
theorem tailL_cases (n c f:Nat) (r:List UInt8):tailL n c f r=(-1,1)∨((r.take n).all contL=true∧∃ C:Nat,tailL n c f r=((C:Int),n + 1)∧f≤C):=by
 by_cases h:r.length < n
 ·left;unfold tailL;rw [if_pos h]
 ·by_cases ha:(r.take n).all contL=true
  ·rw [tailL_eq n c f r _ (by omega) ha rfl]
   split
   ·exact .inl rfl
   ·rename_i hno
    exact .inr ⟨ha,_,rfl,by
     rcases Nat.lt_or_ge ((r.take n).foldl (fun c b=>c * 64 + b.toNat % 64) c) f with h1 | h1
     ·exact absurd (.inl (by omega)) hno
     ·exact h1⟩
  ·left;unfold tailL;rw [if_neg h,if_pos (by simpa using ha)]
theorem ctl_hi {b:UInt8} (h:128≤b.toNat):ctlC b=false:=by unfold ctlC;simp;omega
theorem any_conts {l:List UInt8} (h:l.all contL=true):l.any ctlC=false:=by
 rw [List.any_eq_false]
 intro x hx
 have:=(contL_iff x).1 (List.all_eq_true.1 h x hx)
 simp [ctl_hi this.1]
theorem next_facts (b:UInt8) (r:List UInt8):(b.toNat < 128∧nextL (b :: r)=((b.toNat:Int),1))∨(nextL (b :: r)=(-1,1))∨(128≤b.toNat∧((b :: r).take (nextL (b :: r)).2).any ctlC=false∧128≤(nextL (b :: r)).1):=by
 by_cases q0:b.toNat < 128
 ·exact .inl ⟨q0,by simp only [nextL,if_pos q0]⟩
 right
 have key:∀ n c f,128≤f→nextL (b :: r)=tailL n c f r→nextL (b :: r)=(-1,1)∨(128≤b.toNat∧((b :: r).take (nextL (b :: r)).2).any ctlC=false∧128≤(nextL (b :: r)).1):=by
  intro n c f hf e
  rcases tailL_cases n c f r with h | ⟨ha,C,h,hC⟩
  ·exact .inl (e.trans h)
  ·right
   rw [e,h]
   refine ⟨by omega,?_,by simp;omega⟩
   show (List.take (n + 1) (b :: r)).any ctlC=false
   rw [List.take_succ_cons,List.any_cons,ctl_hi (by omega),any_conts ha];rfl
 by_cases q1:192≤b.toNat∧b.toNat < 224
 ·exact key 1 (b.toNat % 32) 128 (by omega) (by simp only [nextL,if_neg q0,if_pos q1])
 by_cases q2:224≤b.toNat∧b.toNat < 240
 ·exact key 2 (b.toNat % 16) 2048 (by omega) (by simp only [nextL,if_neg q0,if_neg q1,if_pos q2])
 by_cases q3:240≤b.toNat∧b.toNat < 248
 ·exact key 3 (b.toNat % 8) 65536 (by omega) (by simp only [nextL,if_neg q0,if_neg q1,if_neg q2,if_pos q3])
 ·left;simp only [nextL,if_neg q0,if_neg q1,if_neg q2,if_neg q3]
theorem all_fine:∀ (m:Nat) (l:List UInt8),l.length≤m→(allL m l).all fineC=(!l.any ctlC && (allL m l).all okC)
 | 0,l,h=>by
  have:l=[]:=List.eq_nil_of_length_eq_zero (by omega)
  subst this;rfl
 | m + 1,[],_=>rfl
 | m + 1,b :: r,h=>by
  have hp:=nextL_pos b r
  have ih:=all_fine m ((b :: r).drop (nextL (b :: r)).2) (by rw [List.length_drop];simp at h ⊢;omega)
  have hsplit:(b :: r).any ctlC=(((b :: r).take (nextL (b :: r)).2).any ctlC || ((b :: r).drop (nextL (b :: r)).2).any ctlC):=by
   rw [← List.any_append,List.take_append_drop]
  have e:allL (m + 1) (b :: r)=nextL (b :: r) :: allL m ((b :: r).drop (nextL (b :: r)).2):=rfl
  rw [e,List.all_cons,List.all_cons,ih,hsplit]
  rcases next_facts b r with ⟨h1,h2⟩ | h2 | ⟨h1,h2,h3⟩
  ·rw [h2]
   have t:(List.take 1 (b :: r)).any ctlC=ctlC b:=by simp
   rw [t]
   have f1:fineC ((b.toNat:Int),1)=!ctlC b:=by
    unfold fineC ctlC
    have:((b.toNat:Int) == 127)=(b.toNat == 127):=ibeq _ _ _ rfl
    simp only [this]
    by_cases h:b.toNat < 32
    ·have:¬ (32:Int)≤(b.toNat:Int):=by omega
     simp [h,this]
    ·have:(32:Int)≤(b.toNat:Int):=by omega
     simp [h,this]
   have f2:okC ((b.toNat:Int),1)=true:=by simp [okC]
   rw [f1,f2]
   cases ctlC b <;> simp
  ·rw [h2]
   have f1:fineC (-1,1)=false:=by decide
   have f2:okC (-1,1)=false:=by decide
   rw [f1,f2];simp
  ·rw [h2]
   have f1:fineC (nextL (b :: r))=true:=by unfold fineC;simp;omega
   have f2:okC (nextL (b :: r))=true:=by unfold okC;simp;omega
   rw [f1,f2];simp
theorem plain_same (l:List UInt8):plainR l=plainL l:=by
 unfold plainR plainL okL
 rw [all_fine l.length l (Nat.le_refl _)]
end Go.Proofs.YtmmmcpeickfolaaGreat

namespace Go.Proofs.YtmmmcpeickfolaaGreat
open Go.RowKit
theorem Tryz.infoU8:(Tryz.prog.info? 5).map (fun i=>(i.zero,i.size,i.bytes))=some (some (.int .u8 0),1,1):=by kernel_rfl
def findL (l:List UInt8) (c:UInt8):Nat:=l.findIdx (· == c)
def NoB (l:List UInt8) (c:UInt8) (k:Nat):Prop:=∀ j (hj:j < l.length),j < k→(l[j] == c)=false
theorem NoB.succ {l:List UInt8} {c:UInt8} {k:Nat} (h:NoB l c k) {hk:k < l.length} (hs:(l[k] == c)=false):NoB l c (k + 1):=by
 intro j hj hlt
 rcases Nat.lt_or_ge j k with h1 | h1
 ·exact h j hj h1
 ·obtain rfl:j=k:=by omega
  exact hs
theorem NoB.hit {l:List UInt8} {c:UInt8} {k:Nat} (h:NoB l c k) (hk:k < l.length) (hs:(l[k] == c)=true):findL l c=k:=by
 unfold findL
 rw [List.findIdx_eq hk]
 exact ⟨hs,fun j hj=>by have:=h j (by omega) hj;simpa using this⟩
theorem NoB.miss {l:List UInt8} {c:UInt8} {k:Nat} (h:NoB l c k) (hk:l.length≤k):findL l c=l.length:=by
 unfold findL
 rw [List.findIdx_eq_length]
 intro x hx
 obtain ⟨j,hj,rfl⟩:=List.getElem_of_mem hx
 exact h j hj (by omega)
theorem u8beq (a b:UInt8):((a.toNat:Int) == (b.toNat:Int))=(a == b):=by
 rw [Bool.eq_iff_iff];simp only [beq_iff_eq]
 constructor
 ·intro h;exact UInt8.toNat_inj.1 (by omega)
 ·rintro rfl;rfl
set_option maxHeartbeats 400000 in
theorem find_c (s:ByteArray) (c:UInt8) (w:World) (hs:s.size≤1000000) :
  Calls Tryz.prog 218 #[.string s,.int .u8 c.toNat] w fun e w'=>e=.returned (.int .i64 (findL s.data.toList c))∧w=w':=by
 go_enter Tryz.func218,Tryz.ntmps218
 go_wp2
 go_loop [5] (fun i=>∃ k:Nat,k≤s.size∧i=.int .i64 k∧NoB s.data.toList c k) (fun i=>s.size - (intOf i).toNat)
 case atStart=>exact ⟨0,Nat.zero_le _,rfl,fun _ _ h=>absurd h (by omega)⟩
 case round =>
  obtain ⟨k,hk,rfl,hh⟩:=hrel
  have HH:=Lib.hid hh
  clear hh
  by_cases hlt:k < s.size
  ·have hkl:k < s.data.toList.length:=by rw [bl_len];exact hlt
   obtain ⟨x,hx⟩ : ∃ x,s[k]'hlt=x:=⟨_,rfl⟩
   have hg:s.data.toList[k]=x:=by rw [bl_get s k hlt];exact hx
   have hxc:=u8beq x c
   obtain ⟨q,hq⟩ : ∃ q,(x == c)=q:=⟨_,rfl⟩
   rw [hq] at hxc
   have HQ:Hid ((s.data.toList[k] == c)=q):=by rw [hg];exact hq
   clear hg hq
   cases q with
   | true =>
    go_wp2
    go_ret
    exact ⟨by rw [HH.out.hit hkl HQ.out];rfl,rfl⟩
   | false =>
    go_wp2
    exact ⟨⟨k + 1,by omega,by go_num,HH.out.succ HQ.out⟩,by simp [intOf];omega⟩
  ·have hm:=HH.out.miss (by rw [bl_len];omega)
   rw [bl_len] at hm
   have HM:=Lib.hid hm
   clear hm
   go_wp2
   go_ret
   exact ⟨by rw [HM.out];rfl,rfl⟩
theorem conv_own {P:Program} {ops:Array Oper} {rest:List Oper} {o:Oper} {a:Act} {Q:Exit→Act→World→Prop} {w:World} (hgd:o.guard=none) (x:Operand) (src dst e:TypeId)
  (ho:o.op=.convert src dst x) (hs:P.underlying src=some (.slice e)) (he:P.underlying e=some (.int .u8)) (hd:P.underlying dst=some .string) (l:List UInt8) (base n cap:Nat) (A:Option Addr) (hx:a.eval x=.slice A n cap) (hn:n=l.length)
  (hb:w.ownsRow base e 1 (.slice A n cap) n (l.map fun b=>.int .u8 (b.toNat:Int)))
  (h:wpList P ops Q rest (a.put o.dst (.string ⟨l.toArray⟩)) w) :
  wpList P ops Q (o :: rest) a w:=by
 subst hn
 refine wpList_plain hgd fun K hK=>?_
 unfold Oper.wp execOp
 simp only [ho,hx,Sem.run_bind]
 have hrun:(convert src dst (.slice A l.length cap)).run P w=.ok (.string ⟨l.toArray⟩) w:=by
  rcases hb.2 with ⟨hv,h0⟩ | ⟨g,c,cur,hv,hg,hh,h1,h2,h3,h4⟩
  ·injection hv with hA _ _
   subst hA
   have hl0:l=[]:=List.eq_nil_of_length_eq_zero h0
   subst hl0
   show (convert src dst (.slice none 0 cap)).run P w=_
   rw [run_convert_bytes_string w src dst e none 0 cap hs he hd]
   rfl
  ·injection hv with hA _ _
   subst hA
   refine run_convert_bytes_back (P:=P) w src dst e ⟨g,0,none⟩ cap l hs he hd (fun j hj=>?_)
   rw [Addr.add_lit,Nat.zero_add]
   have hbk:Bk w g e cur:=hh
   rw [hbk.cell j]
   have h5:(l.map fun b=>Value.int .u8 (b.toNat:Int))[j]?=some (.int .u8 (l[j].toNat:Int)):=by simp [hj]
   rw [← h4,List.getElem?_take] at h5
   split at h5
   ·simpa using h5
   ·cases h5
 simp only [hrun,Result.andThen_ok,Sem.run_pure,Oper.upon_value]
 exact hK _ _ h
def upC (b:UInt8):Bool:=decide (65≤b.toNat) && decide (b.toNat≤90)
theorem lowC_up {c:UInt8} (h:upC c=true):((lowC c).toNat:Int)=(c.toNat:Int) + 32:=by
 unfold upC at h
 simp only [Bool.and_eq_true,decide_eq_true_eq] at h
 unfold lowC
 rw [if_pos h,UInt8.toNat_add]
 simp;omega
theorem lowC_not {c:UInt8} (h:upC c=false):lowC c=c:=by
 unfold upC at h
 unfold lowC
 rw [if_neg]
 intro hh
 simp [hh] at h
set_option maxRecDepth 100000 in
set_option maxHeartbeats 1000000 in
theorem refLow_c (s:ByteArray) (w:World) (hs:s.size≤100000) :
  Calls Tryz.prog 219 #[.string s] w (Ret w (.string (lowB s))):=by
 obtain ⟨i0,hi,hz0,hz1,hz2⟩:=info_parts Tryz.infoU8
 go_enter Tryz.func219,Tryz.ntmps219
 go_wp2
 go_loopw [3,4,5] (fun v i _ wr=>∃ k:Nat,k≤s.size∧i=.int .i64 k∧(∃ A' c',v=.slice A' k c'∧wr.ownsRow w.heap.size 5 1 v k (((s.data.toList.take k).map lowC).map fun b=>.int .u8 (b.toNat:Int)))∧Below w.heap.size w wr) (fun _ i _ _=>s.size - (intOf i).toNat)
 case atStart=>exact ⟨0,Nat.zero_le _,rfl,⟨none,0,rfl,World.ownsRow_nil _ _ _ _⟩,Below.refl _ _⟩
 case round =>
  obtain ⟨k,hk,rfl,⟨A',c',rfl,hown⟩,hB⟩:=hrel
  have HO:=Lib.hid hown
  clear hown
  by_cases hlt:k < s.size
  ·have hkl:k < s.data.toList.length:=by rw [bl_len];exact hlt
   obtain ⟨x,hx⟩ : ∃ x,s[k]'hlt=x:=⟨_,rfl⟩
   have hg:s.data.toList[k]=x:=by rw [bl_get s k hlt];exact hx
   have hstep:((s.data.toList.take (k + 1)).map lowC).map (fun b=>Value.int .u8 (b.toNat:Int))=((s.data.toList.take k).map lowC).map (fun b=>Value.int .u8 (b.toNat:Int))++[.int .u8 ((lowC x).toNat:Int)]:=by
    rw [List.take_succ_eq_append_getElem hkl,hg,List.map_append,List.map_append];rfl
   have HST:=Lib.hid hstep
   have X0:=u8_lt x
   clear hstep hg
   cases hu:upC x with
   | true =>
    have hl:=lowC_up hu
    unfold upC at hu
    simp only [Bool.and_eq_true,decide_eq_true_eq] at hu
    obtain ⟨u1,u2⟩:=hu
    have HL:=Lib.hid hl
    clear hl
    go_wp2_with (at_builtin;refine append_new (w:=wr) rfl _ _ 178 rfl w.heap.size 5 i0 _ 1 1 Tryz.underlying178 hi hz0 hz1 hz2 rfl (by decide) (.slice A' k c') k _ rfl HO.out #[.int .u8 ((x.toNat:Int) - 65 + 97)] rfl rfl (by intro u hu';simp only [List.mem_singleton] at hu';subst hu';rfl) (by omega) (by decide) hB.size ?_;intro A2 c2' w2 hown2 hg2 hB2)
    refine ⟨⟨k + 1,by omega,by go_num,⟨A2,c2',rfl,?_⟩,hB.trans hB2⟩,by simp [intOf];omega⟩
    rw [HST.out,HL.out]
    have e:(x.toNat:Int) - 65 + 97=(x.toNat:Int) + 32:=by omega
    rw [← e];exact hown2
   | false =>
    have hl:=lowC_not hu
    have HL:=Lib.hid hl
    have hu' : ¬ (65≤x.toNat∧x.toNat≤90):=by intro h;unfold upC at hu;simp [h] at hu
    clear hl hu
    by_cases u1:65≤x.toNat
    ·have u2:¬ x.toNat≤90:=by omega
     clear hu'
     go_wp2_with (at_builtin;refine append_new (w:=wr) rfl _ _ 178 rfl w.heap.size 5 i0 _ 1 1 Tryz.underlying178 hi hz0 hz1 hz2 rfl (by decide) (.slice A' k c') k _ rfl HO.out _ rfl rfl (by intro u hu;simp at hu;subst hu;rfl) (by omega) (by decide) hB.size ?_;intro A2 c2' w2 hown2 hg2 hB2)
     exact ⟨⟨k + 1,by omega,by go_num,⟨A2,c2',rfl,by rw [HST.out,HL.out];exact hown2⟩,hB.trans hB2⟩,by simp [intOf];omega⟩
    ·clear hu'
     go_wp2_with (at_builtin;refine append_new (w:=wr) rfl _ _ 178 rfl w.heap.size 5 i0 _ 1 1 Tryz.underlying178 hi hz0 hz1 hz2 rfl (by decide) (.slice A' k c') k _ rfl HO.out _ rfl rfl (by intro u hu;simp at hu;subst hu;rfl) (by omega) (by decide) hB.size ?_;intro A2 c2' w2 hown2 hg2 hB2)
     exact ⟨⟨k + 1,by omega,by go_num,⟨A2,c2',rfl,by rw [HST.out,HL.out];exact hown2⟩,hB.trans hB2⟩,by simp [intOf];omega⟩
  ·have hlen:k=(s.data.toList.map lowC).length:=by rw [List.length_map,bl_len];omega
   have h2:=HO.out
   rw [List.take_of_length_le (by rw [bl_len];omega)] at h2
   have H2:=Lib.hid h2
   have HLN:=Lib.hid hlen
   clear hlen h2
   go_wp2_with (refine conv_own (o:=⟨some 29,.convert 178 9 _,_,_,_,_⟩) rfl _ _ _ 5 rfl Tryz.underlying178 Tryz.underlying5 Tryz.underlying9 (s.data.toList.map lowC) w.heap.size _ _ _ rfl HLN.out H2.out ?_)
   go_ret
   exact ⟨rfl,hB⟩
end Go.Proofs.YtmmmcpeickfolaaGreat

namespace Go.Proofs.YtmmmcpeickfolaaGreat
open Go.RowKit
def nameL (l:List UInt8):Bool:=plainL l && !l.any sepC && !l.any upC
theorem lowC_ne {c:UInt8} (h:upC c=true):lowC c≠c:=by
 intro e
 have:=lowC_up h
 rw [e] at this
 omega
theorem map_low (l:List UInt8):(l.map lowC=l) ↔ l.any upC=false:=by
 induction l with
 | nil=>simp
 | cons a r ih =>
  rw [List.map_cons,List.cons.injEq,ih,List.any_cons,Bool.or_eq_false_iff]
  constructor
  ·rintro ⟨h1,h2⟩
   refine ⟨?_,h2⟩
   cases hu:upC a with
   | false=>rfl
   | true=>exact absurd h1 (lowC_ne hu)
  ·rintro ⟨h1,h2⟩
   exact ⟨lowC_not h1,h2⟩
theorem bl_inj {a b:ByteArray} (h:a.data.toList=b.data.toList):a=b:=by
 rw [← ba_of a,← ba_of b,h]
theorem str_iff (a b:ByteArray):(a.toList=b.toList) ↔ a=b:=by
 rw [ByteArray.toList_eq,ByteArray.toList_eq]
 exact ⟨bl_inj,fun h=>by rw [h]⟩
theorem low_same_iff (s:ByteArray):(lowB s=s) ↔ s.data.toList.any upC=false:=by
 rw [← map_low]
 constructor
 ·intro h
  have:=congrArg (fun x:ByteArray=>x.data.toList) h
  simpa only [lowB_list] using this
 ·intro h
  exact bl_inj (by rw [lowB_list];exact h)
set_option maxHeartbeats 1000000 in
theorem name_c (s:ByteArray) (w:World) (hs:s.size≤100000) :
  Calls Tryz.prog 213 #[.string s] w (Ret w (.bool (nameL s.data.toList))):=by
 have K1:=fun w'=>plain_c s w' (by omega)
 have K2:=fun w'=>containsAny_c s w' (by omega)
 have K3:=fun w'=>low_c s w' (by omega)
 have hl:=low_same_iff s
 obtain ⟨b1,h1⟩ : ∃ b,plainL s.data.toList=b:=⟨_,rfl⟩
 obtain ⟨b2,h2⟩ : ∃ b,s.data.toList.any sepC=b:=⟨_,rfl⟩
 obtain ⟨b3,h3⟩ : ∃ b,s.data.toList.any upC=b:=⟨_,rfl⟩
 have hspec:nameL s.data.toList=(b1 && !b2 && !b3):=by unfold nameL;rw [h1,h2,h3]
 have HS:=Lib.hid hspec
 rw [hspec,]
 rw [h3] at hl
 simp only [h1,h2] at K1 K2
 obtain ⟨t,ht⟩ : ∃ t,lowB s=t:=⟨_,rfl⟩
 rw [ht] at hl
 simp only [ht] at K3
 have HK1:=Lib.hid K1
 have HK2:=Lib.hid K2
 have HK3:=Lib.hid K3
 clear K1 K2 K3 hspec h1 h2 h3 ht
 go_enter Tryz.func213,Tryz.ntmps213
 cases b1 <;> cases b2 <;>
 go_wp2_with (first | (go_at_call 69;(with_reducible refine (HK1.out _).mono ?_);rintro e w1 ⟨rfl,hcb1⟩;obtain ⟨hcc1,hcf1⟩:=bcell hcb1;have hcz1:=hcb1.size;have hcB1:Below w.heap.size w w1:=below_then bel_ hcb1) | (go_at_call 230;(with_reducible refine (HK2.out _).mono ?_);rintro e w2 ⟨rfl,hcb2⟩;obtain ⟨hcc2,hcf2⟩:=bcell hcb2;have hcz2:=hcb2.size;have hcB2:Below w.heap.size w w2:=below_then bel_ hcb2) | (go_at_call 198;(with_reducible refine (HK3.out _).mono ?_);rintro e w3 ⟨rfl,hcb3⟩;obtain ⟨hcc3,hcf3⟩:=bcell hcb3;have hcz3:=hcb3.size;have hcB3:Below w.heap.size w w3:=below_then bel_ hcb3))
 all_goals (go_ret;refine ⟨?_,bel_⟩)
 all_goals first
  | rfl
  | (have e:=str_iff t s;cases b3 <;> simp_all)
def upSep (c:UInt8):Bool:=sepC c || upC c
def NoUp (l:List UInt8) (k:Nat):Prop:=∀ j (hj:j < l.length),j < k→upSep l[j]=false
theorem NoUp.succ {l:List UInt8} {i:Nat} (h:NoUp l i) {x:UInt8} {hi:i < l.length} (hx:l[i]=x) (hs:upSep x=false):NoUp l (i + 1):=by
 intro j hj hlt
 rcases Nat.lt_or_ge j i with h1 | h1
 ·exact h j hj h1
 ·obtain rfl:j=i:=by omega
  rw [hx];exact hs
theorem NoUp.all {l:List UInt8} {i:Nat} (h:NoUp l i) (hi:l.length≤i):l.any upSep=false:=by
 rw [List.any_eq_false]
 intro x hx
 obtain ⟨j,hj,rfl⟩:=List.getElem_of_mem hx
 simp [h j hj (by omega)]
theorem any_upSep (l:List UInt8):l.any upSep=(l.any sepC || l.any upC):=by
 induction l with
 | nil=>rfl
 | cons a r ih=>simp only [List.any_cons,ih,upSep];cases sepC a <;> cases upC a <;> simp
theorem nameL_ref (l:List UInt8):nameL l=(!l.any upSep && plainR l):=by
 unfold nameL
 rw [any_upSep,plain_same]
 cases plainL l <;> cases l.any sepC <;> cases l.any upC <;> rfl
set_option maxHeartbeats 1000000 in
theorem refName_c (s : ByteArray) (w : World) (hs : s.size ≤ 100000) :
    Calls Tryz.prog 236 #[.string s] w (Ret w (.bool (nameL s.data.toList))) := by
  go_enter Tryz.func236, Tryz.ntmps236
  go_wp2
  go_loop [3] (fun i => ∃ k : Nat, k ≤ s.size ∧ i = .int .i64 k ∧ NoUp s.data.toList k) (fun i => s.size - (intOf i).toNat)
  case atStart => exact ⟨0, Nat.zero_le _, rfl, fun _ _ h => absurd h (by omega)⟩
  case round =>
    obtain ⟨k, hk, rfl, hh⟩ := hrel
    have HH := Lib.hid hh
    clear hh
    by_cases hlt : k < s.size
    · have hkl : k < s.data.toList.length := by rw [bl_len]; exact hlt
      obtain ⟨c, hc⟩ : ∃ c, s[k]'hlt = c := ⟨_, rfl⟩
      have hg : s.data.toList[k] = c := by rw [bl_get s k hlt]; exact hc
      have e32 := u8beq c 32
      have e64 := u8beq c 64
      have e47 := u8beq c 47
      obtain ⟨b32, h32⟩ : ∃ b, (c == 32) = b := ⟨_, rfl⟩
      obtain ⟨b64, h64⟩ : ∃ b, (c == 64) = b := ⟨_, rfl⟩
      obtain ⟨b47, h47⟩ : ∃ b, (c == 47) = b := ⟨_, rfl⟩
      have hct : upSep c = (b32 || b64 || b47 || (decide (65 ≤ c.toNat) && decide (c.toNat ≤ 90))) := by unfold upSep sepC upC; rw [h32, h64, h47]
      rw [h32] at e32
      rw [h64] at e64
      rw [h47] at e47
      have f32 : ((c.toNat : Int) == 32) = b32 := e32
      have f64 : ((c.toNat : Int) == 64) = b64 := e64
      have f47 : ((c.toNat : Int) == 47) = b47 := e47
      have HG := Lib.hid hg
      have HCT := Lib.hid hct
      clear hg hct h32 h64 h47 e32 e64 e47
      go_wp2
      all_goals go_tidy
      all_goals first
        | (refine ⟨⟨k + 1, by omega, by go_num, HH.out.succ HG.out ?_⟩, by simp [intOf]; omega⟩; rw [HCT.out]; grind)
        | (have hf : s.data.toList.any upSep = true := List.any_eq_true.2 ⟨_, List.getElem_mem hkl, by rw [HG.out, HCT.out]; grind⟩
           go_ret; exact ⟨by rw [nameL_ref, hf]; rfl, Below.refl _ _⟩)
    · have hn := HH.out.all (by rw [bl_len]; omega)
      have hspec : nameL s.data.toList = plainR s.data.toList := by rw [nameL_ref, hn]; rfl
      have HSP := Lib.hid hspec
      have HK := fun w' => refPlain_c s w' hs
      clear hspec hn
      go_wp2_with (go_at_call 150; (with_reducible refine (HK _).mono ?_); rintro e w1 ⟨rfl, hcb1⟩; obtain ⟨hcc1, hcf1⟩ := bcell hcb1; have hcz1 := hcb1.size; have hcB1 : Below w.heap.size w w1 := below_then bel_ hcb1)
      go_ret
      exact ⟨by rw [HSP.out]; rfl, bel_⟩
def resL (l:List UInt8):Int:=if 12 < l.length then 5 else if plainL l=true then 0 else 11
set_option maxHeartbeats 400000 in
theorem res_c (s:ByteArray) (w:World) (hs:s.size≤100000) :
  Calls Tryz.prog 71 #[.string s] w (Ret w (.int .i64 (resL s.data.toList))):=by
 have HK:=fun w'=>plain_c s w' (by omega)
 unfold resL
 rw [bl_len]
 generalize plainL s.data.toList=b at *
 go_enter Tryz.func71,Tryz.ntmps71
 by_cases h:12 < s.size <;> cases b <;>
 go_wp2_with (go_at_call 69;(with_reducible refine (HK _).mono ?_);rintro e w1 ⟨rfl,hcb1⟩;obtain ⟨hcc1,hcf1⟩:=bcell hcb1;have hcz1:=hcb1.size;have hcB1:Below w.heap.size w w1:=below_then bel_ hcb1)
 all_goals (go_ret;refine ⟨?_,bel_⟩;simp [h])
set_option maxHeartbeats 400000 in
theorem refRes_c (s:ByteArray) (w:World) (hs:s.size≤100000) :
  Calls Tryz.prog 153 #[.string s] w (Ret w (.int .i64 (resL s.data.toList))):=by
 have HK:=fun w'=>refPlain_c s w' hs
 unfold resL
 simp only [plain_same] at HK
 rw [bl_len]
 generalize plainL s.data.toList=b at *
 go_enter Tryz.func153,Tryz.ntmps153
 by_cases h:12 < s.size <;> cases b <;>
 go_wp2_with (go_at_call 150;(with_reducible refine (HK _).mono ?_);rintro e w1 ⟨rfl,hcb1⟩;obtain ⟨hcc1,hcf1⟩:=bcell hcb1;have hcz1:=hcb1.size;have hcB1:Below w.heap.size w w1:=below_then bel_ hcb1)
 all_goals (go_ret;refine ⟨?_,bel_⟩;simp [h])
end Go.Proofs.YtmmmcpeickfolaaGreat

namespace Go.Proofs.YtmmmcpeickfolaaGreat
open Go.RowKit
theorem occ_two:∀ (l:List UInt8) (j:Nat),Lib.occAt l [46,46] j=(decide (j + 1 < l.length) && l.getD j 0 == 46 && l.getD (j + 1) 0 == 46)
 | [],j=>by simp [Lib.occAt]
 | [a],j=>by cases j <;> simp [Lib.occAt,List.isPrefixOf]
 | a :: b :: r,0=>by
  have e:∀ x:UInt8,((46:UInt8) == x)=(x == 46):=fun x=>by rw [Bool.eq_iff_iff,beq_iff_eq,beq_iff_eq];exact eq_comm
  show ((46:UInt8) == a && ((46:UInt8) == b && ([]:List UInt8).isPrefixOf r))=(decide (0 + 1 < r.length + 1 + 1) && (a == 46) && (b == 46))
  rw [e,e]
  have h1:decide (0 + 1 < r.length + 1 + 1)=true:=by simp
  have h2:([]:List UInt8).isPrefixOf r=true:=by cases r <;> rfl
  rw [h1,h2]
  cases (a == 46) <;> cases (b == 46) <;> rfl
 | a :: b :: r,j + 1=>by
  have:=occ_two (b :: r) j
  simp only [Lib.occAt,List.drop_succ_cons,List.getD_cons_succ,List.length_cons] at this ⊢
  rw [this]
  simp
theorem contains_two (l:List UInt8):Lib.contains l [46,46]=false ↔ ∀ j,j + 1 < l.length→¬ (l.getD j 0=46∧l.getD (j + 1) 0=46):=by
 unfold Lib.contains
 rcases Lib.index_spec l [46,46] with ⟨h1,h2⟩ | ⟨i,h1,h2,h3,h4⟩
 ·rw [h1]
  refine ⟨fun _ j hj hh=>?_,fun _=>rfl⟩
  have:=h2 j (by omega)
  rw [occ_two] at this
  rw [hh.1,hh.2] at this
  simp [hj] at this
 ·rw [h1]
  rw [occ_two] at h3
  simp only [Bool.and_eq_true,decide_eq_true_eq,beq_iff_eq] at h3
  constructor
  ·intro h;simp at h
  ·intro h;exact absurd ⟨h3.1.2,h3.2⟩ (h i h3.1.1)
theorem u8n (c:UInt8) (n:Nat) (hn:n < 256):(c.toNat == n)=(c == UInt8.ofNat n):=by
 rw [Bool.eq_iff_iff];simp only [beq_iff_eq]
 constructor
 ·intro h;apply UInt8.toNat_inj.1;rw [h];simp;omega
 ·rintro rfl;simp;omega
theorem host_same (l:List UInt8) (h:l≠[]):hostR l=hostP l:=by
 have hp:0 < l.length:=by cases l with | nil=>exact absurd rfl h | cons a r=>exact Nat.succ_pos _
 rw [Bool.eq_iff_iff]
 unfold hostR hostP
 have he:l.isEmpty=false:=by simpa using h
 simp only [he,List.all_eq_true,List.mem_range,Bool.and_eq_true,Bool.not_eq_true',Bool.not_false,true_and]
 rw [contains_two]
 have h46:∀ c:UInt8,(c.toNat == 46)=true ↔ c=46:=fun c=>by rw [u8n c 46 (by omega)];simp
 constructor
 ·intro hh
  refine ⟨⟨⟨?_,?_⟩,?_⟩,?_⟩
  ·have:=hh 0 hp
   unfold hostAt at this
   simpa using this
  ·have:=hh (l.length - 1) (by omega)
   unfold hostAt at this
   have e:l.length - 1 + 1=l.length:=by omega
   simp only [e,Bool.and_eq_true,Bool.or_eq_true,decide_true,Bool.not_true,Bool.and_false,Bool.false_and,Bool.or_false] at this
   simpa using this.1
  ·rintro j hj ⟨h1,h2⟩
   have:=hh (j + 1) hj
   unfold hostAt at this
   rw [Nat.add_sub_cancel,(h46 _).2 h1,(h46 _).2 h2] at this
   simp at this
  ·intro x hx
   obtain ⟨j,hj,rfl⟩:=List.getElem_of_mem hx
   have:=hh j hj
   unfold hostAt at this
   have e:l.getD j 0=l[j]:=by simp [List.getD_eq_getElem?_getD,hj]
   rw [e] at this
   unfold hostOkC
   revert this
   generalize letterL l[j]=a
   generalize (l[j].toNat == 46)=b
   generalize (l[j].toNat == 45)=c
   cases a <;> cases b <;> cases c <;> simp
 ·rintro ⟨⟨⟨h1,h2⟩,h3⟩,h4⟩ j hj
  have ok:=h4 l[j] (List.getElem_mem hj)
  have e:l.getD j 0=l[j]:=by simp [List.getD_eq_getElem?_getD,hj]
  unfold hostAt
  rw [e]
  have hl:letterL l[j]=true∨(0 < j∧j + 1≠l.length∧((l[j].toNat == 45)=true∨(l[j].toNat == 46)=true)):=by
   by_cases hlt:letterL l[j]=true
   ·exact .inl hlt
   ·refine .inr ⟨?_,?_,?_⟩
    ·rcases Nat.eq_zero_or_pos j with h0 | h0
     ·subst h0;rw [e] at h1;exact absurd h1 hlt
     ·exact h0
    ·intro hjl
     have:l.length - 1=j:=by omega
     rw [this,e] at h2;exact hlt h2
    ·unfold hostOkC at ok
     revert ok
     generalize (l[j].toNat == 46)=b
     generalize (l[j].toNat == 45)=c
     simp only [Bool.not_eq_true] at hlt
     rw [hlt]
     cases b <;> cases c <;> simp
  have hd:(decide (0 < j) && l[j].toNat == 46 && (l.getD (j - 1) 0).toNat == 46)=false:=by
   cases hb:(decide (0 < j) && l[j].toNat == 46 && (l.getD (j - 1) 0).toNat == 46) with
   | false=>rfl
   | true =>
    simp only [Bool.and_eq_true,decide_eq_true_eq] at hb
    refine absurd ⟨(h46 _).1 hb.2,?_⟩ (h3 (j - 1) (by omega))
    have:j - 1 + 1=j:=by omega
    rw [this,e];exact (h46 _).1 hb.1.2
  rw [hd]
  rcases hl with hl | ⟨h5,h6,h7⟩
  ·simp [hl]
  ·rcases h7 with h7 | h7 <;> simp [h5,h6,h7]
end Go.Proofs.YtmmmcpeickfolaaGreat

namespace Go.Proofs.YtmmmcpeickfolaaGreat
open Go.RowKit
def checkA (n h r:List UInt8):Int :=
 if (decide (16 < n.length) || decide (16 < h.length) || decide (12 < r.length))=true then 5 else if (n.isEmpty || h.isEmpty)=true then 4 else if (nameL n && hostP h && plainL r)=true then 0 else 11
set_option maxHeartbeats 400000 in
theorem parts_c (a b c:ByteArray) (w:World) :
  Calls Tryz.prog 212 #[.agg #[.string a,.string b,.string c]] w (Ret w (.agg #[.string a,.string b,.string c])):=by
 go_enter Tryz.func212,Tryz.ntmps212
 go_wp2
 refine bodyPost_ret (v:=.agg #[.string a,.string b,.string c]) (by simp [results,Tryz.results212,go_sem]) rfl ⟨rfl,bel_⟩
theorem ixp0 (n h r:ByteArray) (w:World):(Instr.index 297 (.agg #[.string n,.string h,.string r]) (.int .i64 0)).run Tryz.prog w=.ok (.string n) w:=by kernel_rfl
theorem ixp1 (n h r:ByteArray) (w:World):(Instr.index 297 (.agg #[.string n,.string h,.string r]) (.int .i64 1)).run Tryz.prog w=.ok (.string h) w:=by kernel_rfl
theorem ixp2 (n h r:ByteArray) (w:World):(Instr.index 297 (.agg #[.string n,.string h,.string r]) (.int .i64 2)).run Tryz.prog w=.ok (.string r) w:=by kernel_rfl
theorem checkA_bytes (n h r:ByteArray):checkA n.data.toList h.data.toList r.data.toList=(if (decide (16 < n.size) || decide (16 < h.size) || decide (12 < r.size))=true then 5 else if (n.toList.isEmpty || h.toList.isEmpty)=true then 4 else if (nameL n.data.toList && hostP h.data.toList && plainL r.data.toList)=true then 0 else 11):=by
 unfold checkA
 rw [bl_len,bl_len,bl_len,isEmpty_bl,isEmpty_bl]
set_option maxRecDepth 100000 in
set_option maxHeartbeats 2000000 in
theorem check_c (n h r:ByteArray) (w:World) (hm:ML w) (hn:n.size≤100000) (hh:h.size≤100000) (hr:r.size≤100000) :
  Calls Tryz.prog 199 #[.agg #[.string n,.string h,.string r]] w (Ret w (.int .i64 (checkA n.data.toList h.data.toList r.data.toList))):=by
 have x0:=ixp0 n h r
 have x1:=ixp1 n h r
 have x2:=ixp2 n h r
 have HX:=Lib.hid (checkA_bytes n h r)
 have HK1:=Lib.hid (fun w'=>name_c n w' hn)
 have HK2:=Lib.hid (fun w' (hm' : ML w')=>host_c h w' hm' (by omega))
 have HK3:=Lib.hid (fun w'=>plain_c r w' (by omega))
 obtain ⟨v,hv⟩ : ∃ v,checkA n.data.toList h.data.toList r.data.toList=v:=⟨_,rfl⟩
 rw [hv] at HX ⊢
 clear hv
 generalize nameL n.data.toList=b1 at HX HK1
 generalize hostP h.data.toList=b2 at HX HK2
 generalize plainL r.data.toList=b3 at HX HK3
 go_enter Tryz.func199,Tryz.ntmps199
 go_wp2_with fail
 refine wp_loop_rounds 4 ?_
 rw [rounds_succ]
 go_wp2
 go_region_held3 (fun w'=>Below w.heap.size w w'∧w.heap.size + 1 < w'.heap.size∧w'.cell? ⟨w.heap.size,0,none⟩=some (.string n)∧w'.cell? ⟨w.heap.size,1,none⟩=some (.string h)∧w'.cell? ⟨w.heap.size,2,none⟩=some (.string r)∧w'.cell? ⟨w.heap.size + 1,0,none⟩=some (.int .i64 16)∧w'.cell? ⟨w.heap.size + 1,1,none⟩=some (.int .i64 16)∧w'.cell? ⟨w.heap.size + 1,2,none⟩=some (.int .i64 12)) (first | assumption | (obtain ⟨hx0,hx1,hx2⟩:=(‹Below w.heap.size w _∧w.heap.size + 1 < _∧_›);have hxa:=Nat.lt_of_succ_lt hx1;obtain ⟨hc1,_⟩:=bcell hb1;exact ⟨below_then hx0 hb1,Nat.lt_of_lt_of_le hx1 hb1.size,by simp only [hc1,hx1,hxa];exact hx2⟩) | (refine ⟨bel_,by first | assumption | (simp;done) | omega,?_⟩;go_keep)) (first | (go_at_call 212;(with_reducible refine (parts_c _ _ _ _).mono ?_);rintro e w' ⟨rfl,hb1⟩))
 obtain ⟨hy0,hy1,hy2⟩:=(‹Below w.heap.size w _∧w.heap.size + 1 < _∧_›)
 go_wp2
 ·have e:=HX.out
  rw [if_pos (by simp;omega)] at e
  go_ret
  exact ⟨by rw [e];rfl,bel_⟩
 rw [rounds_succ]
 go_wp2
 go_region_held3 (fun w'=>Below w.heap.size w w'∧w.heap.size + 1 < w'.heap.size∧w'.cell? ⟨w.heap.size,0,none⟩=some (.string n)∧w'.cell? ⟨w.heap.size,1,none⟩=some (.string h)∧w'.cell? ⟨w.heap.size,2,none⟩=some (.string r)∧w'.cell? ⟨w.heap.size + 1,0,none⟩=some (.int .i64 16)∧w'.cell? ⟨w.heap.size + 1,1,none⟩=some (.int .i64 16)∧w'.cell? ⟨w.heap.size + 1,2,none⟩=some (.int .i64 12)) (first | assumption | (obtain ⟨hx0,hx1,hx2⟩:=(‹Below w.heap.size w _∧w.heap.size + 1 < _∧_›);have hxa:=Nat.lt_of_succ_lt hx1;obtain ⟨hc1,_⟩:=bcell hb1;exact ⟨below_then hx0 hb1,Nat.lt_of_lt_of_le hx1 hb1.size,by simp only [hc1,hx1,hxa];exact hx2⟩) | (refine ⟨bel_,by first | assumption | (simp;done) | omega,?_⟩;go_keep)) (first | (go_at_call 212;(with_reducible refine (parts_c _ _ _ _).mono ?_);rintro e w' ⟨rfl,hb1⟩))
 clear hy0 hy1 hy2
 obtain ⟨hy0,hy1,hy2⟩:=(‹Below w.heap.size w _∧w.heap.size + 1 < _∧_›)
 go_wp2
 ·have e:=HX.out
  rw [if_pos (by simp;omega)] at e
  go_ret
  exact ⟨by rw [e];rfl,bel_⟩
 rw [rounds_succ]
 go_wp2
 go_region_held3 (fun w'=>Below w.heap.size w w'∧w.heap.size + 1 < w'.heap.size∧w'.cell? ⟨w.heap.size,0,none⟩=some (.string n)∧w'.cell? ⟨w.heap.size,1,none⟩=some (.string h)∧w'.cell? ⟨w.heap.size,2,none⟩=some (.string r)∧w'.cell? ⟨w.heap.size + 1,0,none⟩=some (.int .i64 16)∧w'.cell? ⟨w.heap.size + 1,1,none⟩=some (.int .i64 16)∧w'.cell? ⟨w.heap.size + 1,2,none⟩=some (.int .i64 12)) (first | assumption | (obtain ⟨hx0,hx1,hx2⟩:=(‹Below w.heap.size w _∧w.heap.size + 1 < _∧_›);have hxa:=Nat.lt_of_succ_lt hx1;obtain ⟨hc1,_⟩:=bcell hb1;exact ⟨below_then hx0 hb1,Nat.lt_of_lt_of_le hx1 hb1.size,by simp only [hc1,hx1,hxa];exact hx2⟩) | (refine ⟨bel_,by first | assumption | (simp;done) | omega,?_⟩;go_keep)) (first | (go_at_call 212;(with_reducible refine (parts_c _ _ _ _).mono ?_);rintro e w' ⟨rfl,hb1⟩))
 clear hy0 hy1 hy2
 obtain ⟨hy0,hy1,hy2⟩:=(‹Below w.heap.size w _∧w.heap.size + 1 < _∧_›)
 go_wp2
 ·have e:=HX.out
  rw [if_pos (by simp;omega)] at e
  go_ret
  exact ⟨by rw [e];rfl,bel_⟩
 rw [rounds_succ]
 obtain ⟨c0,c1,c2,_⟩:=hy2
 have hxa:=Nat.lt_of_succ_lt hy1
 clear x0 x1 x2 hb1
 go_wp2_with (first | ((go_at_call 213;(with_reducible refine (HK1.out _).mono ?_);rintro e w1 ⟨rfl,hcb1⟩;obtain ⟨hcc1,hcf1⟩:=bcell hcb1;have hcz1:=hcb1.size;have hcB1:Below w.heap.size w w1:=below_then bel_ hcb1);have hxb:=Nat.lt_of_lt_of_le hxa hcz1) | ((go_at_call 214;(with_reducible refine (HK2.out _ (hm.then (by assumption))).mono ?_);rintro e w2 ⟨rfl,hcb2⟩;obtain ⟨hcc2,hcf2⟩:=bcell hcb2;have hcz2:=hcb2.size;have hcB2:Below w.heap.size w w2:=below_then bel_ hcb2);have hxc:=Nat.lt_of_lt_of_le hxb hcz2) | (go_at_call 69;(with_reducible refine (HK3.out _).mono ?_);rintro e w3 ⟨rfl,hcb3⟩;obtain ⟨hcc3,hcf3⟩:=bcell hcb3;have hcz3:=hcb3.size;have hcB3:Below w.heap.size w w3:=below_then bel_ hcb3))
 all_goals (have e:=HX.out)
 all_goals (go_ret;refine ⟨?_,bel_⟩)
 all_goals (refine ret_i ?_;rw [e])
 all_goals (have z1:¬ 16 < n.size:=by omega)
 all_goals (have z2:¬ 16 < h.size:=by omega)
 all_goals (have z3:¬ 12 < r.size:=by omega)
 all_goals (clear HX HK1 HK2 HK3 e;first | (simp [*];done) | grind)
end Go.Proofs.YtmmmcpeickfolaaGreat

