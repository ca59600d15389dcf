/- A part of the proof: 1 texts joined. -/
import Derived.Test.YtpkodpcfafipdaaGreatDoorSuA2
set_option linter.all false
namespace Go.Proofs.YtpkodpcfafipdaaGreatDoor
open Go.RowKit
set_option maxRecDepth 100000 in
set_option maxHeartbeats 1000000 in
theorem next2_short (s:ByteArray) (w:World) (hs:s.size≤1000000) (h0:0 < s.size) (hn:s.size≤2) (b0:UInt8) (hb0:s[0]=b0) (t0:(bits BinOp.andNot IntKind.u8 (b0.toNat) 127 != 0)=true) (t1:(bits BinOp.andNot IntKind.u8 (b0.toNat) 31 != 192)=true) (t2:(bits BinOp.andNot IntKind.u8 (b0.toNat) 15 != 224)=false) :
  Calls Tryz.prog 102 #[.string s] w (Ret w (.tuple #[.int .i64 (-1),.int .i64 1])):=by
 have he:=isEmpty_of_pos h0
 have hne:=ne_of_pos h0
 have x0:=ix0
 have x1:=ix1
 have x2:=ix2
 go_enter Tryz.func102,Tryz.ntmps102
 go_wp2_with (go_at_call 108;(with_reducible refine (forms_c _).mono ?_);rintro e w1 ⟨rfl,hcb1⟩;obtain ⟨hcc1,hcf1⟩:=bcell hcb1;have hcz1:=hcb1.size;have hcB1:Below w.heap.size w w1:=below_then bel_ hcb1)
 refine wp_loop_rounds 3 ?_
 rw [rounds_succ]
 go_wp2_with fail
 go_quiet (fail)
 go_wp2_with fail
 rw [rounds_succ]
 go_wp2_with fail
 go_quiet (fail)
 go_wp2_with fail
 rw [rounds_succ]
 go_wp2_with fail
 go_quiet (fail)
 go_wp2_with fail
 go_ret2
 exact ⟨rfl,bel_⟩
set_option maxRecDepth 100000 in
set_option maxHeartbeats 1000000 in
theorem next2_bad1 (s:ByteArray) (w:World) (hs:s.size≤1000000) (hn:2 < s.size) (b0:UInt8) (hb0:s[0]=b0) (t0:(bits BinOp.andNot IntKind.u8 (b0.toNat) 127 != 0)=true) (t1:(bits BinOp.andNot IntKind.u8 (b0.toNat) 31 != 192)=true) (t2:(bits BinOp.andNot IntKind.u8 (b0.toNat) 15 != 224)=false) (hm:bits BinOp.and IntKind.u8 (b0.toNat) 15=(b0.toNat % 16:Nat)) (b1:UInt8) (hb1:s[1]=b1) (c1:contL b1=false) :
  Calls Tryz.prog 102 #[.string s] w (Ret w (.tuple #[.int .i64 (-1),.int .i64 1])):=by
 have h0:0 < s.size:=by omega
 have k1:=(tabc b1).trans c1
 have he:=isEmpty_of_pos h0
 have hne:=ne_of_pos h0
 have x0:=ix0
 have x1:=ix1
 have x2:=ix2
 go_enter Tryz.func102,Tryz.ntmps102
 go_wp2_with (go_at_call 108;(with_reducible refine (forms_c _).mono ?_);rintro e w1 ⟨rfl,hcb1⟩;obtain ⟨hcc1,hcf1⟩:=bcell hcb1;have hcz1:=hcb1.size;have hcB1:Below w.heap.size w w1:=below_then bel_ hcb1)
 refine wp_loop_rounds 3 ?_
 rw [rounds_succ]
 go_wp2_with fail
 go_quiet (fail)
 go_wp2_with fail
 rw [rounds_succ]
 go_wp2_with fail
 go_quiet (fail)
 go_wp2_with fail
 rw [rounds_succ]
 go_wp2_with fail
 go_quiet (fail)
 go_wp2_with fail
 go_quiet (fail)
 go_wp2_with (refine conv_bytes (o:=⟨some 38,.convert 9 63 _,_,_,_,_⟩) rfl _ _ _ 5 rfl Tryz.underlying9 Tryz.underlying63 Tryz.underlying5 _ rfl ?_;intro cap w2 hby hq2 hcap;obtain ⟨hc2,hf2⟩:=bcell hq2;have hz2:=hq2.size;have hB2:Below w.heap.size w w2:=below_then bel_ hq2)
 have hd0:w2.cell? ⟨w1.heap.size + 1 + 1 + 1,0,none⟩=some (.int .u8 b1.toNat):=by
  obtain ⟨_,hh⟩:=ext_at s 1 3 0 (by simp;omega)
  have hq:=(hby.2 0 (by simp;omega)).1
  rw [hh] at hq
  simp only [World.heap_drewN,World.size_alloc] at hq
  simpa [hb1] using hq
 refine wp_loop_rounds 3 ?_
 rw [rounds_succ]
 go_wp2_with (first | (go_at_call 110;(with_reducible refine (character_c _ _).mono ?_);rintro e w' ⟨rfl,rfl⟩) | go_in)
 go_ret2
 exact ⟨rfl,hB2⟩
set_option maxRecDepth 100000 in
set_option maxHeartbeats 1000000 in
theorem next2_bad2 (s:ByteArray) (w:World) (hs:s.size≤1000000) (hn:2 < s.size) (b0:UInt8) (hb0:s[0]=b0) (t0:(bits BinOp.andNot IntKind.u8 (b0.toNat) 127 != 0)=true) (t1:(bits BinOp.andNot IntKind.u8 (b0.toNat) 31 != 192)=true) (t2:(bits BinOp.andNot IntKind.u8 (b0.toNat) 15 != 224)=false) (hm:bits BinOp.and IntKind.u8 (b0.toNat) 15=(b0.toNat % 16:Nat)) (b1:UInt8) (hb1:s[1]=b1) (b2:UInt8) (hb2:s[2]=b2) (c1:contL b1=true) (m1:bits BinOp.and IntKind.u8 (b1.toNat) 63=(b1.toNat % 64:Nat)) (c2:contL b2=false) (C1:Nat) (hC1:C1≤10000000) (o1:bits BinOp.or IntKind.i64 ((b0.toNat % 16:Int) * 64) (b1.toNat % 64:Int)=C1) :
  Calls Tryz.prog 102 #[.string s] w (Ret w (.tuple #[.int .i64 (-1),.int .i64 1])):=by
 have h0:0 < s.size:=by omega
 have k1:=(tabc b1).trans c1
 have k2:=(tabc b2).trans c2
 have he:=isEmpty_of_pos h0
 have hne:=ne_of_pos h0
 have x0:=ix0
 have x1:=ix1
 have x2:=ix2
 go_enter Tryz.func102,Tryz.ntmps102
 go_wp2_with (go_at_call 108;(with_reducible refine (forms_c _).mono ?_);rintro e w1 ⟨rfl,hcb1⟩;obtain ⟨hcc1,hcf1⟩:=bcell hcb1;have hcz1:=hcb1.size;have hcB1:Below w.heap.size w w1:=below_then bel_ hcb1)
 refine wp_loop_rounds 3 ?_
 rw [rounds_succ]
 go_wp2_with fail
 go_quiet (fail)
 go_wp2_with fail
 rw [rounds_succ]
 go_wp2_with fail
 go_quiet (fail)
 go_wp2_with fail
 rw [rounds_succ]
 go_wp2_with fail
 go_quiet (fail)
 go_wp2_with fail
 go_quiet (fail)
 go_wp2_with (refine conv_bytes (o:=⟨some 38,.convert 9 63 _,_,_,_,_⟩) rfl _ _ _ 5 rfl Tryz.underlying9 Tryz.underlying63 Tryz.underlying5 _ rfl ?_;intro cap w2 hby hq2 hcap;obtain ⟨hc2,hf2⟩:=bcell hq2;have hz2:=hq2.size;have hB2:Below w.heap.size w w2:=below_then bel_ hq2)
 have hd0:w2.cell? ⟨w1.heap.size + 1 + 1 + 1,0,none⟩=some (.int .u8 b1.toNat):=by
  obtain ⟨_,hh⟩:=ext_at s 1 3 0 (by simp;omega)
  have hq:=(hby.2 0 (by simp;omega)).1
  rw [hh] at hq
  simp only [World.heap_drewN,World.size_alloc] at hq
  simpa [hb1] using hq
 have hd1:w2.cell? ⟨w1.heap.size + 1 + 1 + 1,1,none⟩=some (.int .u8 b2.toNat):=by
  obtain ⟨_,hh⟩:=ext_at s 1 3 1 (by simp;omega)
  have hq:=(hby.2 1 (by simp;omega)).1
  rw [hh] at hq
  simp only [World.heap_drewN,World.size_alloc] at hq
  simpa [hb2] using hq
 refine wp_loop_rounds 3 ?_
 rw [rounds_succ]
 go_wp2_with (first | (go_at_call 110;(with_reducible refine (character_c _ _).mono ?_);rintro e w' ⟨rfl,rfl⟩) | go_in)
 rw [rounds_succ]
 go_wp2_with (first | (go_at_call 110;(with_reducible refine (character_c _ _).mono ?_);rintro e w' ⟨rfl,rfl⟩) | go_in)
 go_ret2
 exact ⟨rfl,hB2⟩
set_option maxRecDepth 100000 in
set_option maxHeartbeats 1000000 in
theorem next2_lo (s:ByteArray) (w:World) (hs:s.size≤1000000) (hn:2 < s.size) (b0:UInt8) (hb0:s[0]=b0) (t0:(bits BinOp.andNot IntKind.u8 (b0.toNat) 127 != 0)=true) (t1:(bits BinOp.andNot IntKind.u8 (b0.toNat) 31 != 192)=true) (t2:(bits BinOp.andNot IntKind.u8 (b0.toNat) 15 != 224)=false) (hm:bits BinOp.and IntKind.u8 (b0.toNat) 15=(b0.toNat % 16:Nat)) (b1:UInt8) (hb1:s[1]=b1) (b2:UInt8) (hb2:s[2]=b2) (c1:contL b1=true) (m1:bits BinOp.and IntKind.u8 (b1.toNat) 63=(b1.toNat % 64:Nat)) (c2:contL b2=true) (m2:bits BinOp.and IntKind.u8 (b2.toNat) 63=(b2.toNat % 64:Nat)) (C1:Nat) (hC1:C1≤10000000) (o1:bits BinOp.or IntKind.i64 ((b0.toNat % 16:Int) * 64) (b1.toNat % 64:Int)=C1) (C2:Nat) (hC2:C2≤10000000) (o2:bits BinOp.or IntKind.i64 ((C1:Int) * 64) (b2.toNat % 64:Int)=C2) (hf:C2 < 2048) :
  Calls Tryz.prog 102 #[.string s] w (Ret w (.tuple #[.int .i64 (-1),.int .i64 1])):=by
 have h0:0 < s.size:=by omega
 have k1:=(tabc b1).trans c1
 have k2:=(tabc b2).trans c2
 have he:=isEmpty_of_pos h0
 have hne:=ne_of_pos h0
 have x0:=ix0
 have x1:=ix1
 have x2:=ix2
 go_enter Tryz.func102,Tryz.ntmps102
 go_wp2_with (go_at_call 108;(with_reducible refine (forms_c _).mono ?_);rintro e w1 ⟨rfl,hcb1⟩;obtain ⟨hcc1,hcf1⟩:=bcell hcb1;have hcz1:=hcb1.size;have hcB1:Below w.heap.size w w1:=below_then bel_ hcb1)
 refine wp_loop_rounds 3 ?_
 rw [rounds_succ]
 go_wp2_with fail
 go_quiet (fail)
 go_wp2_with fail
 rw [rounds_succ]
 go_wp2_with fail
 go_quiet (fail)
 go_wp2_with fail
 rw [rounds_succ]
 go_wp2_with fail
 go_quiet (fail)
 go_wp2_with fail
 go_quiet (fail)
 go_wp2_with (refine conv_bytes (o:=⟨some 38,.convert 9 63 _,_,_,_,_⟩) rfl _ _ _ 5 rfl Tryz.underlying9 Tryz.underlying63 Tryz.underlying5 _ rfl ?_;intro cap w2 hby hq2 hcap;obtain ⟨hc2,hf2⟩:=bcell hq2;have hz2:=hq2.size;have hB2:Below w.heap.size w w2:=below_then bel_ hq2)
 have hd0:w2.cell? ⟨w1.heap.size + 1 + 1 + 1,0,none⟩=some (.int .u8 b1.toNat):=by
  obtain ⟨_,hh⟩:=ext_at s 1 3 0 (by simp;omega)
  have hq:=(hby.2 0 (by simp;omega)).1
  rw [hh] at hq
  simp only [World.heap_drewN,World.size_alloc] at hq
  simpa [hb1] using hq
 have hd1:w2.cell? ⟨w1.heap.size + 1 + 1 + 1,1,none⟩=some (.int .u8 b2.toNat):=by
  obtain ⟨_,hh⟩:=ext_at s 1 3 1 (by simp;omega)
  have hq:=(hby.2 1 (by simp;omega)).1
  rw [hh] at hq
  simp only [World.heap_drewN,World.size_alloc] at hq
  simpa [hb2] using hq
 refine wp_loop_rounds 3 ?_
 rw [rounds_succ]
 go_wp2_with (first | (go_at_call 110;(with_reducible refine (character_c _ _).mono ?_);rintro e w' ⟨rfl,rfl⟩) | go_in)
 rw [rounds_succ]
 go_wp2_with (first | (go_at_call 110;(with_reducible refine (character_c _ _).mono ?_);rintro e w' ⟨rfl,rfl⟩) | go_in)
 rw [rounds_succ]
 go_wp2_with (first | (go_at_call 110;(with_reducible refine (character_c _ _).mono ?_);rintro e w' ⟨rfl,rfl⟩) | go_in)
 go_ret2
 exact ⟨rfl,hB2⟩
set_option maxRecDepth 100000 in
set_option maxHeartbeats 1000000 in
theorem next2_no (s:ByteArray) (w:World) (hs:s.size≤1000000) (hn:2 < s.size) (b0:UInt8) (hb0:s[0]=b0) (t0:(bits BinOp.andNot IntKind.u8 (b0.toNat) 127 != 0)=true) (t1:(bits BinOp.andNot IntKind.u8 (b0.toNat) 31 != 192)=true) (t2:(bits BinOp.andNot IntKind.u8 (b0.toNat) 15 != 224)=false) (hm:bits BinOp.and IntKind.u8 (b0.toNat) 15=(b0.toNat % 16:Nat)) (b1:UInt8) (hb1:s[1]=b1) (b2:UInt8) (hb2:s[2]=b2) (c1:contL b1=true) (m1:bits BinOp.and IntKind.u8 (b1.toNat) 63=(b1.toNat % 64:Nat)) (c2:contL b2=true) (m2:bits BinOp.and IntKind.u8 (b2.toNat) 63=(b2.toNat % 64:Nat)) (C1:Nat) (hC1:C1≤10000000) (o1:bits BinOp.or IntKind.i64 ((b0.toNat % 16:Int) * 64) (b1.toNat % 64:Int)=C1) (C2:Nat) (hC2:C2≤10000000) (o2:bits BinOp.or IntKind.i64 ((C1:Int) * 64) (b2.toNat % 64:Int)=C2) (hf:2048≤C2) (hch:charL C2=false) :
  Calls Tryz.prog 102 #[.string s] w (Ret w (.tuple #[.int .i64 (-1),.int .i64 1])):=by
 have h0:0 < s.size:=by omega
 have k1:=(tabc b1).trans c1
 have k2:=(tabc b2).trans c2
 have he:=isEmpty_of_pos h0
 have hne:=ne_of_pos h0
 have x0:=ix0
 have x1:=ix1
 have x2:=ix2
 go_enter Tryz.func102,Tryz.ntmps102
 go_wp2_with (go_at_call 108;(with_reducible refine (forms_c _).mono ?_);rintro e w1 ⟨rfl,hcb1⟩;obtain ⟨hcc1,hcf1⟩:=bcell hcb1;have hcz1:=hcb1.size;have hcB1:Below w.heap.size w w1:=below_then bel_ hcb1)
 refine wp_loop_rounds 3 ?_
 rw [rounds_succ]
 go_wp2_with fail
 go_quiet (fail)
 go_wp2_with fail
 rw [rounds_succ]
 go_wp2_with fail
 go_quiet (fail)
 go_wp2_with fail
 rw [rounds_succ]
 go_wp2_with fail
 go_quiet (fail)
 go_wp2_with fail
 go_quiet (fail)
 go_wp2_with (refine conv_bytes (o:=⟨some 38,.convert 9 63 _,_,_,_,_⟩) rfl _ _ _ 5 rfl Tryz.underlying9 Tryz.underlying63 Tryz.underlying5 _ rfl ?_;intro cap w2 hby hq2 hcap;obtain ⟨hc2,hf2⟩:=bcell hq2;have hz2:=hq2.size;have hB2:Below w.heap.size w w2:=below_then bel_ hq2)
 have hd0:w2.cell? ⟨w1.heap.size + 1 + 1 + 1,0,none⟩=some (.int .u8 b1.toNat):=by
  obtain ⟨_,hh⟩:=ext_at s 1 3 0 (by simp;omega)
  have hq:=(hby.2 0 (by simp;omega)).1
  rw [hh] at hq
  simp only [World.heap_drewN,World.size_alloc] at hq
  simpa [hb1] using hq
 have hd1:w2.cell? ⟨w1.heap.size + 1 + 1 + 1,1,none⟩=some (.int .u8 b2.toNat):=by
  obtain ⟨_,hh⟩:=ext_at s 1 3 1 (by simp;omega)
  have hq:=(hby.2 1 (by simp;omega)).1
  rw [hh] at hq
  simp only [World.heap_drewN,World.size_alloc] at hq
  simpa [hb2] using hq
 refine wp_loop_rounds 3 ?_
 rw [rounds_succ]
 go_wp2_with (first | (go_at_call 110;(with_reducible refine (character_c _ _).mono ?_);rintro e w' ⟨rfl,rfl⟩) | go_in)
 rw [rounds_succ]
 go_wp2_with (first | (go_at_call 110;(with_reducible refine (character_c _ _).mono ?_);rintro e w' ⟨rfl,rfl⟩) | go_in)
 rw [rounds_succ]
 go_wp2_with (first | (go_at_call 110;(with_reducible refine (character_c _ _).mono ?_);rintro e w' ⟨rfl,rfl⟩) | go_in)
 go_ret2
 exact ⟨rfl,hB2⟩
set_option maxRecDepth 100000 in
set_option maxHeartbeats 1000000 in
theorem next2_ok (s:ByteArray) (w:World) (hs:s.size≤1000000) (hn:2 < s.size) (b0:UInt8) (hb0:s[0]=b0) (t0:(bits BinOp.andNot IntKind.u8 (b0.toNat) 127 != 0)=true) (t1:(bits BinOp.andNot IntKind.u8 (b0.toNat) 31 != 192)=true) (t2:(bits BinOp.andNot IntKind.u8 (b0.toNat) 15 != 224)=false) (hm:bits BinOp.and IntKind.u8 (b0.toNat) 15=(b0.toNat % 16:Nat)) (b1:UInt8) (hb1:s[1]=b1) (b2:UInt8) (hb2:s[2]=b2) (c1:contL b1=true) (m1:bits BinOp.and IntKind.u8 (b1.toNat) 63=(b1.toNat % 64:Nat)) (c2:contL b2=true) (m2:bits BinOp.and IntKind.u8 (b2.toNat) 63=(b2.toNat % 64:Nat)) (C1:Nat) (hC1:C1≤10000000) (o1:bits BinOp.or IntKind.i64 ((b0.toNat % 16:Int) * 64) (b1.toNat % 64:Int)=C1) (C2:Nat) (hC2:C2≤10000000) (o2:bits BinOp.or IntKind.i64 ((C1:Int) * 64) (b2.toNat % 64:Int)=C2) (hf:2048≤C2) (hch:charL C2=true) :
  Calls Tryz.prog 102 #[.string s] w (Ret w (.tuple #[.int .i64 C2,.int .i64 3])):=by
 have h0:0 < s.size:=by omega
 have k1:=(tabc b1).trans c1
 have k2:=(tabc b2).trans c2
 have he:=isEmpty_of_pos h0
 have hne:=ne_of_pos h0
 have x0:=ix0
 have x1:=ix1
 have x2:=ix2
 go_enter Tryz.func102,Tryz.ntmps102
 go_wp2_with (go_at_call 108;(with_reducible refine (forms_c _).mono ?_);rintro e w1 ⟨rfl,hcb1⟩;obtain ⟨hcc1,hcf1⟩:=bcell hcb1;have hcz1:=hcb1.size;have hcB1:Below w.heap.size w w1:=below_then bel_ hcb1)
 refine wp_loop_rounds 3 ?_
 rw [rounds_succ]
 go_wp2_with fail
 go_quiet (fail)
 go_wp2_with fail
 rw [rounds_succ]
 go_wp2_with fail
 go_quiet (fail)
 go_wp2_with fail
 rw [rounds_succ]
 go_wp2_with fail
 go_quiet (fail)
 go_wp2_with fail
 go_quiet (fail)
 go_wp2_with (refine conv_bytes (o:=⟨some 38,.convert 9 63 _,_,_,_,_⟩) rfl _ _ _ 5 rfl Tryz.underlying9 Tryz.underlying63 Tryz.underlying5 _ rfl ?_;intro cap w2 hby hq2 hcap;obtain ⟨hc2,hf2⟩:=bcell hq2;have hz2:=hq2.size;have hB2:Below w.heap.size w w2:=below_then bel_ hq2)
 have hd0:w2.cell? ⟨w1.heap.size + 1 + 1 + 1,0,none⟩=some (.int .u8 b1.toNat):=by
  obtain ⟨_,hh⟩:=ext_at s 1 3 0 (by simp;omega)
  have hq:=(hby.2 0 (by simp;omega)).1
  rw [hh] at hq
  simp only [World.heap_drewN,World.size_alloc] at hq
  simpa [hb1] using hq
 have hd1:w2.cell? ⟨w1.heap.size + 1 + 1 + 1,1,none⟩=some (.int .u8 b2.toNat):=by
  obtain ⟨_,hh⟩:=ext_at s 1 3 1 (by simp;omega)
  have hq:=(hby.2 1 (by simp;omega)).1
  rw [hh] at hq
  simp only [World.heap_drewN,World.size_alloc] at hq
  simpa [hb2] using hq
 refine wp_loop_rounds 3 ?_
 rw [rounds_succ]
 go_wp2_with (first | (go_at_call 110;(with_reducible refine (character_c _ _).mono ?_);rintro e w' ⟨rfl,rfl⟩) | go_in)
 rw [rounds_succ]
 go_wp2_with (first | (go_at_call 110;(with_reducible refine (character_c _ _).mono ?_);rintro e w' ⟨rfl,rfl⟩) | go_in)
 rw [rounds_succ]
 go_wp2_with (first | (go_at_call 110;(with_reducible refine (character_c _ _).mono ?_);rintro e w' ⟨rfl,rfl⟩) | go_in)
 go_ret2
 exact ⟨rfl,hB2⟩
end Go.Proofs.YtpkodpcfafipdaaGreatDoor

