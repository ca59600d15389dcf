/- A part of the proof: 1 texts joined. -/
import Derived.Test.YtpkodpcfafipdaaGreatDoorSuA1
set_option linter.all false
namespace Go.Proofs.YtpkodpcfafipdaaGreatDoor
open Go.RowKit
def charL (c:Int):Bool:=decide (0≤c∧c≤1114111∧(c < 55296∨57343 < c))
def contL (b:UInt8):Bool:=decide (128≤b.toNat∧b.toNat < 192)
def tailL (n:Nat) (c0:Nat) (from_:Nat) (r:List UInt8):Int × Nat :=
 if r.length < n then (-1,1) else if (r.take n).all contL=false then (-1,1)
 else let c:=(r.take n).foldl (fun c b=>c * 64 + b.toNat % 64) c0;if c < from_∨charL c=false then (-1,1) else (c,n + 1)
def nextL:List UInt8→Int × Nat
 | []=>(-1,0)
 | b0 :: r=>if b0.toNat < 128 then (b0.toNat,1)
  else if 192≤b0.toNat∧b0.toNat < 224 then tailL 1 (b0.toNat % 32) 128 r
  else if 224≤b0.toNat∧b0.toNat < 240 then tailL 2 (b0.toNat % 16) 2048 r
  else if 240≤b0.toNat∧b0.toNat < 248 then tailL 3 (b0.toNat % 8) 65536 r else (-1,1)
set_option maxHeartbeats 400000 in
theorem character_c (n:Int) (w:World) :
  Calls Tryz.prog 110 #[.int .i64 n] w fun e w'=>e=.returned (.bool (charL n))∧w=w':=by
 go_enter Tryz.func110,Tryz.ntmps110
 go_wp2
 all_goals (go_ret;refine ⟨ret_b ?_,rfl⟩)
 all_goals go_tidy
 all_goals grind [charL]
set_option maxHeartbeats 400000 in
theorem forms_c (w:World) :
  Calls Tryz.prog 108 #[] w (Ret w (.agg #[.int .i64 0,.int .u8 0,.int .u8 127,.int .i64 128,.int .u8 192,.int .u8 31,.int .i64 2048,.int .u8 224,.int .u8 15,.int .i64 65536,.int .u8 240,.int .u8 7])):=by
 go_enter Tryz.func108,Tryz.ntmps108
 go_wp2
 refine bodyPost_ret (v:=.agg #[.int .i64 0,.int .u8 0,.int .u8 127,.int .i64 128,.int .u8 192,.int .u8 31,.int .i64 2048,.int .u8 224,.int .u8 15,.int .i64 65536,.int .u8 240,.int .u8 7]) (by simp [results,Tryz.results108,go_sem]) rfl ⟨rfl,bel_⟩
theorem ix0 (w:World):(Instr.index 161 (.agg #[.int .i64 0,.int .u8 0,.int .u8 127,.int .i64 128,.int .u8 192,.int .u8 31,.int .i64 2048,.int .u8 224,.int .u8 15,.int .i64 65536,.int .u8 240,.int .u8 7]) (.int .i64 0)).run Tryz.prog w=.ok (.agg #[.int .i64 0,.int .u8 0,.int .u8 127]) w:=by kernel_rfl
theorem ix1 (w:World):(Instr.index 161 (.agg #[.int .i64 0,.int .u8 0,.int .u8 127,.int .i64 128,.int .u8 192,.int .u8 31,.int .i64 2048,.int .u8 224,.int .u8 15,.int .i64 65536,.int .u8 240,.int .u8 7]) (.int .i64 1)).run Tryz.prog w=.ok (.agg #[.int .i64 128,.int .u8 192,.int .u8 31]) w:=by kernel_rfl
theorem ix2 (w:World):(Instr.index 161 (.agg #[.int .i64 0,.int .u8 0,.int .u8 127,.int .i64 128,.int .u8 192,.int .u8 31,.int .i64 2048,.int .u8 224,.int .u8 15,.int .i64 65536,.int .u8 240,.int .u8 7]) (.int .i64 2)).run Tryz.prog w=.ok (.agg #[.int .i64 2048,.int .u8 224,.int .u8 15]) w:=by kernel_rfl
theorem ix3 (w:World):(Instr.index 161 (.agg #[.int .i64 0,.int .u8 0,.int .u8 127,.int .i64 128,.int .u8 192,.int .u8 31,.int .i64 2048,.int .u8 224,.int .u8 15,.int .i64 65536,.int .u8 240,.int .u8 7]) (.int .i64 3)).run Tryz.prog w=.ok (.agg #[.int .i64 65536,.int .u8 240,.int .u8 7]) w:=by kernel_rfl
set_option maxHeartbeats 400000 in
theorem next_empty (s:ByteArray) (w:World) (h:s=ByteArray.empty):Calls Tryz.prog 102 #[.string s] w (Ret w (.tuple #[.int .i64 (-1),.int .i64 0])):=by
 subst h
 go_enter Tryz.func102,Tryz.ntmps102
 go_wp2
 go_ret2
 exact ⟨rfl,bel_⟩
set_option maxRecDepth 100000 in
set_option maxHeartbeats 1000000 in
theorem next0 (s:ByteArray) (w:World) (hs:s.size≤1000000) (h0:0 < s.size) (b0:UInt8) (hb0:s[0]=b0)  (t0:(bits BinOp.andNot IntKind.u8 (b0.toNat) 127 != 0)=false) (hm:bits BinOp.and IntKind.u8 (b0.toNat) 127=b0.toNat) (hlt:b0.toNat < 128) :
  Calls Tryz.prog 102 #[.string s] w (Ret w (.tuple #[.int .i64 b0.toNat,.int .i64 1])):=by
 have he:=isEmpty_of_pos h0
 have hne:=ne_of_pos h0
 have x0:=ix0
 go_enter Tryz.func102,Tryz.ntmps102
 go_wp2_with (go_at_call 108;(with_reducible refine (forms_c _).mono ?_);rintro e w1 ⟨rfl,hcb1⟩;obtain ⟨hcc1,hcf1⟩:=bcell hcb1;have hcz1:=hcb1.size;have hcB1:Below w.heap.size w w1:=below_then bel_ hcb1)
 refine wp_loop_rounds 1 ?_
 rw [rounds_succ]
 go_wp2_with fail
 go_quiet (fail)
 go_wp2_with fail
 go_quiet (fail)
 go_wp2_with (refine conv_bytes (o:=⟨some 38,.convert 9 63 _,_,_,_,_⟩) rfl _ _ _ 5 rfl Tryz.underlying9 Tryz.underlying63 Tryz.underlying5 _ rfl ?_;intro cap w2 hby hq2 hcap;obtain ⟨hc2,hf2⟩:=bcell hq2;have hz2:=hq2.size;have hB2:Below w.heap.size w w2:=below_then bel_ hq2)
 refine wp_loop_rounds 1 ?_
 rw [rounds_succ]
 go_wp2
 go_ret2
 exact ⟨rfl,hB2⟩
set_option maxRecDepth 100000 in
set_option maxHeartbeats 1000000 in
theorem next_none (s:ByteArray) (w:World) (hs:s.size≤1000000) (h0:0 < s.size) (b0:UInt8) (hb0:s[0]=b0) (t0:(bits BinOp.andNot IntKind.u8 (b0.toNat) 127 != 0)=true) (t1:(bits BinOp.andNot IntKind.u8 (b0.toNat) 31 != 192)=true) (t2:(bits BinOp.andNot IntKind.u8 (b0.toNat) 15 != 224)=true) (t3:(bits BinOp.andNot IntKind.u8 (b0.toNat) 7 != 240)=true) :
  Calls Tryz.prog 102 #[.string s] w (Ret w (.tuple #[.int .i64 (-1),.int .i64 1])):=by
 have he:=isEmpty_of_pos h0
 have hne:=ne_of_pos h0
 have x0:=ix0
 have x1:=ix1
 have x2:=ix2
 have x3:=ix3
 go_enter Tryz.func102,Tryz.ntmps102
 go_wp2_with (go_at_call 108;(with_reducible refine (forms_c _).mono ?_);rintro e w1 ⟨rfl,hcb1⟩;obtain ⟨hcc1,hcf1⟩:=bcell hcb1;have hcz1:=hcb1.size;have hcB1:Below w.heap.size w w1:=below_then bel_ hcb1)
 refine wp_loop_rounds 5 ?_
 rw [rounds_succ]
 go_wp2_with fail
 go_quiet (fail)
 go_wp2_with fail
 rw [rounds_succ]
 go_wp2_with fail
 go_quiet (fail)
 go_wp2_with fail
 rw [rounds_succ]
 go_wp2_with fail
 go_quiet (fail)
 go_wp2_with fail
 rw [rounds_succ]
 go_wp2_with fail
 go_quiet (fail)
 go_wp2_with fail
 rw [rounds_succ]
 go_wp2
 go_ret2
 exact ⟨rfl,bel_⟩
set_option maxRecDepth 100000 in
set_option maxHeartbeats 1000000 in
theorem next1_short (s:ByteArray) (w:World) (hs:s.size≤1000000) (h0:0 < s.size) (hn:s.size≤1) (b0:UInt8) (hb0:s[0]=b0) (t0:(bits BinOp.andNot IntKind.u8 (b0.toNat) 127 != 0)=true) (t1:(bits BinOp.andNot IntKind.u8 (b0.toNat) 31 != 192)=false) :
  Calls Tryz.prog 102 #[.string s] w (Ret w (.tuple #[.int .i64 (-1),.int .i64 1])):=by
 have he:=isEmpty_of_pos h0
 have hne:=ne_of_pos h0
 have x0:=ix0
 have x1:=ix1
 go_enter Tryz.func102,Tryz.ntmps102
 go_wp2_with (go_at_call 108;(with_reducible refine (forms_c _).mono ?_);rintro e w1 ⟨rfl,hcb1⟩;obtain ⟨hcc1,hcf1⟩:=bcell hcb1;have hcz1:=hcb1.size;have hcB1:Below w.heap.size w w1:=below_then bel_ hcb1)
 refine wp_loop_rounds 2 ?_
 rw [rounds_succ]
 go_wp2_with fail
 go_quiet (fail)
 go_wp2_with fail
 rw [rounds_succ]
 go_wp2_with fail
 go_quiet (fail)
 go_wp2_with fail
 go_ret2
 exact ⟨rfl,bel_⟩
set_option maxRecDepth 100000 in
set_option maxHeartbeats 1000000 in
theorem next1_bad1 (s:ByteArray) (w:World) (hs:s.size≤1000000) (hn:1 < s.size) (b0:UInt8) (hb0:s[0]=b0) (t0:(bits BinOp.andNot IntKind.u8 (b0.toNat) 127 != 0)=true) (t1:(bits BinOp.andNot IntKind.u8 (b0.toNat) 31 != 192)=false) (hm:bits BinOp.and IntKind.u8 (b0.toNat) 31=(b0.toNat % 32:Nat)) (b1:UInt8) (hb1:s[1]=b1) (c1:contL b1=false) :
  Calls Tryz.prog 102 #[.string s] w (Ret w (.tuple #[.int .i64 (-1),.int .i64 1])):=by
 have h0:0 < s.size:=by omega
 have k1:=(tabc b1).trans c1
 have he:=isEmpty_of_pos h0
 have hne:=ne_of_pos h0
 have x0:=ix0
 have x1:=ix1
 go_enter Tryz.func102,Tryz.ntmps102
 go_wp2_with (go_at_call 108;(with_reducible refine (forms_c _).mono ?_);rintro e w1 ⟨rfl,hcb1⟩;obtain ⟨hcc1,hcf1⟩:=bcell hcb1;have hcz1:=hcb1.size;have hcB1:Below w.heap.size w w1:=below_then bel_ hcb1)
 refine wp_loop_rounds 2 ?_
 rw [rounds_succ]
 go_wp2_with fail
 go_quiet (fail)
 go_wp2_with fail
 rw [rounds_succ]
 go_wp2_with fail
 go_quiet (fail)
 go_wp2_with fail
 go_quiet (fail)
 go_wp2_with (refine conv_bytes (o:=⟨some 38,.convert 9 63 _,_,_,_,_⟩) rfl _ _ _ 5 rfl Tryz.underlying9 Tryz.underlying63 Tryz.underlying5 _ rfl ?_;intro cap w2 hby hq2 hcap;obtain ⟨hc2,hf2⟩:=bcell hq2;have hz2:=hq2.size;have hB2:Below w.heap.size w w2:=below_then bel_ hq2)
 have hd0:w2.cell? ⟨w1.heap.size + 1 + 1,0,none⟩=some (.int .u8 b1.toNat):=by
  obtain ⟨_,hh⟩:=ext_at s 1 2 0 (by simp;omega)
  have hq:=(hby.2 0 (by simp;omega)).1
  rw [hh] at hq
  simp only [World.heap_drewN,World.size_alloc] at hq
  simpa [hb1] using hq
 refine wp_loop_rounds 2 ?_
 rw [rounds_succ]
 go_wp2_with (first | (go_at_call 110;(with_reducible refine (character_c _ _).mono ?_);rintro e w' ⟨rfl,rfl⟩) | go_in)
 go_ret2
 exact ⟨rfl,hB2⟩
set_option maxRecDepth 100000 in
set_option maxHeartbeats 1000000 in
theorem next1_lo (s:ByteArray) (w:World) (hs:s.size≤1000000) (hn:1 < s.size) (b0:UInt8) (hb0:s[0]=b0) (t0:(bits BinOp.andNot IntKind.u8 (b0.toNat) 127 != 0)=true) (t1:(bits BinOp.andNot IntKind.u8 (b0.toNat) 31 != 192)=false) (hm:bits BinOp.and IntKind.u8 (b0.toNat) 31=(b0.toNat % 32:Nat)) (b1:UInt8) (hb1:s[1]=b1) (c1:contL b1=true) (m1:bits BinOp.and IntKind.u8 (b1.toNat) 63=(b1.toNat % 64:Nat)) (C1:Nat) (hC1:C1≤10000000) (o1:bits BinOp.or IntKind.i64 ((b0.toNat % 32:Int) * 64) (b1.toNat % 64:Int)=C1) (hf:C1 < 128) :
  Calls Tryz.prog 102 #[.string s] w (Ret w (.tuple #[.int .i64 (-1),.int .i64 1])):=by
 have h0:0 < s.size:=by omega
 have k1:=(tabc b1).trans c1
 have he:=isEmpty_of_pos h0
 have hne:=ne_of_pos h0
 have x0:=ix0
 have x1:=ix1
 go_enter Tryz.func102,Tryz.ntmps102
 go_wp2_with (go_at_call 108;(with_reducible refine (forms_c _).mono ?_);rintro e w1 ⟨rfl,hcb1⟩;obtain ⟨hcc1,hcf1⟩:=bcell hcb1;have hcz1:=hcb1.size;have hcB1:Below w.heap.size w w1:=below_then bel_ hcb1)
 refine wp_loop_rounds 2 ?_
 rw [rounds_succ]
 go_wp2_with fail
 go_quiet (fail)
 go_wp2_with fail
 rw [rounds_succ]
 go_wp2_with fail
 go_quiet (fail)
 go_wp2_with fail
 go_quiet (fail)
 go_wp2_with (refine conv_bytes (o:=⟨some 38,.convert 9 63 _,_,_,_,_⟩) rfl _ _ _ 5 rfl Tryz.underlying9 Tryz.underlying63 Tryz.underlying5 _ rfl ?_;intro cap w2 hby hq2 hcap;obtain ⟨hc2,hf2⟩:=bcell hq2;have hz2:=hq2.size;have hB2:Below w.heap.size w w2:=below_then bel_ hq2)
 have hd0:w2.cell? ⟨w1.heap.size + 1 + 1,0,none⟩=some (.int .u8 b1.toNat):=by
  obtain ⟨_,hh⟩:=ext_at s 1 2 0 (by simp;omega)
  have hq:=(hby.2 0 (by simp;omega)).1
  rw [hh] at hq
  simp only [World.heap_drewN,World.size_alloc] at hq
  simpa [hb1] using hq
 refine wp_loop_rounds 2 ?_
 rw [rounds_succ]
 go_wp2_with (first | (go_at_call 110;(with_reducible refine (character_c _ _).mono ?_);rintro e w' ⟨rfl,rfl⟩) | go_in)
 rw [rounds_succ]
 go_wp2_with (first | (go_at_call 110;(with_reducible refine (character_c _ _).mono ?_);rintro e w' ⟨rfl,rfl⟩) | go_in)
 go_ret2
 exact ⟨rfl,hB2⟩
set_option maxRecDepth 100000 in
set_option maxHeartbeats 1000000 in
theorem next1_no (s:ByteArray) (w:World) (hs:s.size≤1000000) (hn:1 < s.size) (b0:UInt8) (hb0:s[0]=b0) (t0:(bits BinOp.andNot IntKind.u8 (b0.toNat) 127 != 0)=true) (t1:(bits BinOp.andNot IntKind.u8 (b0.toNat) 31 != 192)=false) (hm:bits BinOp.and IntKind.u8 (b0.toNat) 31=(b0.toNat % 32:Nat)) (b1:UInt8) (hb1:s[1]=b1) (c1:contL b1=true) (m1:bits BinOp.and IntKind.u8 (b1.toNat) 63=(b1.toNat % 64:Nat)) (C1:Nat) (hC1:C1≤10000000) (o1:bits BinOp.or IntKind.i64 ((b0.toNat % 32:Int) * 64) (b1.toNat % 64:Int)=C1) (hf:128≤C1) (hch:charL C1=false) :
  Calls Tryz.prog 102 #[.string s] w (Ret w (.tuple #[.int .i64 (-1),.int .i64 1])):=by
 have h0:0 < s.size:=by omega
 have k1:=(tabc b1).trans c1
 have he:=isEmpty_of_pos h0
 have hne:=ne_of_pos h0
 have x0:=ix0
 have x1:=ix1
 go_enter Tryz.func102,Tryz.ntmps102
 go_wp2_with (go_at_call 108;(with_reducible refine (forms_c _).mono ?_);rintro e w1 ⟨rfl,hcb1⟩;obtain ⟨hcc1,hcf1⟩:=bcell hcb1;have hcz1:=hcb1.size;have hcB1:Below w.heap.size w w1:=below_then bel_ hcb1)
 refine wp_loop_rounds 2 ?_
 rw [rounds_succ]
 go_wp2_with fail
 go_quiet (fail)
 go_wp2_with fail
 rw [rounds_succ]
 go_wp2_with fail
 go_quiet (fail)
 go_wp2_with fail
 go_quiet (fail)
 go_wp2_with (refine conv_bytes (o:=⟨some 38,.convert 9 63 _,_,_,_,_⟩) rfl _ _ _ 5 rfl Tryz.underlying9 Tryz.underlying63 Tryz.underlying5 _ rfl ?_;intro cap w2 hby hq2 hcap;obtain ⟨hc2,hf2⟩:=bcell hq2;have hz2:=hq2.size;have hB2:Below w.heap.size w w2:=below_then bel_ hq2)
 have hd0:w2.cell? ⟨w1.heap.size + 1 + 1,0,none⟩=some (.int .u8 b1.toNat):=by
  obtain ⟨_,hh⟩:=ext_at s 1 2 0 (by simp;omega)
  have hq:=(hby.2 0 (by simp;omega)).1
  rw [hh] at hq
  simp only [World.heap_drewN,World.size_alloc] at hq
  simpa [hb1] using hq
 refine wp_loop_rounds 2 ?_
 rw [rounds_succ]
 go_wp2_with (first | (go_at_call 110;(with_reducible refine (character_c _ _).mono ?_);rintro e w' ⟨rfl,rfl⟩) | go_in)
 rw [rounds_succ]
 go_wp2_with (first | (go_at_call 110;(with_reducible refine (character_c _ _).mono ?_);rintro e w' ⟨rfl,rfl⟩) | go_in)
 go_ret2
 exact ⟨rfl,hB2⟩
set_option maxRecDepth 100000 in
set_option maxHeartbeats 1000000 in
theorem next1_ok (s:ByteArray) (w:World) (hs:s.size≤1000000) (hn:1 < s.size) (b0:UInt8) (hb0:s[0]=b0) (t0:(bits BinOp.andNot IntKind.u8 (b0.toNat) 127 != 0)=true) (t1:(bits BinOp.andNot IntKind.u8 (b0.toNat) 31 != 192)=false) (hm:bits BinOp.and IntKind.u8 (b0.toNat) 31=(b0.toNat % 32:Nat)) (b1:UInt8) (hb1:s[1]=b1) (c1:contL b1=true) (m1:bits BinOp.and IntKind.u8 (b1.toNat) 63=(b1.toNat % 64:Nat)) (C1:Nat) (hC1:C1≤10000000) (o1:bits BinOp.or IntKind.i64 ((b0.toNat % 32:Int) * 64) (b1.toNat % 64:Int)=C1) (hf:128≤C1) (hch:charL C1=true) :
  Calls Tryz.prog 102 #[.string s] w (Ret w (.tuple #[.int .i64 C1,.int .i64 2])):=by
 have h0:0 < s.size:=by omega
 have k1:=(tabc b1).trans c1
 have he:=isEmpty_of_pos h0
 have hne:=ne_of_pos h0
 have x0:=ix0
 have x1:=ix1
 go_enter Tryz.func102,Tryz.ntmps102
 go_wp2_with (go_at_call 108;(with_reducible refine (forms_c _).mono ?_);rintro e w1 ⟨rfl,hcb1⟩;obtain ⟨hcc1,hcf1⟩:=bcell hcb1;have hcz1:=hcb1.size;have hcB1:Below w.heap.size w w1:=below_then bel_ hcb1)
 refine wp_loop_rounds 2 ?_
 rw [rounds_succ]
 go_wp2_with fail
 go_quiet (fail)
 go_wp2_with fail
 rw [rounds_succ]
 go_wp2_with fail
 go_quiet (fail)
 go_wp2_with fail
 go_quiet (fail)
 go_wp2_with (refine conv_bytes (o:=⟨some 38,.convert 9 63 _,_,_,_,_⟩) rfl _ _ _ 5 rfl Tryz.underlying9 Tryz.underlying63 Tryz.underlying5 _ rfl ?_;intro cap w2 hby hq2 hcap;obtain ⟨hc2,hf2⟩:=bcell hq2;have hz2:=hq2.size;have hB2:Below w.heap.size w w2:=below_then bel_ hq2)
 have hd0:w2.cell? ⟨w1.heap.size + 1 + 1,0,none⟩=some (.int .u8 b1.toNat):=by
  obtain ⟨_,hh⟩:=ext_at s 1 2 0 (by simp;omega)
  have hq:=(hby.2 0 (by simp;omega)).1
  rw [hh] at hq
  simp only [World.heap_drewN,World.size_alloc] at hq
  simpa [hb1] using hq
 refine wp_loop_rounds 2 ?_
 rw [rounds_succ]
 go_wp2_with (first | (go_at_call 110;(with_reducible refine (character_c _ _).mono ?_);rintro e w' ⟨rfl,rfl⟩) | go_in)
 rw [rounds_succ]
 go_wp2_with (first | (go_at_call 110;(with_reducible refine (character_c _ _).mono ?_);rintro e w' ⟨rfl,rfl⟩) | go_in)
 go_ret2
 exact ⟨rfl,hB2⟩
end Go.Proofs.YtpkodpcfafipdaaGreatDoor

