/- A part of the proof: 7 texts joined. -/
import Derived.Test.YthnihifblmnkdaaGreatPdA13
import Derived.Test.YthnihifblmnkdaaGreatPdA11
import Derived.KernelRfl
import Derived.Test.YthnihifblmnkdaaGreatPdA17
import Derived.Test.YthnihifblmnkdaaGreatPdA15
import Derived.Test.YthnihifblmnkdaaGreatPdA20
import Derived.Test.YthnihifblmnkdaaGreatPdA16
set_option linter.all false
namespace Go.Proofs.YthnihifblmnkdaaGreat
open Go.RowKit Go.Lib
set_option maxHeartbeats 4000000
set_option maxRecDepth 100000
theorem insS64 (b n c i vb voff vc:Nat) (cs vs:List Value) (w:World) (tA tB:TypeId) (kA kB:Nat) (hi:i < n) (hroom:n + 1≤c) (hbig:n + 1≤1000000) (hvb:vb≠b) (hcl:cs.length=n * 5) (hvl:vs.length=5)
  (hcs:∀ j v,cs[j]?=some v→w.cell? ⟨b,j,none⟩=some v) (hsp:∀ j,j < (n + 1) * 5→(w.cell? ⟨b,j,none⟩).isSome=true) (hfz:∀ j,j < (n + 1) * 5→w.frozen? ⟨b,j,none⟩=false)
  (hvs:∀ j v,vs[j]?=some v→w.cell? ⟨vb,voff + j,none⟩=some v) (h1c:∀ v ∈ cs,v.oneCell'=true) (h1v:∀ v ∈ vs,v.oneCell'=true)
  (hsa:w.shape? vb=some (tA,kA)) (hsb:w.shape? b=some (tB,kB)) (hkA:kA≠0) (hkB:kB≠0) (hfe:w.frozen? ⟨b,kB,none⟩=false) :
  Calls Tryz.prog 64 #[.slice (some ⟨b,0,none⟩) n c,.int .i64 i,.slice (some ⟨vb,voff,none⟩) 1 vc] w fun e w' =>
   e=.returned (.slice (some ⟨b,0,none⟩) (n + 1) c)∧w'=(w.drew.setCells b ((i + 1) * 5) (cs.drop (i * 5))).setCells b (i * 5) vs:=by
 have tS:Tryz.prog.underlying 34=some (.slice 130):=by kernel_rfl
 have tV:Tryz.prog.underlying 33=some (.slice 130):=by kernel_rfl
 have tI:Tryz.prog.underlying 3=some (.int .i64):=by kernel_rfl
 have uS:=run_underlying tS
 have uV:=run_underlying tV
 have uI:=run_underlying tI
 have mixed:Tryz.prog.follows .mixedOrders=true:=mix
 obtain ⟨i0,z,hi0,hzs,hz0,hzc,hzb⟩:=infB_ok (P:=Tryz.prog) (e:=130) (es:=5) (by kernel_rfl)
 have hsz:(Tryz.prog.info? 130).map (·.size)=some 5:=by rw [hi0];simp [hzs]
 have hov:∀ lb cb,(callFunc 95 #[.slice (some ⟨vb,voff,none⟩) 1 vc,.slice (some ⟨b,(i + 1) * 5,none⟩) lb cb]).run Tryz.prog w=.ok (.value (.bool false)) w:=fun lb cb=>by
  rw [run_callFunc_extern Tryz.func95 (by kernel_rfl) (by kernel_rfl) (by kernel_rfl) (e:=Extern.SlicesOverlaps.overlaps #[33,33] #[4]) (by kernel_rfl),
   run_overlaps_own w 33 4 130 tV 5 (fun w=>by rw [← hzs];exact run_sizeOf hi0 w) ⟨vb,voff,none⟩ ⟨b,(i + 1) * 5,none⟩ 1 vc lb cb hvb tA tB kA kB hsa hsb hkA hkB (hfz _ (by omega)) hfe]
  rfl
 have hdl:(cs.drop (i * 5)).length=(n - i) * 5:=by rw [List.length_drop,hcl];omega
 have hz2:¬ ((i:Int)=(n:Int)):=by omega
 have hw1:IntKind.i64.wrap ((i:Int) + 1)=(i:Int) + 1:=by rw [IntKind.wrap_i64];omega
 have hwn:IntKind.i64.wrap ((n:Int) + 1)=(n:Int) + 1:=by rw [IntKind.wrap_i64];omega
 have hb1:(0:Int)≤(i:Int) + 1:=by omega
 have hin:i≤n:=by omega
 have htn:((i:Int) + 1).toNat=i + 1:=by omega
 have htm:((n:Int) + 1).toNat=n + 1:=by omega
 have hb2:¬ (c=i + 1):=by omega
 have hb3:(i:Int)≤(n:Int) + 1:=by omega
 have hb4:¬ (c=i):=by omega
 have hb5:¬ ((c:Int) < (n:Int) + 1):=by omega
 have hb6:(n:Int) + 1≤(c:Int):=by omega
 have hm1:Nat.min (n + 1 - i) (n - i)=n - i:=by simp only [Nat.min_def];split <;> omega
 have hm2:Nat.min 1 (n + 1 - i)=1:=by simp only [Nat.min_def];split <;> omega
 have hcp1:∀ ty dc sc,(Builtin.copy_ #[34,34] ty #[.slice (some ⟨b,(i + 1) * 5,none⟩) (n - i) dc,.slice (some ⟨b,i * 5,none⟩) (n + 1 - i) sc]).run Tryz.prog w.drew=.ok (goInt (Nat.min (n + 1 - i) (n - i))) (w.drew.setCells b ((i + 1) * 5) (cs.drop (i * 5))):=fun ty dc sc =>
  run_copy_es w.drew _ _ ty 130 5 b ((i + 1) * 5) (n - i) dc ⟨b,i * 5,none⟩ (n + 1 - i) sc (cs.drop (i * 5)) tS hsz (by rw [hm1];exact hdl)
   (fun j v hj=>by rw [Addr.add_lit];exact hcs (i * 5 + j) v (by rwa [List.getElem?_drop] at hj))
   (fun j hj=>hsp _ (by omega)) (fun j hj=>hfz _ (by omega)) (fun v hv=>h1c v (List.mem_of_mem_drop hv))
 obtain ⟨W1,hW1⟩ : ∃ W1,W1=w.drew.setCells b ((i + 1) * 5) (cs.drop (i * 5)):=⟨_,rfl⟩
 have hsp1:∀ k,k < (n + 1) * 5→(W1.cell? ⟨b,k,none⟩).isSome=true:=fun k hk=>by
  rw [hW1]
  exact isSome_setCells b (cs.drop (i * 5)) ((i + 1) * 5) w.drew (fun j hj=>hsp _ (by omega)) _ (hsp k hk)
 have hcp2:∀ (W:World),(∀ x,W.cell? x=W1.cell? x)→(∀ x,W.frozen? x=W1.frozen? x)→∀ ty dc,(Builtin.copy_ #[34,33] ty #[.slice (some ⟨b,i * 5,none⟩) (n + 1 - i) dc,.slice (some ⟨vb,voff,none⟩) 1 vc]).run Tryz.prog W=.ok (goInt (Nat.min 1 (n + 1 - i))) (W.setCells b (i * 5) vs):=fun W hWc hWf ty dc =>
  run_copy_es W _ _ ty 130 5 b (i * 5) (n + 1 - i) dc ⟨vb,voff,none⟩ 1 vc vs tS hsz (by rw [hm2,hvl])
   (fun j v hj=>by
    rw [Addr.add_lit,hWc,hW1,World.cell?_setCells_out b _ _ _ _ (fun h _=>absurd h hvb)]
    exact hvs j v hj)
   (fun j hj=>by rw [hWc];exact hsp1 _ (by omega)) (fun j hj=>by rw [hWf,hW1,World.frozen?_setCells];exact hfz _ (by omega)) h1v
 rw [← hW1] at hcp1
 go_enter Tryz.func64,Tryz.ntmps64
 go_wp2_with (simp only [hov])
 go_region_law_o (refine step_copy_runI rfl _ _ 34 34 rfl _ _ (by simp [Act.eval,Act.put]) (by simp [Act.eval,Act.put]) (hcp1 _ _ _) ?_)
 go_wp2_with (at_builtin;refine wpList_copy_runI _ rfl _ _ 34 33 rfl _ _ rfl rfl (hcp2 _ (fun _=>rfl) (fun _=>rfl) _ _) ?_)
 go_ret
 first | exact ⟨rfl,rfl⟩ | exact ⟨rfl,by rw [hW1]⟩
theorem insE64 (b n c vb voff vc:Nat) (vs:List Value) (w:World) (hroom:n + 1≤c) (hbig:n + 1≤1000000) (hvl:vs.length=5)
  (hsp:∀ j,j < 5→(w.cell? ⟨b,n * 5 + j,none⟩).isSome=true) (hfz:∀ j,j < 5→w.frozen? ⟨b,n * 5 + j,none⟩=false)
  (hvs:∀ j v,vs[j]?=some v→w.cell? ⟨vb,voff + j,none⟩=some v) (h1v:∀ v ∈ vs,v.oneCell'=true) :
  Calls Tryz.prog 64 #[.slice (some ⟨b,0,none⟩) n c,.int .i64 n,.slice (some ⟨vb,voff,none⟩) 1 vc] w fun e w' =>
   e=.returned (.slice (some ⟨b,0,none⟩) (n + 1) c)∧w'=w.setCells b (n * 5) vs:=by
 have tS:Tryz.prog.underlying 34=some (.slice 130):=by kernel_rfl
 have tV:Tryz.prog.underlying 33=some (.slice 130):=by kernel_rfl
 have tI:Tryz.prog.underlying 3=some (.int .i64):=by kernel_rfl
 have uS:=run_underlying tS
 have uV:=run_underlying tV
 have uI:=run_underlying tI
 have mixed:Tryz.prog.follows .mixedOrders=true:=mix
 obtain ⟨i0,z,hi0,hzs,hz0,hzc,hzb⟩:=infB_ok (P:=Tryz.prog) (e:=130) (es:=5) (by kernel_rfl)
 have hsz:(Tryz.prog.info? 130).map (·.size)=some 5:=by rw [hi0];simp [hzs]
 have hsrc:Src Tryz.prog 5 33 (.slice (some ⟨vb,voff,none⟩) 1 vc) 1 vs w:=Src.ofSlice w tV ⟨vb,voff,none⟩ 1 vc vs (by omega) (fun j u hj=>by rw [Addr.add_lit];exact hvs j u hj) h1v
 have hrun:∀ ty,(Builtin.append_ #[34,33] ty #[.slice (some ⟨b,0,none⟩) n c,.slice (some ⟨vb,voff,none⟩) 1 vc]).run Tryz.prog w=_:=fun ty =>
  run_append_room_src w 34 33 ty 130 i0 tS hi0 b 0 n c _ 1 vs (by rw [hzs];exact hsrc) hroom (by rw [hzs,hvl,Nat.zero_add];exact hsp) (by rw [hzs,hvl,Nat.zero_add];exact hfz)
 rw [hzs,Nat.zero_add] at hrun
 go_enter Tryz.func64,Tryz.ntmps64
 go_wp2_with (at_builtin;refine Lib.wpList_append_run _ rfl _ _ _ _ rfl _ _ rfl rfl _ _ (hrun _) ?_)
 all_goals (go_ret;exact ⟨rfl,rfl⟩)
theorem insG64 (base:Option Addr) (n c vb voff vc:Nat) (cs vs:List Value) (w:World) (hnc:n≤c) (hroom:c < n + 1) (hbig:n + 1≤1000000) (hcl:cs.length=n * 5) (hvl:vs.length=5) (hnil:base=none→n=0)
  (hcs:∀ a,base=some a→∀ j v,cs[j]?=some v→w.cell? (a.add j)=some v) (hvs:∀ j v,vs[j]?=some v→w.cell? ⟨vb,voff + j,none⟩=some v) (h1v:∀ v ∈ vs,v.oneCell'=true) :
  Calls Tryz.prog 64 #[.slice base n c,.int .i64 n,.slice (some ⟨vb,voff,none⟩) 1 vc] w fun e w' =>
   ∃ zs:Array Value,e=.returned (.slice (some ⟨w.heap.size,0,none⟩) (n + 1) (grownCap w (n + 1) c 130))∧w'=w.drew.alloc (.cells ((cs++vs).toArray++zs) 130):=by
 have tS:Tryz.prog.underlying 34=some (.slice 130):=by kernel_rfl
 have tV:Tryz.prog.underlying 33=some (.slice 130):=by kernel_rfl
 have tI:Tryz.prog.underlying 3=some (.int .i64):=by kernel_rfl
 have uS:=run_underlying tS
 have uV:=run_underlying tV
 have uI:=run_underlying tI
 have mixed:Tryz.prog.follows .mixedOrders=true:=mix
 obtain ⟨i0,z,hi0,hzs,hz0,hzc,hzb⟩:=infB_ok (P:=Tryz.prog) (e:=130) (es:=5) (by kernel_rfl)
 have hsz:(Tryz.prog.info? 130).map (·.size)=some 5:=by rw [hi0];simp [hzs]
 have hsrc:Src Tryz.prog i0.size 33 (.slice (some ⟨vb,voff,none⟩) 1 vc) 1 vs w:=by
  rw [hzs]
  exact Src.ofSlice w tV ⟨vb,voff,none⟩ 1 vc vs (by omega) (fun j u hj=>by rw [Addr.add_lit];exact hvs j u hj) h1v
 have hold:(Builtin.firstCells i0.size n (.slice base n c)).run Tryz.prog w.drew=.ok cs.toArray w.drew:=by
  rw [hzs]
  cases base with
  | none =>
   have h0:=hnil rfl
   subst h0
   rw [List.length_eq_zero_iff.1 (by omega:cs.length=0)]
   exact run_firstCells_none w.drew 5 0 0 c
  | some a=>exact run_firstCells_some w.drew 5 n a n c cs hcl (fun j v hj=>hcs a rfl j v hj)
 have hrun:∀ ty,(Builtin.append_ #[34,33] ty #[.slice base n c,.slice (some ⟨vb,voff,none⟩) 1 vc]).run Tryz.prog w=_:=fun ty =>
  run_append_grow_src w 34 33 ty 130 i0 z tS hi0 hz0 base n c cs hold _ 1 vs hsrc hroom (by omega) (growslice_fits hroom (grown_bound hbig hzb))
 obtain ⟨ZS,hrun⟩ : ∃ ZS:Array Value,∀ ty,(Builtin.append_ #[34,33] ty #[.slice base n c,.slice (some ⟨vb,voff,none⟩) 1 vc]).run Tryz.prog w=.ok (.slice (some ⟨w.heap.size,0,none⟩) (n + 1) (grownCap w (n + 1) c 130)) (w.drew.alloc (.cells ((cs++vs).toArray++ZS) 130)):=⟨_,hrun⟩
 have main:Calls Tryz.prog 64 #[.slice base n c,.int .i64 n,.slice (some ⟨vb,voff,none⟩) 1 vc] w fun e w' =>
   e=.returned (.slice (some ⟨w.heap.size,0,none⟩) (n + 1) (grownCap w (n + 1) c 130))∧w'=w.drew.alloc (.cells ((cs++vs).toArray++ZS) 130):=by
  clear hz0 hold hsrc
  go_enter Tryz.func64,Tryz.ntmps64
  cases base with
  | none =>
   have h0:=hnil rfl
   subst h0
   go_wp2_with (at_builtin;refine Lib.wpList_append_run _ rfl _ _ _ _ rfl _ _ rfl rfl _ _ (hrun _) ?_)
   go_ret
   exact ⟨rfl,rfl⟩
  | some a =>
   obtain ⟨ab,ao,asp⟩:=a
   go_wp2_with (at_builtin;refine Lib.wpList_append_run _ rfl _ _ _ _ rfl _ _ rfl rfl _ _ (hrun _) ?_)
   all_goals (go_ret;exact ⟨rfl,rfl⟩)
 refine main.mono ?_
 rintro e w' ⟨rfl,rfl⟩
 exact ⟨ZS,rfl,rfl⟩
theorem insW64 (b n c i vb voff vc:Nat) (cs vs:List Value) (w:World) (hi:i < n) (hnc:n≤c) (hroom:c < n + 1) (hbig:n + 1≤1000000) (hcl:cs.length=n * 5) (hvl:vs.length=5)
  (hcs:∀ j v,cs[j]?=some v→w.cell? ⟨b,j,none⟩=some v) (hvs:∀ j v,vs[j]?=some v→w.cell? ⟨vb,voff + j,none⟩=some v) (h1c:∀ v ∈ cs,v.oneCell'=true) (h1v:∀ v ∈ vs,v.oneCell'=true) :
  Calls Tryz.prog 64 #[.slice (some ⟨b,0,none⟩) n c,.int .i64 i,.slice (some ⟨vb,voff,none⟩) 1 vc] w fun e w' =>
   ∃ ROW:Array Value,(n + 1) * 5≤ROW.size∧(∀ (j:Nat) (v:Value),(cs.take (i * 5))[j]?=some v→ROW[j]?=some v)∧e=.returned (.slice (some ⟨w.heap.size,0,none⟩) (n + 1) (grownCap w (n + 1) c 130)) ∧
    w'=(((w.alloc (.cells ROW 130)).drew.setCells w.heap.size (i * 5) vs).drew).setCells w.heap.size ((i + 1) * 5) (cs.drop (i * 5)):=by
 have tS:Tryz.prog.underlying 34=some (.slice 130):=by kernel_rfl
 have tV:Tryz.prog.underlying 33=some (.slice 130):=by kernel_rfl
 have tI:Tryz.prog.underlying 3=some (.int .i64):=by kernel_rfl
 have uS:=run_underlying tS
 have uV:=run_underlying tV
 have uI:=run_underlying tI
 have mixed:Tryz.prog.follows .mixedOrders=true:=mix
 obtain ⟨i0,z,hi0,hzs,hz0,hzc,hzb⟩:=infB_ok (P:=Tryz.prog) (e:=130) (es:=5) (by kernel_rfl)
 have hsz:(Tryz.prog.info? 130).map (·.size)=some 5:=by rw [hi0];simp [hzs]
 have hz2:¬ ((i:Int)=(n:Int)):=by omega
 have hz3:(c:Int) < (n:Int) + 1:=by omega
 have hbw:b < w.heap.size:=block_lt_of_cell (hcs 0 _ (List.getElem?_eq_getElem (by omega)))
 have hvw:vb < w.heap.size:=block_lt_of_cell (hvs 0 _ (List.getElem?_eq_getElem (by omega)))
 have hwk:IntKind.i64.wrap ((n:Int) + 1 - (i:Int))=((n + 1 - i:Nat):Int):=by rw [IntKind.wrap_i64];omega
 have hik:i + (n + 1 - i)=n + 1:=by omega
 have hold:(Builtin.firstCells i0.size i (.slice (some ⟨b,0,none⟩) i c)).run Tryz.prog w.drew=.ok (cs.take (i * 5)).toArray w.drew:=by
  rw [hzs]
  exact run_firstCells_some w.drew 5 i ⟨b,0,none⟩ i c (cs.take (i * 5)) (by rw [List.length_take];omega) (fun j v hj=>by
   rw [Addr.add_lit,Nat.zero_add]
   rw [List.getElem?_take] at hj
   split at hj
   ·exact hcs j v hj
   ·cases hj)
 have hbk:(n + 1 - i) * i0.bytes≤281474976710656:=by
  have:(n + 1 - i) * i0.bytes≤1000000 * 1000:=Nat.mul_le_mul (by omega) hzb
  omega
 have hrz:∀ ty,(Builtin.append_ #[34,3] ty #[.slice (some ⟨b,0,none⟩) i c,.int .i64 ((n + 1 - i:Nat):Int)]).run Tryz.prog w =
   .ok (.slice (some ⟨w.heap.size,0,none⟩) (n + 1) (grownCap w (n + 1) c 130)) (w.drew.alloc (.cells ((cs.take (i * 5)).toArray++Builtin.zeroCells z.cells (n + 1 - i)++Builtin.zeroCells z.cells (grownCap w (n + 1) c 130 - (n + 1))) 130)):=fun ty=>by
  have h:=Lib.run_append_grow_zeros w 34 3 ty 130 i0 z .i64 .i64 tS tI hi0 hz0 (some ⟨b,0,none⟩) i c (cs.take (i * 5)) hold (n + 1 - i) (by omega) (by omega) (by omega) (by omega) hbk (by rw [hik];exact growslice_fits hroom (grown_bound hbig hzb))
  rw [hik] at h
  exact h
 obtain ⟨G,hG⟩ : ∃ G,G=grownCap w (n + 1) c 130:=⟨_,rfl⟩
 obtain ⟨ROW,hROW⟩ : ∃ ROW:Array Value,ROW=(cs.take (i * 5)).toArray++Builtin.zeroCells z.cells (n + 1 - i)++Builtin.zeroCells z.cells (G - (n + 1)):=⟨_,rfl⟩
 rw [← hG] at hrz ⊢
 rw [← hROW] at hrz
 have hRl:(n + 1) * 5≤ROW.size:=by
  rw [hROW]
  simp only [Array.size_append,size_zeroCells,hzc,List.size_toArray,List.length_take]
  omega
 have hRt:∀ (j:Nat) (v:Value),(cs.take (i * 5))[j]?=some v→ROW[j]?=some v:=fun j v h=>by
  have hl:=(List.getElem?_eq_some_iff.1 h).1
  rw [hROW,Array.append_assoc,Array.getElem?_append_left (by simpa using hl),List.getElem?_toArray]
  exact h
 obtain ⟨W1,hW1⟩ : ∃ W1,W1=w.drew.alloc (.cells ROW 130):=⟨_,rfl⟩
 rw [← hW1] at hrz
 have hN:∀ j,j < (n + 1) * 5→(W1.cell? ⟨w.heap.size,j,none⟩).isSome=true:=fun j hj=>by
  rw [hW1,World.cell?_alloc_at (w:=w.drew) ROW _ w.heap.size j rfl,Array.getElem?_eq_getElem (by omega)];rfl
 have hNf:∀ j,W1.frozen? ⟨w.heap.size,j,none⟩=false:=fun j=>by rw [hW1];exact World.frozen?_alloc_at (w:=w.drew) ROW _ w.heap.size j rfl
 have hOb:∀ j v,w.cell? ⟨b,j,none⟩=some v→W1.cell? ⟨b,j,none⟩=some v:=fun j v h=>by rw [hW1,World.cell?_alloc_past (w:=w.drew) _ b j hbw];exact h
 have hOv:∀ j v,w.cell? ⟨vb,j,none⟩=some v→W1.cell? ⟨vb,j,none⟩=some v:=fun j v h=>by rw [hW1,World.cell?_alloc_past (w:=w.drew) _ vb j hvw];exact h
 have hmA:Nat.min 1 (n + 1 - i)=1:=by simp only [Nat.min_def];split <;> omega
 have hmB:Nat.min (n - i) (n - i)=n - i:=Nat.min_self _
 have hcpA:∀ (W:World),(∀ x,W.cell? x=W1.cell? x)→(∀ x,W.frozen? x=W1.frozen? x)→∀ ty dc,(Builtin.copy_ #[34,33] ty #[.slice (some ⟨w.heap.size,i * 5,none⟩) (n + 1 - i) dc,.slice (some ⟨vb,voff,none⟩) 1 vc]).run Tryz.prog W=.ok (goInt (Nat.min 1 (n + 1 - i))) (W.setCells w.heap.size (i * 5) vs):=fun W hWc hWf ty dc =>
  run_copy_es W _ _ ty 130 5 w.heap.size (i * 5) (n + 1 - i) dc ⟨vb,voff,none⟩ 1 vc vs tS hsz (by rw [hmA,hvl])
   (fun j v hj=>by rw [Addr.add_lit,hWc];exact hOv _ v (hvs j v hj))
   (fun j hj=>by rw [hWc];exact hN _ (by omega)) (fun j hj=>by rw [hWf];exact hNf _) h1v
 have hGn:n + 1≤G:=by rw [hG];exact grownCap_ge w _ _ _
 have hGi:¬ (G=i):=by omega
 have hGim:¬ (G=i + 1):=by omega
 have hci:¬ (c=i):=by omega
 have hbN:b≠w.heap.size:=by omega
 have hdl:(cs.drop (i * 5)).length=(n - i) * 5:=by rw [List.length_drop,hcl];omega
 have hcpB:∀ (W:World),(∀ x,W.cell? x=(W1.setCells w.heap.size (i * 5) vs).cell? x)→(∀ x,W.frozen? x=(W1.setCells w.heap.size (i * 5) vs).frozen? x)→∀ ty dc sc,(Builtin.copy_ #[34,34] ty #[.slice (some ⟨w.heap.size,(i + 1) * 5,none⟩) (n - i) dc,.slice (some ⟨b,i * 5,none⟩) (n - i) sc]).run Tryz.prog W=.ok (goInt (Nat.min (n - i) (n - i))) (W.setCells w.heap.size ((i + 1) * 5) (cs.drop (i * 5))):=fun W hWc hWf ty dc sc =>
  run_copy_es W _ _ ty 130 5 w.heap.size ((i + 1) * 5) (n - i) dc ⟨b,i * 5,none⟩ (n - i) sc (cs.drop (i * 5)) tS hsz (by rw [hmB];exact hdl)
   (fun j v hj=>by
    rw [Addr.add_lit,hWc,World.cell?_setCells_out _ _ _ _ _ (fun h _=>absurd h hbN)]
    exact hOb _ v (hcs (i * 5 + j) v (by rwa [List.getElem?_drop] at hj)))
   (fun j hj=>by rw [hWc];exact isSome_setCells _ _ _ _ (fun t ht=>hN _ (by omega)) _ (hN _ (by omega)))
   (fun j hj=>by rw [hWf,World.frozen?_setCells];exact hNf _) (fun v hv=>h1c v (List.mem_of_mem_drop hv))
 subst hW1
 have hE1:∀ x,((w.alloc (.cells ROW 130)).drew).cell? x=(w.drew.alloc (.cells ROW 130)).cell? x:=fun x=>rfl
 have hE2:∀ x,((w.alloc (.cells ROW 130)).drew).frozen? x=(w.drew.alloc (.cells ROW 130)).frozen? x:=fun x=>rfl
 have hF1:∀ x,(((w.alloc (.cells ROW 130)).drew.setCells w.heap.size (i * 5) vs).drew).cell? x=((w.drew.alloc (.cells ROW 130)).setCells w.heap.size (i * 5) vs).cell? x:=fun x=>rfl
 have hF2:∀ x,(((w.alloc (.cells ROW 130)).drew.setCells w.heap.size (i * 5) vs).drew).frozen? x=((w.drew.alloc (.cells ROW 130)).setCells w.heap.size (i * 5) vs).frozen? x:=fun x=>rfl
 have hw1:IntKind.i64.wrap ((i:Int) + 1)=(i:Int) + 1:=by rw [IntKind.wrap_i64];omega
 have hwn:IntKind.i64.wrap ((n:Int) + 1)=(n:Int) + 1:=by rw [IntKind.wrap_i64];omega
 have hb1:(0:Int)≤(i:Int) + 1:=by omega
 have hin:i≤n:=by omega
 have htn:((i:Int) + 1).toNat=i + 1:=by omega
 have hb3:(i:Int)≤(n:Int):=by omega
 have main:Calls Tryz.prog 64 #[.slice (some ⟨b,0,none⟩) n c,.int .i64 i,.slice (some ⟨vb,voff,none⟩) 1 vc] w fun e w' =>
   e=.returned (.slice (some ⟨w.heap.size,0,none⟩) (n + 1) G)∧w'=(((w.alloc (.cells ROW 130)).drew.setCells w.heap.size (i * 5) vs).drew).setCells w.heap.size ((i + 1) * 5) (cs.drop (i * 5)):=by
  clear hik hold hROW hG hRl hRt hbk hz0
  go_enter Tryz.func64,Tryz.ntmps64
  go_wp2_with (first
   | (at_builtin;refine Lib.wpList_append_run _ rfl _ _ _ _ rfl _ _ rfl rfl _ _ (hrz _) ?_)
   | (at_builtin;refine wpList_copy_runI _ rfl _ _ 34 33 rfl _ _ rfl rfl (hcpA _ hE1 hE2 _ _) ?_))
  go_region_law_o (refine step_copy_runI rfl _ _ 34 34 rfl (.slice (some ⟨w.heap.size,(i + 1) * 5,none⟩) (n - i) (G - (i + 1))) (.slice (some ⟨b,i * 5,none⟩) (n - i) (c - i)) (by simp [Act.eval,Act.put]) (by simp [Act.eval,Act.put]) (hcpB _ hF1 hF2 3 (G - (i + 1)) (c - i)) ?_)
  go_wp2
  go_ret
  first | exact ⟨rfl,rfl⟩ | trace_state
 refine main.mono ?_
 rintro e w' ⟨rfl,rfl⟩
 exact ⟨ROW,hRl,hRt,rfl,rfl⟩
theorem insR64_v:InsRoads Tryz.prog 64 5 130:=⟨insS64,insE64,insG64,insW64⟩
end Go.Proofs.YthnihifblmnkdaaGreat

namespace Go.Proofs.YthnihifblmnkdaaGreat
open Go.RowKit
set_option maxRecDepth 100000
set_option maxHeartbeats 4000000
def gc37:BCode:=(.seq (R_ 1 [O_ 5 (.bx (t_ 2)) 0,O_ 6 (.mv (.const (.slice none 0 0))) 1,O_ 7 (.mv (i_ 0)) 1]) (.seq (.reg 0 [O_ 13 (.mv (t_ 0)) 0,O_ 14 (.cl 58 [(t_ 13)]) 0,O_ 8 (.mv (t_ 14)) 0] none 1 []) (.seq (.seq (R_ 0 [O_ 15 (.mv (t_ 0)) 0,O_ 16 (.cl 43 [(t_ 15)]) 0,O_ 9 (.mv (t_ 16)) 0]) (.seq (R_ 0 [O_ 17 (.mv (t_ 9)) 0,O_ 18 (.bin .neq (t_ 17) (i_ 0)) 0]) (.cond (t_ 18) (.seq (R_ 0 [O_ 19 (.mv (t_ 8)) 0,O_ 20 (.mv (t_ 9)) 0,O_ 6 (.mv (t_ 19)) 0,O_ 7 (.mv (t_ 20)) 0]) .ret) .skip))) (.seq (.seq (R_ 0 [O_ 21 (.mv (t_ 1)) 0,O_ 22 (.cl 59 [(t_ 21)]) 0,O_ 23 (.un .not (t_ 22)) 0]) (.cond (t_ 23) (.seq (R_ 0 [O_ 24 (.mv (t_ 8)) 0,O_ 6 (.mv (t_ 24)) 0,O_ 7 (.mv (i_ 11)) 0]) .ret) .skip)) (.seq (.seq (R_ 0 [O_ 25 (.ld 4 true (t_ 5)) 0,O_ 26 (.cl 51 [(t_ 25)]) 0,O_ 10 (.mv (t_ 26)) 0]) (.seq (R_ 0 [O_ 27 (.mv (t_ 10)) 0,O_ 28 (.bin .neq (t_ 27) (i_ 0)) 0]) (.cond (t_ 28) (.seq (R_ 0 [O_ 29 (.mv (t_ 8)) 0,O_ 30 (.mv (t_ 10)) 0,O_ 6 (.mv (t_ 29)) 0,O_ 7 (.mv (t_ 30)) 0]) .ret) .skip))) (.seq (R_ 0 [O_ 31 (.mv (t_ 0)) 0,O_ 32 (.mv (t_ 1)) 0,O_ 33 (.cl 60 [(t_ 31),(t_ 32)]) 0,O_ 11 (.mv (t_ 33)) 0]) (.seq (.block 0 (.seq (R_ 0 [O_ 40 (.mv (t_ 11)) 0,O_ 41 (.bin .eql (t_ 40) (.const (.int .i64 (-1)))) 0,O_ 39 (.mv (t_ 41)) 0]) (.cond (t_ 39) (.seq (R_ 0 [O_ 42 (.mv (t_ 0)) 0,O_ 43 (.lens (t_ 42)) 0,O_ 44 (.bin .eql (t_ 43) (i_ 16)) 0]) (.cond (t_ 44) (.seq (R_ 0 [O_ 45 (.mv (t_ 8)) 0,O_ 6 (.mv (t_ 45)) 0,O_ 7 (.mv (i_ 7)) 0]) .ret) .skip)) (.seq (.reg 0 [O_ 47 (.ld 4 true (t_ 5)) 0,O_ 48 (.mv (t_ 0)) 0,O_ 49 (.mv (t_ 11)) 0,O_ 50 (.ixs 5 (t_ 48) (t_ 49)) 0,O_ 51 (.fa 1 (t_ 50)) 0,O_ 52 (.ld 4 true (t_ 51)) 0,O_ 53 (.cl 61 [(t_ 47),(t_ 52)]) 0,O_ 54 (.un .not (t_ 53)) 0,O_ 46 (.mv (t_ 54)) 0] (some [[],[],[],[2,1],[1,2,3],[3,2,1,4],[4,1,2,3,5,0],[0,5,3,2,1,4,6],[6,4,1,2,3,5,0,7]]) 0 []) (.cond (t_ 46) (.seq (R_ 0 [O_ 55 (.mv (t_ 8)) 0,O_ 6 (.mv (t_ 55)) 0,O_ 7 (.mv (i_ 0)) 0]) .ret) (.seq (.reg 0 [O_ 57 (.fa 0 (t_ 5)) 0,O_ 58 (.ld 1 false (t_ 57)) 0,O_ 59 (.mv (t_ 0)) 0,O_ 60 (.mv (t_ 11)) 0,O_ 61 (.ixs 5 (t_ 59) (t_ 60)) 0,O_ 62 (.fa 1 (t_ 61)) 0,O_ 63 (.fa 0 (t_ 62)) 0,O_ 64 (.ld 1 false (t_ 63)) 0,O_ 65 (.binb false (t_ 58) (t_ 64)) 0,O_ 56 (.mv (t_ 65)) 0] (some [[],[0],[],[],[3,2],[2,3,4],[4,3,2,5],[5,2,3,4,6],[6,4,3,2,5,7,0,1],[1,0,7,5,2,3,4,6,8]]) 0 []) (.cond (t_ 56) (.seq (R_ 0 [O_ 66 (.mv (t_ 8)) 0,O_ 67 (.mv (t_ 11)) 0,O_ 68 (.ld 4 true (t_ 5)) 0,O_ 69 (.ixs 5 (t_ 66) (t_ 67)) 0,O_ 70 (.fa 1 (t_ 69)) 0,U_ (.st 4 (t_ 70) (t_ 68)) 0]) (.seq (R_ 0 [O_ 71 (.mv (t_ 8)) 0,O_ 6 (.mv (t_ 71)) 0,O_ 7 (.mv (i_ 0)) 0]) .ret)) (R_ 0 [O_ 34 (.mv (t_ 8)) 0,O_ 35 (.mv (t_ 11)) 0,O_ 36 (.mv (t_ 11)) 0,O_ 37 (.bin .add (t_ 36) (i_ 1)) 0,O_ 38 (.cl 62 [(t_ 34),(t_ 35),(t_ 37)]) 0,O_ 8 (.mv (t_ 38)) 0])))))))) (.seq (R_ 0 [O_ 72 (.mv (t_ 8)) 0,O_ 73 (.lens (t_ 72)) 0,O_ 12 (.mv (t_ 73)) 0]) (.seq (.seq (R_ 0 [O_ 74 (.fa 0 (t_ 5)) 0,O_ 75 (.ld 1 false (t_ 74)) 0,O_ 76 (.un .not (t_ 75)) 0]) (.cond (t_ 76) (R_ 0 [O_ 77 (.mv (t_ 8)) 0,O_ 78 (.cl 63 [(t_ 77)]) 0,O_ 12 (.mv (t_ 78)) 0]) .skip)) (.seq (R_ 1 [O_ 79 (.mv (t_ 8)) 0,O_ 80 (.mv (t_ 12)) 0,O_ 81 (.mv (t_ 1)) 0,O_ 82 (.ld 4 true (t_ 5)) 0,O_ 83 (.bd [(.lit (.string ⟨#[]⟩)),(.lit (.bool false)),(.lit (.int .i64 0)),(.lit (.int .i64 0)),(.lit (.int .i64 0))] [(0,1,(t_ 81)),(1,4,(t_ 82))]) 0,O_ 84 (.bs 5 1 [(.lit (.string ⟨#[]⟩)),(.lit (.bool false)),(.lit (.int .i64 0)),(.lit (.int .i64 0)),(.lit (.int .i64 0))] [(0,(t_ 83))]) 0,O_ 85 (.cl 64 [(t_ 79),(t_ 80),(t_ 84)]) 1,O_ 6 (.mv (t_ 85)) 1,O_ 7 (.mv (i_ 0)) 1]) .ret))))))))))
theorem gc37_ok:compF Tryz.prog Tryz.f37=some (gc37.er,86,[.tmp 6,.tmp 7]):=by unfold gc37;kernel_rfl
theorem p_mail_Put_v {u1:Bool} (a0:List MailEntry) (a1:ByteArray) (a2:PresPres):CallsO Tryz.prog 37 [.sl (List.map MailEntry.v a0) u1,.s a1,.agg [.b a2.On,.i a2.Show,.i a2.Prio,.i a2.Seq]] (fun r:(List MailEntry) × Int=>.tup [(fun l:List MailEntry=>V.sl (l.map MailEntry.v) false) r.1,V.i r.2]) (p_mail_Put a0 a1 a2):=by
 refine callsO_comp mix Tryz.func37 gc37_ok fun r H=>?_
 rw [p_mail_Put] at H
 conv=>whnf
 refine clone_c (f:=MailEntry.v) (id:=1) cloR58_v H (fun _=>rfl) (fun _=>rfl) rfl (fun H=>?_) (fun l1 H=>?_)
 ·conv=>whnf
  refine ask_c (p_mail_Check_v _) H rfl rfl (fun v27 H=>?_);conv=>whnf
  refine tst_c H (fun b28 H=>?_) (fun b28 H=>?_)
  ·conv=>whnf
   refine finR_c (enc:=(fun r:(List MailEntry) × Int=>.tup [(fun l:List MailEntry=>V.sl (l.map MailEntry.v) false) r.1,V.i r.2])) H ?_;conv=>whnf
   exact ⟨_,.tup (.cons (.c (.slw)) (.cons (.c (.id rfl)) (.nil)))⟩
  conv=>whnf
  refine ask_c (p_mail_key_v _) H rfl rfl (fun v29 H=>?_);conv=>whnf
  refine Tst.not ?_
  refine tst_d H (fun b30 H=>?_) (fun b30 H=>?_)
  ·conv=>whnf
   refine finR_c (enc:=(fun r:(List MailEntry) × Int=>.tup [(fun l:List MailEntry=>V.sl (l.map MailEntry.v) false) r.1,V.i r.2])) H ?_;conv=>whnf
   exact ⟨_,.tup (.cons (.c (.slw)) (.cons (.c (.id rfl)) (.nil)))⟩
  conv=>whnf
  refine ask_c (p_pres_Check_v _) H rfl rfl (fun v31 H=>?_);conv=>whnf
  refine tst_c H (fun b32 H=>?_) (fun b32 H=>?_)
  ·conv=>whnf
   refine finR_c (enc:=(fun r:(List MailEntry) × Int=>.tup [(fun l:List MailEntry=>V.sl (l.map MailEntry.v) false) r.1,V.i r.2])) H ?_;conv=>whnf
   exact ⟨_,.tup (.cons (.c (.slw)) (.cons (.c (.id rfl)) (.nil)))⟩
  conv=>whnf
  refine ask_c (p_mail_Find_v _ _) H rfl rfl (fun v33 H=>?_);conv=>whnf
  refine tst_d H (fun b34 H=>?_) (fun b34 H=>?_)
  ·conv=>whnf
   refine ixs_c (f:=MailEntry.v) H (fun _=>rfl) (fun x40 H=>?_);conv=>whnf
   refine lq_ ?_;conv=>whnf
   refine ask_c (p_pres_Newer_v _ _) H rfl rfl (fun v41 H=>?_);conv=>whnf
   refine FootQ.mk ⟨rfl,?_⟩;conv=>whnf
   refine Tst.not ?_
   refine tst_d H (fun b42 H=>?_) (fun b42 H=>?_)
   ·conv=>whnf
    refine finR_c (enc:=(fun r:(List MailEntry) × Int=>.tup [(fun l:List MailEntry=>V.sl (l.map MailEntry.v) false) r.1,V.i r.2])) H ?_;conv=>whnf
    exact ⟨_,.tup (.cons (.c (.slw)) (.cons (.c (.id rfl)) (.nil)))⟩
   conv=>whnf
   refine ixs_c (f:=MailEntry.v) H (fun _=>rfl) (fun x43 H=>?_);conv=>whnf
   refine lq_ ?_;conv=>whnf
   refine lq_ ?_;conv=>whnf
   refine FootQ.mk ⟨rfl,?_⟩;conv=>whnf
   refine tst_c H (fun b44 H=>?_) (fun b44 H=>?_)
   ·conv=>whnf
    exact nil_at H
   conv=>whnf
   refine Ari.w ?_;conv=>whnf
   exact delN_c H
  conv=>whnf
  refine LenQ.M ?_;conv=>whnf
  refine tst_c H (fun b35 H=>?_) (fun b35 H=>?_)
  ·conv=>whnf
   refine finR_c (enc:=(fun r:(List MailEntry) × Int=>.tup [(fun l:List MailEntry=>V.sl (l.map MailEntry.v) false) r.1,V.i r.2])) H ?_;conv=>whnf
   exact ⟨_,.tup (.cons (.c (.slw)) (.cons (.c (.id rfl)) (.nil)))⟩
  conv=>whnf
  refine LenQ.ok ?_;conv=>whnf
  refine Tst.not ?_
  refine tst_c H (fun b36 H=>?_) (fun b36 H=>?_)
  ·conv=>whnf
   refine askF_c (insN_v (f:=MailEntry.v) insR64_v (by decide) (fun _=>rfl) (fun _=>rfl) (fun _=>rfl) _ _ _) H (.cons (.c (.id rfl)) (.cons (.c (.id rfl)) (.cons (.c (fzown (f:=MailEntry.v) (l:=[(MailEntry.mk a1 a2)]) rfl rfl (fun _=>rfl) (fun _=>rfl))) .nil))) (fun v37 H=>?_);conv=>whnf
   exact fin0_c (enc:=(fun r:(List MailEntry) × Int=>.tup [(fun l:List MailEntry=>V.sl (l.map MailEntry.v) false) r.1,V.i r.2])) H (.inr rfl) (.cons (.tmp rfl) (.cons (.tmp rfl) (.nil))) rfl rfl
  conv=>whnf
  refine ask_c (p_mail_Off_v _) H rfl rfl (fun v38 H=>?_);conv=>whnf
  refine askF_c (insN_v (f:=MailEntry.v) insR64_v (by decide) (fun _=>rfl) (fun _=>rfl) (fun _=>rfl) _ _ _) H (.cons (.c (.id rfl)) (.cons (.c (.id rfl)) (.cons (.c (fzown (f:=MailEntry.v) (l:=[(MailEntry.mk a1 a2)]) rfl rfl (fun _=>rfl) (fun _=>rfl))) .nil))) (fun v39 H=>?_);conv=>whnf
  exact fin0_c (enc:=(fun r:(List MailEntry) × Int=>.tup [(fun l:List MailEntry=>V.sl (l.map MailEntry.v) false) r.1,V.i r.2])) H (.inr rfl) (.cons (.tmp rfl) (.cons (.tmp rfl) (.nil))) rfl rfl
 conv=>whnf
 refine ask_c (p_mail_Check_v _) H rfl rfl (fun v2 H=>?_);conv=>whnf
 refine tst_c H (fun b3 H=>?_) (fun b3 H=>?_)
 ·conv=>whnf
  refine finRz_c (enc:=(fun r:(List MailEntry) × Int=>.tup [(fun l:List MailEntry=>V.sl (l.map MailEntry.v) false) r.1,V.i r.2])) [1] H ?_;conv=>whnf
  refine ⟨Nat.zero_le _,?_⟩;conv=>whnf
  exact ⟨_,.tup (.cons (.c (fzown (f:=MailEntry.v) (l:=l1) rfl rfl (fun _=>rfl) (fun _=>rfl))) (.cons (.c (.id rfl)) (.nil)))⟩
 conv=>whnf
 refine ask_c (p_mail_key_v _) H rfl rfl (fun v4 H=>?_);conv=>whnf
 refine Tst.not ?_
 refine tst_d H (fun b5 H=>?_) (fun b5 H=>?_)
 ·conv=>whnf
  refine finRz_c (enc:=(fun r:(List MailEntry) × Int=>.tup [(fun l:List MailEntry=>V.sl (l.map MailEntry.v) false) r.1,V.i r.2])) [1] H ?_;conv=>whnf
  refine ⟨Nat.zero_le _,?_⟩;conv=>whnf
  exact ⟨_,.tup (.cons (.c (fzown (f:=MailEntry.v) (l:=l1) rfl rfl (fun _=>rfl) (fun _=>rfl))) (.cons (.c (.id rfl)) (.nil)))⟩
 conv=>whnf
 refine ask_c (p_pres_Check_v _) H rfl rfl (fun v6 H=>?_);conv=>whnf
 refine tst_c H (fun b7 H=>?_) (fun b7 H=>?_)
 ·conv=>whnf
  refine finRz_c (enc:=(fun r:(List MailEntry) × Int=>.tup [(fun l:List MailEntry=>V.sl (l.map MailEntry.v) false) r.1,V.i r.2])) [1] H ?_;conv=>whnf
  refine ⟨Nat.zero_le _,?_⟩;conv=>whnf
  exact ⟨_,.tup (.cons (.c (fzown (f:=MailEntry.v) (l:=l1) rfl rfl (fun _=>rfl) (fun _=>rfl))) (.cons (.c (.id rfl)) (.nil)))⟩
 conv=>whnf
 refine ask_c (p_mail_Find_v _ _) H rfl rfl (fun v8 H=>?_);conv=>whnf
 refine tst_c H (fun b9 H=>?_) (fun b9 H=>?_)
 ·conv=>whnf
  refine LenQ.M ?_;conv=>whnf
  refine tst_c H (fun b10 H=>?_) (fun b10 H=>?_)
  ·conv=>whnf
   refine finRz_c (enc:=(fun r:(List MailEntry) × Int=>.tup [(fun l:List MailEntry=>V.sl (l.map MailEntry.v) false) r.1,V.i r.2])) [1] H ?_;conv=>whnf
   refine ⟨Nat.zero_le _,?_⟩;conv=>whnf
   exact ⟨_,.tup (.cons (.c (fzown (f:=MailEntry.v) (l:=l1) rfl rfl (fun _=>rfl) (fun _=>rfl))) (.cons (.c (.id rfl)) (.nil)))⟩
  conv=>whnf
  refine Tst.not ?_
  refine tst_c H (fun b11 H=>?_) (fun b11 H=>?_)
  ·conv=>whnf
   refine insO_c (f:=MailEntry.v) insR64_v H (by decide) (fun _=>rfl) (fun _=>rfl) (fun _=>rfl) rfl rfl rfl (fun v12 H=>?_);conv=>whnf
   exact fin0_c (enc:=(fun r:(List MailEntry) × Int=>.tup [(fun l:List MailEntry=>V.sl (l.map MailEntry.v) false) r.1,V.i r.2])) H (.inr rfl) (.cons (.tmp rfl) (.cons (.tmp rfl) (.nil))) rfl rfl
  conv=>whnf
  refine askT_c [1] (p_mail_Off_v _) H (.cons (.c (fzown (f:=MailEntry.v) (l:=l1) rfl rfl (fun _=>rfl) (fun _=>rfl))) (.nil)) (fun _=>rfl) (fun v13 H=>?_);conv=>whnf
  refine insO_c (f:=MailEntry.v) insR64_v H (by decide) (fun _=>rfl) (fun _=>rfl) (fun _=>rfl) rfl rfl rfl (fun v14 H=>?_);conv=>whnf
  exact fin0_c (enc:=(fun r:(List MailEntry) × Int=>.tup [(fun l:List MailEntry=>V.sl (l.map MailEntry.v) false) r.1,V.i r.2])) H (.inr rfl) (.cons (.tmp rfl) (.cons (.tmp rfl) (.nil))) rfl rfl
 conv=>whnf
 refine ixs_c (f:=MailEntry.v) H (fun _=>rfl) (fun x15 H=>?_);conv=>whnf
 refine lq_ ?_;conv=>whnf
 refine ask_c (p_pres_Newer_v _ _) H rfl rfl (fun v16 H=>?_);conv=>whnf
 refine FootQ.mk ⟨rfl,?_⟩;conv=>whnf
 refine Tst.not ?_
 refine tst_d H (fun b17 H=>?_) (fun b17 H=>?_)
 ·conv=>whnf
  refine finRz_c (enc:=(fun r:(List MailEntry) × Int=>.tup [(fun l:List MailEntry=>V.sl (l.map MailEntry.v) false) r.1,V.i r.2])) [1] H ?_;conv=>whnf
  refine ⟨Nat.zero_le _,?_⟩;conv=>whnf
  exact ⟨_,.tup (.cons (.c (fzown (f:=MailEntry.v) (l:=l1) rfl rfl (fun _=>rfl) (fun _=>rfl))) (.cons (.c (.id rfl)) (.nil)))⟩
 conv=>whnf
 refine ixs_c (f:=MailEntry.v) H (fun _=>rfl) (fun x18 H=>?_);conv=>whnf
 refine lq_ ?_;conv=>whnf
 refine lq_ ?_;conv=>whnf
 refine FootQ.mk ⟨rfl,?_⟩;conv=>whnf
 refine tst_c H (fun b19 H=>?_) (fun b19 H=>?_)
 ·conv=>whnf
  refine ⟨rfl,ixo_c H (fun x20 h21 H=>?_)⟩;conv=>whnf
  refine ⟨Nat.zero_le _,sto_c (f:=MailEntry.v) (es:=5) h21 (x':=(MailEntry.mk x20.Key a2)) (fun _=>rfl) 1 (by omega) (Nat.le_of_ble_eq_true rfl) (by rfl) ?_⟩;conv=>whnf
  refine finRz_c (enc:=(fun r:(List MailEntry) × Int=>.tup [(fun l:List MailEntry=>V.sl (l.map MailEntry.v) false) r.1,V.i r.2])) [1] H ?_;conv=>whnf
  refine ⟨Nat.zero_le _,?_⟩;conv=>whnf
  exact ⟨_,.tup (.cons (.c (fzc_made (f:=MailEntry.v) (l:=(List.set l1 (Int.toNat v8) (MailEntry.mk x20.Key a2))) rfl rfl rfl (by simp) (fun _=>rfl) (fun _=>rfl))) (.cons (.c (.id rfl)) (.nil)))⟩
 conv=>whnf
 refine Ari.w ?_;conv=>whnf
 refine delO_c (f:=MailEntry.v) delR62_v H (fun _=>rfl) (fun _=>rfl) rfl rfl (fun v22 H=>?_);conv=>whnf
 refine Tst.not ?_
 refine tst_c H (fun b23 H=>?_) (fun b23 H=>?_)
 ·conv=>whnf
  refine insO_c (f:=MailEntry.v) insR64_v H (by decide) (fun _=>rfl) (fun _=>rfl) (fun _=>rfl) rfl rfl rfl (fun v24 H=>?_);conv=>whnf
  exact fin0_c (enc:=(fun r:(List MailEntry) × Int=>.tup [(fun l:List MailEntry=>V.sl (l.map MailEntry.v) false) r.1,V.i r.2])) H (.inr rfl) (.cons (.tmp rfl) (.cons (.tmp rfl) (.nil))) rfl rfl
 conv=>whnf
 refine askT_c [1] (p_mail_Off_v _) H (.cons (.c (fzown (f:=MailEntry.v) (l:=v22) rfl rfl (fun _=>rfl) (fun _=>rfl))) (.nil)) (fun _=>rfl) (fun v25 H=>?_);conv=>whnf
 refine insO_c (f:=MailEntry.v) insR64_v H (by decide) (fun _=>rfl) (fun _=>rfl) (fun _=>rfl) rfl rfl rfl (fun v26 H=>?_);conv=>whnf
 exact fin0_c (enc:=(fun r:(List MailEntry) × Int=>.tup [(fun l:List MailEntry=>V.sl (l.map MailEntry.v) false) r.1,V.i r.2])) H (.inr rfl) (.cons (.tmp rfl) (.cons (.tmp rfl) (.nil))) rfl rfl
def gc38:BCode:=(.seq (R_ 2 [O_ 1 (.bx (t_ 0)) 0,O_ 2 (.al (.agg [(.sl [] true),(.lit (.bool false)),(.lit (.bool false)),(.lit (.string ⟨#[]⟩)),(.lit (.int .i64 0)),(.lit (.int .i64 0)),(.lit (.int .i64 0))])) 1]) (.seq (.reg 0 [O_ 3 (.cl 65 []) 0,O_ 4 (.fa 5 (t_ 1)) 0,O_ 5 (.ld 1 false (t_ 4)) 0,O_ 6 (.fa 6 (t_ 1)) 0,O_ 7 (.ld 1 false (t_ 6)) 0,O_ 8 (.bd [(.sl [] true),(.lit (.bool false)),(.lit (.bool false)),(.lit (.string ⟨#[]⟩)),(.lit (.int .i64 0)),(.lit (.int .i64 0)),(.lit (.int .i64 0))] [(1,4,(t_ 3)),(5,1,(t_ 5)),(6,1,(t_ 7))]) 0,U_ (.st 7 (t_ 2) (t_ 8)) 0] (some [[],[],[1],[],[3],[3,4,1,2,0],[0,2,1,4,3,5]]) 0 []) .ret))
theorem gc38_ok:compF Tryz.prog Tryz.f38=some (gc38.er,9,[.cell 2 7 true]):=by unfold gc38;kernel_rfl
theorem p_outq_State_anew_v {u1:Bool} (a0:Ref27State):CallsO Tryz.prog 38 [.agg [.sl (List.map MailEntry.v a0.Mail) u1,.b a0.Snap.On,.b a0.Snap.Begun,.s a0.Snap.After,.i a0.Snap.Told,.i a0.Sent,.i a0.Lost]] Ref27State.v (p_outq_State_anew a0):=by
 refine callsO_comp mix Tryz.func38 gc38_ok fun r H=>?_
 rw [p_outq_State_anew] at H
 conv=>whnf
 refine ask_c (p_snap_Begin_v) H rfl rfl (fun v1 H=>?_);conv=>whnf
 refine lq_ ?_;conv=>whnf
 refine FootQ.mk ⟨rfl,?_⟩;conv=>whnf
 refine finR_c (enc:=Ref27State.v) H ?_;conv=>whnf
 exact ⟨_,.v (fzagg (.cons (.slw) (.cons (.id rfl) (.cons (.id rfl) (.cons (.id rfl) (.cons (.id rfl) (.cons (.id rfl) (.cons (.id rfl) (.nil)))))))) rfl)⟩
def gc11:BCode:=(.seq (R_ 3 [O_ 3 (.bx (t_ 0)) 0,O_ 5 (.bx (t_ 2)) 1,O_ 6 (.al (.agg [(.sl [] true),(.lit (.bool false)),(.lit (.bool false)),(.lit (.string ⟨#[]⟩)),(.lit (.int .i64 0)),(.lit (.int .i64 0)),(.lit (.int .i64 0))])) 2]) (.seq (.seq (R_ 0 [O_ 9 (.ld 7 true (t_ 3)) 0,O_ 10 (.cl 17 [(t_ 9)]) 0,O_ 11 (.bin .neq (t_ 10) (i_ 0)) 0,O_ 12 (.mv (t_ 11)) 0,⟨(some 13),.fa 1 (t_ 3),(some (12,false)),0⟩,⟨(some 14),.ld 4 true (t_ 13),(some (12,false)),0⟩,⟨(some 15),.mv (t_ 1),(some (12,false)),0⟩,⟨(some 16),.cl 36 [(t_ 14),(t_ 15)],(some (12,false)),0⟩,O_ 17 (.pick (t_ 12) (b_ true) (t_ 16)) 0]) (.cond (t_ 17) (.seq (R_ 0 [O_ 18 (.ld 7 true (t_ 3)) 0,U_ (.st 7 (t_ 6) (t_ 18)) 0]) .ret) .skip)) (.seq (R_ 0 [O_ 20 (.fa 0 (t_ 3)) 0,O_ 21 (.ld 1 false (t_ 20)) 0,O_ 22 (.mv (t_ 1)) 0,O_ 23 (.ld 4 true (t_ 5)) 0,O_ 24 (.cl 37 [(t_ 21),(t_ 22),(t_ 23)]) 0,O_ 19 (.mv (t_ 24)) 0,O_ 25 (.ex (t_ 19) 0) 0,O_ 26 (.ex (t_ 19) 1) 0,O_ 7 (.mv (t_ 25)) 0,O_ 8 (.mv (t_ 26)) 0]) (.seq (.seq (R_ 0 [O_ 27 (.mv (t_ 8)) 0]) (.block 0 (.seq (R_ 0 [O_ 29 (.bin .eql (t_ 27) (i_ 0)) 0,O_ 28 (.mv (t_ 29)) 0]) (.cond (t_ 28) (R_ 0 [O_ 30 (.mv (t_ 7)) 0,O_ 31 (.fa 0 (t_ 3)) 0,U_ (.st 1 (t_ 31) (t_ 30)) 0]) (.seq (R_ 0 [O_ 33 (.bin .eql (t_ 27) (i_ 7)) 0,O_ 32 (.mv (t_ 33)) 0]) (.cond (t_ 32) (.seq (R_ 0 [O_ 34 (.ld 7 true (t_ 3)) 0,O_ 35 (.cl 38 [(t_ 34)]) 0,U_ (.st 7 (t_ 3) (t_ 35)) 0]) (R_ 0 [O_ 36 (.fa 6 (t_ 3)) 0,O_ 37 (.ld 1 false (t_ 36)) 0,O_ 38 (.bin .add (t_ 37) (i_ 1)) 0,O_ 39 (.mn false (t_ 38) (i_ 1099511627776)) 0,O_ 40 (.fa 6 (t_ 3)) 0,U_ (.st 1 (t_ 40) (t_ 39)) 0])) .skip)))))) (.seq (R_ 0 [O_ 41 (.ld 7 true (t_ 3)) 0,U_ (.st 7 (t_ 6) (t_ 41)) 0]) .ret)))))
theorem gc11_ok:compF Tryz.prog Tryz.f11=some (gc11.er,42,[.cell 6 7 true]):=by unfold gc11;kernel_rfl
theorem p_outq_Add_v {u1:Bool} (a0:Ref27State) (a1:ByteArray) (a2:PresPres):CallsO Tryz.prog 11 [.agg [.sl (List.map MailEntry.v a0.Mail) u1,.b a0.Snap.On,.b a0.Snap.Begun,.s a0.Snap.After,.i a0.Snap.Told,.i a0.Sent,.i a0.Lost],.s a1,.agg [.b a2.On,.i a2.Show,.i a2.Prio,.i a2.Seq]] Ref27State.v (p_outq_Add a0 a1 a2):=by
 refine callsO_comp mix Tryz.func11 gc11_ok fun r H=>?_
 rw [p_outq_Add] at H
 conv=>whnf
 refine ask_c (p_outq_Check_v _) H rfl rfl (fun v1 H=>?_);conv=>whnf
 refine tst_c H (fun b2 H=>?_) (fun b2 H=>?_)
 ·conv=>whnf
  iterate 5 (refine Tst.T ?_;conv=>whnf)
  refine lq_ ?_;conv=>whnf
  refine finR_c (enc:=Ref27State.v) H ?_;conv=>whnf
  exact ⟨_,.v (fzagg (.cons (.slw) (.cons (.id rfl) (.cons (.id rfl) (.cons (.id rfl) (.cons (.id rfl) (.cons (.id rfl) (.cons (.id rfl) (.nil)))))))) rfl)⟩
 conv=>whnf
 iterate 3 (refine Tst.F ?_;conv=>whnf)
 refine ask_c (p_snap_Covers_v _ _) H rfl rfl (fun v3 H=>?_);conv=>whnf
 refine Tst.F ?_;conv=>whnf
 refine tst_c H (fun b4 H=>?_) (fun b4 H=>?_)
 ·conv=>whnf
  refine lq_ ?_;conv=>whnf
  refine finR_c (enc:=Ref27State.v) H ?_;conv=>whnf
  exact ⟨_,.v (fzagg (.cons (.slw) (.cons (.id rfl) (.cons (.id rfl) (.cons (.id rfl) (.cons (.id rfl) (.cons (.id rfl) (.cons (.id rfl) (.nil)))))))) rfl)⟩
 conv=>whnf
 refine ask_c (p_mail_Put_v _ _ _) H rfl rfl (fun v5 H=>?_);conv=>whnf
 refine tst_c H (fun b6 H=>?_) (fun b6 H=>?_)
 ·conv=>whnf
  refine lq_ ?_;conv=>whnf
  refine lq_ ?_;conv=>whnf
  exact fin0_c (enc:=Ref27State.v) H (.inr rfl) (.cons (.cell rfl rfl (Nat.le_of_ble_eq_true rfl)) (.nil)) rfl rfl
 conv=>whnf
 refine tst_d H (fun b7 H=>?_) (fun b7 H=>?_)
 ·conv=>whnf
  refine lq_ ?_;conv=>whnf
  refine finR_c (enc:=Ref27State.v) H ?_;conv=>whnf
  exact ⟨_,.v (fzagg (.cons (.slw) (.cons (.id rfl) (.cons (.id rfl) (.cons (.id rfl) (.cons (.id rfl) (.cons (.id rfl) (.cons (.id rfl) (.nil)))))))) rfl)⟩
 conv=>whnf
 refine ask_c (p_outq_State_anew_v _) H rfl rfl (fun v8 H=>?_);conv=>whnf
 refine lq_ ?_;conv=>whnf
 refine Ari.w ?_;conv=>whnf
 refine lq_ ?_;conv=>whnf
 refine lq_ ?_;conv=>whnf
 exact fin0_c (enc:=Ref27State.v) H (.inr rfl) (.cons (.cell rfl rfl (Nat.le_of_ble_eq_true rfl)) (.nil)) rfl rfl
def gc13:BCode:=(.seq (R_ 2 [O_ 1 (.bx (t_ 0)) 0,O_ 2 (.al (.agg [(.sl [] true),(.lit (.bool false)),(.lit (.bool false)),(.lit (.string ⟨#[]⟩)),(.lit (.int .i64 0)),(.lit (.int .i64 0)),(.lit (.int .i64 0))])) 1]) (.seq (.seq (R_ 0 [O_ 3 (.ld 7 true (t_ 1)) 0,O_ 4 (.cl 17 [(t_ 3)]) 0,O_ 5 (.bin .neq (t_ 4) (i_ 0)) 0]) (.cond (t_ 5) (.seq (R_ 0 [O_ 6 (.ld 7 true (t_ 1)) 0,U_ (.st 7 (t_ 2) (t_ 6)) 0]) .ret) .skip)) (.seq (R_ 0 [O_ 7 (.ld 7 true (t_ 1)) 0,O_ 8 (.cl 38 [(t_ 7)]) 0,U_ (.st 7 (t_ 2) (t_ 8)) 0]) .ret)))
theorem gc13_ok:compF Tryz.prog Tryz.f13=some (gc13.er,9,[.cell 2 7 true]):=by unfold gc13;kernel_rfl
theorem p_outq_Begin_v {u1:Bool} (a0:Ref27State):CallsO Tryz.prog 13 [.agg [.sl (List.map MailEntry.v a0.Mail) u1,.b a0.Snap.On,.b a0.Snap.Begun,.s a0.Snap.After,.i a0.Snap.Told,.i a0.Sent,.i a0.Lost]] Ref27State.v (p_outq_Begin a0):=by
 refine callsO_comp mix Tryz.func13 gc13_ok fun r H=>?_
 rw [p_outq_Begin] at H
 conv=>whnf
 refine ask_c (p_outq_Check_v _) H rfl rfl (fun v1 H=>?_);conv=>whnf
 refine tst_d H (fun b2 H=>?_) (fun b2 H=>?_)
 ·conv=>whnf
  refine ask_c (p_outq_State_anew_v _) H rfl rfl (fun v3 H=>?_);conv=>whnf
  refine lq_ ?_;conv=>whnf
  exact fin0_c (enc:=Ref27State.v) H (.inr rfl) (.cons (.cell rfl rfl (Nat.le_of_ble_eq_true rfl)) (.nil)) rfl rfl
 conv=>whnf
 refine lq_ ?_;conv=>whnf
 refine finR_c (enc:=Ref27State.v) H ?_;conv=>whnf
 exact ⟨_,.v (fzagg (.cons (.slw) (.cons (.id rfl) (.cons (.id rfl) (.cons (.id rfl) (.cons (.id rfl) (.cons (.id rfl) (.cons (.id rfl) (.nil)))))))) rfl)⟩
def gc73:BCode:=(.seq (R_ 1 [O_ 1 (.bx (t_ 0)) 0,O_ 2 (.mv (.const (.string ⟨#[]⟩))) 1]) (.seq (R_ 0 [O_ 7 (.fa 0 (t_ 1)) 0,O_ 8 (.ld 1 false (t_ 7)) 0,O_ 9 (.cl 90 [(t_ 8)]) 0,O_ 6 (.mv (t_ 9)) 0,O_ 10 (.ex (t_ 6) 0) 0,O_ 11 (.ex (t_ 6) 1) 0,O_ 12 (.ex (t_ 6) 2) 0,O_ 3 (.mv (t_ 10)) 0,O_ 4 (.mv (t_ 11)) 0,O_ 5 (.mv (t_ 12)) 0]) (.seq (R_ 0 [O_ 13 (.mv (t_ 3)) 0,O_ 2 (.mv (t_ 13)) 0]) .ret)))
theorem gc73_ok:compF Tryz.prog Tryz.f73=some (gc73.er,14,[.tmp 2]):=by unfold gc73;kernel_rfl
theorem p_mail_Entry_user_v (a0:MailEntry):CallsO Tryz.prog 73 [.agg [.s a0.Key,.b a0.P.On,.i a0.P.Show,.i a0.P.Prio,.i a0.P.Seq]] V.s (p_mail_Entry_user a0):=by
 refine callsO_comp mix Tryz.func73 gc73_ok fun r H=>?_
 rw [p_mail_Entry_user] at H
 conv=>whnf
 refine ask_c (p_pres_Split_v _) H rfl rfl (fun v1 H=>?_);conv=>whnf
 exact fin0_c (enc:=V.s) H (.inr rfl) (.cons (.tmp rfl) (.nil)) rfl rfl
def gc72:BCode:=(.seq (R_ 1 [O_ 2 (.bx (t_ 0)) 0,O_ 3 (.mv (b_ false)) 1]) (.seq (.reg 0 [O_ 4 (.ld 5 true (t_ 2)) 0,O_ 5 (.cl 73 [(t_ 4)]) 0,O_ 6 (.ld 1 false (t_ 1)) 0,O_ 7 (.bin .eql (t_ 5) (t_ 6)) 0,O_ 3 (.mv (t_ 7)) 0] (some [[],[0],[],[2,0,1],[1,0,2,3]]) 0 []) .ret))
theorem gc72_ok:compF Tryz.prog Tryz.f72=some (gc72.er,8,[.tmp 3]):=by unfold gc72;kernel_rfl
theorem p_mail_Drop_1_v (a0:MailEntry) (c0:ByteArray):CallsO Tryz.prog 72 [.agg [.s a0.Key,.b a0.P.On,.i a0.P.Show,.i a0.P.Prio,.i a0.P.Seq],.eptr [.s c0]] V.b (p_mail_Drop_1 a0 c0):=by
 refine callsO_comp mix Tryz.func72 gc72_ok fun r H=>?_
 rw [p_mail_Drop_1] at H
 conv=>whnf
 refine ask_c (p_mail_Entry_user_v _) H rfl rfl (fun v1 H=>?_);conv=>whnf
 refine FootQ.mk ⟨rfl,?_⟩;conv=>whnf
 exact fb_ H
end Go.Proofs.YthnihifblmnkdaaGreat

namespace Go.Proofs.YthnihifblmnkdaaGreat
open Go.RowKit
set_option maxRecDepth 100000
set_option maxHeartbeats 4000000
def gc41:BCode:=(.seq (R_ 1 [O_ 3 (.bx (t_ 1)) 0,O_ 4 (.mv (.const (.slice none 0 0))) 1,O_ 5 (.mv (i_ 0)) 1]) (.seq (.reg 0 [O_ 7 (.mv (t_ 0)) 0,O_ 8 (.cl 58 [(t_ 7)]) 0,O_ 6 (.mv (t_ 8)) 0] none 1 []) (.seq (.seq (R_ 0 [O_ 9 (.mv (t_ 0)) 0,O_ 10 (.cl 43 [(t_ 9)]) 0,O_ 11 (.bin .neq (t_ 10) (i_ 0)) 0]) (.cond (t_ 11) (.seq (R_ 0 [O_ 12 (.mv (t_ 6)) 0,O_ 4 (.mv (t_ 12)) 0,O_ 5 (.mv (i_ 0)) 0]) .ret) .skip)) (.seq (.reg 0 [O_ 13 (.mv (t_ 6)) 0,O_ 14 (.mf (.func 72) [(t_ 3)]) 0,O_ 15 (.cl 71 [(t_ 13),(t_ 14)]) 0,O_ 6 (.mv (t_ 15)) 0] none 0 [3]) (.seq (R_ 0 [O_ 16 (.mv (t_ 6)) 0,O_ 17 (.mv (t_ 0)) 0,O_ 18 (.lens (t_ 17)) 0,O_ 19 (.mv (t_ 6)) 0,O_ 20 (.lens (t_ 19)) 0,O_ 21 (.bin .sub (t_ 18) (t_ 20)) 0,O_ 4 (.mv (t_ 16)) 0,O_ 5 (.mv (t_ 21)) 0]) .ret)))))
theorem gc41_ok:compF Tryz.prog Tryz.f41=some (gc41.er,22,[.tmp 4,.tmp 5]):=by unfold gc41;kernel_rfl
theorem p_mail_Drop_v {u1:Bool} (a0:List MailEntry) (a1:ByteArray):CallsO Tryz.prog 41 [.sl (List.map MailEntry.v a0) u1,.s a1] (fun r:(List MailEntry) × Int=>.tup [(fun l:List MailEntry=>V.sl (l.map MailEntry.v) false) r.1,V.i r.2]) (p_mail_Drop a0 a1):=by
 refine callsO_comp mix Tryz.func41 gc41_ok fun r H=>?_
 rw [p_mail_Drop] at H
 conv=>whnf
 refine clone_c (f:=MailEntry.v) (id:=1) cloR58_v H (fun _=>rfl) (fun _=>rfl) rfl (fun H=>?_) (fun l1 H=>?_)
 ·conv=>whnf
  refine ask_c (p_mail_Check_v _) H rfl rfl (fun v5 H=>?_);conv=>whnf
  refine tst_c H (fun b6 H=>?_) (fun b6 H=>?_)
  ·conv=>whnf
   refine finR_c (enc:=(fun r:(List MailEntry) × Int=>.tup [(fun l:List MailEntry=>V.sl (l.map MailEntry.v) false) r.1,V.i r.2])) H ?_;conv=>whnf
   exact ⟨_,.tup (.cons (.c (.slw)) (.cons (.c (.id rfl)) (.nil)))⟩
  conv=>whnf
  refine ⟨Nat.zero_le _,?_⟩;conv=>whnf
  refine dfN_c (f:=MailEntry.v) delF71_n H (⟨⟨_,Tryz.func72,by kernel_rfl,by kernel_rfl⟩,rfl,fun x0=>p_mail_Drop_1_v _ _⟩) (.clo (.cons (.ptr rfl (Nat.le_of_ble_eq_true rfl) (.cons (.id rfl) (.nil))) (.nil))) (fun H=>?_);conv=>whnf
  refine LenQ.M ?_;conv=>whnf
  refine LenQ.ok ?_;conv=>whnf
  refine Ari.w ?_;conv=>whnf
  refine finR_c (enc:=(fun r:(List MailEntry) × Int=>.tup [(fun l:List MailEntry=>V.sl (l.map MailEntry.v) false) r.1,V.i r.2])) H ?_;conv=>whnf
  exact ⟨_,.tup (.cons (.c (.slw)) (.cons (.c (.id rfl)) (.nil)))⟩
 conv=>whnf
 refine ask_c (p_mail_Check_v _) H rfl rfl (fun v2 H=>?_);conv=>whnf
 refine tst_c H (fun b3 H=>?_) (fun b3 H=>?_)
 ·conv=>whnf
  refine finRz_c (enc:=(fun r:(List MailEntry) × Int=>.tup [(fun l:List MailEntry=>V.sl (l.map MailEntry.v) false) r.1,V.i r.2])) [1] H ?_;conv=>whnf
  refine ⟨Nat.zero_le _,?_⟩;conv=>whnf
  exact ⟨_,.tup (.cons (.c (fzown (f:=MailEntry.v) (l:=l1) rfl rfl (fun _=>rfl) (fun _=>rfl))) (.cons (.c (.id rfl)) (.nil)))⟩
 conv=>whnf
 refine ⟨Nat.zero_le _,?_⟩;conv=>whnf
 refine dfO_c (f:=MailEntry.v) delF71_v H (⟨⟨_,Tryz.func72,by kernel_rfl,by kernel_rfl⟩,rfl,fun x0=>p_mail_Drop_1_v _ _⟩) (.clo (.cons (.ptr rfl (Nat.le_of_ble_eq_true rfl) (.cons (.id rfl) (.nil))) (.nil))) (fun _=>rfl) (fun _=>rfl) rfl rfl (fun v4 H=>?_);conv=>whnf
 refine LenQ.M ?_;conv=>whnf
 refine Ari.w ?_;conv=>whnf
 refine finRz_c (enc:=(fun r:(List MailEntry) × Int=>.tup [(fun l:List MailEntry=>V.sl (l.map MailEntry.v) false) r.1,V.i r.2])) [1] H ?_;conv=>whnf
 refine ⟨Nat.zero_le _,?_⟩;conv=>whnf
 exact ⟨_,.tup (.cons (.c (fzown (f:=MailEntry.v) (l:=v4) rfl rfl (fun _=>rfl) (fun _=>rfl))) (.cons (.c (.id rfl)) (.nil)))⟩
def gc15:BCode:=(.seq (R_ 2 [O_ 2 (.bx (t_ 0)) 0,O_ 4 (.al (.agg [(.sl [] true),(.lit (.bool false)),(.lit (.bool false)),(.lit (.string ⟨#[]⟩)),(.lit (.int .i64 0)),(.lit (.int .i64 0)),(.lit (.int .i64 0))])) 1]) (.seq (.seq (R_ 0 [O_ 5 (.ld 7 true (t_ 2)) 0,O_ 6 (.cl 17 [(t_ 5)]) 0,O_ 7 (.bin .eql (t_ 6) (i_ 0)) 0]) (.cond (t_ 7) (R_ 0 [O_ 9 (.fa 0 (t_ 2)) 0,O_ 10 (.ld 1 false (t_ 9)) 0,O_ 11 (.mv (t_ 1)) 0,O_ 12 (.cl 41 [(t_ 10),(t_ 11)]) 0,O_ 8 (.mv (t_ 12)) 0,O_ 13 (.ex (t_ 8) 0) 0,O_ 14 (.ex (t_ 8) 1) 0,O_ 15 (.fa 0 (t_ 2)) 0,U_ (.st 1 (t_ 15) (t_ 13)) 0]) .skip)) (.seq (R_ 0 [O_ 16 (.ld 7 true (t_ 2)) 0,U_ (.st 7 (t_ 4) (t_ 16)) 0]) .ret)))
theorem gc15_ok:compF Tryz.prog Tryz.f15=some (gc15.er,17,[.cell 4 7 true]):=by unfold gc15;kernel_rfl
theorem p_outq_Forget_v {u1:Bool} (a0:Ref27State) (a1:ByteArray):CallsO Tryz.prog 15 [.agg [.sl (List.map MailEntry.v a0.Mail) u1,.b a0.Snap.On,.b a0.Snap.Begun,.s a0.Snap.After,.i a0.Snap.Told,.i a0.Sent,.i a0.Lost],.s a1] Ref27State.v (p_outq_Forget a0 a1):=by
 refine callsO_comp mix Tryz.func15 gc15_ok fun r H=>?_
 rw [p_outq_Forget] at H
 conv=>whnf
 refine ask_c (p_outq_Check_v _) H rfl rfl (fun v1 H=>?_);conv=>whnf
 refine tst_d H (fun b2 H=>?_) (fun b2 H=>?_)
 ·conv=>whnf
  refine lq_ ?_;conv=>whnf
  refine finR_c (enc:=Ref27State.v) H ?_;conv=>whnf
  exact ⟨_,.v (fzagg (.cons (.slw) (.cons (.id rfl) (.cons (.id rfl) (.cons (.id rfl) (.cons (.id rfl) (.cons (.id rfl) (.cons (.id rfl) (.nil)))))))) rfl)⟩
 conv=>whnf
 refine ask_c (p_mail_Drop_v _ _) H rfl rfl (fun v3 H=>?_);conv=>whnf
 refine lq_ ?_;conv=>whnf
 refine lq_ ?_;conv=>whnf
 exact fin0_c (enc:=Ref27State.v) H (.inr rfl) (.cons (.cell rfl rfl (Nat.le_of_ble_eq_true rfl)) (.nil)) rfl rfl
def gc21:BCode:=(.seq (R_ 1 [O_ 1 (.bx (t_ 0)) 0,O_ 2 (.mv (i_ 0)) 1]) (.seq (R_ 0 [O_ 4 (.fa 0 (t_ 1)) 0,O_ 5 (.ld 1 false (t_ 4)) 0,O_ 6 (.lens (t_ 5)) 0,O_ 3 (.mv (t_ 6)) 0]) (.seq (.seq (R_ 0 [O_ 7 (.fa 1 (t_ 1)) 0,O_ 8 (.fa 0 (t_ 7)) 0,O_ 9 (.ld 1 false (t_ 8)) 0]) (.cond (t_ 9) (R_ 0 [O_ 10 (.mv (t_ 3)) 0,O_ 11 (.bin .add (t_ 10) (i_ 1)) 0,O_ 3 (.mv (t_ 11)) 0]) .skip)) (.seq (R_ 0 [O_ 12 (.mv (t_ 3)) 0,O_ 2 (.mv (t_ 12)) 0]) .ret))))
theorem gc21_ok:compF Tryz.prog Tryz.f21=some (gc21.er,13,[.tmp 2]):=by unfold gc21;kernel_rfl
theorem p_outq_Len_v {u1:Bool} (a0:Ref27State):CallsO Tryz.prog 21 [.agg [.sl (List.map MailEntry.v a0.Mail) u1,.b a0.Snap.On,.b a0.Snap.Begun,.s a0.Snap.After,.i a0.Snap.Told,.i a0.Sent,.i a0.Lost]] V.i (p_outq_Len a0):=by
 refine callsO_comp mix Tryz.func21 gc21_ok fun r H=>?_
 rw [p_outq_Len] at H
 conv=>whnf
 refine LenQ.M ?_;conv=>whnf
 refine tst_d H (fun b1 H=>?_) (fun b1 H=>?_)
 ·conv=>whnf
  exact fi_ H
 conv=>whnf
 refine Ari.w ?_;conv=>whnf
 exact fi_ H
def gc19:BCode:=(.seq (R_ 1 [O_ 1 (.bx (t_ 0)) 0,O_ 2 (.mv (b_ false)) 1]) (.seq (R_ 0 [O_ 3 (.ld 7 true (t_ 1)) 0,O_ 4 (.cl 21 [(t_ 3)]) 0,O_ 5 (.bin .gtr (t_ 4) (i_ 0)) 0,O_ 2 (.mv (t_ 5)) 0]) .ret))
theorem gc19_ok:compF Tryz.prog Tryz.f19=some (gc19.er,6,[.tmp 2]):=by unfold gc19;kernel_rfl
theorem p_outq_Wants_v {u1:Bool} (a0:Ref27State):CallsO Tryz.prog 19 [.agg [.sl (List.map MailEntry.v a0.Mail) u1,.b a0.Snap.On,.b a0.Snap.Begun,.s a0.Snap.After,.i a0.Snap.Told,.i a0.Sent,.i a0.Lost]] V.b (p_outq_Wants a0):=by
 refine callsO_comp mix Tryz.func19 gc19_ok fun r H=>?_
 rw [p_outq_Wants] at H
 conv=>whnf
 refine ask_c (p_outq_Len_v _) H rfl rfl (fun v1 H=>?_);conv=>whnf
 exact fb_ H
def gc94:BCode:=(.seq (R_ 0 [O_ 4 (.mv (b_ false)) 0]) (.seq (.seq (R_ 0 [O_ 6 (.mv (t_ 0)) 0,O_ 7 (.lens (t_ 6)) 0,O_ 8 (.mv (t_ 1)) 0,O_ 9 (.lens (t_ 8)) 0,O_ 10 (.bin .neq (t_ 7) (t_ 9)) 0]) (.cond (t_ 10) (.seq (R_ 0 [O_ 4 (.mv (b_ false)) 0]) .ret) .skip)) (.seq (.seq (R_ 0 [O_ 11 (.mv (t_ 0)) 0,O_ 12 (.lens (t_ 11)) 0,O_ 13 (.mv (i_ 0)) 0]) (.block 0 (.loop (.seq (R_ 0 [O_ 14 (.bin .lss (t_ 13) (t_ 12)) 0]) (.seq (.cond (t_ 14) .skip (.exit 0)) (.seq (.block 1 (.seq (R_ 0 [O_ 15 (.mv (t_ 13)) 0,O_ 5 (.mv (t_ 15)) 0]) (.seq (.reg 0 [O_ 16 (.mv (t_ 0)) 0,O_ 17 (.mv (t_ 5)) 0,O_ 18 (.ixs 5 (t_ 16) (t_ 17)) 0,O_ 19 (.ld 5 true (t_ 18)) 0,O_ 20 (.mv (t_ 1)) 0,O_ 21 (.mv (t_ 5)) 0,O_ 22 (.ixs 5 (t_ 20) (t_ 21)) 0,O_ 23 (.ld 5 true (t_ 22)) 0,O_ 24 (.eqa true [2,0,1,1,1] (t_ 19) (t_ 23)) 0] (some [[],[],[1,0],[0,1,2],[],[],[5,4],[4,5,6],[6,5,4,7,2,1,0,3]]) 0 []) (.cond (t_ 24) (.seq (R_ 0 [O_ 4 (.mv (b_ false)) 0]) .ret) .skip)))) (R_ 0 [O_ 25 (.bin .add (t_ 13) (i_ 1)) 0,O_ 13 (.mv (t_ 25)) 0]))))))) (.seq (R_ 0 [O_ 4 (.mv (b_ true)) 0]) .ret))))
theorem gc94_ok:compF Tryz.prog Tryz.f94=some (gc94.er,26,[.tmp 4]):=by unfold gc94;kernel_rfl
theorem p_slices_Equal_mail_State_mail_Entry__v {u1 u2:Bool} (a0:List MailEntry) (a1:List MailEntry):CallsO Tryz.prog 94 [.sl (List.map MailEntry.v a0) u1,.sl (List.map MailEntry.v a1) u2] V.b (p_slices_Equal_mail_State_mail_Entry_ a0 a1):=by
 refine callsO_comp mix Tryz.func94 gc94_ok fun r H=>?_
 rw [p_slices_Equal_mail_State_mail_Entry_] at H
 conv=>whnf
 iterate 2 (refine LenQ.M ?_;conv=>whnf)
 refine tst_c H (fun b1 H=>?_) (fun b1 H=>?_)
 ·conv=>whnf
  exact fb_ H
 conv=>whnf
 refine LenQ.M ?_;conv=>whnf
 obtain ⟨o3,HL4,HQ5⟩:=bind_c H
 refine loop_c [4,13] [5,14,15,16,17,18,19,20,21,22,23,24,25] [5,14,15,16,17,18,19,20,21,22,23,24,25] (fun n vals st=>(∃ y7,p_slices_Equal_mail_State_mail_Entry__l1  a0 a1 (a0.length:Int) n y7=some o3∧vals=[.b false,.i y7]∧st=[])) fuel 0 [] (⟨_,HL4,rfl,rfl⟩) (Nat.zero_le _) rfl (by kernel_rfl) (by kernel_rfl) rfl trivial ?_
 rintro (_ | n6) _ _ (⟨y7,H,rfl,rfl⟩)
 ·rw [p_slices_Equal_mail_State_mail_Entry__l1] at H;cases H
 rw [p_slices_Equal_mail_State_mail_Entry__l1] at H
 conv=>whnf
 refine tst_d H (fun b8 H=>?_) (fun b8 H=>?_)
 ·conv=>whnf
  obtain rfl:=Option.some.inj H
  have H:=HQ5
  try dsimp only at H
  exact fb_ H
 conv=>whnf
 refine ixs_c (f:=MailEntry.v) H (fun _=>rfl) (fun x9 H=>?_);conv=>whnf
 refine ixs_c (f:=MailEntry.v) H (fun _=>rfl) (fun x10 H=>?_);conv=>whnf
 refine FootQ.mk ⟨rfl,?_⟩;conv=>whnf
 refine Tst.not ?_
 refine tst_d H (fun b11 H=>?_) (fun b11 H=>?_)
 ·conv=>whnf
  obtain rfl:=Option.some.inj H
  have H:=HQ5
  try dsimp only at H
  exact fb_ H
 conv=>whnf
 refine Ari.w ?_;conv=>whnf
 exact again_c [5,14,15,16,17,18,19,20,21,22,23,24,25] n6 0 [] (⟨_,H,rfl,rfl⟩) (Nat.lt_succ_self _) (Nat.zero_le _) rfl (by kernel_rfl) (by kernel_rfl) rfl trivial
def gc57:BCode:=(.seq (R_ 0 [O_ 4 (.mv (b_ false)) 0]) (.seq (R_ 0 [O_ 5 (.mv (t_ 0)) 0,O_ 6 (.mv (t_ 1)) 0,O_ 7 (.cl 94 [(t_ 5),(t_ 6)]) 0,O_ 4 (.mv (t_ 7)) 0]) .ret))
theorem gc57_ok:compF Tryz.prog Tryz.f57=some (gc57.er,8,[.tmp 4]):=by unfold gc57;kernel_rfl
theorem p_mail_Same_v {u1 u2:Bool} (a0:List MailEntry) (a1:List MailEntry):CallsO Tryz.prog 57 [.sl (List.map MailEntry.v a0) u1,.sl (List.map MailEntry.v a1) u2] V.b (p_mail_Same a0 a1):=by
 refine callsO_comp mix Tryz.func57 gc57_ok fun r H=>?_
 rw [p_mail_Same] at H
 conv=>whnf
 refine ask_c (p_slices_Equal_mail_State_mail_Entry__v _ _) H rfl rfl (fun v1 H=>?_);conv=>whnf
 exact fb_ H
def gc32:BCode:=(.seq (R_ 2 [O_ 2 (.bx (t_ 0)) 0,O_ 3 (.bx (t_ 1)) 1,O_ 4 (.mv (b_ false)) 2]) (.seq (R_ 0 [O_ 5 (.fa 0 (t_ 2)) 0,O_ 6 (.ld 1 false (t_ 5)) 0,O_ 7 (.fa 0 (t_ 3)) 0,O_ 8 (.ld 1 false (t_ 7)) 0,O_ 9 (.cl 57 [(t_ 6),(t_ 8)]) 0,O_ 10 (.mv (t_ 9)) 0,⟨(some 11),.fa 1 (t_ 2),(some (10,true)),0⟩,⟨(some 12),.ld 4 true (t_ 11),(some (10,true)),0⟩,⟨(some 13),.fa 1 (t_ 3),(some (10,true)),0⟩,⟨(some 14),.ld 4 true (t_ 13),(some (10,true)),0⟩,⟨(some 15),.eqa false [0,0,2,1] (t_ 12) (t_ 14),(some (10,true)),0⟩,O_ 16 (.pick (t_ 10) (t_ 15) (b_ false)) 0,O_ 17 (.mv (t_ 16)) 0,⟨(some 18),.fa 5 (t_ 2),(some (17,true)),0⟩,⟨(some 19),.ld 1 false (t_ 18),(some (17,true)),0⟩,⟨(some 20),.fa 5 (t_ 3),(some (17,true)),0⟩,⟨(some 21),.ld 1 false (t_ 20),(some (17,true)),0⟩,⟨(some 22),.bin .eql (t_ 19) (t_ 21),(some (17,true)),0⟩,O_ 23 (.pick (t_ 17) (t_ 22) (b_ false)) 0,O_ 24 (.mv (t_ 23)) 0,⟨(some 25),.fa 6 (t_ 2),(some (24,true)),0⟩,⟨(some 26),.ld 1 false (t_ 25),(some (24,true)),0⟩,⟨(some 27),.fa 6 (t_ 3),(some (24,true)),0⟩,⟨(some 28),.ld 1 false (t_ 27),(some (24,true)),0⟩,⟨(some 29),.bin .eql (t_ 26) (t_ 28),(some (24,true)),0⟩,O_ 30 (.pick (t_ 24) (t_ 29) (b_ false)) 0,O_ 4 (.mv (t_ 30)) 0]) .ret))
theorem gc32_ok:compF Tryz.prog Tryz.f32=some (gc32.er,31,[.tmp 4]):=by unfold gc32;kernel_rfl
theorem p_outq_Same_v {u1 u2:Bool} (a0:Ref27State) (a1:Ref27State):CallsO Tryz.prog 32 [.agg [.sl (List.map MailEntry.v a0.Mail) u1,.b a0.Snap.On,.b a0.Snap.Begun,.s a0.Snap.After,.i a0.Snap.Told,.i a0.Sent,.i a0.Lost],.agg [.sl (List.map MailEntry.v a1.Mail) u2,.b a1.Snap.On,.b a1.Snap.Begun,.s a1.Snap.After,.i a1.Snap.Told,.i a1.Sent,.i a1.Lost]] V.b (p_outq_Same a0 a1):=by
 refine callsO_comp mix Tryz.func32 gc32_ok fun r H=>?_
 rw [p_outq_Same] at H
 conv=>whnf
 refine ask_c (p_mail_Same_v _ _) H rfl rfl (fun v1 H=>?_);conv=>whnf
 refine tst_d H (fun b2 H=>?_) (fun b2 H=>?_)
 ·conv=>whnf
  iterate 17 (refine Tst.F ?_;conv=>whnf)
  exact fb_ H
 conv=>whnf
 iterate 5 (refine Tst.T ?_;conv=>whnf)
 refine tst_d H (fun b3 H=>?_) (fun b3 H=>?_)
 ·conv=>whnf
  iterate 11 (refine Tst.F ?_;conv=>whnf)
  exact fb_ H
 conv=>whnf
 iterate 5 (refine Tst.T ?_;conv=>whnf)
 refine tst_c H (fun b4 H=>?_) (fun b4 H=>?_)
 ·conv=>whnf
  iterate 5 (refine Tst.T ?_;conv=>whnf)
  exact fb_ H
 conv=>whnf
 iterate 5 (refine Tst.F ?_;conv=>whnf)
 exact fb_ H
end Go.Proofs.YthnihifblmnkdaaGreat

namespace Go.Proofs.YthnihifblmnkdaaGreat
open Go.RowKit
set_option maxRecDepth 1000000
set_option maxHeartbeats 4000000
def gc7:BCode:=(.seq (R_ 0 [O_ 0 (.mv (b_ false)) 0]) (.seq (R_ 2 [O_ 14 (.bd [(.lit (.int .i64 0)),(.sl [] true)] []) 0,O_ 15 (.cl 25 [(t_ 14),(.const (.string ⟨#[97,64,120]⟩)),(.const (.string ⟨#[]⟩)),(i_ 1),(i_ 0)]) 0,O_ 13 (.mv (t_ 15)) 0,O_ 16 (.ex (t_ 13) 0) 0,O_ 17 (.ex (t_ 13) 1) 0,O_ 18 (.ex (t_ 13) 2) 0,O_ 1 (.al (.agg [(.lit (.int .i64 0)),(.sl [] true)])) 0,O_ 2 (.al (.agg [(.lit (.bool false)),(.lit (.int .i64 0)),(.lit (.int .i64 0)),(.lit (.int .i64 0))])) 1,U_ (.st 2 (t_ 1) (t_ 16)) 2,U_ (.st 4 (t_ 2) (t_ 17)) 2,O_ 3 (.mv (t_ 18)) 2]) (.seq (R_ 2 [O_ 19 (.bs 1 1 [(.lit (.string ⟨#[]⟩))] [(0,(.const (.string ⟨#[97,64,120]⟩)))]) 0,O_ 20 (.bd [(.sl [] true),(.sl [] true)] [(0,1,(t_ 19))]) 1,O_ 4 (.al (.agg [(.sl [] true),(.sl [] true)])) 1,U_ (.st 2 (t_ 4) (t_ 20)) 2]) (.seq (R_ 1 [O_ 21 (.bd [(.sl [] true),(.lit (.bool false)),(.lit (.bool false)),(.lit (.string ⟨#[]⟩)),(.lit (.int .i64 0)),(.lit (.int .i64 0)),(.lit (.int .i64 0))] []) 0,O_ 22 (.cl 13 [(t_ 21)]) 0,O_ 5 (.al (.agg [(.sl [] true),(.lit (.bool false)),(.lit (.bool false)),(.lit (.string ⟨#[]⟩)),(.lit (.int .i64 0)),(.lit (.int .i64 0)),(.lit (.int .i64 0))])) 0,U_ (.st 7 (t_ 5) (t_ 22)) 1]) (.seq (R_ 0 [O_ 23 (.ld 7 true (t_ 5)) 0,O_ 24 (.bd [(.lit (.bool false)),(.lit (.int .i64 0)),(.lit (.int .i64 0)),(.lit (.int .i64 0))] [(0,1,(b_ true)),(3,1,(i_ 9))]) 0,O_ 25 (.cl 11 [(t_ 23),(.const (.string ⟨#[97,64,120,32]⟩)),(t_ 24)]) 0,U_ (.st 7 (t_ 5) (t_ 25)) 0]) (.seq (R_ 1 [O_ 27 (.ld 7 true (t_ 5)) 0,O_ 28 (.ld 2 true (t_ 4)) 0,O_ 29 (.ld 2 true (t_ 1)) 0,O_ 30 (.cl 27 [(t_ 27),(t_ 28),(t_ 29),(i_ 9)]) 0,O_ 26 (.mv (t_ 30)) 0,O_ 31 (.ex (t_ 26) 0) 0,O_ 32 (.ex (t_ 26) 1) 0,O_ 6 (.al (.agg [(.sl [] true),(.lit (.bool false)),(.lit (.bool false)),(.lit (.string ⟨#[]⟩)),(.lit (.int .i64 0)),(.lit (.int .i64 0)),(.lit (.int .i64 0))])) 0,U_ (.st 7 (t_ 6) (t_ 31)) 1,O_ 7 (.mv (t_ 32)) 1]) (.seq (R_ 1 [O_ 33 (.ld 7 true (t_ 6)) 0,O_ 34 (.bd [(.lit (.bool false)),(.lit (.int .i64 0)),(.lit (.int .i64 0)),(.lit (.int .i64 0))] [(3,1,(i_ 4))]) 0,O_ 35 (.cl 11 [(t_ 33),(.const (.string ⟨#[98,64,120,32]⟩)),(t_ 34)]) 0,O_ 8 (.al (.agg [(.sl [] true),(.lit (.bool false)),(.lit (.bool false)),(.lit (.string ⟨#[]⟩)),(.lit (.int .i64 0)),(.lit (.int .i64 0)),(.lit (.int .i64 0))])) 0,U_ (.st 7 (t_ 8) (t_ 35)) 1]) (.seq (R_ 2 [O_ 37 (.ld 7 true (t_ 8)) 0,O_ 38 (.ld 2 true (t_ 4)) 0,O_ 39 (.ld 2 true (t_ 1)) 0,O_ 40 (.cl 31 [(t_ 37),(t_ 38),(t_ 39)]) 0,O_ 36 (.mv (t_ 40)) 0,O_ 41 (.ex (t_ 36) 0) 0,O_ 42 (.ex (t_ 36) 1) 0,O_ 43 (.ex (t_ 36) 2) 0,O_ 9 (.al (.agg [(.sl [] true),(.lit (.bool false)),(.lit (.bool false)),(.lit (.string ⟨#[]⟩)),(.lit (.int .i64 0)),(.lit (.int .i64 0)),(.lit (.int .i64 0))])) 0,O_ 10 (.al (.agg [(.lit (.int .u8 0)),(.lit (.string ⟨#[]⟩)),(.lit (.string ⟨#[]⟩)),(.lit (.string ⟨#[]⟩)),(.lit (.int .i64 0)),(.lit (.int .i64 0)),(.lit (.int .i64 0)),(.lit (.int .i64 0))])) 1,U_ (.st 7 (t_ 9) (t_ 41)) 2,U_ (.st 8 (t_ 10) (t_ 42)) 2,O_ 11 (.mv (t_ 43)) 2]) (.seq (R_ 1 [O_ 44 (.ld 7 true (t_ 8)) 0,O_ 45 (.cl 15 [(t_ 44),(.const (.string ⟨#[98,64,120]⟩))]) 0,O_ 12 (.al (.agg [(.sl [] true),(.lit (.bool false)),(.lit (.bool false)),(.lit (.string ⟨#[]⟩)),(.lit (.int .i64 0)),(.lit (.int .i64 0)),(.lit (.int .i64 0))])) 0,U_ (.st 7 (t_ 12) (t_ 45)) 1]) (.seq (R_ 0 [O_ 46 (.ld 7 true (t_ 5)) 0,O_ 47 (.cl 19 [(t_ 46)]) 0,O_ 48 (.mv (t_ 47)) 0,⟨(some 49),.ld 7 true (t_ 5),(some (48,true)),0⟩,⟨(some 50),.cl 21 [(t_ 49)],(some (48,true)),0⟩,⟨(some 51),.bin .eql (t_ 50) (i_ 1),(some (48,true)),0⟩,O_ 52 (.pick (t_ 48) (t_ 51) (b_ false)) 0,O_ 53 (.mv (t_ 52)) 0,⟨(some 54),.mv (t_ 7),(some (53,true)),0⟩,⟨(some 55),.lens (t_ 54),(some (53,true)),0⟩,⟨(some 56),.bin .eql (t_ 55) (i_ 3),(some (53,true)),0⟩,O_ 57 (.pick (t_ 53) (t_ 56) (b_ false)) 0,O_ 58 (.mv (t_ 57)) 0,⟨(some 59),.mv (t_ 7),(some (58,true)),0⟩,⟨(some 60),.ixs 8 (t_ 59) (i_ 0),(some (58,true)),0⟩,⟨(some 61),.fa 0 (t_ 60),(some (58,true)),0⟩,⟨(some 62),.ld 1 false (t_ 61),(some (58,true)),0⟩,⟨(some 63),.bin .eql (t_ 62) (.const (.int .u8 36)),(some (58,true)),0⟩,O_ 64 (.pick (t_ 58) (t_ 63) (b_ false)) 0,O_ 65 (.mv (t_ 64)) 0,⟨(some 66),.mv (t_ 7),(some (65,true)),0⟩,⟨(some 67),.ixs 8 (t_ 66) (i_ 1),(some (65,true)),0⟩,⟨(some 68),.fa 1 (t_ 67),(some (65,true)),0⟩,⟨(some 69),.ld 1 false (t_ 68),(some (65,true)),0⟩,⟨(some 70),.bin .eql (t_ 69) (.const (.string ⟨#[97,64,120]⟩)),(some (65,true)),0⟩,O_ 71 (.pick (t_ 65) (t_ 70) (b_ false)) 0,O_ 72 (.mv (t_ 71)) 0,⟨(some 73),.mv (t_ 7),(some (72,true)),0⟩,⟨(some 74),.ixs 8 (t_ 73) (i_ 2),(some (72,true)),0⟩,⟨(some 75),.fa 0 (t_ 74),(some (72,true)),0⟩,⟨(some 76),.ld 1 false (t_ 75),(some (72,true)),0⟩,⟨(some 77),.bin .eql (t_ 76) (.const (.int .u8 37)),(some (72,true)),0⟩,O_ 78 (.pick (t_ 72) (t_ 77) (b_ false)) 0,O_ 79 (.mv (t_ 78)) 0,⟨(some 80),.fa 5 (t_ 6),(some (79,true)),0⟩,⟨(some 81),.ld 1 false (t_ 80),(some (79,true)),0⟩,⟨(some 82),.bin .eql (t_ 81) (i_ 3),(some (79,true)),0⟩,O_ 83 (.pick (t_ 79) (t_ 82) (b_ false)) 0,O_ 84 (.mv (t_ 83)) 0,⟨(some 85),.ld 7 true (t_ 6),(some (84,true)),0⟩,⟨(some 86),.cl 19 [(t_ 85)],(some (84,true)),0⟩,⟨(some 87),.un .not (t_ 86),(some (84,true)),0⟩,O_ 88 (.pick (t_ 84) (t_ 87) (b_ false)) 0,O_ 89 (.mv (t_ 88)) 0,⟨(some 90),.ld 8 true (t_ 10),(some (89,true)),0⟩,⟨(some 91),.bd [(.lit (.int .u8 0)),(.lit (.string ⟨#[]⟩)),(.lit (.string ⟨#[]⟩)),(.lit (.string ⟨#[]⟩)),(.lit (.int .i64 0)),(.lit (.int .i64 0)),(.lit (.int .i64 0)),(.lit (.int .i64 0))] [(0,1,(.const (.int .u8 35))),(1,1,(.const (.string ⟨#[98,64,120]⟩))),(7,1,(i_ 4))],(some (89,true)),0⟩,⟨(some 92),.eqa false [1,2,2,2,1,1,1,1] (t_ 90) (t_ 91),(some (89,true)),0⟩,O_ 93 (.pick (t_ 89) (t_ 92) (b_ false)) 0,O_ 94 (.mv (t_ 93)) 0,⟨(some 95),.mv (t_ 11),(some (94,true)),0⟩,O_ 96 (.pick (t_ 94) (t_ 95) (b_ false)) 0,O_ 97 (.mv (t_ 96)) 0,⟨(some 98),.fa 5 (t_ 9),(some (97,true)),0⟩,⟨(some 99),.ld 1 false (t_ 98),(some (97,true)),0⟩,⟨(some 100),.bin .eql (t_ 99) (i_ 4),(some (97,true)),0⟩,O_ 101 (.pick (t_ 97) (t_ 100) (b_ false)) 0,O_ 102 (.mv (t_ 101)) 0,⟨(some 103),.ld 7 true (t_ 12),(some (102,true)),0⟩,⟨(some 104),.ld 7 true (t_ 6),(some (102,true)),0⟩,⟨(some 105),.cl 32 [(t_ 103),(t_ 104)],(some (102,true)),0⟩,O_ 106 (.pick (t_ 102) (t_ 105) (b_ false)) 0,O_ 107 (.mv (t_ 106)) 0,⟨(some 108),.ld 7 true (t_ 8),(some (107,true)),0⟩,⟨(some 109),.ld 7 true (t_ 6),(some (107,true)),0⟩,⟨(some 110),.cl 32 [(t_ 108),(t_ 109)],(some (107,true)),0⟩,⟨(some 111),.un .not (t_ 110),(some (107,true)),0⟩,O_ 112 (.pick (t_ 107) (t_ 111) (b_ false)) 0,O_ 113 (.mv (t_ 112)) 0,⟨(some 114),.ld 7 true (t_ 9),(some (113,true)),0⟩,⟨(some 115),.cl 17 [(t_ 114)],(some (113,true)),0⟩,⟨(some 116),.bin .eql (t_ 115) (i_ 0),(some (113,true)),0⟩,O_ 117 (.pick (t_ 113) (t_ 116) (b_ false)) 0,O_ 118 (.mv (t_ 117)) 0,⟨(some 119),.bd [(.sl [] true),(.lit (.bool false)),(.lit (.bool false)),(.lit (.string ⟨#[]⟩)),(.lit (.int .i64 0)),(.lit (.int .i64 0)),(.lit (.int .i64 0))] [(5,1,(.const (.int .i64 (-1))))],(some (118,true)),0⟩,⟨(some 120),.cl 17 [(t_ 119)],(some (118,true)),0⟩,⟨(some 121),.bin .eql (t_ 120) (i_ 8),(some (118,true)),0⟩,O_ 122 (.pick (t_ 118) (t_ 121) (b_ false)) 0,O_ 123 (.mv (t_ 122)) 0,O_ 124 (.pick (t_ 123) (b_ true) (b_ false)) 0,O_ 0 (.mv (t_ 124)) 0]) .ret))))))))))
theorem gc7_ok:compF Tryz.prog Tryz.f7=some (gc7.er,125,[.tmp 0]):=by unfold gc7;kernel_rfl
theorem p_law27_awake_t:CallsO Tryz.prog 7 [] V.b (tru? (p_law27_awake)):=by
 refine callsO_comp mix Tryz.func7 gc7_ok fun r H=>?_
 have H1:=tru_of H
 clear H
 obtain ⟨rfl,H⟩:=H1
 rw [p_law27_awake] at H
 conv=>whnf
 refine ask_c (p_book_Set_v _ _ _ _ _) H rfl rfl (fun v1 H=>?_);conv=>whnf
 refine lq_ ?_;conv=>whnf
 refine lq_ ?_;conv=>whnf
 refine lq_ ?_;conv=>whnf
 refine ask_c (p_outq_Begin_v _) H rfl rfl (fun v2 H=>?_);conv=>whnf
 refine lq_ ?_;conv=>whnf
 refine ask_c (p_outq_Add_v _ _ _) H rfl rfl (fun v3 H=>?_);conv=>whnf
 refine lq_ ?_;conv=>whnf
 refine askF_c (p_outq_Flush_v _ _ _ _) H (.cons (fzagg (.cons (.id rfl) (.cons (.id rfl) (.cons (.id rfl) (.cons (.id rfl) (.cons (.id rfl) (.cons (.id rfl) (.cons (.id rfl) (.nil)))))))) rfl) (.cons (fzagg (.cons (fzown (f:=V.s) (l:=[(⟨#[97,64,120]⟩ : ByteArray)]) rfl rfl (fun _=>rfl) (fun _=>rfl)) (.cons (.slw) (.nil))) rfl) (.cons (fzagg (.cons (.id rfl) (.cons (.id rfl) (.nil))) rfl) (.cons (.c (.id rfl)) (.nil))))) (fun v4 H=>?_);conv=>whnf
 refine lq_ ?_;conv=>whnf
 refine ask_c (p_outq_Add_v _ _ _) H rfl rfl (fun v5 H=>?_);conv=>whnf
 refine lq_ ?_;conv=>whnf
 refine askF_c (p_outq_Next_v _ _ _) H (.cons (fzagg (.cons (.id rfl) (.cons (.id rfl) (.cons (.id rfl) (.cons (.id rfl) (.cons (.id rfl) (.cons (.id rfl) (.cons (.id rfl) (.nil)))))))) rfl) (.cons (fzagg (.cons (fzown (f:=V.s) (l:=[(⟨#[97,64,120]⟩ : ByteArray)]) rfl rfl (fun _=>rfl) (fun _=>rfl)) (.cons (.slw) (.nil))) rfl) (.cons (fzagg (.cons (.id rfl) (.cons (.id rfl) (.nil))) rfl) (.nil)))) (fun v6 H=>?_);conv=>whnf
 refine lq_ ?_;conv=>whnf
 refine lq_ ?_;conv=>whnf
 refine ask_c (p_outq_Forget_v _ _) H rfl rfl (fun v7 H=>?_);conv=>whnf
 refine lq_ ?_;conv=>whnf
 refine ask_c (p_outq_Wants_v _) H rfl rfl (fun v8 H=>?_);conv=>whnf
 refine tstT_c H (fun b9 H=>?_);conv=>whnf
 refine Tst.T ?_;conv=>whnf
 refine ask_c (p_outq_Len_v _) H rfl rfl (fun v10 H=>?_);conv=>whnf
 iterate 2 (refine Tst.T ?_;conv=>whnf)
 refine tstT_c H (fun b11 H=>?_);conv=>whnf
 refine Tst.T ?_;conv=>whnf
 refine LenQ.M ?_;conv=>whnf
 iterate 2 (refine Tst.T ?_;conv=>whnf)
 refine tstT_c H (fun b12 H=>?_);conv=>whnf
 refine Tst.T ?_;conv=>whnf
 refine ixs_c (f:=StanzaStanza.v) H (fun _=>rfl) (fun x13 H=>?_);conv=>whnf
 refine Tst.T ?_;conv=>whnf
 refine lq_ ?_;conv=>whnf
 iterate 3 (refine Tst.T ?_;conv=>whnf)
 refine tstT_c H (fun b14 H=>?_);conv=>whnf
 refine Tst.T ?_;conv=>whnf
 refine ixs_c (f:=StanzaStanza.v) H (fun _=>rfl) (fun x15 H=>?_);conv=>whnf
 refine Tst.T ?_;conv=>whnf
 refine lq_ ?_;conv=>whnf
 iterate 3 (refine Tst.T ?_;conv=>whnf)
 refine tstT_c H (fun b16 H=>?_);conv=>whnf
 refine Tst.T ?_;conv=>whnf
 refine ixs_c (f:=StanzaStanza.v) H (fun _=>rfl) (fun x17 H=>?_);conv=>whnf
 refine Tst.T ?_;conv=>whnf
 refine lq_ ?_;conv=>whnf
 iterate 3 (refine Tst.T ?_;conv=>whnf)
 refine tstT_c H (fun b18 H=>?_);conv=>whnf
 iterate 3 (refine Tst.T ?_;conv=>whnf)
 refine tstT_c H (fun b19 H=>?_);conv=>whnf
 refine Tst.T ?_;conv=>whnf
 refine ask_c (p_outq_Wants_v _) H rfl rfl (fun v20 H=>?_);conv=>whnf
 iterate 2 (refine Tst.T ?_;conv=>whnf)
 refine Tst.not ?_
 refine tstF_c H (fun b21 H=>?_);conv=>whnf
 iterate 3 (refine Tst.T ?_;conv=>whnf)
 refine tstT_c H (fun b22 H=>?_);conv=>whnf
 refine Tst.T ?_;conv=>whnf
 refine tstT_c H (fun b23 H=>?_);conv=>whnf
 iterate 3 (refine Tst.T ?_;conv=>whnf)
 refine tstT_c H (fun b24 H=>?_);conv=>whnf
 iterate 2 (refine Tst.T ?_;conv=>whnf)
 refine ask_c (p_outq_Same_v _ _) H rfl rfl (fun v25 H=>?_);conv=>whnf
 refine Tst.T ?_;conv=>whnf
 refine tstT_c H (fun b26 H=>?_);conv=>whnf
 iterate 2 (refine Tst.T ?_;conv=>whnf)
 refine ask_c (p_outq_Same_v _ _) H rfl rfl (fun v27 H=>?_);conv=>whnf
 iterate 2 (refine Tst.T ?_;conv=>whnf)
 refine Tst.not ?_
 refine tstF_c H (fun b28 H=>?_);conv=>whnf
 refine Tst.T ?_;conv=>whnf
 refine ask_c (p_outq_Check_v _) H rfl rfl (fun v29 H=>?_);conv=>whnf
 iterate 2 (refine Tst.T ?_;conv=>whnf)
 refine tstT_c H (fun b30 H=>?_);conv=>whnf
 refine Tst.T ?_;conv=>whnf
 refine ask_c (p_outq_Check_v _) H rfl rfl (fun v31 H=>?_);conv=>whnf
 iterate 2 (refine Tst.T ?_;conv=>whnf)
 refine tstT_c H (fun b32 H=>?_);conv=>whnf
 exact fb_ H
theorem p_law27_awake_true:p_law27_awake=some true:=by kernel_rfl
theorem p_law27_awake_v:CallsO Tryz.prog 7 [] V.b p_law27_awake:=tru_closed p_law27_awake_t p_law27_awake_true
end Go.Proofs.YthnihifblmnkdaaGreat

namespace Go.Proofs.YthnihifblmnkdaaGreat
open Go.RowKit
theorem outqView_wf (l:List Law27Deed) (n:Ar3_Int_) (h:∀ x ∈ l,Law27Deed.Wf x) (_h2:Ar3_Int_.Wf n):p_law27_OutqView l n=some true :=
 outqView_pure p_law27_awake_true l n fun d hd=>⟨bounds_u8 (h d hd).Who,bounds_u8 (h d hd).Show,bounds_u8 (h d hd).Tell⟩
end Go.Proofs.YthnihifblmnkdaaGreat

namespace Go.Proofs.YthnihifblmnkdaaGreat
open Go.RowKit
set_option maxRecDepth 100000
set_option maxHeartbeats 4000000
def gc23:BCode:=(.seq (R_ 0 [O_ 2 (.mv (.const (.string ⟨#[]⟩))) 0]) (.seq (R_ 1 [O_ 3 (.mv (t_ 0)) 0,O_ 4 (.bin .rem (t_ 3) (.const (.int .u8 20))) 0,O_ 5 (.bin .add (.const (.int .u8 97)) (t_ 4)) 0,O_ 6 (.bs 1 1 [(.lit (.int .u8 0))] [(0,(t_ 5))]) 0,O_ 7 (.b2s (t_ 6)) 1,O_ 8 (.bin .add (t_ 7) (.const (.string ⟨#[64,120]⟩))) 1,O_ 2 (.mv (t_ 8)) 1]) .ret))
theorem gc23_ok:compF Tryz.prog Tryz.f23=some (gc23.er,9,[.tmp 2]):=by unfold gc23;kernel_rfl
theorem p_law27_who_v (a0:Int):CallsO Tryz.prog 23 [.y8 a0] V.s (p_law27_who a0):=by
 refine callsO_comp mix Tryz.func23 gc23_ok fun r H=>?_
 rw [p_law27_who] at H
 conv=>whnf
 refine ⟨by decide,?_⟩;conv=>whnf
 refine Ari.w ?_;conv=>whnf
 refine b2sO_c H rfl rfl rfl (fun s1 H=>?_);conv=>whnf
 refine cat_c H (fun s2 H=>?_);conv=>whnf
 exact fin0_c (enc:=V.s) H (.inr rfl) (.cons (.tmp rfl) (.nil)) rfl rfl
end Go.Proofs.YthnihifblmnkdaaGreat

namespace Go.Proofs.YthnihifblmnkdaaGreat
open Go.RowKit
set_option maxRecDepth 100000
set_option maxHeartbeats 4000000
def gc56:BCode:=(.seq (R_ 2 [O_ 1 (.bx (t_ 0)) 0,O_ 2 (.mv (.const (.string ⟨#[]⟩))) 1,O_ 3 (.mv (.const (.string ⟨#[]⟩))) 1,O_ 4 (.al (.agg [(.lit (.bool false)),(.lit (.int .i64 0)),(.lit (.int .i64 0)),(.lit (.int .i64 0))])) 1,O_ 5 (.mv (i_ 0)) 2]) (.seq (.seq (R_ 0 [O_ 9 (.fa 0 (t_ 1)) 0,O_ 10 (.ld 1 false (t_ 9)) 0,O_ 11 (.bin .neq (t_ 10) (.const (.int .u8 34))) 0,O_ 12 (.mv (t_ 11)) 0,⟨(some 13),.fa 0 (t_ 1),(some (12,true)),0⟩,⟨(some 14),.ld 1 false (t_ 13),(some (12,true)),0⟩,⟨(some 15),.bin .neq (t_ 14) (.const (.int .u8 35)),(some (12,true)),0⟩,O_ 16 (.pick (t_ 12) (t_ 15) (b_ false)) 0]) (.cond (t_ 16) (.seq (R_ 0 [O_ 17 (.bd [(.lit (.bool false)),(.lit (.int .i64 0)),(.lit (.int .i64 0)),(.lit (.int .i64 0))] []) 0,O_ 2 (.mv (.const (.string ⟨#[]⟩))) 0,O_ 3 (.mv (.const (.string ⟨#[]⟩))) 0,U_ (.st 4 (t_ 4) (t_ 17)) 0,O_ 5 (.mv (i_ 12)) 0]) .ret) .skip)) (.seq (.seq (R_ 0 [O_ 18 (.ld 8 true (t_ 1)) 0,O_ 19 (.cl 93 [(t_ 18)]) 0,O_ 6 (.mv (t_ 19)) 0]) (.seq (R_ 0 [O_ 20 (.mv (t_ 6)) 0,O_ 21 (.bin .neq (t_ 20) (i_ 0)) 0]) (.cond (t_ 21) (.seq (R_ 0 [O_ 22 (.bd [(.lit (.bool false)),(.lit (.int .i64 0)),(.lit (.int .i64 0)),(.lit (.int .i64 0))] []) 0,O_ 23 (.mv (t_ 6)) 0,O_ 2 (.mv (.const (.string ⟨#[]⟩))) 0,O_ 3 (.mv (.const (.string ⟨#[]⟩))) 0,U_ (.st 4 (t_ 4) (t_ 22)) 0,O_ 5 (.mv (t_ 23)) 0]) .ret) .skip))) (.seq (R_ 1 [O_ 24 (.fa 0 (t_ 1)) 0,O_ 25 (.ld 1 false (t_ 24)) 0,O_ 26 (.bin .eql (t_ 25) (.const (.int .u8 34))) 0,O_ 27 (.fa 4 (t_ 1)) 0,O_ 28 (.ld 1 false (t_ 27)) 0,O_ 29 (.fa 5 (t_ 1)) 0,O_ 30 (.ld 1 false (t_ 29)) 0,O_ 31 (.fa 7 (t_ 1)) 0,O_ 32 (.ld 1 false (t_ 31)) 0,O_ 33 (.bd [(.lit (.bool false)),(.lit (.int .i64 0)),(.lit (.int .i64 0)),(.lit (.int .i64 0))] [(0,1,(t_ 26)),(1,1,(t_ 28)),(2,1,(t_ 30)),(3,1,(t_ 32))]) 0,O_ 7 (.al (.agg [(.lit (.bool false)),(.lit (.int .i64 0)),(.lit (.int .i64 0)),(.lit (.int .i64 0))])) 0,U_ (.st 4 (t_ 7) (t_ 33)) 1]) (.seq (.seq (R_ 0 [O_ 34 (.ld 4 true (t_ 7)) 0,O_ 35 (.cl 51 [(t_ 34)]) 0,O_ 8 (.mv (t_ 35)) 0]) (.seq (R_ 0 [O_ 36 (.mv (t_ 8)) 0,O_ 37 (.bin .neq (t_ 36) (i_ 0)) 0]) (.cond (t_ 37) (.seq (R_ 0 [O_ 38 (.bd [(.lit (.bool false)),(.lit (.int .i64 0)),(.lit (.int .i64 0)),(.lit (.int .i64 0))] []) 0,O_ 39 (.mv (t_ 8)) 0,O_ 2 (.mv (.const (.string ⟨#[]⟩))) 0,O_ 3 (.mv (.const (.string ⟨#[]⟩))) 0,U_ (.st 4 (t_ 4) (t_ 38)) 0,O_ 5 (.mv (t_ 39)) 0]) .ret) .skip))) (.seq (.reg 0 [O_ 40 (.fa 1 (t_ 1)) 0,O_ 41 (.ld 1 false (t_ 40)) 0,O_ 42 (.fa 2 (t_ 1)) 0,O_ 43 (.ld 1 false (t_ 42)) 0,O_ 44 (.ld 4 true (t_ 7)) 0,O_ 2 (.mv (t_ 41)) 0,O_ 3 (.mv (t_ 43)) 0,U_ (.st 4 (t_ 4) (t_ 44)) 0,O_ 5 (.mv (i_ 0)) 0] (some [[],[0],[],[2],[],[0,1],[1,0,5,2,3],[3,2,5,0,1,6,4],[4,6,1,0,5,2,3,7]]) 0 []) .ret))))))
theorem gc56_ok:compF Tryz.prog Tryz.f56=some (gc56.er,45,[.tmp 2,.tmp 3,.cell 4 4 true,.tmp 5]):=by unfold gc56;kernel_rfl
theorem p_pres_Of_v (a0:StanzaStanza):CallsO Tryz.prog 56 [.agg [.y8 a0.Kind,.s a0.User,.s a0.Res,.s a0.Name,.i a0.Show,.i a0.Prio,.i a0.Code,.i a0.N]] (fun r:ByteArray × ByteArray × PresPres × Int=>.tup [V.s r.1,V.s r.2.1,PresPres.v r.2.2.1,V.i r.2.2.2]) (p_pres_Of a0):=by
 refine callsO_comp mix Tryz.func56 gc56_ok fun r H=>?_
 rw [p_pres_Of] at H
 conv=>whnf
 refine tst_d H (fun b1 H=>?_) (fun b1 H=>?_)
 ·conv=>whnf
  iterate 4 (refine Tst.F ?_;conv=>whnf)
  refine ask_c (p_stanza_Check_v _) H rfl rfl (fun v7 H=>?_);conv=>whnf
  refine tst_c H (fun b8 H=>?_) (fun b8 H=>?_)
  ·conv=>whnf
   refine lq_ ?_;conv=>whnf
   exact fin0_c (enc:=(fun r:ByteArray × ByteArray × PresPres × Int=>.tup [V.s r.1,V.s r.2.1,PresPres.v r.2.2.1,V.i r.2.2.2])) H (.inr rfl) (.cons (.tmp rfl) (.cons (.tmp rfl) (.cons (.cell rfl rfl (Nat.le_of_ble_eq_true rfl)) (.cons (.tmp rfl) (.nil))))) rfl rfl
  conv=>whnf
  refine lq_ ?_;conv=>whnf
  refine ask_c (p_pres_Check_v _) H rfl rfl (fun v9 H=>?_);conv=>whnf
  refine tst_c H (fun b10 H=>?_) (fun b10 H=>?_)
  ·conv=>whnf
   refine lq_ ?_;conv=>whnf
   exact fin0_c (enc:=(fun r:ByteArray × ByteArray × PresPres × Int=>.tup [V.s r.1,V.s r.2.1,PresPres.v r.2.2.1,V.i r.2.2.2])) H (.inr rfl) (.cons (.tmp rfl) (.cons (.tmp rfl) (.cons (.cell rfl rfl (Nat.le_of_ble_eq_true rfl)) (.cons (.tmp rfl) (.nil))))) rfl rfl
  conv=>whnf
  refine lq_ ?_;conv=>whnf
  refine FootQ.mk ⟨rfl,?_⟩;conv=>whnf
  exact fin0_c (enc:=(fun r:ByteArray × ByteArray × PresPres × Int=>.tup [V.s r.1,V.s r.2.1,PresPres.v r.2.2.1,V.i r.2.2.2])) H (.inr rfl) (.cons (.tmp rfl) (.cons (.tmp rfl) (.cons (.cell rfl rfl (Nat.le_of_ble_eq_true rfl)) (.cons (.tmp rfl) (.nil))))) rfl rfl
 conv=>whnf
 iterate 3 (refine Tst.T ?_;conv=>whnf)
 refine tst_c H (fun b2 H=>?_) (fun b2 H=>?_)
 ·conv=>whnf
  refine lq_ ?_;conv=>whnf
  exact fin0_c (enc:=(fun r:ByteArray × ByteArray × PresPres × Int=>.tup [V.s r.1,V.s r.2.1,PresPres.v r.2.2.1,V.i r.2.2.2])) H (.inr rfl) (.cons (.tmp rfl) (.cons (.tmp rfl) (.cons (.cell rfl rfl (Nat.le_of_ble_eq_true rfl)) (.cons (.tmp rfl) (.nil))))) rfl rfl
 conv=>whnf
 refine ask_c (p_stanza_Check_v _) H rfl rfl (fun v3 H=>?_);conv=>whnf
 refine tst_c H (fun b4 H=>?_) (fun b4 H=>?_)
 ·conv=>whnf
  refine lq_ ?_;conv=>whnf
  exact fin0_c (enc:=(fun r:ByteArray × ByteArray × PresPres × Int=>.tup [V.s r.1,V.s r.2.1,PresPres.v r.2.2.1,V.i r.2.2.2])) H (.inr rfl) (.cons (.tmp rfl) (.cons (.tmp rfl) (.cons (.cell rfl rfl (Nat.le_of_ble_eq_true rfl)) (.cons (.tmp rfl) (.nil))))) rfl rfl
 conv=>whnf
 refine lq_ ?_;conv=>whnf
 refine ask_c (p_pres_Check_v _) H rfl rfl (fun v5 H=>?_);conv=>whnf
 refine tst_c H (fun b6 H=>?_) (fun b6 H=>?_)
 ·conv=>whnf
  refine lq_ ?_;conv=>whnf
  exact fin0_c (enc:=(fun r:ByteArray × ByteArray × PresPres × Int=>.tup [V.s r.1,V.s r.2.1,PresPres.v r.2.2.1,V.i r.2.2.2])) H (.inr rfl) (.cons (.tmp rfl) (.cons (.tmp rfl) (.cons (.cell rfl rfl (Nat.le_of_ble_eq_true rfl)) (.cons (.tmp rfl) (.nil))))) rfl rfl
 conv=>whnf
 refine lq_ ?_;conv=>whnf
 refine FootQ.mk ⟨rfl,?_⟩;conv=>whnf
 exact fin0_c (enc:=(fun r:ByteArray × ByteArray × PresPres × Int=>.tup [V.s r.1,V.s r.2.1,PresPres.v r.2.2.1,V.i r.2.2.2])) H (.inr rfl) (.cons (.tmp rfl) (.cons (.tmp rfl) (.cons (.cell rfl rfl (Nat.le_of_ble_eq_true rfl)) (.cons (.tmp rfl) (.nil))))) rfl rfl
end Go.Proofs.YthnihifblmnkdaaGreat

