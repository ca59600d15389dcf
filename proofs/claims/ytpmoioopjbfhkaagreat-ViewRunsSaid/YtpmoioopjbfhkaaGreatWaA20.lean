/- A part of the proof: 4 texts joined. -/
import Derived.Test.YtpmoioopjbfhkaaGreatWaA13
import Derived.Test.YtpmoioopjbfhkaaGreatWaA11
import Derived.KernelRfl
import Derived.Lib.SliceRun
import Derived.Test.YtpmoioopjbfhkaaGreatWaA14
import Derived.Test.YtpmoioopjbfhkaaGreatWaA19
import Derived.Test.YtpmoioopjbfhkaaGreatWaA12
set_option linter.all false
/- slices.Insert: its roads at function 266. -/
namespace Go.Proofs.YtpmoioopjbfhkaaGreat
open Go.RowKit Go.Lib
set_option maxHeartbeats 4000000
set_option maxRecDepth 100000
theorem insS266 (b n c i vb voff vc:Nat) (cs vs:List Value) (w:World) (tA tB:TypeId) (kA kB:Nat) (hi:i < n) (hroom:n + 1≤c) (hbig:n + 1≤1000000) (hvb:vb≠b) (hcl:cs.length=n * 5) (hvl:vs.length=5)
  (hcs:∀ j v,cs[j]?=some v→w.cell? ⟨b,j,none⟩=some v) (hsp:∀ j,j < (n + 1) * 5→(w.cell? ⟨b,j,none⟩).isSome=true) (hfz:∀ j,j < (n + 1) * 5→w.frozen? ⟨b,j,none⟩=false)
  (hvs:∀ j v,vs[j]?=some v→w.cell? ⟨vb,voff + j,none⟩=some v) (h1c:∀ v ∈ cs,v.oneCell'=true) (h1v:∀ v ∈ vs,v.oneCell'=true)
  (hsa:w.shape? vb=some (tA,kA)) (hsb:w.shape? b=some (tB,kB)) (hkA:kA≠0) (hkB:kB≠0) (hfe:w.frozen? ⟨b,kB,none⟩=false) :
  Calls Tryz.prog 266 #[.slice (some ⟨b,0,none⟩) n c,.int .i64 i,.slice (some ⟨vb,voff,none⟩) 1 vc] w fun e w' =>
   e=.returned (.slice (some ⟨b,0,none⟩) (n + 1) c)∧w'=(w.drew.setCells b ((i + 1) * 5) (cs.drop (i * 5))).setCells b (i * 5) vs:=by
 have tS:Tryz.prog.underlying 83=some (.slice 268):=by kernel_rfl
 have tV:Tryz.prog.underlying 83=some (.slice 268):=by kernel_rfl
 have tI:Tryz.prog.underlying 3=some (.int .i64):=by kernel_rfl
 have uS:=run_underlying tS
 have uV:=run_underlying tV
 have uI:=run_underlying tI
 have mixed:Tryz.prog.follows .mixedOrders=true:=mix
 obtain ⟨i0,z,hi0,hzs,hz0,hzc,hzb⟩:=infB_ok (P:=Tryz.prog) (e:=268) (es:=5) (by kernel_rfl)
 have hsz:(Tryz.prog.info? 268).map (·.size)=some 5:=by rw [hi0];simp [hzs]
 have hov:∀ lb cb,(callFunc 294 #[.slice (some ⟨vb,voff,none⟩) 1 vc,.slice (some ⟨b,(i + 1) * 5,none⟩) lb cb]).run Tryz.prog w=.ok (.value (.bool false)) w:=fun lb cb=>by
  rw [run_callFunc_extern Tryz.func294 (by kernel_rfl) (by kernel_rfl) (by kernel_rfl) (e:=Extern.SlicesOverlaps.overlaps #[83,83] #[4]) (by kernel_rfl),
   run_overlaps_own w 83 4 268 tV 5 (fun w=>by rw [← hzs];exact run_sizeOf hi0 w) ⟨vb,voff,none⟩ ⟨b,(i + 1) * 5,none⟩ 1 vc lb cb hvb tA tB kA kB hsa hsb hkA hkB (hfz _ (by omega)) hfe]
  rfl
 have hdl:(cs.drop (i * 5)).length=(n - i) * 5:=by rw [List.length_drop,hcl];omega
 have hz2:¬ ((i:Int)=(n:Int)):=by omega
 have hw1:IntKind.i64.wrap ((i:Int) + 1)=(i:Int) + 1:=by rw [IntKind.wrap_i64];omega
 have hwn:IntKind.i64.wrap ((n:Int) + 1)=(n:Int) + 1:=by rw [IntKind.wrap_i64];omega
 have hb1:(0:Int)≤(i:Int) + 1:=by omega
 have hin:i≤n:=by omega
 have htn:((i:Int) + 1).toNat=i + 1:=by omega
 have htm:((n:Int) + 1).toNat=n + 1:=by omega
 have hb2:¬ (c=i + 1):=by omega
 have hb3:(i:Int)≤(n:Int) + 1:=by omega
 have hb4:¬ (c=i):=by omega
 have hb5:¬ ((c:Int) < (n:Int) + 1):=by omega
 have hb6:(n:Int) + 1≤(c:Int):=by omega
 have hm1:Nat.min (n + 1 - i) (n - i)=n - i:=by simp only [Nat.min_def];split <;> omega
 have hm2:Nat.min 1 (n + 1 - i)=1:=by simp only [Nat.min_def];split <;> omega
 have hcp1:∀ ty dc sc,(Builtin.copy_ #[83,83] ty #[.slice (some ⟨b,(i + 1) * 5,none⟩) (n - i) dc,.slice (some ⟨b,i * 5,none⟩) (n + 1 - i) sc]).run Tryz.prog w.drew=.ok (goInt (Nat.min (n + 1 - i) (n - i))) (w.drew.setCells b ((i + 1) * 5) (cs.drop (i * 5))):=fun ty dc sc =>
  run_copy_es w.drew _ _ ty 268 5 b ((i + 1) * 5) (n - i) dc ⟨b,i * 5,none⟩ (n + 1 - i) sc (cs.drop (i * 5)) tS hsz (by rw [hm1];exact hdl)
   (fun j v hj=>by rw [Addr.add_lit];exact hcs (i * 5 + j) v (by rwa [List.getElem?_drop] at hj))
   (fun j hj=>hsp _ (by omega)) (fun j hj=>hfz _ (by omega)) (fun v hv=>h1c v (List.mem_of_mem_drop hv))
 obtain ⟨W1,hW1⟩ : ∃ W1,W1=w.drew.setCells b ((i + 1) * 5) (cs.drop (i * 5)):=⟨_,rfl⟩
 have hsp1:∀ k,k < (n + 1) * 5→(W1.cell? ⟨b,k,none⟩).isSome=true:=fun k hk=>by
  rw [hW1]
  exact isSome_setCells b (cs.drop (i * 5)) ((i + 1) * 5) w.drew (fun j hj=>hsp _ (by omega)) _ (hsp k hk)
 have hcp2:∀ (W:World),(∀ x,W.cell? x=W1.cell? x)→(∀ x,W.frozen? x=W1.frozen? x)→∀ ty dc,(Builtin.copy_ #[83,83] ty #[.slice (some ⟨b,i * 5,none⟩) (n + 1 - i) dc,.slice (some ⟨vb,voff,none⟩) 1 vc]).run Tryz.prog W=.ok (goInt (Nat.min 1 (n + 1 - i))) (W.setCells b (i * 5) vs):=fun W hWc hWf ty dc =>
  run_copy_es W _ _ ty 268 5 b (i * 5) (n + 1 - i) dc ⟨vb,voff,none⟩ 1 vc vs tS hsz (by rw [hm2,hvl])
   (fun j v hj=>by
    rw [Addr.add_lit,hWc,hW1,World.cell?_setCells_out b _ _ _ _ (fun h _=>absurd h hvb)]
    exact hvs j v hj)
   (fun j hj=>by rw [hWc];exact hsp1 _ (by omega)) (fun j hj=>by rw [hWf,hW1,World.frozen?_setCells];exact hfz _ (by omega)) h1v
 rw [← hW1] at hcp1
 go_enter Tryz.func266,Tryz.ntmps266
 go_wp2_with (simp only [hov])
 go_region_law_o (refine step_copy_runI rfl _ _ 83 83 rfl _ _ (by simp [Act.eval,Act.put]) (by simp [Act.eval,Act.put]) (hcp1 _ _ _) ?_)
 go_wp2_with (at_builtin;refine wpList_copy_runI _ rfl _ _ 83 83 rfl _ _ rfl rfl (hcp2 _ (fun _=>rfl) (fun _=>rfl) _ _) ?_)
 go_ret
 first | exact ⟨rfl,rfl⟩ | exact ⟨rfl,by rw [hW1]⟩
theorem insE266 (b n c vb voff vc:Nat) (vs:List Value) (w:World) (hroom:n + 1≤c) (hbig:n + 1≤1000000) (hvl:vs.length=5)
  (hsp:∀ j,j < 5→(w.cell? ⟨b,n * 5 + j,none⟩).isSome=true) (hfz:∀ j,j < 5→w.frozen? ⟨b,n * 5 + j,none⟩=false)
  (hvs:∀ j v,vs[j]?=some v→w.cell? ⟨vb,voff + j,none⟩=some v) (h1v:∀ v ∈ vs,v.oneCell'=true) :
  Calls Tryz.prog 266 #[.slice (some ⟨b,0,none⟩) n c,.int .i64 n,.slice (some ⟨vb,voff,none⟩) 1 vc] w fun e w' =>
   e=.returned (.slice (some ⟨b,0,none⟩) (n + 1) c)∧w'=w.setCells b (n * 5) vs:=by
 have tS:Tryz.prog.underlying 83=some (.slice 268):=by kernel_rfl
 have tV:Tryz.prog.underlying 83=some (.slice 268):=by kernel_rfl
 have tI:Tryz.prog.underlying 3=some (.int .i64):=by kernel_rfl
 have uS:=run_underlying tS
 have uV:=run_underlying tV
 have uI:=run_underlying tI
 have mixed:Tryz.prog.follows .mixedOrders=true:=mix
 obtain ⟨i0,z,hi0,hzs,hz0,hzc,hzb⟩:=infB_ok (P:=Tryz.prog) (e:=268) (es:=5) (by kernel_rfl)
 have hsz:(Tryz.prog.info? 268).map (·.size)=some 5:=by rw [hi0];simp [hzs]
 have hsrc:Src Tryz.prog 5 83 (.slice (some ⟨vb,voff,none⟩) 1 vc) 1 vs w:=Src.ofSlice w tV ⟨vb,voff,none⟩ 1 vc vs (by omega) (fun j u hj=>by rw [Addr.add_lit];exact hvs j u hj) h1v
 have hrun:∀ ty,(Builtin.append_ #[83,83] ty #[.slice (some ⟨b,0,none⟩) n c,.slice (some ⟨vb,voff,none⟩) 1 vc]).run Tryz.prog w=_:=fun ty =>
  run_append_room_src w 83 83 ty 268 i0 tS hi0 b 0 n c _ 1 vs (by rw [hzs];exact hsrc) hroom (by rw [hzs,hvl,Nat.zero_add];exact hsp) (by rw [hzs,hvl,Nat.zero_add];exact hfz)
 rw [hzs,Nat.zero_add] at hrun
 go_enter Tryz.func266,Tryz.ntmps266
 go_wp2_with (at_builtin;refine Lib.wpList_append_run _ rfl _ _ _ _ rfl _ _ rfl rfl _ _ (hrun _) ?_)
 all_goals (go_ret;exact ⟨rfl,rfl⟩)
theorem insG266 (base:Option Addr) (n c vb voff vc:Nat) (cs vs:List Value) (w:World) (hnc:n≤c) (hroom:c < n + 1) (hbig:n + 1≤1000000) (hcl:cs.length=n * 5) (hvl:vs.length=5) (hnil:base=none→n=0)
  (hcs:∀ a,base=some a→∀ j v,cs[j]?=some v→w.cell? (a.add j)=some v) (hvs:∀ j v,vs[j]?=some v→w.cell? ⟨vb,voff + j,none⟩=some v) (h1v:∀ v ∈ vs,v.oneCell'=true) :
  Calls Tryz.prog 266 #[.slice base n c,.int .i64 n,.slice (some ⟨vb,voff,none⟩) 1 vc] w fun e w' =>
   ∃ zs:Array Value,e=.returned (.slice (some ⟨w.heap.size,0,none⟩) (n + 1) (grownCap w (n + 1) c 268))∧w'=w.drew.alloc (.cells ((cs++vs).toArray++zs) 268):=by
 have tS:Tryz.prog.underlying 83=some (.slice 268):=by kernel_rfl
 have tV:Tryz.prog.underlying 83=some (.slice 268):=by kernel_rfl
 have tI:Tryz.prog.underlying 3=some (.int .i64):=by kernel_rfl
 have uS:=run_underlying tS
 have uV:=run_underlying tV
 have uI:=run_underlying tI
 have mixed:Tryz.prog.follows .mixedOrders=true:=mix
 obtain ⟨i0,z,hi0,hzs,hz0,hzc,hzb⟩:=infB_ok (P:=Tryz.prog) (e:=268) (es:=5) (by kernel_rfl)
 have hsz:(Tryz.prog.info? 268).map (·.size)=some 5:=by rw [hi0];simp [hzs]
 have hsrc:Src Tryz.prog i0.size 83 (.slice (some ⟨vb,voff,none⟩) 1 vc) 1 vs w:=by
  rw [hzs]
  exact Src.ofSlice w tV ⟨vb,voff,none⟩ 1 vc vs (by omega) (fun j u hj=>by rw [Addr.add_lit];exact hvs j u hj) h1v
 have hold:(Builtin.firstCells i0.size n (.slice base n c)).run Tryz.prog w.drew=.ok cs.toArray w.drew:=by
  rw [hzs]
  cases base with
  | none =>
   have h0:=hnil rfl
   subst h0
   rw [List.length_eq_zero_iff.1 (by omega:cs.length=0)]
   exact run_firstCells_none w.drew 5 0 0 c
  | some a=>exact run_firstCells_some w.drew 5 n a n c cs hcl (fun j v hj=>hcs a rfl j v hj)
 have hrun:∀ ty,(Builtin.append_ #[83,83] ty #[.slice base n c,.slice (some ⟨vb,voff,none⟩) 1 vc]).run Tryz.prog w=_:=fun ty =>
  run_append_grow_src w 83 83 ty 268 i0 z tS hi0 hz0 base n c cs hold _ 1 vs hsrc hroom (by omega) (growslice_fits hroom (grown_bound hbig hzb))
 obtain ⟨ZS,hrun⟩ : ∃ ZS:Array Value,∀ ty,(Builtin.append_ #[83,83] ty #[.slice base n c,.slice (some ⟨vb,voff,none⟩) 1 vc]).run Tryz.prog w=.ok (.slice (some ⟨w.heap.size,0,none⟩) (n + 1) (grownCap w (n + 1) c 268)) (w.drew.alloc (.cells ((cs++vs).toArray++ZS) 268)):=⟨_,hrun⟩
 have main:Calls Tryz.prog 266 #[.slice base n c,.int .i64 n,.slice (some ⟨vb,voff,none⟩) 1 vc] w fun e w' =>
   e=.returned (.slice (some ⟨w.heap.size,0,none⟩) (n + 1) (grownCap w (n + 1) c 268))∧w'=w.drew.alloc (.cells ((cs++vs).toArray++ZS) 268):=by
  clear hz0 hold hsrc
  go_enter Tryz.func266,Tryz.ntmps266
  cases base with
  | none =>
   have h0:=hnil rfl
   subst h0
   go_wp2_with (at_builtin;refine Lib.wpList_append_run _ rfl _ _ _ _ rfl _ _ rfl rfl _ _ (hrun _) ?_)
   go_ret
   exact ⟨rfl,rfl⟩
  | some a =>
   obtain ⟨ab,ao,asp⟩:=a
   go_wp2_with (at_builtin;refine Lib.wpList_append_run _ rfl _ _ _ _ rfl _ _ rfl rfl _ _ (hrun _) ?_)
   all_goals (go_ret;exact ⟨rfl,rfl⟩)
 refine main.mono ?_
 rintro e w' ⟨rfl,rfl⟩
 exact ⟨ZS,rfl,rfl⟩
theorem insW266 (b n c i vb voff vc:Nat) (cs vs:List Value) (w:World) (hi:i < n) (hnc:n≤c) (hroom:c < n + 1) (hbig:n + 1≤1000000) (hcl:cs.length=n * 5) (hvl:vs.length=5)
  (hcs:∀ j v,cs[j]?=some v→w.cell? ⟨b,j,none⟩=some v) (hvs:∀ j v,vs[j]?=some v→w.cell? ⟨vb,voff + j,none⟩=some v) (h1c:∀ v ∈ cs,v.oneCell'=true) (h1v:∀ v ∈ vs,v.oneCell'=true) :
  Calls Tryz.prog 266 #[.slice (some ⟨b,0,none⟩) n c,.int .i64 i,.slice (some ⟨vb,voff,none⟩) 1 vc] w fun e w' =>
   ∃ ROW:Array Value,(n + 1) * 5≤ROW.size∧(∀ (j:Nat) (v:Value),(cs.take (i * 5))[j]?=some v→ROW[j]?=some v)∧e=.returned (.slice (some ⟨w.heap.size,0,none⟩) (n + 1) (grownCap w (n + 1) c 268)) ∧
    w'=(((w.alloc (.cells ROW 268)).drew.setCells w.heap.size (i * 5) vs).drew).setCells w.heap.size ((i + 1) * 5) (cs.drop (i * 5)):=by
 have tS:Tryz.prog.underlying 83=some (.slice 268):=by kernel_rfl
 have tV:Tryz.prog.underlying 83=some (.slice 268):=by kernel_rfl
 have tI:Tryz.prog.underlying 3=some (.int .i64):=by kernel_rfl
 have uS:=run_underlying tS
 have uV:=run_underlying tV
 have uI:=run_underlying tI
 have mixed:Tryz.prog.follows .mixedOrders=true:=mix
 obtain ⟨i0,z,hi0,hzs,hz0,hzc,hzb⟩:=infB_ok (P:=Tryz.prog) (e:=268) (es:=5) (by kernel_rfl)
 have hsz:(Tryz.prog.info? 268).map (·.size)=some 5:=by rw [hi0];simp [hzs]
 have hz2:¬ ((i:Int)=(n:Int)):=by omega
 have hz3:(c:Int) < (n:Int) + 1:=by omega
 have hbw:b < w.heap.size:=block_lt_of_cell (hcs 0 _ (List.getElem?_eq_getElem (by omega)))
 have hvw:vb < w.heap.size:=block_lt_of_cell (hvs 0 _ (List.getElem?_eq_getElem (by omega)))
 have hwk:IntKind.i64.wrap ((n:Int) + 1 - (i:Int))=((n + 1 - i:Nat):Int):=by rw [IntKind.wrap_i64];omega
 have hik:i + (n + 1 - i)=n + 1:=by omega
 have hold:(Builtin.firstCells i0.size i (.slice (some ⟨b,0,none⟩) i c)).run Tryz.prog w.drew=.ok (cs.take (i * 5)).toArray w.drew:=by
  rw [hzs]
  exact run_firstCells_some w.drew 5 i ⟨b,0,none⟩ i c (cs.take (i * 5)) (by rw [List.length_take];omega) (fun j v hj=>by
   rw [Addr.add_lit,Nat.zero_add]
   rw [List.getElem?_take] at hj
   split at hj
   ·exact hcs j v hj
   ·cases hj)
 have hbk:(n + 1 - i) * i0.bytes≤281474976710656:=by
  have:(n + 1 - i) * i0.bytes≤1000000 * 1000:=Nat.mul_le_mul (by omega) hzb
  omega
 have hrz:∀ ty,(Builtin.append_ #[83,3] ty #[.slice (some ⟨b,0,none⟩) i c,.int .i64 ((n + 1 - i:Nat):Int)]).run Tryz.prog w =
   .ok (.slice (some ⟨w.heap.size,0,none⟩) (n + 1) (grownCap w (n + 1) c 268)) (w.drew.alloc (.cells ((cs.take (i * 5)).toArray++Builtin.zeroCells z.cells (n + 1 - i)++Builtin.zeroCells z.cells (grownCap w (n + 1) c 268 - (n + 1))) 268)):=fun ty=>by
  have h:=Lib.run_append_grow_zeros w 83 3 ty 268 i0 z .i64 .i64 tS tI hi0 hz0 (some ⟨b,0,none⟩) i c (cs.take (i * 5)) hold (n + 1 - i) (by omega) (by omega) (by omega) (by omega) hbk (by rw [hik];exact growslice_fits hroom (grown_bound hbig hzb))
  rw [hik] at h
  exact h
 obtain ⟨G,hG⟩ : ∃ G,G=grownCap w (n + 1) c 268:=⟨_,rfl⟩
 obtain ⟨ROW,hROW⟩ : ∃ ROW:Array Value,ROW=(cs.take (i * 5)).toArray++Builtin.zeroCells z.cells (n + 1 - i)++Builtin.zeroCells z.cells (G - (n + 1)):=⟨_,rfl⟩
 rw [← hG] at hrz ⊢
 rw [← hROW] at hrz
 have hRl:(n + 1) * 5≤ROW.size:=by
  rw [hROW]
  simp only [Array.size_append,size_zeroCells,hzc,List.size_toArray,List.length_take]
  omega
 have hRt:∀ (j:Nat) (v:Value),(cs.take (i * 5))[j]?=some v→ROW[j]?=some v:=fun j v h=>by
  have hl:=(List.getElem?_eq_some_iff.1 h).1
  rw [hROW,Array.append_assoc,Array.getElem?_append_left (by simpa using hl),List.getElem?_toArray]
  exact h
 obtain ⟨W1,hW1⟩ : ∃ W1,W1=w.drew.alloc (.cells ROW 268):=⟨_,rfl⟩
 rw [← hW1] at hrz
 have hN:∀ j,j < (n + 1) * 5→(W1.cell? ⟨w.heap.size,j,none⟩).isSome=true:=fun j hj=>by
  rw [hW1,World.cell?_alloc_at (w:=w.drew) ROW _ w.heap.size j rfl,Array.getElem?_eq_getElem (by omega)];rfl
 have hNf:∀ j,W1.frozen? ⟨w.heap.size,j,none⟩=false:=fun j=>by rw [hW1];exact World.frozen?_alloc_at (w:=w.drew) ROW _ w.heap.size j rfl
 have hOb:∀ j v,w.cell? ⟨b,j,none⟩=some v→W1.cell? ⟨b,j,none⟩=some v:=fun j v h=>by rw [hW1,World.cell?_alloc_past (w:=w.drew) _ b j hbw];exact h
 have hOv:∀ j v,w.cell? ⟨vb,j,none⟩=some v→W1.cell? ⟨vb,j,none⟩=some v:=fun j v h=>by rw [hW1,World.cell?_alloc_past (w:=w.drew) _ vb j hvw];exact h
 have hmA:Nat.min 1 (n + 1 - i)=1:=by simp only [Nat.min_def];split <;> omega
 have hmB:Nat.min (n - i) (n - i)=n - i:=Nat.min_self _
 have hcpA:∀ (W:World),(∀ x,W.cell? x=W1.cell? x)→(∀ x,W.frozen? x=W1.frozen? x)→∀ ty dc,(Builtin.copy_ #[83,83] ty #[.slice (some ⟨w.heap.size,i * 5,none⟩) (n + 1 - i) dc,.slice (some ⟨vb,voff,none⟩) 1 vc]).run Tryz.prog W=.ok (goInt (Nat.min 1 (n + 1 - i))) (W.setCells w.heap.size (i * 5) vs):=fun W hWc hWf ty dc =>
  run_copy_es W _ _ ty 268 5 w.heap.size (i * 5) (n + 1 - i) dc ⟨vb,voff,none⟩ 1 vc vs tS hsz (by rw [hmA,hvl])
   (fun j v hj=>by rw [Addr.add_lit,hWc];exact hOv _ v (hvs j v hj))
   (fun j hj=>by rw [hWc];exact hN _ (by omega)) (fun j hj=>by rw [hWf];exact hNf _) h1v
 have hGn:n + 1≤G:=by rw [hG];exact grownCap_ge w _ _ _
 have hGi:¬ (G=i):=by omega
 have hGim:¬ (G=i + 1):=by omega
 have hci:¬ (c=i):=by omega
 have hbN:b≠w.heap.size:=by omega
 have hdl:(cs.drop (i * 5)).length=(n - i) * 5:=by rw [List.length_drop,hcl];omega
 have hcpB:∀ (W:World),(∀ x,W.cell? x=(W1.setCells w.heap.size (i * 5) vs).cell? x)→(∀ x,W.frozen? x=(W1.setCells w.heap.size (i * 5) vs).frozen? x)→∀ ty dc sc,(Builtin.copy_ #[83,83] ty #[.slice (some ⟨w.heap.size,(i + 1) * 5,none⟩) (n - i) dc,.slice (some ⟨b,i * 5,none⟩) (n - i) sc]).run Tryz.prog W=.ok (goInt (Nat.min (n - i) (n - i))) (W.setCells w.heap.size ((i + 1) * 5) (cs.drop (i * 5))):=fun W hWc hWf ty dc sc =>
  run_copy_es W _ _ ty 268 5 w.heap.size ((i + 1) * 5) (n - i) dc ⟨b,i * 5,none⟩ (n - i) sc (cs.drop (i * 5)) tS hsz (by rw [hmB];exact hdl)
   (fun j v hj=>by
    rw [Addr.add_lit,hWc,World.cell?_setCells_out _ _ _ _ _ (fun h _=>absurd h hbN)]
    exact hOb _ v (hcs (i * 5 + j) v (by rwa [List.getElem?_drop] at hj)))
   (fun j hj=>by rw [hWc];exact isSome_setCells _ _ _ _ (fun t ht=>hN _ (by omega)) _ (hN _ (by omega)))
   (fun j hj=>by rw [hWf,World.frozen?_setCells];exact hNf _) (fun v hv=>h1c v (List.mem_of_mem_drop hv))
 subst hW1
 have hE1:∀ x,((w.alloc (.cells ROW 268)).drew).cell? x=(w.drew.alloc (.cells ROW 268)).cell? x:=fun x=>rfl
 have hE2:∀ x,((w.alloc (.cells ROW 268)).drew).frozen? x=(w.drew.alloc (.cells ROW 268)).frozen? x:=fun x=>rfl
 have hF1:∀ x,(((w.alloc (.cells ROW 268)).drew.setCells w.heap.size (i * 5) vs).drew).cell? x=((w.drew.alloc (.cells ROW 268)).setCells w.heap.size (i * 5) vs).cell? x:=fun x=>rfl
 have hF2:∀ x,(((w.alloc (.cells ROW 268)).drew.setCells w.heap.size (i * 5) vs).drew).frozen? x=((w.drew.alloc (.cells ROW 268)).setCells w.heap.size (i * 5) vs).frozen? x:=fun x=>rfl
 have hw1:IntKind.i64.wrap ((i:Int) + 1)=(i:Int) + 1:=by rw [IntKind.wrap_i64];omega
 have hwn:IntKind.i64.wrap ((n:Int) + 1)=(n:Int) + 1:=by rw [IntKind.wrap_i64];omega
 have hb1:(0:Int)≤(i:Int) + 1:=by omega
 have hin:i≤n:=by omega
 have htn:((i:Int) + 1).toNat=i + 1:=by omega
 have hb3:(i:Int)≤(n:Int):=by omega
 have main:Calls Tryz.prog 266 #[.slice (some ⟨b,0,none⟩) n c,.int .i64 i,.slice (some ⟨vb,voff,none⟩) 1 vc] w fun e w' =>
   e=.returned (.slice (some ⟨w.heap.size,0,none⟩) (n + 1) G)∧w'=(((w.alloc (.cells ROW 268)).drew.setCells w.heap.size (i * 5) vs).drew).setCells w.heap.size ((i + 1) * 5) (cs.drop (i * 5)):=by
  clear hik hold hROW hG hRl hRt hbk hz0
  go_enter Tryz.func266,Tryz.ntmps266
  go_wp2_with (first
   | (at_builtin;refine Lib.wpList_append_run _ rfl _ _ _ _ rfl _ _ rfl rfl _ _ (hrz _) ?_)
   | (at_builtin;refine wpList_copy_runI _ rfl _ _ 83 83 rfl _ _ rfl rfl (hcpA _ hE1 hE2 _ _) ?_))
  go_region_law_o (refine step_copy_runI rfl _ _ 83 83 rfl (.slice (some ⟨w.heap.size,(i + 1) * 5,none⟩) (n - i) (G - (i + 1))) (.slice (some ⟨b,i * 5,none⟩) (n - i) (c - i)) (by simp [Act.eval,Act.put]) (by simp [Act.eval,Act.put]) (hcpB _ hF1 hF2 3 (G - (i + 1)) (c - i)) ?_)
  go_wp2
  go_ret
  first | exact ⟨rfl,rfl⟩ | trace_state
 refine main.mono ?_
 rintro e w' ⟨rfl,rfl⟩
 exact ⟨ROW,hRl,hRt,rfl,rfl⟩
theorem insR266_v:InsRoads Tryz.prog 266 5 268:=⟨insS266,insE266,insG266,insW266⟩
end Go.Proofs.YtpmoioopjbfhkaaGreat

/- slices.Clone at function 268. -/
namespace Go.Proofs.YtpmoioopjbfhkaaGreat
open Go.RowKit Go.Lib
set_option maxHeartbeats 4000000
set_option maxRecDepth 100000
theorem cloS268 (A:Addr) (n c:Nat) (cs:List Value) (w:World) (hn:0 < n) (hbig:n≤1000000) (hcl:cs.length=n * 1) (hcs:∀ j v,cs[j]?=some v→w.cell? (A.add j)=some v) (h1:∀ v ∈ cs,v.oneCell'=true) :
  Calls Tryz.prog 268 #[.slice (some A) n c] w fun e w'=>∃ ZS:Array Value,e=.returned (.slice (some ⟨w.heap.size + 1,0,none⟩) n (grownCap (w.alloc (.cells #[] 9)) n 0 9))∧w'=(w.alloc (.cells #[] 9)).drew.alloc (.cells (cs.toArray++ZS) 9)∧grownCap (w.alloc (.cells #[] 9)) n 0 9 * 1≤(cs.toArray++ZS).size:=by
 have tS:Tryz.prog.underlying 78=some (.slice 9):=by kernel_rfl
 have uS:=run_underlying tS
 have qS:∀ (w:World) (a:Option Addr) (n c n' c' : Nat),(binOp .eql 78 (.slice a n c) (.slice none n' c')).run Tryz.prog w=.ok (.bool a.isNone) w:=fun w a n c n' c'=>Lib.run_eql_slice_nil w _ _ a n c n' c' tS
 have mixed:Tryz.prog.follows .mixedOrders=true:=mix
 obtain ⟨i0,z,hi0,hzs,hz0,hzc,hzb⟩:=infB_ok (P:=Tryz.prog) (e:=9) (es:=1) (by kernel_rfl)
 have hsrc:Src Tryz.prog i0.size 78 (.slice (some A) n c) n cs (w.alloc (.cells #[] 9)):=by
  rw [hzs]
  exact Src.ofSlice _ tS A n c cs (by omega) (fun j u hj=>Lib.cell?_alloc_some _ (hcs j u hj)) h1
 have hold:(Builtin.firstCells i0.size 0 (.slice (some ⟨w.heap.size,0,none⟩) 0 0)).run Tryz.prog (w.alloc (.cells #[] 9)).drew=.ok ([]:List Value).toArray (w.alloc (.cells #[] 9)).drew:=by
  rw [hzs]
  exact run_firstCells_some _ 1 0 ⟨w.heap.size,0,none⟩ 0 0 [] (by simp) (fun j v hj=>by simp at hj)
 have hrun:∀ ty,(Builtin.append_ #[78,78] ty #[.slice (some ⟨w.heap.size,0,none⟩) 0 0,.slice (some A) n c]).run Tryz.prog (w.alloc (.cells #[] 9))=_:=fun ty =>
  run_append_grow_src (w.alloc (.cells #[] 9)) 78 78 ty 9 i0 z tS hi0 hz0 (some ⟨w.heap.size,0,none⟩) 0 0 [] hold _ n cs hsrc (by omega) (by omega) (growslice_fits (by omega) (grown_bound (by omega) hzb))
 simp only [Nat.zero_add,List.nil_append,World.size_alloc] at hrun
 have hge:=grownCap_ge (w.alloc (.cells #[] 9)) n 0 9
 have hsz:grownCap (w.alloc (.cells #[] 9)) n 0 9 * 1≤(cs.toArray++Builtin.zeroCells z.cells (grownCap (w.alloc (.cells #[] 9)) n 0 9 - n)).size:=by
  simp only [Array.size_append,size_zeroCells,hzc,List.size_toArray,hcl]
  omega
 obtain ⟨ZS,hrun,hsz⟩ : ∃ ZS:Array Value,(∀ ty,(Builtin.append_ #[78,78] ty #[.slice (some ⟨w.heap.size,0,none⟩) 0 0,.slice (some A) n c]).run Tryz.prog (w.alloc (.cells #[] 9))=.ok (.slice (some ⟨w.heap.size + 1,0,none⟩) n (grownCap (w.alloc (.cells #[] 9)) n 0 9)) ((w.alloc (.cells #[] 9)).drew.alloc (.cells (cs.toArray++ZS) 9)))∧grownCap (w.alloc (.cells #[] 9)) n 0 9 * 1≤(cs.toArray++ZS).size:=⟨_,hrun,hsz⟩
 have main:Calls Tryz.prog 268 #[.slice (some A) n c] w fun e w'=>e=.returned (.slice (some ⟨w.heap.size + 1,0,none⟩) n (grownCap (w.alloc (.cells #[] 9)) n 0 9))∧w'=(w.alloc (.cells #[] 9)).drew.alloc (.cells (cs.toArray++ZS) 9):=by
  clear hsz hold hsrc hz0 hcs
  go_enter Tryz.func268,Tryz.ntmps268
  go_wp2_with (at_builtin;refine Lib.wpList_append_run _ rfl _ _ _ _ rfl _ _ rfl rfl _ _ (hrun _) ?_)
  go_ret
  exact ⟨rfl,rfl⟩
 refine main.mono ?_
 rintro e w' ⟨rfl,rfl⟩
 exact ⟨ZS,rfl,rfl,hsz⟩
theorem cloZ268 (A:Addr) (c:Nat) (w:World):Calls Tryz.prog 268 #[.slice (some A) 0 c] w fun e w'=>e=.returned (.slice (some ⟨w.heap.size,0,none⟩) 0 0)∧∃ q,w'=(w.alloc (.cells #[] 9)).drewN q:=by
 have tS:Tryz.prog.underlying 78=some (.slice 9):=by kernel_rfl
 have uS:=run_underlying tS
 have qS:∀ (w:World) (a:Option Addr) (n c n' c' : Nat),(binOp .eql 78 (.slice a n c) (.slice none n' c')).run Tryz.prog w=.ok (.bool a.isNone) w:=fun w a n c n' c'=>Lib.run_eql_slice_nil w _ _ a n c n' c' tS
 have mixed:Tryz.prog.follows .mixedOrders=true:=mix
 obtain ⟨i0,z,hi0,hzs,hz0,hzc,hzb⟩:=infB_ok (P:=Tryz.prog) (e:=9) (es:=1) (by kernel_rfl)
 have hsz:(Tryz.prog.info? 9).map (·.size)=some 1:=by rw [hi0];simp [hzs]
 have hrun:∀ ty,(Builtin.append_ #[78,78] ty #[.slice (some ⟨w.heap.size,0,none⟩) 0 0,.slice (some A) 0 c]).run Tryz.prog (w.alloc (.cells #[] 9))=.ok (.slice (some ⟨w.heap.size,0,none⟩) 0 0) (w.alloc (.cells #[] 9)):=fun ty=>by
  have hl:∀ (x:Addr) (W:World),(loadCells x 0).run Tryz.prog W=.ok #[] W:=fun x W=>by simpa using run_loadCells_list (P:=Tryz.prog) W x [] (by simp)
  simp [Builtin.append_,uS,Builtin.lenOf,Builtin.firstCells,sizeOf,typeInfo,hi0,hl,storeCells]
 have main:Calls Tryz.prog 268 #[.slice (some A) 0 c] w fun e w'=>e=.returned (.slice (some ⟨w.heap.size,0,none⟩) 0 0)∧w'=w.alloc (.cells #[] 9):=by
  go_enter Tryz.func268,Tryz.ntmps268
  go_wp2_with (at_builtin;refine Lib.wpList_append_run _ rfl _ _ _ _ rfl _ _ rfl rfl _ _ (hrun _) ?_)
  go_ret
  exact ⟨rfl,rfl⟩
 refine main.mono ?_
 rintro e w' ⟨rfl,rfl⟩
 exact ⟨rfl,0,rfl⟩
theorem cloN268 (n c:Nat) (w:World):Calls Tryz.prog 268 #[.slice none n c] w fun e w'=>e=.returned (.slice none 0 0)∧w'=w:=by
 have tS:Tryz.prog.underlying 78=some (.slice 9):=by kernel_rfl
 have uS:=run_underlying tS
 have qS:∀ (w:World) (a:Option Addr) (n c n' c' : Nat),(binOp .eql 78 (.slice a n c) (.slice none n' c')).run Tryz.prog w=.ok (.bool a.isNone) w:=fun w a n c n' c'=>Lib.run_eql_slice_nil w _ _ a n c n' c' tS
 have mixed:Tryz.prog.follows .mixedOrders=true:=mix
 go_enter Tryz.func268,Tryz.ntmps268
 go_wp2
 go_ret
 exact ⟨rfl,rfl⟩
theorem cloR268_v:CloRoads Tryz.prog 268 1 9:=⟨cloS268,cloZ268,cloN268⟩
end Go.Proofs.YtpmoioopjbfhkaaGreat

/- slices.Insert: its roads at function 269. -/
namespace Go.Proofs.YtpmoioopjbfhkaaGreat
open Go.RowKit Go.Lib
set_option maxHeartbeats 4000000
set_option maxRecDepth 100000
theorem insS269 (b n c i vb voff vc:Nat) (cs vs:List Value) (w:World) (tA tB:TypeId) (kA kB:Nat) (hi:i < n) (hroom:n + 1≤c) (hbig:n + 1≤1000000) (hvb:vb≠b) (hcl:cs.length=n * 1) (hvl:vs.length=1)
  (hcs:∀ j v,cs[j]?=some v→w.cell? ⟨b,j,none⟩=some v) (hsp:∀ j,j < (n + 1) * 1→(w.cell? ⟨b,j,none⟩).isSome=true) (hfz:∀ j,j < (n + 1) * 1→w.frozen? ⟨b,j,none⟩=false)
  (hvs:∀ j v,vs[j]?=some v→w.cell? ⟨vb,voff + j,none⟩=some v) (h1c:∀ v ∈ cs,v.oneCell'=true) (h1v:∀ v ∈ vs,v.oneCell'=true)
  (hsa:w.shape? vb=some (tA,kA)) (hsb:w.shape? b=some (tB,kB)) (hkA:kA≠0) (hkB:kB≠0) (hfe:w.frozen? ⟨b,kB,none⟩=false) :
  Calls Tryz.prog 269 #[.slice (some ⟨b,0,none⟩) n c,.int .i64 i,.slice (some ⟨vb,voff,none⟩) 1 vc] w fun e w' =>
   e=.returned (.slice (some ⟨b,0,none⟩) (n + 1) c)∧w'=(w.drew.setCells b ((i + 1) * 1) (cs.drop (i * 1))).setCells b (i * 1) vs:=by
 have tS:Tryz.prog.underlying 78=some (.slice 9):=by kernel_rfl
 have tV:Tryz.prog.underlying 78=some (.slice 9):=by kernel_rfl
 have tI:Tryz.prog.underlying 3=some (.int .i64):=by kernel_rfl
 have uS:=run_underlying tS
 have uV:=run_underlying tV
 have uI:=run_underlying tI
 have mixed:Tryz.prog.follows .mixedOrders=true:=mix
 obtain ⟨i0,z,hi0,hzs,hz0,hzc,hzb⟩:=infB_ok (P:=Tryz.prog) (e:=9) (es:=1) (by kernel_rfl)
 have hsz:(Tryz.prog.info? 9).map (·.size)=some 1:=by rw [hi0];simp [hzs]
 have hov:∀ lb cb,(callFunc 296 #[.slice (some ⟨vb,voff,none⟩) 1 vc,.slice (some ⟨b,(i + 1) * 1,none⟩) lb cb]).run Tryz.prog w=.ok (.value (.bool false)) w:=fun lb cb=>by
  rw [run_callFunc_extern Tryz.func296 (by kernel_rfl) (by kernel_rfl) (by kernel_rfl) (e:=Extern.SlicesOverlaps.overlaps #[78,78] #[4]) (by kernel_rfl),
   run_overlaps_own w 78 4 9 tV 1 (fun w=>by rw [← hzs];exact run_sizeOf hi0 w) ⟨vb,voff,none⟩ ⟨b,(i + 1) * 1,none⟩ 1 vc lb cb hvb tA tB kA kB hsa hsb hkA hkB (hfz _ (by omega)) hfe]
  rfl
 have hdl:(cs.drop (i * 1)).length=(n - i) * 1:=by rw [List.length_drop,hcl];omega
 have hz2:¬ ((i:Int)=(n:Int)):=by omega
 have hw1:IntKind.i64.wrap ((i:Int) + 1)=(i:Int) + 1:=by rw [IntKind.wrap_i64];omega
 have hwn:IntKind.i64.wrap ((n:Int) + 1)=(n:Int) + 1:=by rw [IntKind.wrap_i64];omega
 have hb1:(0:Int)≤(i:Int) + 1:=by omega
 have hin:i≤n:=by omega
 have htn:((i:Int) + 1).toNat=i + 1:=by omega
 have htm:((n:Int) + 1).toNat=n + 1:=by omega
 have hb2:¬ (c=i + 1):=by omega
 have hb3:(i:Int)≤(n:Int) + 1:=by omega
 have hb4:¬ (c=i):=by omega
 have hb5:¬ ((c:Int) < (n:Int) + 1):=by omega
 have hb6:(n:Int) + 1≤(c:Int):=by omega
 have hm1:Nat.min (n + 1 - i) (n - i)=n - i:=by simp only [Nat.min_def];split <;> omega
 have hm2:Nat.min 1 (n + 1 - i)=1:=by simp only [Nat.min_def];split <;> omega
 have hcp1:∀ ty dc sc,(Builtin.copy_ #[78,78] ty #[.slice (some ⟨b,(i + 1) * 1,none⟩) (n - i) dc,.slice (some ⟨b,i * 1,none⟩) (n + 1 - i) sc]).run Tryz.prog w.drew=.ok (goInt (Nat.min (n + 1 - i) (n - i))) (w.drew.setCells b ((i + 1) * 1) (cs.drop (i * 1))):=fun ty dc sc =>
  run_copy_es w.drew _ _ ty 9 1 b ((i + 1) * 1) (n - i) dc ⟨b,i * 1,none⟩ (n + 1 - i) sc (cs.drop (i * 1)) tS hsz (by rw [hm1];exact hdl)
   (fun j v hj=>by rw [Addr.add_lit];exact hcs (i * 1 + j) v (by rwa [List.getElem?_drop] at hj))
   (fun j hj=>hsp _ (by omega)) (fun j hj=>hfz _ (by omega)) (fun v hv=>h1c v (List.mem_of_mem_drop hv))
 obtain ⟨W1,hW1⟩ : ∃ W1,W1=w.drew.setCells b ((i + 1) * 1) (cs.drop (i * 1)):=⟨_,rfl⟩
 have hsp1:∀ k,k < (n + 1) * 1→(W1.cell? ⟨b,k,none⟩).isSome=true:=fun k hk=>by
  rw [hW1]
  exact isSome_setCells b (cs.drop (i * 1)) ((i + 1) * 1) w.drew (fun j hj=>hsp _ (by omega)) _ (hsp k hk)
 have hcp2:∀ (W:World),(∀ x,W.cell? x=W1.cell? x)→(∀ x,W.frozen? x=W1.frozen? x)→∀ ty dc,(Builtin.copy_ #[78,78] ty #[.slice (some ⟨b,i * 1,none⟩) (n + 1 - i) dc,.slice (some ⟨vb,voff,none⟩) 1 vc]).run Tryz.prog W=.ok (goInt (Nat.min 1 (n + 1 - i))) (W.setCells b (i * 1) vs):=fun W hWc hWf ty dc =>
  run_copy_es W _ _ ty 9 1 b (i * 1) (n + 1 - i) dc ⟨vb,voff,none⟩ 1 vc vs tS hsz (by rw [hm2,hvl])
   (fun j v hj=>by
    rw [Addr.add_lit,hWc,hW1,World.cell?_setCells_out b _ _ _ _ (fun h _=>absurd h hvb)]
    exact hvs j v hj)
   (fun j hj=>by rw [hWc];exact hsp1 _ (by omega)) (fun j hj=>by rw [hWf,hW1,World.frozen?_setCells];exact hfz _ (by omega)) h1v
 rw [← hW1] at hcp1
 try simp only [Nat.mul_one] at hov
 try simp only [Nat.mul_one] at hcp1
 try simp only [Nat.mul_one] at hcp2
 try simp only [Nat.mul_one] at hW1
 try simp only [Nat.mul_one] at ⊢
 go_enter Tryz.func269,Tryz.ntmps269
 go_wp2_with (simp only [hov])
 go_region_law_o (refine step_copy_runI rfl _ _ 78 78 rfl _ _ (by simp [Act.eval,Act.put]) (by simp [Act.eval,Act.put]) (hcp1 _ _ _) ?_)
 go_wp2_with (at_builtin;refine wpList_copy_runI _ rfl _ _ 78 78 rfl _ _ rfl rfl (hcp2 _ (fun _=>rfl) (fun _=>rfl) _ _) ?_)
 go_ret
 first | exact ⟨rfl,rfl⟩ | exact ⟨rfl,by rw [hW1]⟩
theorem insE269 (b n c vb voff vc:Nat) (vs:List Value) (w:World) (hroom:n + 1≤c) (hbig:n + 1≤1000000) (hvl:vs.length=1)
  (hsp:∀ j,j < 1→(w.cell? ⟨b,n * 1 + j,none⟩).isSome=true) (hfz:∀ j,j < 1→w.frozen? ⟨b,n * 1 + j,none⟩=false)
  (hvs:∀ j v,vs[j]?=some v→w.cell? ⟨vb,voff + j,none⟩=some v) (h1v:∀ v ∈ vs,v.oneCell'=true) :
  Calls Tryz.prog 269 #[.slice (some ⟨b,0,none⟩) n c,.int .i64 n,.slice (some ⟨vb,voff,none⟩) 1 vc] w fun e w' =>
   e=.returned (.slice (some ⟨b,0,none⟩) (n + 1) c)∧w'=w.setCells b (n * 1) vs:=by
 have tS:Tryz.prog.underlying 78=some (.slice 9):=by kernel_rfl
 have tV:Tryz.prog.underlying 78=some (.slice 9):=by kernel_rfl
 have tI:Tryz.prog.underlying 3=some (.int .i64):=by kernel_rfl
 have uS:=run_underlying tS
 have uV:=run_underlying tV
 have uI:=run_underlying tI
 have mixed:Tryz.prog.follows .mixedOrders=true:=mix
 obtain ⟨i0,z,hi0,hzs,hz0,hzc,hzb⟩:=infB_ok (P:=Tryz.prog) (e:=9) (es:=1) (by kernel_rfl)
 have hsz:(Tryz.prog.info? 9).map (·.size)=some 1:=by rw [hi0];simp [hzs]
 have hsrc:Src Tryz.prog 1 78 (.slice (some ⟨vb,voff,none⟩) 1 vc) 1 vs w:=Src.ofSlice w tV ⟨vb,voff,none⟩ 1 vc vs (by omega) (fun j u hj=>by rw [Addr.add_lit];exact hvs j u hj) h1v
 have hrun:∀ ty,(Builtin.append_ #[78,78] ty #[.slice (some ⟨b,0,none⟩) n c,.slice (some ⟨vb,voff,none⟩) 1 vc]).run Tryz.prog w=_:=fun ty =>
  run_append_room_src w 78 78 ty 9 i0 tS hi0 b 0 n c _ 1 vs (by rw [hzs];exact hsrc) hroom (by rw [hzs,hvl,Nat.zero_add];exact hsp) (by rw [hzs,hvl,Nat.zero_add];exact hfz)
 rw [hzs,Nat.zero_add] at hrun
 try simp only [Nat.mul_one] at hrun
 try simp only [Nat.mul_one] at ⊢
 go_enter Tryz.func269,Tryz.ntmps269
 go_wp2_with (at_builtin;refine Lib.wpList_append_run _ rfl _ _ _ _ rfl _ _ rfl rfl _ _ (hrun _) ?_)
 all_goals (go_ret;exact ⟨rfl,rfl⟩)
theorem insG269 (base:Option Addr) (n c vb voff vc:Nat) (cs vs:List Value) (w:World) (hnc:n≤c) (hroom:c < n + 1) (hbig:n + 1≤1000000) (hcl:cs.length=n * 1) (hvl:vs.length=1) (hnil:base=none→n=0)
  (hcs:∀ a,base=some a→∀ j v,cs[j]?=some v→w.cell? (a.add j)=some v) (hvs:∀ j v,vs[j]?=some v→w.cell? ⟨vb,voff + j,none⟩=some v) (h1v:∀ v ∈ vs,v.oneCell'=true) :
  Calls Tryz.prog 269 #[.slice base n c,.int .i64 n,.slice (some ⟨vb,voff,none⟩) 1 vc] w fun e w' =>
   ∃ zs:Array Value,e=.returned (.slice (some ⟨w.heap.size,0,none⟩) (n + 1) (grownCap w (n + 1) c 9))∧w'=w.drew.alloc (.cells ((cs++vs).toArray++zs) 9):=by
 have tS:Tryz.prog.underlying 78=some (.slice 9):=by kernel_rfl
 have tV:Tryz.prog.underlying 78=some (.slice 9):=by kernel_rfl
 have tI:Tryz.prog.underlying 3=some (.int .i64):=by kernel_rfl
 have uS:=run_underlying tS
 have uV:=run_underlying tV
 have uI:=run_underlying tI
 have mixed:Tryz.prog.follows .mixedOrders=true:=mix
 obtain ⟨i0,z,hi0,hzs,hz0,hzc,hzb⟩:=infB_ok (P:=Tryz.prog) (e:=9) (es:=1) (by kernel_rfl)
 have hsz:(Tryz.prog.info? 9).map (·.size)=some 1:=by rw [hi0];simp [hzs]
 have hsrc:Src Tryz.prog i0.size 78 (.slice (some ⟨vb,voff,none⟩) 1 vc) 1 vs w:=by
  rw [hzs]
  exact Src.ofSlice w tV ⟨vb,voff,none⟩ 1 vc vs (by omega) (fun j u hj=>by rw [Addr.add_lit];exact hvs j u hj) h1v
 have hold:(Builtin.firstCells i0.size n (.slice base n c)).run Tryz.prog w.drew=.ok cs.toArray w.drew:=by
  rw [hzs]
  cases base with
  | none =>
   have h0:=hnil rfl
   subst h0
   rw [List.length_eq_zero_iff.1 (by omega:cs.length=0)]
   exact run_firstCells_none w.drew 1 0 0 c
  | some a=>exact run_firstCells_some w.drew 1 n a n c cs hcl (fun j v hj=>hcs a rfl j v hj)
 have hrun:∀ ty,(Builtin.append_ #[78,78] ty #[.slice base n c,.slice (some ⟨vb,voff,none⟩) 1 vc]).run Tryz.prog w=_:=fun ty =>
  run_append_grow_src w 78 78 ty 9 i0 z tS hi0 hz0 base n c cs hold _ 1 vs hsrc hroom (by omega) (growslice_fits hroom (grown_bound hbig hzb))
 obtain ⟨ZS,hrun⟩ : ∃ ZS:Array Value,∀ ty,(Builtin.append_ #[78,78] ty #[.slice base n c,.slice (some ⟨vb,voff,none⟩) 1 vc]).run Tryz.prog w=.ok (.slice (some ⟨w.heap.size,0,none⟩) (n + 1) (grownCap w (n + 1) c 9)) (w.drew.alloc (.cells ((cs++vs).toArray++ZS) 9)):=⟨_,hrun⟩
 have main:Calls Tryz.prog 269 #[.slice base n c,.int .i64 n,.slice (some ⟨vb,voff,none⟩) 1 vc] w fun e w' =>
   e=.returned (.slice (some ⟨w.heap.size,0,none⟩) (n + 1) (grownCap w (n + 1) c 9))∧w'=w.drew.alloc (.cells ((cs++vs).toArray++ZS) 9):=by
  clear hz0 hold hsrc
  go_enter Tryz.func269,Tryz.ntmps269
  cases base with
  | none =>
   have h0:=hnil rfl
   subst h0
   go_wp2_with (at_builtin;refine Lib.wpList_append_run _ rfl _ _ _ _ rfl _ _ rfl rfl _ _ (hrun _) ?_)
   go_ret
   exact ⟨rfl,rfl⟩
  | some a =>
   obtain ⟨ab,ao,asp⟩:=a
   go_wp2_with (at_builtin;refine Lib.wpList_append_run _ rfl _ _ _ _ rfl _ _ rfl rfl _ _ (hrun _) ?_)
   all_goals (go_ret;exact ⟨rfl,rfl⟩)
 refine main.mono ?_
 rintro e w' ⟨rfl,rfl⟩
 exact ⟨ZS,rfl,rfl⟩
theorem insW269 (b n c i vb voff vc:Nat) (cs vs:List Value) (w:World) (hi:i < n) (hnc:n≤c) (hroom:c < n + 1) (hbig:n + 1≤1000000) (hcl:cs.length=n * 1) (hvl:vs.length=1)
  (hcs:∀ j v,cs[j]?=some v→w.cell? ⟨b,j,none⟩=some v) (hvs:∀ j v,vs[j]?=some v→w.cell? ⟨vb,voff + j,none⟩=some v) (h1c:∀ v ∈ cs,v.oneCell'=true) (h1v:∀ v ∈ vs,v.oneCell'=true) :
  Calls Tryz.prog 269 #[.slice (some ⟨b,0,none⟩) n c,.int .i64 i,.slice (some ⟨vb,voff,none⟩) 1 vc] w fun e w' =>
   ∃ ROW:Array Value,(n + 1) * 1≤ROW.size∧(∀ (j:Nat) (v:Value),(cs.take (i * 1))[j]?=some v→ROW[j]?=some v)∧e=.returned (.slice (some ⟨w.heap.size,0,none⟩) (n + 1) (grownCap w (n + 1) c 9)) ∧
    w'=(((w.alloc (.cells ROW 9)).drew.setCells w.heap.size (i * 1) vs).drew).setCells w.heap.size ((i + 1) * 1) (cs.drop (i * 1)):=by
 have tS:Tryz.prog.underlying 78=some (.slice 9):=by kernel_rfl
 have tV:Tryz.prog.underlying 78=some (.slice 9):=by kernel_rfl
 have tI:Tryz.prog.underlying 3=some (.int .i64):=by kernel_rfl
 have uS:=run_underlying tS
 have uV:=run_underlying tV
 have uI:=run_underlying tI
 have mixed:Tryz.prog.follows .mixedOrders=true:=mix
 obtain ⟨i0,z,hi0,hzs,hz0,hzc,hzb⟩:=infB_ok (P:=Tryz.prog) (e:=9) (es:=1) (by kernel_rfl)
 have hsz:(Tryz.prog.info? 9).map (·.size)=some 1:=by rw [hi0];simp [hzs]
 have hz2:¬ ((i:Int)=(n:Int)):=by omega
 have hz3:(c:Int) < (n:Int) + 1:=by omega
 have hbw:b < w.heap.size:=block_lt_of_cell (hcs 0 _ (List.getElem?_eq_getElem (by omega)))
 have hvw:vb < w.heap.size:=block_lt_of_cell (hvs 0 _ (List.getElem?_eq_getElem (by omega)))
 have hwk:IntKind.i64.wrap ((n:Int) + 1 - (i:Int))=((n + 1 - i:Nat):Int):=by rw [IntKind.wrap_i64];omega
 have hik:i + (n + 1 - i)=n + 1:=by omega
 have hold:(Builtin.firstCells i0.size i (.slice (some ⟨b,0,none⟩) i c)).run Tryz.prog w.drew=.ok (cs.take (i * 1)).toArray w.drew:=by
  rw [hzs]
  exact run_firstCells_some w.drew 1 i ⟨b,0,none⟩ i c (cs.take (i * 1)) (by rw [List.length_take];omega) (fun j v hj=>by
   rw [Addr.add_lit,Nat.zero_add]
   rw [List.getElem?_take] at hj
   split at hj
   ·exact hcs j v hj
   ·cases hj)
 have hbk:(n + 1 - i) * i0.bytes≤281474976710656:=by
  have:(n + 1 - i) * i0.bytes≤1000000 * 1000:=Nat.mul_le_mul (by omega) hzb
  omega
 have hrz:∀ ty,(Builtin.append_ #[78,3] ty #[.slice (some ⟨b,0,none⟩) i c,.int .i64 ((n + 1 - i:Nat):Int)]).run Tryz.prog w =
   .ok (.slice (some ⟨w.heap.size,0,none⟩) (n + 1) (grownCap w (n + 1) c 9)) (w.drew.alloc (.cells ((cs.take (i * 1)).toArray++Builtin.zeroCells z.cells (n + 1 - i)++Builtin.zeroCells z.cells (grownCap w (n + 1) c 9 - (n + 1))) 9)):=fun ty=>by
  have h:=Lib.run_append_grow_zeros w 78 3 ty 9 i0 z .i64 .i64 tS tI hi0 hz0 (some ⟨b,0,none⟩) i c (cs.take (i * 1)) hold (n + 1 - i) (by omega) (by omega) (by omega) (by omega) hbk (by rw [hik];exact growslice_fits hroom (grown_bound hbig hzb))
  rw [hik] at h
  exact h
 obtain ⟨G,hG⟩ : ∃ G,G=grownCap w (n + 1) c 9:=⟨_,rfl⟩
 obtain ⟨ROW,hROW⟩ : ∃ ROW:Array Value,ROW=(cs.take (i * 1)).toArray++Builtin.zeroCells z.cells (n + 1 - i)++Builtin.zeroCells z.cells (G - (n + 1)):=⟨_,rfl⟩
 rw [← hG] at hrz ⊢
 rw [← hROW] at hrz
 have hRl:(n + 1) * 1≤ROW.size:=by
  rw [hROW]
  simp only [Array.size_append,size_zeroCells,hzc,List.size_toArray,List.length_take]
  omega
 have hRt:∀ (j:Nat) (v:Value),(cs.take (i * 1))[j]?=some v→ROW[j]?=some v:=fun j v h=>by
  have hl:=(List.getElem?_eq_some_iff.1 h).1
  rw [hROW,Array.append_assoc,Array.getElem?_append_left (by simpa using hl),List.getElem?_toArray]
  exact h
 obtain ⟨W1,hW1⟩ : ∃ W1,W1=w.drew.alloc (.cells ROW 9):=⟨_,rfl⟩
 rw [← hW1] at hrz
 have hN:∀ j,j < (n + 1) * 1→(W1.cell? ⟨w.heap.size,j,none⟩).isSome=true:=fun j hj=>by
  rw [hW1,World.cell?_alloc_at (w:=w.drew) ROW _ w.heap.size j rfl,Array.getElem?_eq_getElem (by omega)];rfl
 have hNf:∀ j,W1.frozen? ⟨w.heap.size,j,none⟩=false:=fun j=>by rw [hW1];exact World.frozen?_alloc_at (w:=w.drew) ROW _ w.heap.size j rfl
 have hOb:∀ j v,w.cell? ⟨b,j,none⟩=some v→W1.cell? ⟨b,j,none⟩=some v:=fun j v h=>by rw [hW1,World.cell?_alloc_past (w:=w.drew) _ b j hbw];exact h
 have hOv:∀ j v,w.cell? ⟨vb,j,none⟩=some v→W1.cell? ⟨vb,j,none⟩=some v:=fun j v h=>by rw [hW1,World.cell?_alloc_past (w:=w.drew) _ vb j hvw];exact h
 have hmA:Nat.min 1 (n + 1 - i)=1:=by simp only [Nat.min_def];split <;> omega
 have hmB:Nat.min (n - i) (n - i)=n - i:=Nat.min_self _
 have hcpA:∀ (W:World),(∀ x,W.cell? x=W1.cell? x)→(∀ x,W.frozen? x=W1.frozen? x)→∀ ty dc,(Builtin.copy_ #[78,78] ty #[.slice (some ⟨w.heap.size,i * 1,none⟩) (n + 1 - i) dc,.slice (some ⟨vb,voff,none⟩) 1 vc]).run Tryz.prog W=.ok (goInt (Nat.min 1 (n + 1 - i))) (W.setCells w.heap.size (i * 1) vs):=fun W hWc hWf ty dc =>
  run_copy_es W _ _ ty 9 1 w.heap.size (i * 1) (n + 1 - i) dc ⟨vb,voff,none⟩ 1 vc vs tS hsz (by rw [hmA,hvl])
   (fun j v hj=>by rw [Addr.add_lit,hWc];exact hOv _ v (hvs j v hj))
   (fun j hj=>by rw [hWc];exact hN _ (by omega)) (fun j hj=>by rw [hWf];exact hNf _) h1v
 have hGn:n + 1≤G:=by rw [hG];exact grownCap_ge w _ _ _
 have hGi:¬ (G=i):=by omega
 have hGim:¬ (G=i + 1):=by omega
 have hci:¬ (c=i):=by omega
 have hbN:b≠w.heap.size:=by omega
 have hdl:(cs.drop (i * 1)).length=(n - i) * 1:=by rw [List.length_drop,hcl];omega
 have hcpB:∀ (W:World),(∀ x,W.cell? x=(W1.setCells w.heap.size (i * 1) vs).cell? x)→(∀ x,W.frozen? x=(W1.setCells w.heap.size (i * 1) vs).frozen? x)→∀ ty dc sc,(Builtin.copy_ #[78,78] ty #[.slice (some ⟨w.heap.size,(i + 1) * 1,none⟩) (n - i) dc,.slice (some ⟨b,i * 1,none⟩) (n - i) sc]).run Tryz.prog W=.ok (goInt (Nat.min (n - i) (n - i))) (W.setCells w.heap.size ((i + 1) * 1) (cs.drop (i * 1))):=fun W hWc hWf ty dc sc =>
  run_copy_es W _ _ ty 9 1 w.heap.size ((i + 1) * 1) (n - i) dc ⟨b,i * 1,none⟩ (n - i) sc (cs.drop (i * 1)) tS hsz (by rw [hmB];exact hdl)
   (fun j v hj=>by
    rw [Addr.add_lit,hWc,World.cell?_setCells_out _ _ _ _ _ (fun h _=>absurd h hbN)]
    exact hOb _ v (hcs (i * 1 + j) v (by rwa [List.getElem?_drop] at hj)))
   (fun j hj=>by rw [hWc];exact isSome_setCells _ _ _ _ (fun t ht=>hN _ (by omega)) _ (hN _ (by omega)))
   (fun j hj=>by rw [hWf,World.frozen?_setCells];exact hNf _) (fun v hv=>h1c v (List.mem_of_mem_drop hv))
 subst hW1
 have hE1:∀ x,((w.alloc (.cells ROW 9)).drew).cell? x=(w.drew.alloc (.cells ROW 9)).cell? x:=fun x=>rfl
 have hE2:∀ x,((w.alloc (.cells ROW 9)).drew).frozen? x=(w.drew.alloc (.cells ROW 9)).frozen? x:=fun x=>rfl
 have hF1:∀ x,(((w.alloc (.cells ROW 9)).drew.setCells w.heap.size (i * 1) vs).drew).cell? x=((w.drew.alloc (.cells ROW 9)).setCells w.heap.size (i * 1) vs).cell? x:=fun x=>rfl
 have hF2:∀ x,(((w.alloc (.cells ROW 9)).drew.setCells w.heap.size (i * 1) vs).drew).frozen? x=((w.drew.alloc (.cells ROW 9)).setCells w.heap.size (i * 1) vs).frozen? x:=fun x=>rfl
 have hw1:IntKind.i64.wrap ((i:Int) + 1)=(i:Int) + 1:=by rw [IntKind.wrap_i64];omega
 have hwn:IntKind.i64.wrap ((n:Int) + 1)=(n:Int) + 1:=by rw [IntKind.wrap_i64];omega
 have hb1:(0:Int)≤(i:Int) + 1:=by omega
 have hin:i≤n:=by omega
 have htn:((i:Int) + 1).toNat=i + 1:=by omega
 have hb3:(i:Int)≤(n:Int):=by omega
 have main:Calls Tryz.prog 269 #[.slice (some ⟨b,0,none⟩) n c,.int .i64 i,.slice (some ⟨vb,voff,none⟩) 1 vc] w fun e w' =>
   e=.returned (.slice (some ⟨w.heap.size,0,none⟩) (n + 1) G)∧w'=(((w.alloc (.cells ROW 9)).drew.setCells w.heap.size (i * 1) vs).drew).setCells w.heap.size ((i + 1) * 1) (cs.drop (i * 1)):=by
  clear hik hold hROW hG hRl hRt hbk hz0
  try simp only [Nat.mul_one] at hcpA
  try simp only [Nat.mul_one] at hcpB
  try simp only [Nat.mul_one] at hrz
  try simp only [Nat.mul_one] at hE1
  try simp only [Nat.mul_one] at hE2
  try simp only [Nat.mul_one] at hF1
  try simp only [Nat.mul_one] at hF2
  try simp only [Nat.mul_one] at ⊢
  go_enter Tryz.func269,Tryz.ntmps269
  go_wp2_with (first
   | (at_builtin;refine Lib.wpList_append_run _ rfl _ _ _ _ rfl _ _ rfl rfl _ _ (hrz _) ?_)
   | (at_builtin;refine wpList_copy_runI _ rfl _ _ 78 78 rfl _ _ rfl rfl (hcpA _ hE1 hE2 _ _) ?_))
  go_region_law_o (refine step_copy_runI rfl _ _ 78 78 rfl (.slice (some ⟨w.heap.size,i + 1,none⟩) (n - i) (G - (i + 1))) (.slice (some ⟨b,i,none⟩) (n - i) (c - i)) (by simp [Act.eval,Act.put]) (by simp [Act.eval,Act.put]) (hcpB _ hF1 hF2 3 (G - (i + 1)) (c - i)) ?_)
  go_wp2
  go_ret
  first | exact ⟨rfl,rfl⟩ | trace_state
 refine main.mono ?_
 rintro e w' ⟨rfl,rfl⟩
 exact ⟨ROW,hRl,hRt,rfl,rfl⟩
theorem insR269_v:InsRoads Tryz.prog 269 1 9:=⟨insS269,insE269,insG269,insW269⟩
end Go.Proofs.YtpmoioopjbfhkaaGreat

/- That the program's functions yield what the plain ones tell (written by a program of mine). -/
namespace Go.Proofs.YtpmoioopjbfhkaaGreat
open Go.RowKit
set_option maxRecDepth 100000
set_option maxHeartbeats 4000000
def gc187:BCode:=(.seq (.reg 0 [⟨(some 4),.mv (.const (.string ⟨#[]⟩)),none,0⟩] none 0 []) (.seq (.seq (.reg 0 [⟨(some 5),.mv (.tmp 0),none,0⟩,⟨(some 6),.mv (.tmp 1),none,0⟩,⟨(some 7),.cl 236 [(.tmp 5),(.tmp 6)],none,0⟩,⟨(some 8),.un .not (.tmp 7),none,0⟩] none 0 []) (.cond (.tmp 8) (.seq (.reg 0 [⟨(some 4),.mv (.const (.string ⟨#[]⟩)),none,0⟩] none 0 []) .ret) .skip)) (.seq (.reg 0 [⟨(some 9),.mv (.tmp 0),none,0⟩,⟨(some 10),.bin .add (.tmp 9) (.const (.string ⟨#[32]⟩)),none,0⟩,⟨(some 11),.mv (.tmp 1),none,0⟩,⟨(some 12),.bin .add (.tmp 10) (.tmp 11),none,0⟩,⟨(some 4),.mv (.tmp 12),none,0⟩] none 0 []) .ret)))
theorem gc187_ok:compF Tryz.prog Tryz.f187=some (gc187.er,13,[.tmp 4]):=by unfold gc187;kernel_rfl
theorem p_pres_Key_v (a0:ByteArray) (a1:ByteArray):CallsO Tryz.prog 187 [.s a0,.s a1] V.s (p_pres_Key a0 a1):=by
 refine callsO_comp mix Tryz.func187 gc187_ok fun r H=>?_
 rw [p_pres_Key] at H
 conv=>whnf
 refine ask_c (p_pres_named_v _ _) H rfl rfl (fun v1 H=>?_);conv=>whnf
 refine Tst.not ?_
 refine tst_d H (fun b2 H=>?_) (fun b2 H=>?_)
 ·conv=>whnf
  exact fin0_c (enc:=V.s) H (.inr rfl) (.cons (.tmp rfl) (.nil)) rfl rfl
 conv=>whnf
 refine cat_c H (fun s3 H=>?_);conv=>whnf
 refine cat_c H (fun s4 H=>?_);conv=>whnf
 exact fin0_c (enc:=V.s) H (.inr rfl) (.cons (.tmp rfl) (.nil)) rfl rfl
def gc265:BCode:=(.seq (.reg 1 [⟨(some 3),.bx (.tmp 0),none,0⟩,⟨(some 5),.mv (.const (.int .i64 0)),none,1⟩] none 0 []) (.seq (.reg 0 [⟨(some 6),.ld 1 false (.tmp 2),none,0⟩,⟨(some 7),.ld 5 true (.tmp 3),none,0⟩,⟨(some 8),.cv (.tmp 6) [(.tmp 7)],none,0⟩,⟨(some 9),.mv (.tmp 1),none,0⟩,⟨(some 10),.cl 158 [(.tmp 8),(.tmp 9)],none,0⟩,⟨(some 5),.mv (.tmp 10),none,0⟩] none 0 []) .ret))
theorem gc265_ok:compF Tryz.prog Tryz.f265=some (gc265.er,11,[.tmp 5]):=by unfold gc265;kernel_rfl
theorem p_view_find_view_Row__1_v (a0:MailEntry) (a1:ByteArray) (c0:MailEntry→Option ByteArray) {c0_g:Nat} {c0_k:List V} (c0_h:Clo1 Tryz.prog c0_g c0_k MailEntry.v V.s c0):CallsO Tryz.prog 265 [.agg [.s a0.Key,.b a0.P.On,.i a0.P.Show,.i a0.P.Prio,.i a0.P.Seq],.s a1,.eptr [.clo (.func c0_g) c0_k]] V.i (p_view_find_view_Row__1 a0 a1 c0):=by
 refine callsO_comp mix Tryz.func265 gc265_ok fun r H=>?_
 rw [p_view_find_view_Row__1] at H
 conv=>whnf
 refine askC_c c0_h H (.cons (fzagg (.cons (.id rfl) (.cons (.id rfl) (.cons (.id rfl) (.cons (.id rfl) (.cons (.id rfl) (.nil)))))) rfl) (.nil)) (fun v1 H=>?_);conv=>whnf
 refine ask_c (p_strings_Compare_v _ _) H rfl rfl (fun v2 H=>?_);conv=>whnf
 exact fi_ H
def gc264:BCode:=(.seq (.reg 0 [⟨(some 6),.mv (.const (.int .i64 0)),none,0⟩,⟨(some 7),.mv (.const (.bool false)),none,0⟩] none 0 []) (.seq (.reg 0 [⟨(some 12),.mv (.tmp 0),none,0⟩,⟨(some 13),.lens (.tmp 12),none,0⟩,⟨(some 8),.mv (.tmp 13),none,0⟩] none 0 []) (.seq (.reg 0 [⟨(some 14),.mv (.tmp 8),none,0⟩,⟨(some 9),.mv (.const (.int .i64 0)),none,0⟩,⟨(some 10),.mv (.tmp 14),none,0⟩] none 0 []) (.seq (.block 0 (.loop (.seq (.seq (.reg 0 [⟨(some 15),.mv (.tmp 9),none,0⟩,⟨(some 16),.mv (.tmp 10),none,0⟩,⟨(some 17),.bin .lss (.tmp 15) (.tmp 16),none,0⟩] none 0 []) (.cond (.tmp 17) .skip (.exit 0))) (.block 1 (.seq (.reg 0 [⟨(some 18),.mv (.tmp 9),none,0⟩,⟨(some 19),.mv (.tmp 10),none,0⟩,⟨(some 20),.bin .add (.tmp 18) (.tmp 19),none,0⟩,⟨(some 21),.cvi .u64 (.tmp 20),none,0⟩,⟨(some 22),.bin .shr (.tmp 21) (.const (.int .u64 1)),none,0⟩,⟨(some 23),.cvi .i64 (.tmp 22),none,0⟩,⟨(some 11),.mv (.tmp 23),none,0⟩] none 0 []) (.seq (.reg 0 [⟨(some 24),.mv (.tmp 2),none,0⟩,⟨(some 25),.mv (.tmp 0),none,0⟩,⟨(some 26),.mv (.tmp 11),none,0⟩,⟨(some 27),.ixs 5 (.tmp 25) (.tmp 26),none,0⟩,⟨(some 28),.ld 5 true (.tmp 27),none,0⟩,⟨(some 29),.mv (.tmp 1),none,0⟩,⟨(some 30),.cv (.tmp 24) [(.tmp 28),(.tmp 29)],none,0⟩,⟨(some 31),.bin .lss (.tmp 30) (.const (.int .i64 0)),none,0⟩] none 0 []) (.cond (.tmp 31) (.reg 0 [⟨(some 32),.mv (.tmp 11),none,0⟩,⟨(some 33),.bin .add (.tmp 32) (.const (.int .i64 1)),none,0⟩,⟨(some 9),.mv (.tmp 33),none,0⟩] none 0 []) (.reg 0 [⟨(some 34),.mv (.tmp 11),none,0⟩,⟨(some 10),.mv (.tmp 34),none,0⟩] none 0 [])))))))) (.seq (.reg 0 [⟨(some 35),.mv (.tmp 9),none,0⟩,⟨(some 36),.mv (.tmp 9),none,0⟩,⟨(some 37),.mv (.tmp 8),none,0⟩,⟨(some 38),.bin .lss (.tmp 36) (.tmp 37),none,0⟩,⟨(some 39),.mv (.tmp 38),none,0⟩,⟨(some 40),.mv (.tmp 2),(some (39,true)),0⟩,⟨(some 41),.mv (.tmp 0),(some (39,true)),0⟩,⟨(some 42),.mv (.tmp 9),(some (39,true)),0⟩,⟨(some 43),.ixs 5 (.tmp 41) (.tmp 42),(some (39,true)),0⟩,⟨(some 44),.ld 5 true (.tmp 43),(some (39,true)),0⟩,⟨(some 45),.mv (.tmp 1),(some (39,true)),0⟩,⟨(some 46),.cv (.tmp 40) [(.tmp 44),(.tmp 45)],(some (39,true)),0⟩,⟨(some 47),.bin .eql (.tmp 46) (.const (.int .i64 0)),(some (39,true)),0⟩,⟨(some 48),.pick (.tmp 39) (.tmp 47) (.const (.bool false)),none,0⟩,⟨(some 6),.mv (.tmp 35),none,0⟩,⟨(some 7),.mv (.tmp 48),none,0⟩] none 0 []) .ret)))))
theorem gc264_ok:compF Tryz.prog Tryz.f264=some (gc264.er,49,[.tmp 6,.tmp 7]):=by unfold gc264;kernel_rfl
theorem p_slices_BinarySearchFunc_view_Row_v {u1:Bool} (a0:List MailEntry) (a1:ByteArray) (a2:MailEntry→ByteArray→Option Int) {a2_g:Nat} {a2_k:List V} (a2_h:Clo2 Tryz.prog a2_g a2_k MailEntry.v V.s V.i a2):CallsO Tryz.prog 264 [.sl (List.map MailEntry.v a0) u1,.s a1,.clo (.func a2_g) a2_k] (fun r:Int × Bool=>.tup [V.i r.1,V.b r.2]) (p_slices_BinarySearchFunc_view_Row a0 a1 a2):=by
 refine callsO_comp mix Tryz.func264 gc264_ok fun r H=>?_
 rw [p_slices_BinarySearchFunc_view_Row] at H
 conv=>whnf
 refine LenQ.M ?_;conv=>whnf
 obtain ⟨o2,HL3,HQ4⟩:=bind_c H
 refine loop_c [9,10] [11,15,16,17,18,19,20,21,22,23,24,25,26,27,28,29,30,31,32,33,34] [11,15,16,17,18,19,20,21,22,23,24,25,26,27,28,29,30,31,32,33,34] (fun n vals st=>(∃ y6 y7,p_slices_BinarySearchFunc_view_Row_l1  a2 a0 a1 n y6 y7=some o2∧vals=[.i y6,.i y7]∧st=[])) fuel 0 [] (⟨_,_,HL3,rfl,rfl⟩) (Nat.zero_le _) rfl (by simp only [maskF,setF,List.set_cons_zero,List.set_cons_succ,V.ren.renL,V.ren,renL_id _ a2_h.own] <;> rfl) (by simp only [maskF,setF,List.set_cons_zero,List.set_cons_succ,V.idlt.belowL,V.idlt,fun n=>idltL_up (n:=n) _ a2_h.own] <;> rfl) rfl trivial ?_
 rintro (_ | n5) _ _ (⟨y6,y7,H,rfl,rfl⟩)
 ·rw [p_slices_BinarySearchFunc_view_Row_l1] at H;cases H
 rw [p_slices_BinarySearchFunc_view_Row_l1] at H
 conv=>whnf
 refine tst_d H (fun b8 H=>?_) (fun b8 H=>?_)
 ·conv=>whnf
  obtain rfl:=Option.some.inj H
  have H:=HQ4
  try dsimp only at H
  refine tst_d H (fun b12 H=>?_) (fun b12 H=>?_)
  ·conv=>whnf
   iterate 8 (refine Tst.F ?_;conv=>whnf)
   exact fin0_c (enc:=(fun r:Int × Bool=>.tup [V.i r.1,V.b r.2])) H (.inr rfl) (.cons (.tmp rfl) (.cons (.tmp rfl) (.nil))) rfl rfl
  conv=>whnf
  iterate 3 (refine Tst.T ?_;conv=>whnf)
  refine ixs_c (f:=MailEntry.v) H (fun _=>rfl) (fun x13 H=>?_);conv=>whnf
  iterate 3 (refine Tst.T ?_;conv=>whnf)
  refine askC2_c a2_h H (.cons (fzagg (.cons (.id rfl) (.cons (.id rfl) (.cons (.id rfl) (.cons (.id rfl) (.cons (.id rfl) (.nil)))))) rfl) (.cons (.c (.id rfl)) (.nil))) (fun v14 H=>?_);conv=>whnf
  iterate 2 (refine Tst.T ?_;conv=>whnf)
  exact fin0_c (enc:=(fun r:Int × Bool=>.tup [V.i r.1,V.b r.2])) H (.inr rfl) (.cons (.tmp rfl) (.cons (.tmp rfl) (.nil))) rfl rfl
 conv=>whnf
 iterate 2 (refine Ari.w ?_;conv=>whnf)
 refine Shr.ok (by decide) ?_;conv=>whnf
 refine Ari.w ?_;conv=>whnf
 refine ixs_c (f:=MailEntry.v) H (fun _=>rfl) (fun x9 H=>?_);conv=>whnf
 refine askC2_c a2_h H (.cons (fzagg (.cons (.id rfl) (.cons (.id rfl) (.cons (.id rfl) (.cons (.id rfl) (.cons (.id rfl) (.nil)))))) rfl) (.cons (.c (.id rfl)) (.nil))) (fun v10 H=>?_);conv=>whnf
 refine tst_d H (fun b11 H=>?_) (fun b11 H=>?_)
 ·conv=>whnf
  exact again_c [11,15,16,17,18,19,20,21,22,23,24,25,26,27,28,29,30,31,32,33,34] n5 0 [] (⟨_,_,H,rfl,rfl⟩) (Nat.lt_succ_self _) (Nat.zero_le _) rfl (by simp only [maskF,setF,List.set_cons_zero,List.set_cons_succ,V.ren.renL,V.ren,renL_id _ a2_h.own] <;> rfl) (by simp only [maskF,setF,List.set_cons_zero,List.set_cons_succ,V.idlt.belowL,V.idlt,fun n=>idltL_up (n:=n) _ a2_h.own] <;> rfl) rfl trivial
 conv=>whnf
 refine Ari.w ?_;conv=>whnf
 exact again_c [11,15,16,17,18,19,20,21,22,23,24,25,26,27,28,29,30,31,32,33,34] n5 0 [] (⟨_,_,H,rfl,rfl⟩) (Nat.lt_succ_self _) (Nat.zero_le _) rfl (by simp only [maskF,setF,List.set_cons_zero,List.set_cons_succ,V.ren.renL,V.ren,renL_id _ a2_h.own] <;> rfl) (by simp only [maskF,setF,List.set_cons_zero,List.set_cons_succ,V.idlt.belowL,V.idlt,fun n=>idltL_up (n:=n) _ a2_h.own] <;> rfl) rfl trivial
def gc226:BCode:=(.seq (.reg 1 [⟨(some 5),.bx (.tmp 2),none,0⟩,⟨(some 6),.mv (.const (.int .i64 0)),none,1⟩,⟨(some 7),.mv (.const (.bool false)),none,1⟩] none 0 []) (.seq (.reg 0 [⟨(some 8),.mv (.tmp 0),none,0⟩,⟨(some 9),.mv (.tmp 1),none,0⟩,⟨(some 10),.mf (.func 265) [(.tmp 5)],none,0⟩,⟨(some 11),.cl 264 [(.tmp 8),(.tmp 9),(.tmp 10)],none,0⟩,⟨(some 12),.ex (.tmp 11) 0,none,0⟩,⟨(some 13),.ex (.tmp 11) 1,none,0⟩,⟨(some 6),.mv (.tmp 12),none,0⟩,⟨(some 7),.mv (.tmp 13),none,0⟩] none 0 [5]) .ret))
theorem gc226_ok:compF Tryz.prog Tryz.f226=some (gc226.er,14,[.tmp 6,.tmp 7]):=by unfold gc226;kernel_rfl
theorem p_view_find_view_Row__v {u1:Bool} (a0:List MailEntry) (a1:ByteArray) (a2:MailEntry→Option ByteArray) {a2_g:Nat} {a2_k:List V} (a2_h:Clo1 Tryz.prog a2_g a2_k MailEntry.v V.s a2):CallsO Tryz.prog 226 [.sl (List.map MailEntry.v a0) u1,.s a1,.clo (.func a2_g) a2_k] (fun r:Int × Bool=>.tup [V.i r.1,V.b r.2]) (p_view_find_view_Row_ a0 a1 a2):=by
 refine callsO_comp mix Tryz.func226 gc226_ok fun r H=>?_
 rw [p_view_find_view_Row_] at H
 conv=>whnf
 refine ⟨Nat.zero_le _,?_⟩;conv=>whnf
 refine askF_c (p_slices_BinarySearchFunc_view_Row_v _ _ _ ⟨⟨_,Tryz.func265,by kernel_rfl,by kernel_rfl⟩,(by simp only [V.idlt.belowL,V.idlt,a2_h.own] <;> rfl),fun x0 x1=>p_view_find_view_Row__1_v _ _ _ a2_h⟩) H (.cons (.c (.slw)) (.cons (.c (.id rfl)) (.cons (.c (.clo (.cons (.ptr rfl (Nat.le_of_ble_eq_true rfl) (.cons (.id a2_h.own) (.nil))) (.nil)))) (.nil)))) (fun v1 H=>?_);conv=>whnf
 exact fin0_c (enc:=(fun r:Int × Bool=>.tup [V.i r.1,V.b r.2])) H (.inr rfl) (.cons (.tmp rfl) (.cons (.tmp rfl) (.nil))) rfl rfl
def gc227:BCode:=(.seq (.reg 2 [⟨(some 2),.bx (.tmp 0),none,0⟩,⟨(some 3),.bx (.tmp 1),none,1⟩,⟨(some 4),.mv (.const (.bool false)),none,2⟩] none 0 []) (.seq (.reg 0 [⟨(some 5),.fa 3 (.tmp 3),none,0⟩,⟨(some 6),.ld 1 false (.tmp 5),none,0⟩,⟨(some 7),.fa 3 (.tmp 2),none,0⟩,⟨(some 8),.ld 1 false (.tmp 7),none,0⟩,⟨(some 9),.bin .lss (.tmp 6) (.tmp 8),none,0⟩,⟨(some 4),.mv (.tmp 9),none,0⟩] none 0 []) .ret))
theorem gc227_ok:compF Tryz.prog Tryz.f227=some (gc227.er,10,[.tmp 4]):=by unfold gc227;kernel_rfl
theorem p_pres_Newer_v (a0:PresPres) (a1:PresPres):CallsO Tryz.prog 227 [.agg [.b a0.On,.i a0.Show,.i a0.Prio,.i a0.Seq],.agg [.b a1.On,.i a1.Show,.i a1.Prio,.i a1.Seq]] V.b (p_pres_Newer a0 a1):=by
 refine callsO_comp mix Tryz.func227 gc227_ok fun r H=>?_
 rw [p_pres_Newer] at H
 conv=>whnf
 exact fb_ H
def gc228:BCode:=(.seq (.reg 1 [⟨(some 4),.bx (.tmp 1),none,0⟩,⟨(some 6),.mv (.const (.slice none 0 0)),none,1⟩] none 0 []) (.seq (.reg 0 [⟨(some 11),.mv (.tmp 0),none,0⟩,⟨(some 12),.mv (.tmp 2),none,0⟩,⟨(some 13),.ld 5 true (.tmp 4),none,0⟩,⟨(some 14),.cv (.tmp 12) [(.tmp 13)],none,0⟩,⟨(some 15),.mv (.tmp 2),none,0⟩,⟨(some 16),.cl 226 [(.tmp 11),(.tmp 14),(.tmp 15)],none,0⟩,⟨(some 10),.mv (.tmp 16),none,0⟩,⟨(some 17),.ex (.tmp 10) 0,none,0⟩,⟨(some 18),.ex (.tmp 10) 1,none,0⟩,⟨(some 7),.mv (.tmp 17),none,0⟩,⟨(some 8),.mv (.tmp 18),none,0⟩] none 0 []) (.seq (.reg 0 [⟨(some 19),.mv (.tmp 0),none,0⟩,⟨(some 20),.cl 224 [(.tmp 19)],none,0⟩,⟨(some 9),.mv (.tmp 20),none,0⟩] none 1 []) (.seq (.block 0 (.seq (.reg 0 [⟨(some 22),.mv (.tmp 8),none,0⟩,⟨(some 21),.mv (.tmp 22),none,0⟩] none 0 []) (.cond (.tmp 21) (.reg 0 [⟨(some 23),.mv (.tmp 9),none,0⟩,⟨(some 24),.mv (.tmp 7),none,0⟩,⟨(some 25),.ld 5 true (.tmp 4),none,0⟩,⟨(some 26),.ixs 5 (.tmp 23) (.tmp 24),none,0⟩,⟨none,.st 5 (.tmp 26) (.tmp 25),none,0⟩] none 0 []) (.seq (.reg 0 [⟨(some 28),.mv (.tmp 0),none,0⟩,⟨(some 29),.lens (.tmp 28),none,0⟩,⟨(some 30),.bin .lss (.tmp 29) (.const (.int .i64 64)),none,0⟩,⟨(some 27),.mv (.tmp 30),none,0⟩] none 0 []) (.cond (.tmp 27) (.reg 1 [⟨(some 31),.mv (.tmp 9),none,0⟩,⟨(some 32),.mv (.tmp 7),none,0⟩,⟨(some 33),.ld 5 true (.tmp 4),none,0⟩,⟨(some 34),.bs 5 1 [(.lit (.string ⟨#[]⟩)),(.lit (.bool false)),(.lit (.int .i64 0)),(.lit (.int .i64 0)),(.lit (.int .i64 0))] [(0,(.tmp 33))],none,0⟩,⟨(some 35),.cl 266 [(.tmp 31),(.tmp 32),(.tmp 34)],none,1⟩,⟨(some 9),.mv (.tmp 35),none,1⟩] none 0 []) .skip))))) (.seq (.reg 0 [⟨(some 36),.mv (.tmp 9),none,0⟩,⟨(some 6),.mv (.tmp 36),none,0⟩] none 0 []) .ret)))))
theorem gc228_ok:compF Tryz.prog Tryz.f228=some (gc228.er,37,[.tmp 6]):=by unfold gc228;kernel_rfl
theorem p_view_put_view_Row__v {u1:Bool} (a0:List MailEntry) (a1:MailEntry) (a2:MailEntry→Option ByteArray) {a2_g:Nat} {a2_k:List V} (a2_h:Clo1 Tryz.prog a2_g a2_k MailEntry.v V.s a2):CallsO Tryz.prog 228 [.sl (List.map MailEntry.v a0) u1,.agg [.s a1.Key,.b a1.P.On,.i a1.P.Show,.i a1.P.Prio,.i a1.P.Seq],.clo (.func a2_g) a2_k] (fun l:List MailEntry=>V.sl (l.map MailEntry.v) false) (p_view_put_view_Row_ a0 a1 a2):=by
 refine callsO_comp mix Tryz.func228 gc228_ok fun r H=>?_
 rw [p_view_put_view_Row_] at H
 conv=>whnf
 refine askC_c a2_h H (.cons (fzagg (.cons (.id rfl) (.cons (.id rfl) (.cons (.id rfl) (.cons (.id rfl) (.cons (.id rfl) (.nil)))))) rfl) (.nil)) (fun v1 H=>?_);conv=>whnf
 refine askF_c (p_view_find_view_Row__v _ _ _ a2_h) H (.cons (.c (.slw)) (.cons (.c (.id rfl)) (.cons (.c (.id a2_h.own)) (.nil)))) (fun v2 H=>?_);conv=>whnf
 refine clone_c (f:=MailEntry.v) (id:=1) cloR224_v H (fun _=>rfl) (fun _=>rfl) rfl (fun H=>?_) (fun l3 H=>?_)
 ·conv=>whnf
  refine tst_c H (fun b9 H=>?_) (fun b9 H=>?_)
  ·conv=>whnf
   exact nil_at H
  conv=>whnf
  refine LenQ.M ?_;conv=>whnf
  refine tst_d H (fun b10 H=>?_) (fun b10 H=>?_)
  ·conv=>whnf
   refine finR_c (enc:=(fun l:List MailEntry=>V.sl (l.map MailEntry.v) false)) H ?_;conv=>whnf
   exact ⟨_,.v (.c (.slw))⟩
  conv=>whnf
  refine askF_c (insN_v (f:=MailEntry.v) insR266_v (by decide) (fun _=>rfl) (fun _=>rfl) (fun _=>rfl) _ _ _) H (.cons (.c (.id rfl)) (.cons (.c (.id rfl)) (.cons (.c (fzown (f:=MailEntry.v) (l:=[a1]) rfl rfl (fun _=>rfl) (fun _=>rfl))) .nil))) (fun v11 H=>?_);conv=>whnf
  exact fin0_c (enc:=(fun l:List MailEntry=>V.sl (l.map MailEntry.v) false)) H (.inr rfl) (.cons (.tmp rfl) (.nil)) rfl rfl
 conv=>whnf
 refine tst_c H (fun b4 H=>?_) (fun b4 H=>?_)
 ·conv=>whnf
  refine ⟨rfl,ixo_c H (fun x5 h6 H=>?_)⟩;conv=>whnf
  refine ⟨Nat.zero_le _,sto_c (f:=MailEntry.v) (es:=5) h6 (x':=a1) (fun _=>rfl) 0 (by omega) (Nat.le_of_ble_eq_true rfl) (by rfl) ?_⟩;conv=>whnf
  refine finRz_c (enc:=(fun l:List MailEntry=>V.sl (l.map MailEntry.v) false)) [1] H ?_;conv=>whnf
  refine ⟨Nat.zero_le _,?_⟩;conv=>whnf
  exact ⟨_,.v (.c (fzc_made (f:=MailEntry.v) (l:=(List.set l3 (Int.toNat v2.1) a1)) rfl rfl rfl (by simp) (fun _=>rfl) (fun _=>rfl)))⟩
 conv=>whnf
 refine LenQ.M ?_;conv=>whnf
 refine tst_d H (fun b7 H=>?_) (fun b7 H=>?_)
 ·conv=>whnf
  refine finRz_c (enc:=(fun l:List MailEntry=>V.sl (l.map MailEntry.v) false)) [1] H ?_;conv=>whnf
  refine ⟨Nat.zero_le _,?_⟩;conv=>whnf
  exact ⟨_,.v (.c (fzown (f:=MailEntry.v) (l:=l3) rfl rfl (fun _=>rfl) (fun _=>rfl)))⟩
 conv=>whnf
 refine insO_c (f:=MailEntry.v) insR266_v H (by decide) (fun _=>rfl) (fun _=>rfl) (fun _=>rfl) rfl rfl rfl (fun v8 H=>?_);conv=>whnf
 exact fin0_c (enc:=(fun l:List MailEntry=>V.sl (l.map MailEntry.v) false)) H (.inr rfl) (.cons (.tmp rfl) (.nil)) rfl rfl
def gc230:BCode:=(.seq (.reg 0 [⟨(some 6),.mv (.const (.slice none 0 0)),none,0⟩] none 0 []) (.seq (.reg 0 [⟨(some 11),.mv (.tmp 0),none,0⟩,⟨(some 12),.mv (.tmp 2),none,0⟩,⟨(some 13),.mv (.tmp 1),none,0⟩,⟨(some 14),.cv (.tmp 12) [(.tmp 13)],none,0⟩,⟨(some 15),.mv (.tmp 2),none,0⟩,⟨(some 16),.cl 222 [(.tmp 11),(.tmp 14),(.tmp 15)],none,0⟩,⟨(some 10),.mv (.tmp 16),none,0⟩,⟨(some 17),.ex (.tmp 10) 0,none,0⟩,⟨(some 18),.ex (.tmp 10) 1,none,0⟩,⟨(some 7),.mv (.tmp 17),none,0⟩,⟨(some 8),.mv (.tmp 18),none,0⟩] none 0 []) (.seq (.reg 0 [⟨(some 19),.mv (.tmp 0),none,0⟩,⟨(some 20),.cl 268 [(.tmp 19)],none,0⟩,⟨(some 9),.mv (.tmp 20),none,0⟩] none 1 []) (.seq (.block 0 (.seq (.reg 0 [⟨(some 22),.mv (.tmp 8),none,0⟩,⟨(some 21),.mv (.tmp 22),none,0⟩] none 0 []) (.cond (.tmp 21) (.reg 0 [⟨(some 23),.mv (.tmp 9),none,0⟩,⟨(some 24),.mv (.tmp 7),none,0⟩,⟨(some 25),.mv (.tmp 1),none,0⟩,⟨(some 26),.ixs 1 (.tmp 23) (.tmp 24),none,0⟩,⟨none,.st 1 (.tmp 26) (.tmp 25),none,0⟩] none 0 []) (.seq (.reg 0 [⟨(some 28),.mv (.tmp 0),none,0⟩,⟨(some 29),.lens (.tmp 28),none,0⟩,⟨(some 30),.bin .lss (.tmp 29) (.const (.int .i64 64)),none,0⟩,⟨(some 27),.mv (.tmp 30),none,0⟩] none 0 []) (.cond (.tmp 27) (.reg 1 [⟨(some 31),.mv (.tmp 9),none,0⟩,⟨(some 32),.mv (.tmp 7),none,0⟩,⟨(some 33),.mv (.tmp 1),none,0⟩,⟨(some 34),.bs 1 1 [(.lit (.string ⟨#[]⟩))] [(0,(.tmp 33))],none,0⟩,⟨(some 35),.cl 269 [(.tmp 31),(.tmp 32),(.tmp 34)],none,1⟩,⟨(some 9),.mv (.tmp 35),none,1⟩] none 0 []) .skip))))) (.seq (.reg 0 [⟨(some 36),.mv (.tmp 9),none,0⟩,⟨(some 6),.mv (.tmp 36),none,0⟩] none 0 []) .ret)))))
theorem gc230_ok:compF Tryz.prog Tryz.f230=some (gc230.er,37,[.tmp 6]):=by unfold gc230;kernel_rfl
theorem p_view_put_string__v {u1:Bool} (a0:List ByteArray) (a1:ByteArray) (a2:ByteArray→Option ByteArray) {a2_g:Nat} {a2_k:List V} (a2_h:Clo1 Tryz.prog a2_g a2_k V.s V.s a2):CallsO Tryz.prog 230 [.sl (List.map V.s a0) u1,.s a1,.clo (.func a2_g) a2_k] (fun l:List ByteArray=>V.sl (l.map V.s) false) (p_view_put_string_ a0 a1 a2):=by
 refine callsO_comp mix Tryz.func230 gc230_ok fun r H=>?_
 rw [p_view_put_string_] at H
 conv=>whnf
 refine askC_c a2_h H (.cons (.c (.id rfl)) (.nil)) (fun v1 H=>?_);conv=>whnf
 refine askF_c (p_view_find_string__v _ _ _ a2_h) H (.cons (.c (.slw)) (.cons (.c (.id rfl)) (.cons (.c (.id a2_h.own)) (.nil)))) (fun v2 H=>?_);conv=>whnf
 refine clone_c (f:=V.s) (id:=0) cloR268_v H (fun _=>rfl) (fun _=>rfl) rfl (fun H=>?_) (fun l3 H=>?_)
 ·conv=>whnf
  refine tst_c H (fun b9 H=>?_) (fun b9 H=>?_)
  ·conv=>whnf
   exact nil_at H
  conv=>whnf
  refine LenQ.M ?_;conv=>whnf
  refine tst_d H (fun b10 H=>?_) (fun b10 H=>?_)
  ·conv=>whnf
   refine finR_c (enc:=(fun l:List ByteArray=>V.sl (l.map V.s) false)) H ?_;conv=>whnf
   exact ⟨_,.v (.c (.slw))⟩
  conv=>whnf
  refine askF_c (insN_v (f:=V.s) insR269_v (by decide) (fun _=>rfl) (fun _=>rfl) (fun _=>rfl) _ _ _) H (.cons (.c (.id rfl)) (.cons (.c (.id rfl)) (.cons (.c (fzown (f:=V.s) (l:=[a1]) rfl rfl (fun _=>rfl) (fun _=>rfl))) .nil))) (fun v11 H=>?_);conv=>whnf
  exact fin0_c (enc:=(fun l:List ByteArray=>V.sl (l.map V.s) false)) H (.inr rfl) (.cons (.tmp rfl) (.nil)) rfl rfl
 conv=>whnf
 refine tst_c H (fun b4 H=>?_) (fun b4 H=>?_)
 ·conv=>whnf
  refine ⟨rfl,ixo_c H (fun x5 h6 H=>?_)⟩;conv=>whnf
  refine ⟨Nat.zero_le _,sto_c (f:=V.s) (es:=1) h6 (x':=a1) (fun _=>rfl) 0 (by omega) (Nat.le_of_ble_eq_true rfl) (by rfl) ?_⟩;conv=>whnf
  refine finRz_c (enc:=(fun l:List ByteArray=>V.sl (l.map V.s) false)) [0] H ?_;conv=>whnf
  refine ⟨Nat.zero_le _,?_⟩;conv=>whnf
  exact ⟨_,.v (.c (fzc_made (f:=V.s) (l:=(List.set l3 (Int.toNat v2.1) a1)) rfl rfl rfl (by simp) (fun _=>rfl) (fun _=>rfl)))⟩
 conv=>whnf
 refine LenQ.M ?_;conv=>whnf
 refine tst_d H (fun b7 H=>?_) (fun b7 H=>?_)
 ·conv=>whnf
  refine finRz_c (enc:=(fun l:List ByteArray=>V.sl (l.map V.s) false)) [0] H ?_;conv=>whnf
  refine ⟨Nat.zero_le _,?_⟩;conv=>whnf
  exact ⟨_,.v (.c (fzown (f:=V.s) (l:=l3) rfl rfl (fun _=>rfl) (fun _=>rfl)))⟩
 conv=>whnf
 refine insO_c (f:=V.s) insR269_v H (by decide) (fun _=>rfl) (fun _=>rfl) (fun _=>rfl) rfl rfl rfl (fun v8 H=>?_);conv=>whnf
 exact fin0_c (enc:=(fun l:List ByteArray=>V.sl (l.map V.s) false)) H (.inr rfl) (.cons (.tmp rfl) (.nil)) rfl rfl
def gc267:BCode:=(.seq (.reg 1 [⟨(some 3),.bx (.tmp 0),none,0⟩,⟨(some 4),.mv (.const (.bool false)),none,1⟩] none 0 []) (.seq (.reg 0 [⟨(some 5),.ld 1 false (.tmp 1),none,0⟩,⟨(some 6),.ld 5 true (.tmp 3),none,0⟩,⟨(some 7),.cv (.tmp 5) [(.tmp 6)],none,0⟩,⟨(some 8),.ld 1 false (.tmp 2),none,0⟩,⟨(some 9),.bin .eql (.tmp 7) (.tmp 8),none,0⟩,⟨(some 4),.mv (.tmp 9),none,0⟩] (some [[],[],[1,0],[],[3,0,1,2],[2,1,0,3,4]]) 0 []) .ret))
theorem gc267_ok:compF Tryz.prog Tryz.f267=some (gc267.er,10,[.tmp 4]):=by unfold gc267;kernel_rfl
theorem p_view_cut_view_Row__1_v (a0:MailEntry) (c0:MailEntry→Option ByteArray) {c0_g:Nat} {c0_k:List V} (c0_h:Clo1 Tryz.prog c0_g c0_k MailEntry.v V.s c0) (c1:ByteArray):CallsO Tryz.prog 267 [.agg [.s a0.Key,.b a0.P.On,.i a0.P.Show,.i a0.P.Prio,.i a0.P.Seq],.eptr [.clo (.func c0_g) c0_k],.eptr [.s c1]] V.b (p_view_cut_view_Row__1 a0 c0 c1):=by
 refine callsO_comp mix Tryz.func267 gc267_ok fun r H=>?_
 rw [p_view_cut_view_Row__1] at H
 conv=>whnf
 refine askC_c c0_h H (.cons (fzagg (.cons (.id rfl) (.cons (.id rfl) (.cons (.id rfl) (.cons (.id rfl) (.cons (.id rfl) (.nil)))))) rfl) (.nil)) (fun v1 H=>?_);conv=>whnf
 refine FootQ.mk ⟨rfl,?_⟩;conv=>whnf
 exact fb_ H
def gc229:BCode:=(.seq (.reg 2 [⟨(some 4),.bx (.tmp 1),none,0⟩,⟨(some 5),.bx (.tmp 2),none,1⟩,⟨(some 6),.mv (.const (.slice none 0 0)),none,2⟩] none 0 []) (.seq (.reg 0 [⟨(some 7),.mv (.tmp 0),none,0⟩,⟨(some 8),.cl 224 [(.tmp 7)],none,0⟩,⟨(some 9),.mf (.func 267) [(.tmp 5),(.tmp 4)],none,0⟩,⟨(some 10),.cl 223 [(.tmp 8),(.tmp 9)],none,0⟩,⟨(some 6),.mv (.tmp 10),none,0⟩] none 1 [5,4]) .ret))
theorem gc229_ok:compF Tryz.prog Tryz.f229=some (gc229.er,11,[.tmp 6]):=by unfold gc229;kernel_rfl
theorem p_view_cut_view_Row__v {u1:Bool} (a0:List MailEntry) (a1:ByteArray) (a2:MailEntry→Option ByteArray) {a2_g:Nat} {a2_k:List V} (a2_h:Clo1 Tryz.prog a2_g a2_k MailEntry.v V.s a2):CallsO Tryz.prog 229 [.sl (List.map MailEntry.v a0) u1,.s a1,.clo (.func a2_g) a2_k] (fun l:List MailEntry=>V.sl (l.map MailEntry.v) false) (p_view_cut_view_Row_ a0 a1 a2):=by
 refine callsO_comp mix Tryz.func229 gc229_ok fun r H=>?_
 rw [p_view_cut_view_Row_] at H
 conv=>whnf
 refine ⟨Nat.zero_le _,?_⟩;conv=>whnf
 refine ⟨Nat.zero_le _,?_⟩;conv=>whnf
 refine clone_c (f:=MailEntry.v) (id:=2) cloR224_v H (fun _=>rfl) (fun _=>rfl) rfl (fun H=>?_) (fun l1 H=>?_)
 ·conv=>whnf
  refine dfN_c (f:=MailEntry.v) delF223_n H (⟨⟨_,Tryz.func267,by kernel_rfl,by kernel_rfl⟩,(by simp only [V.idlt.belowL,V.idlt,a2_h.own] <;> rfl),fun x0=>p_view_cut_view_Row__1_v _ _ a2_h _⟩) (.clo (.cons (.ptr rfl (Nat.le_of_ble_eq_true rfl) (.cons (.id a2_h.own) (.nil))) (.cons (.ptr rfl (Nat.le_of_ble_eq_true rfl) (.cons (.id rfl) (.nil))) (.nil)))) (fun H=>?_);conv=>whnf
  refine finR_c (enc:=(fun l:List MailEntry=>V.sl (l.map MailEntry.v) false)) H ?_;conv=>whnf
  exact ⟨_,.v (.c (.slw))⟩
 conv=>whnf
 refine dfO_c (f:=MailEntry.v) delF223_v H (⟨⟨_,Tryz.func267,by kernel_rfl,by kernel_rfl⟩,(by simp only [V.idlt.belowL,V.idlt,a2_h.own] <;> rfl),fun x0=>p_view_cut_view_Row__1_v _ _ a2_h _⟩) (.clo (.cons (.ptr rfl (Nat.le_of_ble_eq_true rfl) (.cons (.id a2_h.own) (.nil))) (.cons (.ptr rfl (Nat.le_of_ble_eq_true rfl) (.cons (.id rfl) (.nil))) (.nil)))) (fun _=>rfl) (fun _=>rfl) rfl rfl (fun v2 H=>?_);conv=>whnf
 refine finRz_c (enc:=(fun l:List MailEntry=>V.sl (l.map MailEntry.v) false)) [2] H ?_;conv=>whnf
 refine ⟨Nat.zero_le _,?_⟩;conv=>whnf
 exact ⟨_,.v (.c (fzown (f:=MailEntry.v) (l:=v2) rfl rfl (fun _=>rfl) (fun _=>rfl)))⟩
end Go.Proofs.YtpmoioopjbfhkaaGreat

