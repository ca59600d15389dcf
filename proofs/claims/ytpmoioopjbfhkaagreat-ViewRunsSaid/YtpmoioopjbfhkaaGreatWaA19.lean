/- A part of the proof: 5 texts joined. -/
import Derived.Test.YtpmoioopjbfhkaaGreatWaA13
import Derived.Test.YtpmoioopjbfhkaaGreatWaA11
import Derived.KernelRfl
import Derived.Test.YtpmoioopjbfhkaaGreatWaA14
import Derived.Test.YtpmoioopjbfhkaaGreatWaA12
import Derived.Test.YtpmoioopjbfhkaaGreatWaA18
import Derived.Lib.SliceRun
set_option linter.all false
/- slices.Insert: its roads at function 233. -/
namespace Go.Proofs.YtpmoioopjbfhkaaGreat
open Go.RowKit Go.Lib
set_option maxHeartbeats 4000000
set_option maxRecDepth 100000
theorem insS233 (b n c i vb voff vc:Nat) (cs vs:List Value) (w:World) (tA tB:TypeId) (kA kB:Nat) (hi:i < n) (hroom:n + 1≤c) (hbig:n + 1≤1000000) (hvb:vb≠b) (hcl:cs.length=n * 4) (hvl:vs.length=4)
  (hcs:∀ j v,cs[j]?=some v→w.cell? ⟨b,j,none⟩=some v) (hsp:∀ j,j < (n + 1) * 4→(w.cell? ⟨b,j,none⟩).isSome=true) (hfz:∀ j,j < (n + 1) * 4→w.frozen? ⟨b,j,none⟩=false)
  (hvs:∀ j v,vs[j]?=some v→w.cell? ⟨vb,voff + j,none⟩=some v) (h1c:∀ v ∈ cs,v.oneCell'=true) (h1v:∀ v ∈ vs,v.oneCell'=true)
  (hsa:w.shape? vb=some (tA,kA)) (hsb:w.shape? b=some (tB,kB)) (hkA:kA≠0) (hkB:kB≠0) (hfe:w.frozen? ⟨b,kB,none⟩=false) :
  Calls Tryz.prog 233 #[.slice (some ⟨b,0,none⟩) n c,.int .i64 i,.slice (some ⟨vb,voff,none⟩) 1 vc] w fun e w' =>
   e=.returned (.slice (some ⟨b,0,none⟩) (n + 1) c)∧w'=(w.drew.setCells b ((i + 1) * 4) (cs.drop (i * 4))).setCells b (i * 4) vs:=by
 have tS:Tryz.prog.underlying 84=some (.slice 211):=by kernel_rfl
 have tV:Tryz.prog.underlying 84=some (.slice 211):=by kernel_rfl
 have tI:Tryz.prog.underlying 3=some (.int .i64):=by kernel_rfl
 have uS:=run_underlying tS
 have uV:=run_underlying tV
 have uI:=run_underlying tI
 have mixed:Tryz.prog.follows .mixedOrders=true:=mix
 obtain ⟨i0,z,hi0,hzs,hz0,hzc,hzb⟩:=infB_ok (P:=Tryz.prog) (e:=211) (es:=4) (by kernel_rfl)
 have hsz:(Tryz.prog.info? 211).map (·.size)=some 4:=by rw [hi0];simp [hzs]
 have hov:∀ lb cb,(callFunc 272 #[.slice (some ⟨vb,voff,none⟩) 1 vc,.slice (some ⟨b,(i + 1) * 4,none⟩) lb cb]).run Tryz.prog w=.ok (.value (.bool false)) w:=fun lb cb=>by
  rw [run_callFunc_extern Tryz.func272 (by kernel_rfl) (by kernel_rfl) (by kernel_rfl) (e:=Extern.SlicesOverlaps.overlaps #[84,84] #[4]) (by kernel_rfl),
   run_overlaps_own w 84 4 211 tV 4 (fun w=>by rw [← hzs];exact run_sizeOf hi0 w) ⟨vb,voff,none⟩ ⟨b,(i + 1) * 4,none⟩ 1 vc lb cb hvb tA tB kA kB hsa hsb hkA hkB (hfz _ (by omega)) hfe]
  rfl
 have hdl:(cs.drop (i * 4)).length=(n - i) * 4:=by rw [List.length_drop,hcl];omega
 have hz2:¬ ((i:Int)=(n:Int)):=by omega
 have hw1:IntKind.i64.wrap ((i:Int) + 1)=(i:Int) + 1:=by rw [IntKind.wrap_i64];omega
 have hwn:IntKind.i64.wrap ((n:Int) + 1)=(n:Int) + 1:=by rw [IntKind.wrap_i64];omega
 have hb1:(0:Int)≤(i:Int) + 1:=by omega
 have hin:i≤n:=by omega
 have htn:((i:Int) + 1).toNat=i + 1:=by omega
 have htm:((n:Int) + 1).toNat=n + 1:=by omega
 have hb2:¬ (c=i + 1):=by omega
 have hb3:(i:Int)≤(n:Int) + 1:=by omega
 have hb4:¬ (c=i):=by omega
 have hb5:¬ ((c:Int) < (n:Int) + 1):=by omega
 have hb6:(n:Int) + 1≤(c:Int):=by omega
 have hm1:Nat.min (n + 1 - i) (n - i)=n - i:=by simp only [Nat.min_def];split <;> omega
 have hm2:Nat.min 1 (n + 1 - i)=1:=by simp only [Nat.min_def];split <;> omega
 have hcp1:∀ ty dc sc,(Builtin.copy_ #[84,84] ty #[.slice (some ⟨b,(i + 1) * 4,none⟩) (n - i) dc,.slice (some ⟨b,i * 4,none⟩) (n + 1 - i) sc]).run Tryz.prog w.drew=.ok (goInt (Nat.min (n + 1 - i) (n - i))) (w.drew.setCells b ((i + 1) * 4) (cs.drop (i * 4))):=fun ty dc sc =>
  run_copy_es w.drew _ _ ty 211 4 b ((i + 1) * 4) (n - i) dc ⟨b,i * 4,none⟩ (n + 1 - i) sc (cs.drop (i * 4)) tS hsz (by rw [hm1];exact hdl)
   (fun j v hj=>by rw [Addr.add_lit];exact hcs (i * 4 + j) v (by rwa [List.getElem?_drop] at hj))
   (fun j hj=>hsp _ (by omega)) (fun j hj=>hfz _ (by omega)) (fun v hv=>h1c v (List.mem_of_mem_drop hv))
 obtain ⟨W1,hW1⟩ : ∃ W1,W1=w.drew.setCells b ((i + 1) * 4) (cs.drop (i * 4)):=⟨_,rfl⟩
 have hsp1:∀ k,k < (n + 1) * 4→(W1.cell? ⟨b,k,none⟩).isSome=true:=fun k hk=>by
  rw [hW1]
  exact isSome_setCells b (cs.drop (i * 4)) ((i + 1) * 4) w.drew (fun j hj=>hsp _ (by omega)) _ (hsp k hk)
 have hcp2:∀ (W:World),(∀ x,W.cell? x=W1.cell? x)→(∀ x,W.frozen? x=W1.frozen? x)→∀ ty dc,(Builtin.copy_ #[84,84] ty #[.slice (some ⟨b,i * 4,none⟩) (n + 1 - i) dc,.slice (some ⟨vb,voff,none⟩) 1 vc]).run Tryz.prog W=.ok (goInt (Nat.min 1 (n + 1 - i))) (W.setCells b (i * 4) vs):=fun W hWc hWf ty dc =>
  run_copy_es W _ _ ty 211 4 b (i * 4) (n + 1 - i) dc ⟨vb,voff,none⟩ 1 vc vs tS hsz (by rw [hm2,hvl])
   (fun j v hj=>by
    rw [Addr.add_lit,hWc,hW1,World.cell?_setCells_out b _ _ _ _ (fun h _=>absurd h hvb)]
    exact hvs j v hj)
   (fun j hj=>by rw [hWc];exact hsp1 _ (by omega)) (fun j hj=>by rw [hWf,hW1,World.frozen?_setCells];exact hfz _ (by omega)) h1v
 rw [← hW1] at hcp1
 go_enter Tryz.func233,Tryz.ntmps233
 go_wp2_with (simp only [hov])
 go_region_law_o (refine step_copy_runI rfl _ _ 84 84 rfl _ _ (by simp [Act.eval,Act.put]) (by simp [Act.eval,Act.put]) (hcp1 _ _ _) ?_)
 go_wp2_with (at_builtin;refine wpList_copy_runI _ rfl _ _ 84 84 rfl _ _ rfl rfl (hcp2 _ (fun _=>rfl) (fun _=>rfl) _ _) ?_)
 go_ret
 first | exact ⟨rfl,rfl⟩ | exact ⟨rfl,by rw [hW1]⟩
theorem insE233 (b n c vb voff vc:Nat) (vs:List Value) (w:World) (hroom:n + 1≤c) (hbig:n + 1≤1000000) (hvl:vs.length=4)
  (hsp:∀ j,j < 4→(w.cell? ⟨b,n * 4 + j,none⟩).isSome=true) (hfz:∀ j,j < 4→w.frozen? ⟨b,n * 4 + j,none⟩=false)
  (hvs:∀ j v,vs[j]?=some v→w.cell? ⟨vb,voff + j,none⟩=some v) (h1v:∀ v ∈ vs,v.oneCell'=true) :
  Calls Tryz.prog 233 #[.slice (some ⟨b,0,none⟩) n c,.int .i64 n,.slice (some ⟨vb,voff,none⟩) 1 vc] w fun e w' =>
   e=.returned (.slice (some ⟨b,0,none⟩) (n + 1) c)∧w'=w.setCells b (n * 4) vs:=by
 have tS:Tryz.prog.underlying 84=some (.slice 211):=by kernel_rfl
 have tV:Tryz.prog.underlying 84=some (.slice 211):=by kernel_rfl
 have tI:Tryz.prog.underlying 3=some (.int .i64):=by kernel_rfl
 have uS:=run_underlying tS
 have uV:=run_underlying tV
 have uI:=run_underlying tI
 have mixed:Tryz.prog.follows .mixedOrders=true:=mix
 obtain ⟨i0,z,hi0,hzs,hz0,hzc,hzb⟩:=infB_ok (P:=Tryz.prog) (e:=211) (es:=4) (by kernel_rfl)
 have hsz:(Tryz.prog.info? 211).map (·.size)=some 4:=by rw [hi0];simp [hzs]
 have hsrc:Src Tryz.prog 4 84 (.slice (some ⟨vb,voff,none⟩) 1 vc) 1 vs w:=Src.ofSlice w tV ⟨vb,voff,none⟩ 1 vc vs (by omega) (fun j u hj=>by rw [Addr.add_lit];exact hvs j u hj) h1v
 have hrun:∀ ty,(Builtin.append_ #[84,84] ty #[.slice (some ⟨b,0,none⟩) n c,.slice (some ⟨vb,voff,none⟩) 1 vc]).run Tryz.prog w=_:=fun ty =>
  run_append_room_src w 84 84 ty 211 i0 tS hi0 b 0 n c _ 1 vs (by rw [hzs];exact hsrc) hroom (by rw [hzs,hvl,Nat.zero_add];exact hsp) (by rw [hzs,hvl,Nat.zero_add];exact hfz)
 rw [hzs,Nat.zero_add] at hrun
 go_enter Tryz.func233,Tryz.ntmps233
 go_wp2_with (at_builtin;refine Lib.wpList_append_run _ rfl _ _ _ _ rfl _ _ rfl rfl _ _ (hrun _) ?_)
 all_goals (go_ret;exact ⟨rfl,rfl⟩)
theorem insG233 (base:Option Addr) (n c vb voff vc:Nat) (cs vs:List Value) (w:World) (hnc:n≤c) (hroom:c < n + 1) (hbig:n + 1≤1000000) (hcl:cs.length=n * 4) (hvl:vs.length=4) (hnil:base=none→n=0)
  (hcs:∀ a,base=some a→∀ j v,cs[j]?=some v→w.cell? (a.add j)=some v) (hvs:∀ j v,vs[j]?=some v→w.cell? ⟨vb,voff + j,none⟩=some v) (h1v:∀ v ∈ vs,v.oneCell'=true) :
  Calls Tryz.prog 233 #[.slice base n c,.int .i64 n,.slice (some ⟨vb,voff,none⟩) 1 vc] w fun e w' =>
   ∃ zs:Array Value,e=.returned (.slice (some ⟨w.heap.size,0,none⟩) (n + 1) (grownCap w (n + 1) c 211))∧w'=w.drew.alloc (.cells ((cs++vs).toArray++zs) 211):=by
 have tS:Tryz.prog.underlying 84=some (.slice 211):=by kernel_rfl
 have tV:Tryz.prog.underlying 84=some (.slice 211):=by kernel_rfl
 have tI:Tryz.prog.underlying 3=some (.int .i64):=by kernel_rfl
 have uS:=run_underlying tS
 have uV:=run_underlying tV
 have uI:=run_underlying tI
 have mixed:Tryz.prog.follows .mixedOrders=true:=mix
 obtain ⟨i0,z,hi0,hzs,hz0,hzc,hzb⟩:=infB_ok (P:=Tryz.prog) (e:=211) (es:=4) (by kernel_rfl)
 have hsz:(Tryz.prog.info? 211).map (·.size)=some 4:=by rw [hi0];simp [hzs]
 have hsrc:Src Tryz.prog i0.size 84 (.slice (some ⟨vb,voff,none⟩) 1 vc) 1 vs w:=by
  rw [hzs]
  exact Src.ofSlice w tV ⟨vb,voff,none⟩ 1 vc vs (by omega) (fun j u hj=>by rw [Addr.add_lit];exact hvs j u hj) h1v
 have hold:(Builtin.firstCells i0.size n (.slice base n c)).run Tryz.prog w.drew=.ok cs.toArray w.drew:=by
  rw [hzs]
  cases base with
  | none =>
   have h0:=hnil rfl
   subst h0
   rw [List.length_eq_zero_iff.1 (by omega:cs.length=0)]
   exact run_firstCells_none w.drew 4 0 0 c
  | some a=>exact run_firstCells_some w.drew 4 n a n c cs hcl (fun j v hj=>hcs a rfl j v hj)
 have hrun:∀ ty,(Builtin.append_ #[84,84] ty #[.slice base n c,.slice (some ⟨vb,voff,none⟩) 1 vc]).run Tryz.prog w=_:=fun ty =>
  run_append_grow_src w 84 84 ty 211 i0 z tS hi0 hz0 base n c cs hold _ 1 vs hsrc hroom (by omega) (growslice_fits hroom (grown_bound hbig hzb))
 obtain ⟨ZS,hrun⟩ : ∃ ZS:Array Value,∀ ty,(Builtin.append_ #[84,84] ty #[.slice base n c,.slice (some ⟨vb,voff,none⟩) 1 vc]).run Tryz.prog w=.ok (.slice (some ⟨w.heap.size,0,none⟩) (n + 1) (grownCap w (n + 1) c 211)) (w.drew.alloc (.cells ((cs++vs).toArray++ZS) 211)):=⟨_,hrun⟩
 have main:Calls Tryz.prog 233 #[.slice base n c,.int .i64 n,.slice (some ⟨vb,voff,none⟩) 1 vc] w fun e w' =>
   e=.returned (.slice (some ⟨w.heap.size,0,none⟩) (n + 1) (grownCap w (n + 1) c 211))∧w'=w.drew.alloc (.cells ((cs++vs).toArray++ZS) 211):=by
  clear hz0 hold hsrc
  go_enter Tryz.func233,Tryz.ntmps233
  cases base with
  | none =>
   have h0:=hnil rfl
   subst h0
   go_wp2_with (at_builtin;refine Lib.wpList_append_run _ rfl _ _ _ _ rfl _ _ rfl rfl _ _ (hrun _) ?_)
   go_ret
   exact ⟨rfl,rfl⟩
  | some a =>
   obtain ⟨ab,ao,asp⟩:=a
   go_wp2_with (at_builtin;refine Lib.wpList_append_run _ rfl _ _ _ _ rfl _ _ rfl rfl _ _ (hrun _) ?_)
   all_goals (go_ret;exact ⟨rfl,rfl⟩)
 refine main.mono ?_
 rintro e w' ⟨rfl,rfl⟩
 exact ⟨ZS,rfl,rfl⟩
theorem insW233 (b n c i vb voff vc:Nat) (cs vs:List Value) (w:World) (hi:i < n) (hnc:n≤c) (hroom:c < n + 1) (hbig:n + 1≤1000000) (hcl:cs.length=n * 4) (hvl:vs.length=4)
  (hcs:∀ j v,cs[j]?=some v→w.cell? ⟨b,j,none⟩=some v) (hvs:∀ j v,vs[j]?=some v→w.cell? ⟨vb,voff + j,none⟩=some v) (h1c:∀ v ∈ cs,v.oneCell'=true) (h1v:∀ v ∈ vs,v.oneCell'=true) :
  Calls Tryz.prog 233 #[.slice (some ⟨b,0,none⟩) n c,.int .i64 i,.slice (some ⟨vb,voff,none⟩) 1 vc] w fun e w' =>
   ∃ ROW:Array Value,(n + 1) * 4≤ROW.size∧(∀ (j:Nat) (v:Value),(cs.take (i * 4))[j]?=some v→ROW[j]?=some v)∧e=.returned (.slice (some ⟨w.heap.size,0,none⟩) (n + 1) (grownCap w (n + 1) c 211)) ∧
    w'=(((w.alloc (.cells ROW 211)).drew.setCells w.heap.size (i * 4) vs).drew).setCells w.heap.size ((i + 1) * 4) (cs.drop (i * 4)):=by
 have tS:Tryz.prog.underlying 84=some (.slice 211):=by kernel_rfl
 have tV:Tryz.prog.underlying 84=some (.slice 211):=by kernel_rfl
 have tI:Tryz.prog.underlying 3=some (.int .i64):=by kernel_rfl
 have uS:=run_underlying tS
 have uV:=run_underlying tV
 have uI:=run_underlying tI
 have mixed:Tryz.prog.follows .mixedOrders=true:=mix
 obtain ⟨i0,z,hi0,hzs,hz0,hzc,hzb⟩:=infB_ok (P:=Tryz.prog) (e:=211) (es:=4) (by kernel_rfl)
 have hsz:(Tryz.prog.info? 211).map (·.size)=some 4:=by rw [hi0];simp [hzs]
 have hz2:¬ ((i:Int)=(n:Int)):=by omega
 have hz3:(c:Int) < (n:Int) + 1:=by omega
 have hbw:b < w.heap.size:=block_lt_of_cell (hcs 0 _ (List.getElem?_eq_getElem (by omega)))
 have hvw:vb < w.heap.size:=block_lt_of_cell (hvs 0 _ (List.getElem?_eq_getElem (by omega)))
 have hwk:IntKind.i64.wrap ((n:Int) + 1 - (i:Int))=((n + 1 - i:Nat):Int):=by rw [IntKind.wrap_i64];omega
 have hik:i + (n + 1 - i)=n + 1:=by omega
 have hold:(Builtin.firstCells i0.size i (.slice (some ⟨b,0,none⟩) i c)).run Tryz.prog w.drew=.ok (cs.take (i * 4)).toArray w.drew:=by
  rw [hzs]
  exact run_firstCells_some w.drew 4 i ⟨b,0,none⟩ i c (cs.take (i * 4)) (by rw [List.length_take];omega) (fun j v hj=>by
   rw [Addr.add_lit,Nat.zero_add]
   rw [List.getElem?_take] at hj
   split at hj
   ·exact hcs j v hj
   ·cases hj)
 have hbk:(n + 1 - i) * i0.bytes≤281474976710656:=by
  have:(n + 1 - i) * i0.bytes≤1000000 * 1000:=Nat.mul_le_mul (by omega) hzb
  omega
 have hrz:∀ ty,(Builtin.append_ #[84,3] ty #[.slice (some ⟨b,0,none⟩) i c,.int .i64 ((n + 1 - i:Nat):Int)]).run Tryz.prog w =
   .ok (.slice (some ⟨w.heap.size,0,none⟩) (n + 1) (grownCap w (n + 1) c 211)) (w.drew.alloc (.cells ((cs.take (i * 4)).toArray++Builtin.zeroCells z.cells (n + 1 - i)++Builtin.zeroCells z.cells (grownCap w (n + 1) c 211 - (n + 1))) 211)):=fun ty=>by
  have h:=Lib.run_append_grow_zeros w 84 3 ty 211 i0 z .i64 .i64 tS tI hi0 hz0 (some ⟨b,0,none⟩) i c (cs.take (i * 4)) hold (n + 1 - i) (by omega) (by omega) (by omega) (by omega) hbk (by rw [hik];exact growslice_fits hroom (grown_bound hbig hzb))
  rw [hik] at h
  exact h
 obtain ⟨G,hG⟩ : ∃ G,G=grownCap w (n + 1) c 211:=⟨_,rfl⟩
 obtain ⟨ROW,hROW⟩ : ∃ ROW:Array Value,ROW=(cs.take (i * 4)).toArray++Builtin.zeroCells z.cells (n + 1 - i)++Builtin.zeroCells z.cells (G - (n + 1)):=⟨_,rfl⟩
 rw [← hG] at hrz ⊢
 rw [← hROW] at hrz
 have hRl:(n + 1) * 4≤ROW.size:=by
  rw [hROW]
  simp only [Array.size_append,size_zeroCells,hzc,List.size_toArray,List.length_take]
  omega
 have hRt:∀ (j:Nat) (v:Value),(cs.take (i * 4))[j]?=some v→ROW[j]?=some v:=fun j v h=>by
  have hl:=(List.getElem?_eq_some_iff.1 h).1
  rw [hROW,Array.append_assoc,Array.getElem?_append_left (by simpa using hl),List.getElem?_toArray]
  exact h
 obtain ⟨W1,hW1⟩ : ∃ W1,W1=w.drew.alloc (.cells ROW 211):=⟨_,rfl⟩
 rw [← hW1] at hrz
 have hN:∀ j,j < (n + 1) * 4→(W1.cell? ⟨w.heap.size,j,none⟩).isSome=true:=fun j hj=>by
  rw [hW1,World.cell?_alloc_at (w:=w.drew) ROW _ w.heap.size j rfl,Array.getElem?_eq_getElem (by omega)];rfl
 have hNf:∀ j,W1.frozen? ⟨w.heap.size,j,none⟩=false:=fun j=>by rw [hW1];exact World.frozen?_alloc_at (w:=w.drew) ROW _ w.heap.size j rfl
 have hOb:∀ j v,w.cell? ⟨b,j,none⟩=some v→W1.cell? ⟨b,j,none⟩=some v:=fun j v h=>by rw [hW1,World.cell?_alloc_past (w:=w.drew) _ b j hbw];exact h
 have hOv:∀ j v,w.cell? ⟨vb,j,none⟩=some v→W1.cell? ⟨vb,j,none⟩=some v:=fun j v h=>by rw [hW1,World.cell?_alloc_past (w:=w.drew) _ vb j hvw];exact h
 have hmA:Nat.min 1 (n + 1 - i)=1:=by simp only [Nat.min_def];split <;> omega
 have hmB:Nat.min (n - i) (n - i)=n - i:=Nat.min_self _
 have hcpA:∀ (W:World),(∀ x,W.cell? x=W1.cell? x)→(∀ x,W.frozen? x=W1.frozen? x)→∀ ty dc,(Builtin.copy_ #[84,84] ty #[.slice (some ⟨w.heap.size,i * 4,none⟩) (n + 1 - i) dc,.slice (some ⟨vb,voff,none⟩) 1 vc]).run Tryz.prog W=.ok (goInt (Nat.min 1 (n + 1 - i))) (W.setCells w.heap.size (i * 4) vs):=fun W hWc hWf ty dc =>
  run_copy_es W _ _ ty 211 4 w.heap.size (i * 4) (n + 1 - i) dc ⟨vb,voff,none⟩ 1 vc vs tS hsz (by rw [hmA,hvl])
   (fun j v hj=>by rw [Addr.add_lit,hWc];exact hOv _ v (hvs j v hj))
   (fun j hj=>by rw [hWc];exact hN _ (by omega)) (fun j hj=>by rw [hWf];exact hNf _) h1v
 have hGn:n + 1≤G:=by rw [hG];exact grownCap_ge w _ _ _
 have hGi:¬ (G=i):=by omega
 have hGim:¬ (G=i + 1):=by omega
 have hci:¬ (c=i):=by omega
 have hbN:b≠w.heap.size:=by omega
 have hdl:(cs.drop (i * 4)).length=(n - i) * 4:=by rw [List.length_drop,hcl];omega
 have hcpB:∀ (W:World),(∀ x,W.cell? x=(W1.setCells w.heap.size (i * 4) vs).cell? x)→(∀ x,W.frozen? x=(W1.setCells w.heap.size (i * 4) vs).frozen? x)→∀ ty dc sc,(Builtin.copy_ #[84,84] ty #[.slice (some ⟨w.heap.size,(i + 1) * 4,none⟩) (n - i) dc,.slice (some ⟨b,i * 4,none⟩) (n - i) sc]).run Tryz.prog W=.ok (goInt (Nat.min (n - i) (n - i))) (W.setCells w.heap.size ((i + 1) * 4) (cs.drop (i * 4))):=fun W hWc hWf ty dc sc =>
  run_copy_es W _ _ ty 211 4 w.heap.size ((i + 1) * 4) (n - i) dc ⟨b,i * 4,none⟩ (n - i) sc (cs.drop (i * 4)) tS hsz (by rw [hmB];exact hdl)
   (fun j v hj=>by
    rw [Addr.add_lit,hWc,World.cell?_setCells_out _ _ _ _ _ (fun h _=>absurd h hbN)]
    exact hOb _ v (hcs (i * 4 + j) v (by rwa [List.getElem?_drop] at hj)))
   (fun j hj=>by rw [hWc];exact isSome_setCells _ _ _ _ (fun t ht=>hN _ (by omega)) _ (hN _ (by omega)))
   (fun j hj=>by rw [hWf,World.frozen?_setCells];exact hNf _) (fun v hv=>h1c v (List.mem_of_mem_drop hv))
 subst hW1
 have hE1:∀ x,((w.alloc (.cells ROW 211)).drew).cell? x=(w.drew.alloc (.cells ROW 211)).cell? x:=fun x=>rfl
 have hE2:∀ x,((w.alloc (.cells ROW 211)).drew).frozen? x=(w.drew.alloc (.cells ROW 211)).frozen? x:=fun x=>rfl
 have hF1:∀ x,(((w.alloc (.cells ROW 211)).drew.setCells w.heap.size (i * 4) vs).drew).cell? x=((w.drew.alloc (.cells ROW 211)).setCells w.heap.size (i * 4) vs).cell? x:=fun x=>rfl
 have hF2:∀ x,(((w.alloc (.cells ROW 211)).drew.setCells w.heap.size (i * 4) vs).drew).frozen? x=((w.drew.alloc (.cells ROW 211)).setCells w.heap.size (i * 4) vs).frozen? x:=fun x=>rfl
 have hw1:IntKind.i64.wrap ((i:Int) + 1)=(i:Int) + 1:=by rw [IntKind.wrap_i64];omega
 have hwn:IntKind.i64.wrap ((n:Int) + 1)=(n:Int) + 1:=by rw [IntKind.wrap_i64];omega
 have hb1:(0:Int)≤(i:Int) + 1:=by omega
 have hin:i≤n:=by omega
 have htn:((i:Int) + 1).toNat=i + 1:=by omega
 have hb3:(i:Int)≤(n:Int):=by omega
 have main:Calls Tryz.prog 233 #[.slice (some ⟨b,0,none⟩) n c,.int .i64 i,.slice (some ⟨vb,voff,none⟩) 1 vc] w fun e w' =>
   e=.returned (.slice (some ⟨w.heap.size,0,none⟩) (n + 1) G)∧w'=(((w.alloc (.cells ROW 211)).drew.setCells w.heap.size (i * 4) vs).drew).setCells w.heap.size ((i + 1) * 4) (cs.drop (i * 4)):=by
  clear hik hold hROW hG hRl hRt hbk hz0
  go_enter Tryz.func233,Tryz.ntmps233
  go_wp2_with (first
   | (at_builtin;refine Lib.wpList_append_run _ rfl _ _ _ _ rfl _ _ rfl rfl _ _ (hrz _) ?_)
   | (at_builtin;refine wpList_copy_runI _ rfl _ _ 84 84 rfl _ _ rfl rfl (hcpA _ hE1 hE2 _ _) ?_))
  go_region_law_o (refine step_copy_runI rfl _ _ 84 84 rfl (.slice (some ⟨w.heap.size,(i + 1) * 4,none⟩) (n - i) (G - (i + 1))) (.slice (some ⟨b,i * 4,none⟩) (n - i) (c - i)) (by simp [Act.eval,Act.put]) (by simp [Act.eval,Act.put]) (hcpB _ hF1 hF2 3 (G - (i + 1)) (c - i)) ?_)
  go_wp2
  go_ret
  first | exact ⟨rfl,rfl⟩ | trace_state
 refine main.mono ?_
 rintro e w' ⟨rfl,rfl⟩
 exact ⟨ROW,hRl,hRt,rfl,rfl⟩
theorem insR233_v:InsRoads Tryz.prog 233 4 211:=⟨insS233,insE233,insG233,insW233⟩
end Go.Proofs.YtpmoioopjbfhkaaGreat

/- That the program's functions yield what the plain ones tell (written by a program of mine). -/
namespace Go.Proofs.YtpmoioopjbfhkaaGreat
open Go.RowKit
set_option maxRecDepth 100000
set_option maxHeartbeats 4000000
def gc189:BCode:=(.seq (.reg 1 [⟨(some 1),.bx (.tmp 0),none,0⟩,⟨(some 2),.mv (.const (.string ⟨#[]⟩)),none,1⟩] none 0 []) (.seq (.reg 0 [⟨(some 3),.fa 0 (.tmp 1),none,0⟩,⟨(some 4),.ld 1 false (.tmp 3),none,0⟩,⟨(some 2),.mv (.tmp 4),none,0⟩] none 0 []) .ret))
theorem gc189_ok:compF Tryz.prog Tryz.f189=some (gc189.er,5,[.tmp 2]):=by unfold gc189;kernel_rfl
theorem p_view_Row_key_v (a0:MailEntry):CallsO Tryz.prog 189 [.agg [.s a0.Key,.b a0.P.On,.i a0.P.Show,.i a0.P.Prio,.i a0.P.Seq]] V.s (p_view_Row_key a0):=by
 refine callsO_comp mix Tryz.func189 gc189_ok fun r H=>?_
 rw [p_view_Row_key] at H
 conv=>whnf
 exact fin0_c (enc:=V.s) H (.inr rfl) (.cons (.tmp rfl) (.nil)) rfl rfl
def gc188:BCode:=(.seq (.reg 0 [⟨(some 4),.mv (.const (.bool false)),none,0⟩] none 0 []) (.seq (.seq (.reg 0 [⟨(some 5),.mv (.const (.int .i64 1)),none,0⟩] none 0 []) (.block 0 (.loop (.seq (.seq (.reg 0 [⟨(some 6),.mv (.tmp 5),none,0⟩,⟨(some 7),.mv (.tmp 0),none,0⟩,⟨(some 8),.lens (.tmp 7),none,0⟩,⟨(some 9),.bin .lss (.tmp 6) (.tmp 8),none,0⟩] none 0 []) (.cond (.tmp 9) .skip (.exit 0))) (.seq (.block 1 (.seq (.reg 0 [⟨(some 12),.mv (.tmp 1),none,0⟩,⟨(some 13),.mv (.tmp 0),none,0⟩,⟨(some 14),.mv (.tmp 5),none,0⟩,⟨(some 15),.bin .sub (.tmp 14) (.const (.int .i64 1)),none,0⟩,⟨(some 16),.ixs 5 (.tmp 13) (.tmp 15),none,0⟩,⟨(some 17),.ld 5 true (.tmp 16),none,0⟩,⟨(some 18),.cv (.tmp 12) [(.tmp 17)],none,0⟩,⟨(some 19),.mv (.tmp 1),none,0⟩,⟨(some 20),.mv (.tmp 0),none,0⟩,⟨(some 21),.mv (.tmp 5),none,0⟩,⟨(some 22),.ixs 5 (.tmp 20) (.tmp 21),none,0⟩,⟨(some 23),.ld 5 true (.tmp 22),none,0⟩,⟨(some 24),.cv (.tmp 19) [(.tmp 23)],none,0⟩,⟨(some 25),.bin .geq (.tmp 18) (.tmp 24),none,0⟩] (some [[],[],[],[2],[2,3,1],[1,3,2,4],[4,2,3,1,5,0],[],[],[],[9,8],[8,9,10],[0,5,1,3,2,4,6,10,9,8,11,7],[7,11,8,9,10,12,0,5,1,3,2,4,6]]) 0 []) (.cond (.tmp 25) (.seq (.reg 0 [⟨(some 4),.mv (.const (.bool false)),none,0⟩] none 0 []) .ret) .skip))) (.reg 0 [⟨(some 10),.mv (.tmp 5),none,0⟩,⟨(some 11),.bin .add (.tmp 10) (.const (.int .i64 1)),none,0⟩,⟨(some 5),.mv (.tmp 11),none,0⟩] none 0 [])))))) (.seq (.reg 0 [⟨(some 4),.mv (.const (.bool true)),none,0⟩] none 0 []) .ret)))
theorem gc188_ok:compF Tryz.prog Tryz.f188=some (gc188.er,26,[.tmp 4]):=by unfold gc188;kernel_rfl
theorem p_view_rise_view_Row__v {u1:Bool} (a0:List MailEntry) (a1:MailEntry→Option ByteArray) {a1_g:Nat} {a1_k:List V} (a1_h:Clo1 Tryz.prog a1_g a1_k MailEntry.v V.s a1):CallsO Tryz.prog 188 [.sl (List.map MailEntry.v a0) u1,.clo (.func a1_g) a1_k] V.b (p_view_rise_view_Row_ a0 a1):=by
 refine callsO_comp mix Tryz.func188 gc188_ok fun r H=>?_
 rw [p_view_rise_view_Row_] at H
 conv=>whnf
 obtain ⟨o2,HL3,HQ4⟩:=bind_c H
 refine loop_c [4,5] [6,7,8,9,10,11,12,13,14,15,16,17,18,19,20,21,22,23,24,25] [6,7,8,9,10,11,12,13,14,15,16,17,18,19,20,21,22,23,24,25] (fun n vals st=>(∃ y6,p_view_rise_view_Row__l1  a1 a0 n y6=some o2∧vals=[.b false,.i y6]∧st=[])) fuel 0 [] (⟨_,HL3,rfl,rfl⟩) (Nat.zero_le _) rfl (by simp only [maskF,setF,List.set_cons_zero,List.set_cons_succ,V.ren.renL,V.ren,renL_id _ a1_h.own] <;> rfl) (by simp only [maskF,setF,List.set_cons_zero,List.set_cons_succ,V.idlt.belowL,V.idlt,fun n=>idltL_up (n:=n) _ a1_h.own] <;> rfl) rfl trivial ?_
 rintro (_ | n5) _ _ (⟨y6,H,rfl,rfl⟩)
 ·rw [p_view_rise_view_Row__l1] at H;cases H
 rw [p_view_rise_view_Row__l1] at H
 conv=>whnf
 refine LenQ.M ?_;conv=>whnf
 refine tst_d H (fun b7 H=>?_) (fun b7 H=>?_)
 ·conv=>whnf
  obtain rfl:=Option.some.inj H
  have H:=HQ4
  try dsimp only at H
  exact fb_ H
 conv=>whnf
 refine Ari.w ?_;conv=>whnf
 refine ixs_c (f:=MailEntry.v) H (fun _=>rfl) (fun x8 H=>?_);conv=>whnf
 refine askC_c a1_h H (.cons (fzagg (.cons (.id rfl) (.cons (.id rfl) (.cons (.id rfl) (.cons (.id rfl) (.cons (.id rfl) (.nil)))))) rfl) (.nil)) (fun v9 H=>?_);conv=>whnf
 refine ixs_c (f:=MailEntry.v) H (fun _=>rfl) (fun x10 H=>?_);conv=>whnf
 refine askC_c a1_h H (.cons (fzagg (.cons (.id rfl) (.cons (.id rfl) (.cons (.id rfl) (.cons (.id rfl) (.cons (.id rfl) (.nil)))))) rfl) (.nil)) (fun v11 H=>?_);conv=>whnf
 refine FootQ.mk ⟨rfl,?_⟩;conv=>whnf
 refine Tst.not ?_
 refine tst_d H (fun b12 H=>?_) (fun b12 H=>?_)
 ·conv=>whnf
  obtain rfl:=Option.some.inj H
  have H:=HQ4
  try dsimp only at H
  exact fb_ H
 conv=>whnf
 refine Ari.w ?_;conv=>whnf
 exact again_c [6,7,8,9,10,11,12,13,14,15,16,17,18,19,20,21,22,23,24,25] n5 0 [] (⟨_,H,rfl,rfl⟩) (Nat.lt_succ_self _) (Nat.zero_le _) rfl (by simp only [maskF,setF,List.set_cons_zero,List.set_cons_succ,V.ren.renL,V.ren,renL_id _ a1_h.own] <;> rfl) (by simp only [maskF,setF,List.set_cons_zero,List.set_cons_succ,V.idlt.belowL,V.idlt,fun n=>idltL_up (n:=n) _ a1_h.own] <;> rfl) rfl trivial
def gc191:BCode:=(.seq (.reg 0 [⟨(some 2),.mv (.const (.string ⟨#[]⟩)),none,0⟩] none 0 []) (.seq (.reg 0 [⟨(some 3),.mv (.tmp 0),none,0⟩,⟨(some 2),.mv (.tmp 3),none,0⟩] none 0 []) .ret))
theorem gc191_ok:compF Tryz.prog Tryz.f191=some (gc191.er,4,[.tmp 2]):=by unfold gc191;kernel_rfl
theorem p_view_itself_v (a0:ByteArray):CallsO Tryz.prog 191 [.s a0] V.s (p_view_itself a0):=by
 refine callsO_comp mix Tryz.func191 gc191_ok fun r H=>?_
 rw [p_view_itself] at H
 conv=>whnf
 exact fin0_c (enc:=V.s) H (.inr rfl) (.cons (.tmp rfl) (.nil)) rfl rfl
def gc190:BCode:=(.seq (.reg 0 [⟨(some 4),.mv (.const (.bool false)),none,0⟩] none 0 []) (.seq (.seq (.reg 0 [⟨(some 5),.mv (.const (.int .i64 1)),none,0⟩] none 0 []) (.block 0 (.loop (.seq (.seq (.reg 0 [⟨(some 6),.mv (.tmp 5),none,0⟩,⟨(some 7),.mv (.tmp 0),none,0⟩,⟨(some 8),.lens (.tmp 7),none,0⟩,⟨(some 9),.bin .lss (.tmp 6) (.tmp 8),none,0⟩] none 0 []) (.cond (.tmp 9) .skip (.exit 0))) (.seq (.block 1 (.seq (.reg 0 [⟨(some 12),.mv (.tmp 1),none,0⟩,⟨(some 13),.mv (.tmp 0),none,0⟩,⟨(some 14),.mv (.tmp 5),none,0⟩,⟨(some 15),.bin .sub (.tmp 14) (.const (.int .i64 1)),none,0⟩,⟨(some 16),.ixs 1 (.tmp 13) (.tmp 15),none,0⟩,⟨(some 17),.ld 1 false (.tmp 16),none,0⟩,⟨(some 18),.cv (.tmp 12) [(.tmp 17)],none,0⟩,⟨(some 19),.mv (.tmp 1),none,0⟩,⟨(some 20),.mv (.tmp 0),none,0⟩,⟨(some 21),.mv (.tmp 5),none,0⟩,⟨(some 22),.ixs 1 (.tmp 20) (.tmp 21),none,0⟩,⟨(some 23),.ld 1 false (.tmp 22),none,0⟩,⟨(some 24),.cv (.tmp 19) [(.tmp 23)],none,0⟩,⟨(some 25),.bin .geq (.tmp 18) (.tmp 24),none,0⟩] (some [[],[],[],[2],[2,3,1],[1,3,2,4],[4,2,3,1,5,0],[],[],[],[9,8],[8,9,10],[0,5,1,3,2,4,6,10,9,8,11,7],[7,11,8,9,10,12,0,5,1,3,2,4,6]]) 0 []) (.cond (.tmp 25) (.seq (.reg 0 [⟨(some 4),.mv (.const (.bool false)),none,0⟩] none 0 []) .ret) .skip))) (.reg 0 [⟨(some 10),.mv (.tmp 5),none,0⟩,⟨(some 11),.bin .add (.tmp 10) (.const (.int .i64 1)),none,0⟩,⟨(some 5),.mv (.tmp 11),none,0⟩] none 0 [])))))) (.seq (.reg 0 [⟨(some 4),.mv (.const (.bool true)),none,0⟩] none 0 []) .ret)))
theorem gc190_ok:compF Tryz.prog Tryz.f190=some (gc190.er,26,[.tmp 4]):=by unfold gc190;kernel_rfl
theorem p_view_rise_string__v {u1:Bool} (a0:List ByteArray) (a1:ByteArray→Option ByteArray) {a1_g:Nat} {a1_k:List V} (a1_h:Clo1 Tryz.prog a1_g a1_k V.s V.s a1):CallsO Tryz.prog 190 [.sl (List.map V.s a0) u1,.clo (.func a1_g) a1_k] V.b (p_view_rise_string_ a0 a1):=by
 refine callsO_comp mix Tryz.func190 gc190_ok fun r H=>?_
 rw [p_view_rise_string_] at H
 conv=>whnf
 obtain ⟨o2,HL3,HQ4⟩:=bind_c H
 refine loop_c [4,5] [6,7,8,9,10,11,12,13,14,15,16,17,18,19,20,21,22,23,24,25] [6,7,8,9,10,11,12,13,14,15,16,17,18,19,20,21,22,23,24,25] (fun n vals st=>(∃ y6,p_view_rise_string__l1  a1 a0 n y6=some o2∧vals=[.b false,.i y6]∧st=[])) fuel 0 [] (⟨_,HL3,rfl,rfl⟩) (Nat.zero_le _) rfl (by simp only [maskF,setF,List.set_cons_zero,List.set_cons_succ,V.ren.renL,V.ren,renL_id _ a1_h.own] <;> rfl) (by simp only [maskF,setF,List.set_cons_zero,List.set_cons_succ,V.idlt.belowL,V.idlt,fun n=>idltL_up (n:=n) _ a1_h.own] <;> rfl) rfl trivial ?_
 rintro (_ | n5) _ _ (⟨y6,H,rfl,rfl⟩)
 ·rw [p_view_rise_string__l1] at H;cases H
 rw [p_view_rise_string__l1] at H
 conv=>whnf
 refine LenQ.M ?_;conv=>whnf
 refine tst_d H (fun b7 H=>?_) (fun b7 H=>?_)
 ·conv=>whnf
  obtain rfl:=Option.some.inj H
  have H:=HQ4
  try dsimp only at H
  exact fb_ H
 conv=>whnf
 refine Ari.w ?_;conv=>whnf
 refine ixs_c (f:=V.s) H (fun _=>rfl) (fun x8 H=>?_);conv=>whnf
 refine askC_c a1_h H (.cons (.c (.id rfl)) (.nil)) (fun v9 H=>?_);conv=>whnf
 refine ixs_c (f:=V.s) H (fun _=>rfl) (fun x10 H=>?_);conv=>whnf
 refine askC_c a1_h H (.cons (.c (.id rfl)) (.nil)) (fun v11 H=>?_);conv=>whnf
 refine FootQ.mk ⟨rfl,?_⟩;conv=>whnf
 refine Tst.not ?_
 refine tst_d H (fun b12 H=>?_) (fun b12 H=>?_)
 ·conv=>whnf
  obtain rfl:=Option.some.inj H
  have H:=HQ4
  try dsimp only at H
  exact fb_ H
 conv=>whnf
 refine Ari.w ?_;conv=>whnf
 exact again_c [6,7,8,9,10,11,12,13,14,15,16,17,18,19,20,21,22,23,24,25] n5 0 [] (⟨_,H,rfl,rfl⟩) (Nat.lt_succ_self _) (Nat.zero_le _) rfl (by simp only [maskF,setF,List.set_cons_zero,List.set_cons_succ,V.ren.renL,V.ren,renL_id _ a1_h.own] <;> rfl) (by simp only [maskF,setF,List.set_cons_zero,List.set_cons_succ,V.idlt.belowL,V.idlt,fun n=>idltL_up (n:=n) _ a1_h.own] <;> rfl) rfl trivial
def gc181:BCode:=(.seq (.reg 1 [⟨(some 1),.bx (.tmp 0),none,0⟩,⟨(some 2),.mv (.const (.string ⟨#[]⟩)),none,1⟩] none 0 []) (.seq (.reg 0 [⟨(some 3),.fa 0 (.tmp 1),none,0⟩,⟨(some 4),.ld 1 false (.tmp 3),none,0⟩,⟨(some 2),.mv (.tmp 4),none,0⟩] none 0 []) .ret))
theorem gc181_ok:compF Tryz.prog Tryz.f181=some (gc181.er,5,[.tmp 2]):=by unfold gc181;kernel_rfl
theorem p_view_Contact_user_v (a0:Ref35Contact):CallsO Tryz.prog 181 [.agg [.s a0.User,.s a0.Name,.i a0.Show,.i a0.Ver]] V.s (p_view_Contact_user a0):=by
 refine callsO_comp mix Tryz.func181 gc181_ok fun r H=>?_
 rw [p_view_Contact_user] at H
 conv=>whnf
 exact fin0_c (enc:=V.s) H (.inr rfl) (.cons (.tmp rfl) (.nil)) rfl rfl
def gc192:BCode:=(.seq (.reg 0 [⟨(some 4),.mv (.const (.bool false)),none,0⟩] none 0 []) (.seq (.seq (.reg 0 [⟨(some 5),.mv (.const (.int .i64 1)),none,0⟩] none 0 []) (.block 0 (.loop (.seq (.seq (.reg 0 [⟨(some 6),.mv (.tmp 5),none,0⟩,⟨(some 7),.mv (.tmp 0),none,0⟩,⟨(some 8),.lens (.tmp 7),none,0⟩,⟨(some 9),.bin .lss (.tmp 6) (.tmp 8),none,0⟩] none 0 []) (.cond (.tmp 9) .skip (.exit 0))) (.seq (.block 1 (.seq (.reg 0 [⟨(some 12),.mv (.tmp 1),none,0⟩,⟨(some 13),.mv (.tmp 0),none,0⟩,⟨(some 14),.mv (.tmp 5),none,0⟩,⟨(some 15),.bin .sub (.tmp 14) (.const (.int .i64 1)),none,0⟩,⟨(some 16),.ixs 4 (.tmp 13) (.tmp 15),none,0⟩,⟨(some 17),.ld 4 true (.tmp 16),none,0⟩,⟨(some 18),.cv (.tmp 12) [(.tmp 17)],none,0⟩,⟨(some 19),.mv (.tmp 1),none,0⟩,⟨(some 20),.mv (.tmp 0),none,0⟩,⟨(some 21),.mv (.tmp 5),none,0⟩,⟨(some 22),.ixs 4 (.tmp 20) (.tmp 21),none,0⟩,⟨(some 23),.ld 4 true (.tmp 22),none,0⟩,⟨(some 24),.cv (.tmp 19) [(.tmp 23)],none,0⟩,⟨(some 25),.bin .geq (.tmp 18) (.tmp 24),none,0⟩] (some [[],[],[],[2],[2,3,1],[1,3,2,4],[4,2,3,1,5,0],[],[],[],[9,8],[8,9,10],[0,5,1,3,2,4,6,10,9,8,11,7],[7,11,8,9,10,12,0,5,1,3,2,4,6]]) 0 []) (.cond (.tmp 25) (.seq (.reg 0 [⟨(some 4),.mv (.const (.bool false)),none,0⟩] none 0 []) .ret) .skip))) (.reg 0 [⟨(some 10),.mv (.tmp 5),none,0⟩,⟨(some 11),.bin .add (.tmp 10) (.const (.int .i64 1)),none,0⟩,⟨(some 5),.mv (.tmp 11),none,0⟩] none 0 [])))))) (.seq (.reg 0 [⟨(some 4),.mv (.const (.bool true)),none,0⟩] none 0 []) .ret)))
theorem gc192_ok:compF Tryz.prog Tryz.f192=some (gc192.er,26,[.tmp 4]):=by unfold gc192;kernel_rfl
theorem p_view_rise_view_Contact__v {u1:Bool} (a0:List Ref35Contact) (a1:Ref35Contact→Option ByteArray) {a1_g:Nat} {a1_k:List V} (a1_h:Clo1 Tryz.prog a1_g a1_k Ref35Contact.v V.s a1):CallsO Tryz.prog 192 [.sl (List.map Ref35Contact.v a0) u1,.clo (.func a1_g) a1_k] V.b (p_view_rise_view_Contact_ a0 a1):=by
 refine callsO_comp mix Tryz.func192 gc192_ok fun r H=>?_
 rw [p_view_rise_view_Contact_] at H
 conv=>whnf
 obtain ⟨o2,HL3,HQ4⟩:=bind_c H
 refine loop_c [4,5] [6,7,8,9,10,11,12,13,14,15,16,17,18,19,20,21,22,23,24,25] [6,7,8,9,10,11,12,13,14,15,16,17,18,19,20,21,22,23,24,25] (fun n vals st=>(∃ y6,p_view_rise_view_Contact__l1  a1 a0 n y6=some o2∧vals=[.b false,.i y6]∧st=[])) fuel 0 [] (⟨_,HL3,rfl,rfl⟩) (Nat.zero_le _) rfl (by simp only [maskF,setF,List.set_cons_zero,List.set_cons_succ,V.ren.renL,V.ren,renL_id _ a1_h.own] <;> rfl) (by simp only [maskF,setF,List.set_cons_zero,List.set_cons_succ,V.idlt.belowL,V.idlt,fun n=>idltL_up (n:=n) _ a1_h.own] <;> rfl) rfl trivial ?_
 rintro (_ | n5) _ _ (⟨y6,H,rfl,rfl⟩)
 ·rw [p_view_rise_view_Contact__l1] at H;cases H
 rw [p_view_rise_view_Contact__l1] at H
 conv=>whnf
 refine LenQ.M ?_;conv=>whnf
 refine tst_d H (fun b7 H=>?_) (fun b7 H=>?_)
 ·conv=>whnf
  obtain rfl:=Option.some.inj H
  have H:=HQ4
  try dsimp only at H
  exact fb_ H
 conv=>whnf
 refine Ari.w ?_;conv=>whnf
 refine ixs_c (f:=Ref35Contact.v) H (fun _=>rfl) (fun x8 H=>?_);conv=>whnf
 refine askC_c a1_h H (.cons (fzagg (.cons (.id rfl) (.cons (.id rfl) (.cons (.id rfl) (.cons (.id rfl) (.nil))))) rfl) (.nil)) (fun v9 H=>?_);conv=>whnf
 refine ixs_c (f:=Ref35Contact.v) H (fun _=>rfl) (fun x10 H=>?_);conv=>whnf
 refine askC_c a1_h H (.cons (fzagg (.cons (.id rfl) (.cons (.id rfl) (.cons (.id rfl) (.cons (.id rfl) (.nil))))) rfl) (.nil)) (fun v11 H=>?_);conv=>whnf
 refine FootQ.mk ⟨rfl,?_⟩;conv=>whnf
 refine Tst.not ?_
 refine tst_d H (fun b12 H=>?_) (fun b12 H=>?_)
 ·conv=>whnf
  obtain rfl:=Option.some.inj H
  have H:=HQ4
  try dsimp only at H
  exact fb_ H
 conv=>whnf
 refine Ari.w ?_;conv=>whnf
 exact again_c [6,7,8,9,10,11,12,13,14,15,16,17,18,19,20,21,22,23,24,25] n5 0 [] (⟨_,H,rfl,rfl⟩) (Nat.lt_succ_self _) (Nat.zero_le _) rfl (by simp only [maskF,setF,List.set_cons_zero,List.set_cons_succ,V.ren.renL,V.ren,renL_id _ a1_h.own] <;> rfl) (by simp only [maskF,setF,List.set_cons_zero,List.set_cons_succ,V.idlt.belowL,V.idlt,fun n=>idltL_up (n:=n) _ a1_h.own] <;> rfl) rfl trivial
def gc120:BCode:=(.seq (.reg 1 [⟨(some 1),.bx (.tmp 0),none,0⟩,⟨(some 2),.mv (.const (.int .i64 0)),none,1⟩] none 0 []) (.seq (.seq (.reg 0 [⟨(some 7),.fa 0 (.tmp 1),none,0⟩,⟨(some 8),.ld 1 false (.tmp 7),none,0⟩,⟨(some 9),.lens (.tmp 8),none,0⟩,⟨(some 10),.fa 1 (.tmp 1),none,0⟩,⟨(some 11),.ld 1 false (.tmp 10),none,0⟩,⟨(some 12),.lens (.tmp 11),none,0⟩,⟨(some 13),.fa 3 (.tmp 1),none,0⟩,⟨(some 14),.ld 1 false (.tmp 13),none,0⟩,⟨(some 15),.lens (.tmp 14),none,0⟩,⟨(some 16),.fa 4 (.tmp 1),none,0⟩,⟨(some 17),.ld 1 false (.tmp 16),none,0⟩,⟨(some 18),.lens (.tmp 17),none,0⟩,⟨(some 19),.bd [(.lit (.int .i64 0)),(.lit (.int .i64 0)),(.lit (.int .i64 0)),(.lit (.int .i64 0))] [(0,1,(.tmp 9)),(1,1,(.tmp 12)),(2,1,(.tmp 15)),(3,1,(.tmp 18))],none,0⟩,⟨(some 20),.mv (.const (.int .i64 0)),none,0⟩] none 0 []) (.block 0 (.loop (.seq (.reg 0 [⟨(some 21),.bin .lss (.tmp 20) (.const (.int .i64 4)),none,0⟩] none 0 []) (.seq (.cond (.tmp 21) .skip (.exit 0)) (.seq (.block 1 (.seq (.reg 0 [⟨(some 22),.ixg 4 1 false (.tmp 19) (.tmp 20),none,0⟩,⟨(some 4),.mv (.tmp 22),none,0⟩] none 0 []) (.seq (.reg 0 [⟨(some 23),.mv (.tmp 4),none,0⟩,⟨(some 24),.bin .gtr (.tmp 23) (.const (.int .i64 64)),none,0⟩] none 0 []) (.cond (.tmp 24) (.seq (.reg 0 [⟨(some 2),.mv (.const (.int .i64 5)),none,0⟩] none 0 []) .ret) .skip)))) (.reg 0 [⟨(some 25),.bin .add (.tmp 20) (.const (.int .i64 1)),none,0⟩,⟨(some 20),.mv (.tmp 25),none,0⟩] none 0 []))))))) (.seq (.seq (.reg 0 [⟨(some 26),.fa 0 (.tmp 1),none,0⟩,⟨(some 27),.ld 1 false (.tmp 26),none,0⟩,⟨(some 28),.cl 188 [(.tmp 27),(.func 189)],none,0⟩,⟨(some 29),.fa 1 (.tmp 1),none,0⟩,⟨(some 30),.ld 1 false (.tmp 29),none,0⟩,⟨(some 31),.cl 188 [(.tmp 30),(.func 189)],none,0⟩,⟨(some 32),.fa 3 (.tmp 1),none,0⟩,⟨(some 33),.ld 1 false (.tmp 32),none,0⟩,⟨(some 34),.cl 190 [(.tmp 33),(.func 191)],none,0⟩,⟨(some 35),.fa 4 (.tmp 1),none,0⟩,⟨(some 36),.ld 1 false (.tmp 35),none,0⟩,⟨(some 37),.cl 192 [(.tmp 36),(.func 181)],none,0⟩,⟨(some 38),.bd [(.lit (.bool false)),(.lit (.bool false)),(.lit (.bool false)),(.lit (.bool false))] [(0,1,(.tmp 28)),(1,1,(.tmp 31)),(2,1,(.tmp 34)),(3,1,(.tmp 37))],none,0⟩,⟨(some 39),.mv (.const (.int .i64 0)),none,0⟩] (some [[],[0],[0,1],[],[3],[1,0,2,3,4],[],[6],[4,3,2,0,1,5,6,7],[],[9],[7,6,5,1,0,2,3,4,8,9,10],[10,9,11,7,6,8,4,3,5,1,0,2],[]]) 0 []) (.block 2 (.loop (.seq (.reg 0 [⟨(some 40),.bin .lss (.tmp 39) (.const (.int .i64 4)),none,0⟩] none 0 []) (.seq (.cond (.tmp 40) .skip (.exit 2)) (.seq (.block 3 (.seq (.reg 0 [⟨(some 41),.ixg 4 1 false (.tmp 38) (.tmp 39),none,0⟩,⟨(some 6),.mv (.tmp 41),none,0⟩] none 0 []) (.seq (.reg 0 [⟨(some 42),.mv (.tmp 6),none,0⟩,⟨(some 43),.un .not (.tmp 42),none,0⟩] none 0 []) (.cond (.tmp 43) (.seq (.reg 0 [⟨(some 2),.mv (.const (.int .i64 10)),none,0⟩] none 0 []) .ret) .skip)))) (.reg 0 [⟨(some 44),.bin .add (.tmp 39) (.const (.int .i64 1)),none,0⟩,⟨(some 39),.mv (.tmp 44),none,0⟩] none 0 []))))))) (.seq (.seq (.reg 0 [⟨(some 45),.fa 3 (.tmp 1),none,0⟩,⟨(some 46),.ld 1 false (.tmp 45),none,0⟩,⟨(some 47),.lens (.tmp 46),none,0⟩,⟨(some 48),.bin .gtr (.tmp 47) (.const (.int .i64 0)),none,0⟩,⟨(some 49),.mv (.tmp 48),none,0⟩,⟨(some 50),.fa 2 (.tmp 1),(some (49,true)),0⟩,⟨(some 51),.ld 1 false (.tmp 50),(some (49,true)),0⟩,⟨(some 52),.un .not (.tmp 51),(some (49,true)),0⟩,⟨(some 53),.pick (.tmp 49) (.tmp 52) (.const (.bool false)),none,0⟩,⟨(some 54),.mv (.tmp 53),none,0⟩,⟨(some 55),.fa 5 (.tmp 1),(some (54,false)),0⟩,⟨(some 56),.ld 1 false (.tmp 55),(some (54,false)),0⟩,⟨(some 57),.bin .lss (.tmp 56) (.const (.int .i64 0)),(some (54,false)),0⟩,⟨(some 58),.pick (.tmp 54) (.const (.bool true)) (.tmp 57),none,0⟩,⟨(some 59),.mv (.tmp 58),none,0⟩,⟨(some 60),.fa 5 (.tmp 1),(some (59,false)),0⟩,⟨(some 61),.ld 1 false (.tmp 60),(some (59,false)),0⟩,⟨(some 62),.bin .gtr (.tmp 61) (.const (.int .i64 1099511627776)),(some (59,false)),0⟩,⟨(some 63),.pick (.tmp 59) (.const (.bool true)) (.tmp 62),none,0⟩,⟨(some 64),.mv (.tmp 63),none,0⟩,⟨(some 65),.fa 6 (.tmp 1),(some (64,false)),0⟩,⟨(some 66),.ld 1 false (.tmp 65),(some (64,false)),0⟩,⟨(some 67),.bin .lss (.tmp 66) (.const (.int .i64 0)),(some (64,false)),0⟩,⟨(some 68),.pick (.tmp 64) (.const (.bool true)) (.tmp 67),none,0⟩,⟨(some 69),.mv (.tmp 68),none,0⟩,⟨(some 70),.fa 6 (.tmp 1),(some (69,false)),0⟩,⟨(some 71),.ld 1 false (.tmp 70),(some (69,false)),0⟩,⟨(some 72),.bin .gtr (.tmp 71) (.const (.int .i64 1099511627776)),(some (69,false)),0⟩,⟨(some 73),.pick (.tmp 69) (.const (.bool true)) (.tmp 72),none,0⟩] none 0 []) (.cond (.tmp 73) (.seq (.reg 0 [⟨(some 2),.mv (.const (.int .i64 9)),none,0⟩] none 0 []) .ret) .skip)) (.seq (.reg 0 [⟨(some 2),.mv (.const (.int .i64 0)),none,0⟩] none 0 []) .ret)))))
theorem gc120_ok:compF Tryz.prog Tryz.f120=some (gc120.er,74,[.tmp 2]):=by unfold gc120;kernel_rfl
theorem p_view_Check_v {u1 u2 u3 u4:Bool} (a0:Ref35State):CallsO Tryz.prog 120 [.agg [.sl (List.map MailEntry.v a0.Rows) u1,.sl (List.map MailEntry.v a0.Last) u2,.b a0.Anew,.sl (List.map V.s a0.Seen) u3,.sl (List.map Ref35Contact.v a0.List) u4,.i a0.Odd,.i a0.Told]] V.i (p_view_Check a0):=by
 refine callsO_comp mix Tryz.func120 gc120_ok fun r H=>?_
 rw [p_view_Check] at H
 conv=>whnf
 iterate 4 (refine LenQ.M ?_;conv=>whnf)
 obtain ⟨o2,HL3,HQ4⟩:=bind_c H
 refine loop_c [2,20] [4,21,22,23,24,25,7,10,13,16] [4,21,22,23,24,25,7,10,13,16] (fun n vals st=>(∃ y6,p_view_Check_l1  (Ar4_Int.mk (a0.Rows.length:Int) (a0.Last.length:Int) (a0.Seen.length:Int) (a0.List.length:Int)) n y6=some o2∧vals=[.i (0:Int),.i y6]∧st=[.live [.sl (List.map MailEntry.v a0.Rows) u1,.sl (List.map MailEntry.v a0.Last) u2,.b a0.Anew,.sl (List.map V.s a0.Seen) u3,.sl (List.map Ref35Contact.v a0.List) u4,.i a0.Odd,.i a0.Told] 0])) fuel 1 [] (⟨_,HL3,rfl,rfl⟩) (Nat.zero_le _) rfl (by kernel_rfl) (by kernel_rfl) rfl ⟨⟨rfl,rfl,rfl⟩,trivial⟩ ?_
 rintro (_ | n5) _ _ (⟨y6,H,rfl,rfl⟩)
 ·rw [p_view_Check_l1] at H;cases H
 rw [p_view_Check_l1] at H
 conv=>whnf
 refine tst_c H (fun b7 H=>?_) (fun b7 H=>?_)
 ·conv=>whnf
  refine ixg_c (f:=V.i) (T:=[(a0.Rows.length:Int),(a0.Last.length:Int),(a0.Seen.length:Int),(a0.List.length:Int)]) H rfl rfl (fun x8 H=>?_);conv=>whnf
  refine tst_c H (fun b9 H=>?_) (fun b9 H=>?_)
  ·conv=>whnf
   obtain rfl:=Option.some.inj H
   have H:=HQ4
   try dsimp only at H
   exact fi_ H
  conv=>whnf
  refine Ari.w ?_;conv=>whnf
  exact again_c [4,21,22,23,24,25,7,10,13,16] n5 1 [] (⟨_,H,rfl,rfl⟩) (Nat.lt_succ_self _) (Nat.zero_le _) rfl (by kernel_rfl) (by kernel_rfl) rfl ⟨⟨rfl,rfl,rfl⟩,trivial⟩
 conv=>whnf
 obtain rfl:=Option.some.inj H
 have H:=HQ4
 try dsimp only at H
 refine askF_c (p_view_rise_view_Row__v _ _ ⟨⟨_,Tryz.func189,by kernel_rfl,by kernel_rfl⟩,rfl,fun x0=>p_view_Row_key_v _⟩) H (.cons (.c (.slw)) (.cons (.c (.clo (.nil))) (.nil))) (fun v10 H=>?_);conv=>whnf
 refine askF_c (p_view_rise_view_Row__v _ _ ⟨⟨_,Tryz.func189,by kernel_rfl,by kernel_rfl⟩,rfl,fun x0=>p_view_Row_key_v _⟩) H (.cons (.c (.slw)) (.cons (.c (.clo (.nil))) (.nil))) (fun v11 H=>?_);conv=>whnf
 refine askF_c (p_view_rise_string__v _ _ ⟨⟨_,Tryz.func191,by kernel_rfl,by kernel_rfl⟩,rfl,fun x0=>p_view_itself_v _⟩) H (.cons (.c (.slw)) (.cons (.c (.clo (.nil))) (.nil))) (fun v12 H=>?_);conv=>whnf
 refine askF_c (p_view_rise_view_Contact__v _ _ ⟨⟨_,Tryz.func181,by kernel_rfl,by kernel_rfl⟩,rfl,fun x0=>p_view_Contact_user_v _⟩) H (.cons (.c (.slw)) (.cons (.c (.clo (.nil))) (.nil))) (fun v13 H=>?_);conv=>whnf
 refine FootQ.mk ⟨rfl,?_⟩;conv=>whnf
 obtain ⟨o15,HL16,HQ17⟩:=bind_c H
 refine loop_c [2,39] [6,40,41,42,43,44,26,29,32,35] [6,40,41,42,43,44,26,29,32,35] (fun n vals st=>(∃ y19,p_view_Check_l2  (Ar4_Bool.mk v10 v11 v12 v13) n y19=some o15∧vals=[.i (0:Int),.i y19]∧st=[.live [.sl (List.map MailEntry.v a0.Rows) u1,.sl (List.map MailEntry.v a0.Last) u2,.b a0.Anew,.sl (List.map V.s a0.Seen) u3,.sl (List.map Ref35Contact.v a0.List) u4,.i a0.Odd,.i a0.Told] 0])) fuel 1 [] (⟨_,HL16,rfl,rfl⟩) (Nat.zero_le _) rfl (by kernel_rfl) (by kernel_rfl) rfl ⟨⟨rfl,rfl,rfl⟩,trivial⟩ ?_
 rintro (_ | n18) _ _ (⟨y19,H,rfl,rfl⟩)
 ·rw [p_view_Check_l2] at H;cases H
 rw [p_view_Check_l2] at H
 conv=>whnf
 refine tst_c H (fun b20 H=>?_) (fun b20 H=>?_)
 ·conv=>whnf
  refine ixg_c (f:=V.b) (T:=[v10,v11,v12,v13]) H rfl rfl (fun x21 H=>?_);conv=>whnf
  refine Tst.not ?_
  refine tst_d H (fun b22 H=>?_) (fun b22 H=>?_)
  ·conv=>whnf
   obtain rfl:=Option.some.inj H
   have H:=HQ17
   try dsimp only at H
   exact fi_ H
  conv=>whnf
  refine Ari.w ?_;conv=>whnf
  exact again_c [6,40,41,42,43,44,26,29,32,35] n18 1 [] (⟨_,H,rfl,rfl⟩) (Nat.lt_succ_self _) (Nat.zero_le _) rfl (by kernel_rfl) (by kernel_rfl) rfl ⟨⟨rfl,rfl,rfl⟩,trivial⟩
 conv=>whnf
 obtain rfl:=Option.some.inj H
 have H:=HQ17
 try dsimp only at H
 refine LenQ.M ?_;conv=>whnf
 refine tst_d H (fun b23 H=>?_) (fun b23 H=>?_)
 ·conv=>whnf
  iterate 7 (refine Tst.F ?_;conv=>whnf)
  refine tst_c H (fun b29 H=>?_) (fun b29 H=>?_)
  ·conv=>whnf
   iterate 12 (refine Tst.T ?_;conv=>whnf)
   exact fi_ H
  conv=>whnf
  iterate 3 (refine Tst.F ?_;conv=>whnf)
  refine tst_c H (fun b30 H=>?_) (fun b30 H=>?_)
  ·conv=>whnf
   iterate 8 (refine Tst.T ?_;conv=>whnf)
   exact fi_ H
  conv=>whnf
  iterate 3 (refine Tst.F ?_;conv=>whnf)
  refine tst_c H (fun b31 H=>?_) (fun b31 H=>?_)
  ·conv=>whnf
   iterate 4 (refine Tst.T ?_;conv=>whnf)
   exact fi_ H
  conv=>whnf
  iterate 3 (refine Tst.F ?_;conv=>whnf)
  refine tst_c H (fun b32 H=>?_) (fun b32 H=>?_)
  ·conv=>whnf
   exact fi_ H
  conv=>whnf
  exact fi_ H
 conv=>whnf
 iterate 3 (refine Tst.T ?_;conv=>whnf)
 refine Tst.not ?_
 refine tst_d H (fun b24 H=>?_) (fun b24 H=>?_)
 ·conv=>whnf
  iterate 16 (refine Tst.T ?_;conv=>whnf)
  exact fi_ H
 conv=>whnf
 iterate 3 (refine Tst.F ?_;conv=>whnf)
 refine tst_c H (fun b25 H=>?_) (fun b25 H=>?_)
 ·conv=>whnf
  iterate 12 (refine Tst.T ?_;conv=>whnf)
  exact fi_ H
 conv=>whnf
 iterate 3 (refine Tst.F ?_;conv=>whnf)
 refine tst_c H (fun b26 H=>?_) (fun b26 H=>?_)
 ·conv=>whnf
  iterate 8 (refine Tst.T ?_;conv=>whnf)
  exact fi_ H
 conv=>whnf
 iterate 3 (refine Tst.F ?_;conv=>whnf)
 refine tst_c H (fun b27 H=>?_) (fun b27 H=>?_)
 ·conv=>whnf
  iterate 4 (refine Tst.T ?_;conv=>whnf)
  exact fi_ H
 conv=>whnf
 iterate 3 (refine Tst.F ?_;conv=>whnf)
 refine tst_c H (fun b28 H=>?_) (fun b28 H=>?_)
 ·conv=>whnf
  exact fi_ H
 conv=>whnf
 exact fi_ H
def gc261:BCode:=(.seq (.reg 0 [⟨(some 5),.mv (.const (.int .i64 0)),none,0⟩] none 0 []) (.seq (.reg 0 [⟨(some 6),.ld 1 false (.tmp 2),none,0⟩,⟨(some 7),.mv (.tmp 0),none,0⟩,⟨(some 8),.cv (.tmp 6) [(.tmp 7)],none,0⟩,⟨(some 9),.mv (.tmp 1),none,0⟩,⟨(some 10),.cl 158 [(.tmp 8),(.tmp 9)],none,0⟩,⟨(some 5),.mv (.tmp 10),none,0⟩] none 0 []) .ret))
theorem gc261_ok:compF Tryz.prog Tryz.f261=some (gc261.er,11,[.tmp 5]):=by unfold gc261;kernel_rfl
theorem p_view_find_string__1_v (a0:ByteArray) (a1:ByteArray) (c0:ByteArray→Option ByteArray) {c0_g:Nat} {c0_k:List V} (c0_h:Clo1 Tryz.prog c0_g c0_k V.s V.s c0):CallsO Tryz.prog 261 [.s a0,.s a1,.eptr [.clo (.func c0_g) c0_k]] V.i (p_view_find_string__1 a0 a1 c0):=by
 refine callsO_comp mix Tryz.func261 gc261_ok fun r H=>?_
 rw [p_view_find_string__1] at H
 conv=>whnf
 refine askC_c c0_h H (.cons (.c (.id rfl)) (.nil)) (fun v1 H=>?_);conv=>whnf
 refine ask_c (p_strings_Compare_v _ _) H rfl rfl (fun v2 H=>?_);conv=>whnf
 exact fi_ H
end Go.Proofs.YtpmoioopjbfhkaaGreat

/- slices.DeleteFunc at function 223. -/
namespace Go.Proofs.YtpmoioopjbfhkaaGreat
open Go.RowKit
set_option maxRecDepth 100000
set_option maxHeartbeats 4000000
def dc223:BCode:=(.seq (.reg 0 [⟨(some 4),.mv (.const (.slice none 0 0)),none,0⟩] none 0 []) (.seq (.reg 0 [⟨(some 8),.mv (.tmp 0),none,0⟩,⟨(some 9),.mv (.tmp 1),none,0⟩,⟨(some 10),.cl 183 [(.tmp 8),(.tmp 9)],none,0⟩,⟨(some 5),.mv (.tmp 10),none,0⟩] none 0 []) (.seq (.seq (.reg 0 [⟨(some 11),.mv (.tmp 5),none,0⟩,⟨(some 12),.bin .eql (.tmp 11) (.const (.int .i64 (-1))),none,0⟩] none 0 []) (.cond (.tmp 12) (.seq (.reg 0 [⟨(some 13),.mv (.tmp 0),none,0⟩,⟨(some 4),.mv (.tmp 13),none,0⟩] none 0 []) .ret) .skip)) (.seq (.seq (.reg 0 [⟨(some 14),.mv (.tmp 5),none,0⟩,⟨(some 15),.bin .add (.tmp 14) (.const (.int .i64 1)),none,0⟩,⟨(some 6),.mv (.tmp 15),none,0⟩] none 0 []) (.block 0 (.loop (.seq (.seq (.reg 0 [⟨(some 16),.mv (.tmp 6),none,0⟩,⟨(some 17),.mv (.tmp 0),none,0⟩,⟨(some 18),.lens (.tmp 17),none,0⟩,⟨(some 19),.bin .lss (.tmp 16) (.tmp 18),none,0⟩] none 0 []) (.cond (.tmp 19) .skip (.exit 0))) (.seq (.block 1 (.seq (.reg 1 [⟨(some 22),.mv (.tmp 0),none,0⟩,⟨(some 23),.mv (.tmp 6),none,0⟩,⟨(some 24),.ixs 5 (.tmp 22) (.tmp 23),none,0⟩,⟨(some 25),.ld 5 true (.tmp 24),none,0⟩,⟨(some 7),.al (.agg [(.lit (.string ⟨#[]⟩)),(.lit (.bool false)),(.lit (.int .i64 0)),(.lit (.int .i64 0)),(.lit (.int .i64 0))]),none,0⟩,⟨none,.st 5 (.tmp 7) (.tmp 25),none,1⟩] none 0 []) (.seq (.reg 0 [⟨(some 26),.mv (.tmp 1),none,0⟩,⟨(some 27),.ld 5 true (.tmp 7),none,0⟩,⟨(some 28),.cv (.tmp 26) [(.tmp 27)],none,0⟩,⟨(some 29),.un .not (.tmp 28),none,0⟩] none 0 []) (.cond (.tmp 29) (.seq (.reg 0 [⟨(some 30),.mv (.tmp 0),none,0⟩,⟨(some 31),.mv (.tmp 5),none,0⟩,⟨(some 32),.ld 5 true (.tmp 7),none,0⟩,⟨(some 33),.ixs 5 (.tmp 30) (.tmp 31),none,0⟩,⟨none,.st 5 (.tmp 33) (.tmp 32),none,0⟩] none 0 []) (.reg 0 [⟨(some 34),.mv (.tmp 5),none,0⟩,⟨(some 35),.bin .add (.tmp 34) (.const (.int .i64 1)),none,0⟩,⟨(some 5),.mv (.tmp 35),none,0⟩] none 0 [])) .skip)))) (.reg 0 [⟨(some 20),.mv (.tmp 6),none,0⟩,⟨(some 21),.bin .add (.tmp 20) (.const (.int .i64 1)),none,0⟩,⟨(some 6),.mv (.tmp 21),none,0⟩] none 0 [])))))) (.seq (.reg 0 [⟨(some 36),.mv (.tmp 0),none,0⟩,⟨(some 37),.mv (.tmp 5),none,0⟩,⟨(some 38),.sls 5 (.tmp 36) (some (.tmp 37)) none none,none,0⟩,⟨none,.clr 5 (.tmp 38),none,0⟩] none 0 []) (.seq (.reg 0 [⟨(some 39),.mv (.tmp 0),none,0⟩,⟨(some 40),.mv (.tmp 5),none,0⟩,⟨(some 41),.sls 5 (.tmp 39) none (some (.tmp 40)) none,none,0⟩,⟨(some 4),.mv (.tmp 41),none,0⟩] none 0 []) .ret))))))
theorem dc223_ok:compF Tryz.prog Tryz.f223=some (dc223.er,42,[.tmp 4]):=by unfold dc223;kernel_rfl
theorem dfi223 (fn:MailEntry→Option Bool) (p:MailEntry→Bool) (rows:List MailEntry) (hn:rows.length≤1000000) (hf:∀ x ∈ rows,fn x=some (p x)):∀ (n k F:Nat),k + n=rows.length→n < F →
  p_slices_IndexFunc_view_Row_l1 fn rows rows.length F k=some (if (rows.drop k).any p=true then .inl ((k + (rows.drop k).findIdx p:Nat):Int) else .inr (rows.length:Int))
 | 0,k,F + 1,hk,hF=>by
  have e:rows.drop k=[]:=List.drop_of_length_le (by omega)
  have:k=rows.length:=by omega
  rw [p_slices_IndexFunc_view_Row_l1,lt_ff (by omega),e,this];rfl
 | n + 1,k,F + 1,hk,hF=>by
  have hlt:k < rows.length:=by omega
  rw [p_slices_IndexFunc_view_Row_l1,lt_tt hlt,at_lt hlt,drop_at hlt]
  simp only [cond_true,Option.bind_some,hf _ (List.getElem_mem hlt)]
  cases hp:p rows[k] with
  | true=>rw [List.any_cons,hp,List.findIdx_cons,hp];rfl
  | false =>
   simp only [cond_false]
   rw [w64_succ (by omega),dfi223 fn p rows hn hf n (k + 1) F (by omega) (by omega)]
   simp only [List.any_cons,hp,Bool.false_or,List.findIdx_cons,cond_false]
   split
   ·congr 3;omega
   ·rfl
theorem dfx223 {fn:MailEntry→Option Bool} (p:MailEntry→Bool) {rows:List MailEntry} (hn:rows.length≤1000000) (hf:∀ x ∈ rows,fn x=some (p x)):p_slices_IndexFunc_view_Row rows fn=some (if rows.any p=true then (rows.findIdx p:Int) else -1):=by
 unfold p_slices_IndexFunc_view_Row
 have:=dfi223 fn p rows hn hf rows.length 0 fuel (by omega) (by have:=fuel_pos;omega)
 rw [show ((0:Int))=((0:Nat):Int) from rfl,this,List.drop_zero]
 cases rows.any p <;> simp
theorem dfS223 (l:List MailEntry) {g:Nat} {caps:List V} {fn:MailEntry→Option Bool} (hc:Clo1 Tryz.prog g caps MailEntry.v V.b fn) (p:MailEntry→Bool) (hn:l.length≤1000000) (hf:∀ x ∈ l,fn x=some (p x)) :
  CallsS Tryz.prog 223 [.osl 0 0 l.length 5 false,.clo (.func g) caps] [.live (cellsM MailEntry.v l) 0] (.osl 0 0 (l.filter fun x=>!p x).length 5 false) [.live (cellsM MailEntry.v (l.filter fun x=>!p x)) 0]:=by
 refine callsR_c (n0:=1) mix Tryz.func223 dc223_ok rfl ?_
 conv=>whnf
 refine askT_c (X:=some) (r:=if l.any p=true then (l.findIdx p:Int) else -1) [0] (p_slices_IndexFunc_view_Row_v l fn hc) (by rw [dfx223 p hn hf];rfl) (.cons (.c (fzown (f:=MailEntry.v) (l:=l) rfl rfl (fun _=>rfl) (fun _=>rfl))) (.cons (.c (.id (by exact hc.own))) .nil)) (fun _=>rfl) (fun x H=>?_)
 obtain rfl:=Option.some.inj H
 conv=>whnf
 by_cases hany:l.any p=true
 ·rw [if_pos hany]
  have hk0:l.findIdx p < l.length:=List.findIdx_lt_length_of_exists (by simpa using hany)
  refine Tst.isF (beq_eq_false_iff_ne.2 (by omega)) ?_;conv=>whnf
  refine Ari.w ?_;conv=>whnf
  have hw:IntKind.i64.wrap ((l.findIdx p:Int) + 1)=((l.findIdx p + 1:Nat):Int):=w64_succ (by omega)
  rw [hw]
  refine loop_c [5,6] [7,16,17,18,19,20,21,22,23,24,25,26,27,28,29,30,31,32,33,34,35] [7,16,17,18,19,20,21,22,23,24,25,26,27,28,29,30,31,32,33,34,35] (fun n vals st=>∃ (i j:Nat) (y:List MailEntry),vals=[.i i,.i j]∧st=[.live (cellsM MailEntry.v y) 0]∧y.length=l.length∧i < j∧j≤l.length∧y.drop j=l.drop j∧y.take i=(l.take j).filter (fun x=>!p x)∧i≤l.length∧n=l.length - j) (l.length - (l.findIdx p + 1)) 1 [] ⟨l.findIdx p,l.findIdx p + 1,l,rfl,rfl,rfl,by omega,by omega,rfl,df_start hk0,by omega,rfl⟩ (Nat.le_refl _) rfl
   (by simp only [maskF,setF,List.set_cons_zero,List.set_cons_succ,V.ren.renL,V.ren,renL_id _ hc.own] <;> rfl) (by simp only [maskF,setF,List.set_cons_zero,List.set_cons_succ,V.idlt.belowL,V.idlt,fun n=>idltL_up (n:=n) _ hc.own] <;> rfl) rfl (wkB_live0 rfl (cellsM_idlt (f:=MailEntry.v) (fun _=>rfl) _) rfl trivial) ?_
  rintro n _ _ ⟨i,j,y,rfl,rfl,hyl,hij,hjl,hyd,hyt,hil,rfl⟩
  conv=>whnf
  by_cases hj:j < l.length
  ·refine Tst.isT (lt_tt hj) ?_;conv=>whnf
   have hmem:l[j] ∈ l:=List.getElem_mem hj
   have hx:y[(j:Int).toNat]?=some l[j]:=by
    rw [Int.toNat_natCast]
    have h1:(y.drop j)[0]?=(l.drop j)[0]?:=by rw [hyd]
    rw [List.getElem?_drop,List.getElem?_drop,Nat.add_zero] at h1
    rw [h1,List.getElem?_eq_getElem hj]
   refine ⟨rfl,⟨Int.natCast_nonneg _,by rw [Int.toNat_natCast];exact hj,?_⟩⟩;conv=>whnf
   refine ldo_c (f:=MailEntry.v) (es:=5) hx (fun _=>rfl) 0 (by omega) (by decide) ?_;conv=>whnf
   refine ⟨Nat.le_of_ble_eq_true rfl,?_⟩;conv=>whnf
   refine askC_c (X:=some) (r:=p l[j]) (a:=l[j]) hc (by rw [hf _ hmem];rfl) (fza_ids rfl) (fun v H=>?_)
   obtain rfl:=Option.some.inj H
   conv=>whnf
   have hw1:IntKind.i64.wrap ((j:Int) + 1)=((j + 1:Nat):Int):=w64_succ (by omega)
   have hw2:IntKind.i64.wrap ((i:Int) + 1)=((i + 1:Nat):Int):=w64_succ (by omega)
   cases hp:p l[j] with
   | false =>
    refine Tst.isT rfl ?_;conv=>whnf
    refine ⟨rfl,⟨Int.natCast_nonneg _,by rw [Int.toNat_natCast];omega,?_⟩⟩;conv=>whnf
    refine ⟨Nat.zero_le _,sto_c (f:=MailEntry.v) (l:=y) (n:=i) (es:=5) (x:=y[i]'(by omega)) (List.getElem?_eq_getElem (by omega)) (x':=l[j]) (fun _=>rfl) 0 (by rw [Int.toNat_natCast];omega) (Nat.le_of_ble_eq_true rfl) (by rfl) ?_⟩;conv=>whnf
    refine Ari.w ?_;conv=>whnf
    refine Ari.w ?_;conv=>whnf
    rw [hw1,hw2]
    have hd:=df_keep hyl hij hj hyd hyt hp
    exact again_c [7,16,17,18,19,20,21,22,23,24,25,26,27,28,29,30,31,32,33,34,35] (l.length - (j + 1)) 1 [] ⟨i + 1,j + 1,y.set i l[j],rfl,rfl,by rw [List.length_set];exact hyl,by omega,by omega,hd.1,hd.2,by omega,rfl⟩ (by omega) (Nat.le_refl _) rfl
     (by simp only [maskF,setF,List.set_cons_zero,List.set_cons_succ,V.ren.renL,V.ren,renL_id _ hc.own] <;> rfl) (by simp only [maskF,setF,List.set_cons_zero,List.set_cons_succ,V.idlt.belowL,V.idlt,fun n=>idltL_up (n:=n) _ hc.own] <;> rfl) rfl (wkB_live0 rfl (cellsM_idlt (f:=MailEntry.v) (fun _=>rfl) _) rfl trivial)
   | true =>
    refine Tst.isF rfl ?_;conv=>whnf
    refine Ari.w ?_;conv=>whnf
    rw [hw1]
    have hd:=df_skip hj hyd hyt hp
    exact again_c [7,16,17,18,19,20,21,22,23,24,25,26,27,28,29,30,31,32,33,34,35] (l.length - (j + 1)) 1 [] ⟨i,j + 1,y,rfl,rfl,hyl,by omega,by omega,hd.1,hd.2,hil,rfl⟩ (by omega) (Nat.le_refl _) rfl
     (by simp only [maskF,setF,List.set_cons_zero,List.set_cons_succ,V.ren.renL,V.ren,renL_id _ hc.own] <;> rfl) (by simp only [maskF,setF,List.set_cons_zero,List.set_cons_succ,V.idlt.belowL,V.idlt,fun n=>idltL_up (n:=n) _ hc.own] <;> rfl) rfl (wkB_live0 rfl (cellsM_idlt (f:=MailEntry.v) (fun _=>rfl) _) rfl trivial)
  ·refine Tst.isF (lt_ff (by omega)) ?_;conv=>whnf
   have hjl' : j=l.length:=by omega
   subst hjl'
   rw [List.take_length] at hyt
   have hfl:(l.filter fun x=>!p x).length=i:=by rw [← hyt,List.length_take];omega
   refine ⟨rfl,sloT_c i rfl (by omega) ?_⟩;conv=>whnf
   refine ⟨rfl,clr_c (cs':=cellsM MailEntry.v (l.filter fun x=>!p x)) (Nat.zero_le _) (by rw [cellsM_len (f:=MailEntry.v) (es:=5) (fun _=>rfl),hyl];exact (Nat.zero_add _).symm ▸ Nat.mul_le_mul_right _ (by omega)) (by omega) (by rw [Nat.zero_add,← hyt];exact (cellsM_take (f:=MailEntry.v) (es:=5) (fun _=>rfl) y i (by omega)).1.symm) ?_⟩;conv=>whnf
   refine ⟨rfl,sloP_c i rfl (by omega) ?_⟩;conv=>whnf
   rw [hfl]
   exact ⟨f_R0 (.inr rfl) (.cons (.tmp rfl) .nil) rfl rfl rfl rfl ⟨idltL_up _ (cellsM_idlt (f:=MailEntry.v) (fun _=>rfl) _),trivial⟩⟩
 ·rw [if_neg hany]
  refine Tst.isT rfl ?_;conv=>whnf
  have hfe:(l.filter fun x=>!p x)=l:=List.filter_eq_self.2 fun x hx=>by
   have:=fun h=>hany (List.any_eq_true.2 ⟨x,hx,h⟩)
   simpa using this
  rw [hfe]
  exact ⟨f_R0 (.inr rfl) (.cons (.tmp rfl) .nil) rfl rfl rfl rfl ⟨idltL_up _ (cellsM_idlt (f:=MailEntry.v) (fun _=>rfl) _),trivial⟩⟩
theorem delF223_v:DelFSaid Tryz.prog 223 MailEntry.v 5:=fun l _ _ _ hc p hn hf=>dfS223 l hc p hn hf
theorem delF223_n:DelFNil Tryz.prog 223 MailEntry.v:=fun {g} {caps} {fn} hc=>by
 refine callsO_comp mix Tryz.func223 dc223_ok (fun r H0=>?_)
 conv=>whnf
 refine askF_c (X:=some) (r:=(-1:Int)) (p_slices_IndexFunc_view_Row_v [] fn hc) (by rfl) (.cons (.c .slw) (.cons (.c (.id (by exact hc.own))) .nil)) (fun x H=>?_)
 obtain rfl:=Option.some.inj H
 conv=>whnf
 refine Tst.isT rfl ?_;conv=>whnf
 exact fin0_c (enc:=fun _:Unit=>V.sl [] true) H0 (.inr rfl) (.cons (.tmp rfl) .nil) rfl rfl
end Go.Proofs.YtpmoioopjbfhkaaGreat

/- slices.Clone at function 224. -/
namespace Go.Proofs.YtpmoioopjbfhkaaGreat
open Go.RowKit Go.Lib
set_option maxHeartbeats 4000000
set_option maxRecDepth 100000
theorem cloS224 (A:Addr) (n c:Nat) (cs:List Value) (w:World) (hn:0 < n) (hbig:n≤1000000) (hcl:cs.length=n * 5) (hcs:∀ j v,cs[j]?=some v→w.cell? (A.add j)=some v) (h1:∀ v ∈ cs,v.oneCell'=true) :
  Calls Tryz.prog 224 #[.slice (some A) n c] w fun e w'=>∃ ZS:Array Value,e=.returned (.slice (some ⟨w.heap.size + 1,0,none⟩) n (grownCap (w.alloc (.cells #[] 268)) n 0 268))∧w'=(w.alloc (.cells #[] 268)).drew.alloc (.cells (cs.toArray++ZS) 268)∧grownCap (w.alloc (.cells #[] 268)) n 0 268 * 5≤(cs.toArray++ZS).size:=by
 have tS:Tryz.prog.underlying 83=some (.slice 268):=by kernel_rfl
 have uS:=run_underlying tS
 have qS:∀ (w:World) (a:Option Addr) (n c n' c' : Nat),(binOp .eql 83 (.slice a n c) (.slice none n' c')).run Tryz.prog w=.ok (.bool a.isNone) w:=fun w a n c n' c'=>Lib.run_eql_slice_nil w _ _ a n c n' c' tS
 have mixed:Tryz.prog.follows .mixedOrders=true:=mix
 obtain ⟨i0,z,hi0,hzs,hz0,hzc,hzb⟩:=infB_ok (P:=Tryz.prog) (e:=268) (es:=5) (by kernel_rfl)
 have hsrc:Src Tryz.prog i0.size 83 (.slice (some A) n c) n cs (w.alloc (.cells #[] 268)):=by
  rw [hzs]
  exact Src.ofSlice _ tS A n c cs (by omega) (fun j u hj=>Lib.cell?_alloc_some _ (hcs j u hj)) h1
 have hold:(Builtin.firstCells i0.size 0 (.slice (some ⟨w.heap.size,0,none⟩) 0 0)).run Tryz.prog (w.alloc (.cells #[] 268)).drew=.ok ([]:List Value).toArray (w.alloc (.cells #[] 268)).drew:=by
  rw [hzs]
  exact run_firstCells_some _ 5 0 ⟨w.heap.size,0,none⟩ 0 0 [] (by simp) (fun j v hj=>by simp at hj)
 have hrun:∀ ty,(Builtin.append_ #[83,83] ty #[.slice (some ⟨w.heap.size,0,none⟩) 0 0,.slice (some A) n c]).run Tryz.prog (w.alloc (.cells #[] 268))=_:=fun ty =>
  run_append_grow_src (w.alloc (.cells #[] 268)) 83 83 ty 268 i0 z tS hi0 hz0 (some ⟨w.heap.size,0,none⟩) 0 0 [] hold _ n cs hsrc (by omega) (by omega) (growslice_fits (by omega) (grown_bound (by omega) hzb))
 simp only [Nat.zero_add,List.nil_append,World.size_alloc] at hrun
 have hge:=grownCap_ge (w.alloc (.cells #[] 268)) n 0 268
 have hsz:grownCap (w.alloc (.cells #[] 268)) n 0 268 * 5≤(cs.toArray++Builtin.zeroCells z.cells (grownCap (w.alloc (.cells #[] 268)) n 0 268 - n)).size:=by
  simp only [Array.size_append,size_zeroCells,hzc,List.size_toArray,hcl]
  omega
 obtain ⟨ZS,hrun,hsz⟩ : ∃ ZS:Array Value,(∀ ty,(Builtin.append_ #[83,83] ty #[.slice (some ⟨w.heap.size,0,none⟩) 0 0,.slice (some A) n c]).run Tryz.prog (w.alloc (.cells #[] 268))=.ok (.slice (some ⟨w.heap.size + 1,0,none⟩) n (grownCap (w.alloc (.cells #[] 268)) n 0 268)) ((w.alloc (.cells #[] 268)).drew.alloc (.cells (cs.toArray++ZS) 268)))∧grownCap (w.alloc (.cells #[] 268)) n 0 268 * 5≤(cs.toArray++ZS).size:=⟨_,hrun,hsz⟩
 have main:Calls Tryz.prog 224 #[.slice (some A) n c] w fun e w'=>e=.returned (.slice (some ⟨w.heap.size + 1,0,none⟩) n (grownCap (w.alloc (.cells #[] 268)) n 0 268))∧w'=(w.alloc (.cells #[] 268)).drew.alloc (.cells (cs.toArray++ZS) 268):=by
  clear hsz hold hsrc hz0 hcs
  go_enter Tryz.func224,Tryz.ntmps224
  go_wp2_with (at_builtin;refine Lib.wpList_append_run _ rfl _ _ _ _ rfl _ _ rfl rfl _ _ (hrun _) ?_)
  go_ret
  exact ⟨rfl,rfl⟩
 refine main.mono ?_
 rintro e w' ⟨rfl,rfl⟩
 exact ⟨ZS,rfl,rfl,hsz⟩
theorem cloZ224 (A:Addr) (c:Nat) (w:World):Calls Tryz.prog 224 #[.slice (some A) 0 c] w fun e w'=>e=.returned (.slice (some ⟨w.heap.size,0,none⟩) 0 0)∧∃ q,w'=(w.alloc (.cells #[] 268)).drewN q:=by
 have tS:Tryz.prog.underlying 83=some (.slice 268):=by kernel_rfl
 have uS:=run_underlying tS
 have qS:∀ (w:World) (a:Option Addr) (n c n' c' : Nat),(binOp .eql 83 (.slice a n c) (.slice none n' c')).run Tryz.prog w=.ok (.bool a.isNone) w:=fun w a n c n' c'=>Lib.run_eql_slice_nil w _ _ a n c n' c' tS
 have mixed:Tryz.prog.follows .mixedOrders=true:=mix
 obtain ⟨i0,z,hi0,hzs,hz0,hzc,hzb⟩:=infB_ok (P:=Tryz.prog) (e:=268) (es:=5) (by kernel_rfl)
 have hsz:(Tryz.prog.info? 268).map (·.size)=some 5:=by rw [hi0];simp [hzs]
 have hrun:∀ ty,(Builtin.append_ #[83,83] ty #[.slice (some ⟨w.heap.size,0,none⟩) 0 0,.slice (some A) 0 c]).run Tryz.prog (w.alloc (.cells #[] 268))=.ok (.slice (some ⟨w.heap.size,0,none⟩) 0 0) (w.alloc (.cells #[] 268)):=fun ty=>by
  have hl:∀ (x:Addr) (W:World),(loadCells x 0).run Tryz.prog W=.ok #[] W:=fun x W=>by simpa using run_loadCells_list (P:=Tryz.prog) W x [] (by simp)
  simp [Builtin.append_,uS,Builtin.lenOf,Builtin.firstCells,sizeOf,typeInfo,hi0,hl,storeCells]
 have main:Calls Tryz.prog 224 #[.slice (some A) 0 c] w fun e w'=>e=.returned (.slice (some ⟨w.heap.size,0,none⟩) 0 0)∧w'=w.alloc (.cells #[] 268):=by
  go_enter Tryz.func224,Tryz.ntmps224
  go_wp2_with (at_builtin;refine Lib.wpList_append_run _ rfl _ _ _ _ rfl _ _ rfl rfl _ _ (hrun _) ?_)
  go_ret
  exact ⟨rfl,rfl⟩
 refine main.mono ?_
 rintro e w' ⟨rfl,rfl⟩
 exact ⟨rfl,0,rfl⟩
theorem cloN224 (n c:Nat) (w:World):Calls Tryz.prog 224 #[.slice none n c] w fun e w'=>e=.returned (.slice none 0 0)∧w'=w:=by
 have tS:Tryz.prog.underlying 83=some (.slice 268):=by kernel_rfl
 have uS:=run_underlying tS
 have qS:∀ (w:World) (a:Option Addr) (n c n' c' : Nat),(binOp .eql 83 (.slice a n c) (.slice none n' c')).run Tryz.prog w=.ok (.bool a.isNone) w:=fun w a n c n' c'=>Lib.run_eql_slice_nil w _ _ a n c n' c' tS
 have mixed:Tryz.prog.follows .mixedOrders=true:=mix
 go_enter Tryz.func224,Tryz.ntmps224
 go_wp2
 go_ret
 exact ⟨rfl,rfl⟩
theorem cloR224_v:CloRoads Tryz.prog 224 5 268:=⟨cloS224,cloZ224,cloN224⟩
end Go.Proofs.YtpmoioopjbfhkaaGreat

/- That the program's functions yield what the plain ones tell (written by a program of mine). -/
namespace Go.Proofs.YtpmoioopjbfhkaaGreat
open Go.RowKit
set_option maxRecDepth 100000
set_option maxHeartbeats 4000000
def gc260:BCode:=(.seq (.reg 0 [⟨(some 6),.mv (.const (.int .i64 0)),none,0⟩,⟨(some 7),.mv (.const (.bool false)),none,0⟩] none 0 []) (.seq (.reg 0 [⟨(some 12),.mv (.tmp 0),none,0⟩,⟨(some 13),.lens (.tmp 12),none,0⟩,⟨(some 8),.mv (.tmp 13),none,0⟩] none 0 []) (.seq (.reg 0 [⟨(some 14),.mv (.tmp 8),none,0⟩,⟨(some 9),.mv (.const (.int .i64 0)),none,0⟩,⟨(some 10),.mv (.tmp 14),none,0⟩] none 0 []) (.seq (.block 0 (.loop (.seq (.seq (.reg 0 [⟨(some 15),.mv (.tmp 9),none,0⟩,⟨(some 16),.mv (.tmp 10),none,0⟩,⟨(some 17),.bin .lss (.tmp 15) (.tmp 16),none,0⟩] none 0 []) (.cond (.tmp 17) .skip (.exit 0))) (.block 1 (.seq (.reg 0 [⟨(some 18),.mv (.tmp 9),none,0⟩,⟨(some 19),.mv (.tmp 10),none,0⟩,⟨(some 20),.bin .add (.tmp 18) (.tmp 19),none,0⟩,⟨(some 21),.cvi .u64 (.tmp 20),none,0⟩,⟨(some 22),.bin .shr (.tmp 21) (.const (.int .u64 1)),none,0⟩,⟨(some 23),.cvi .i64 (.tmp 22),none,0⟩,⟨(some 11),.mv (.tmp 23),none,0⟩] none 0 []) (.seq (.reg 0 [⟨(some 24),.mv (.tmp 2),none,0⟩,⟨(some 25),.mv (.tmp 0),none,0⟩,⟨(some 26),.mv (.tmp 11),none,0⟩,⟨(some 27),.ixs 1 (.tmp 25) (.tmp 26),none,0⟩,⟨(some 28),.ld 1 false (.tmp 27),none,0⟩,⟨(some 29),.mv (.tmp 1),none,0⟩,⟨(some 30),.cv (.tmp 24) [(.tmp 28),(.tmp 29)],none,0⟩,⟨(some 31),.bin .lss (.tmp 30) (.const (.int .i64 0)),none,0⟩] none 0 []) (.cond (.tmp 31) (.reg 0 [⟨(some 32),.mv (.tmp 11),none,0⟩,⟨(some 33),.bin .add (.tmp 32) (.const (.int .i64 1)),none,0⟩,⟨(some 9),.mv (.tmp 33),none,0⟩] none 0 []) (.reg 0 [⟨(some 34),.mv (.tmp 11),none,0⟩,⟨(some 10),.mv (.tmp 34),none,0⟩] none 0 [])))))))) (.seq (.reg 0 [⟨(some 35),.mv (.tmp 9),none,0⟩,⟨(some 36),.mv (.tmp 9),none,0⟩,⟨(some 37),.mv (.tmp 8),none,0⟩,⟨(some 38),.bin .lss (.tmp 36) (.tmp 37),none,0⟩,⟨(some 39),.mv (.tmp 38),none,0⟩,⟨(some 40),.mv (.tmp 2),(some (39,true)),0⟩,⟨(some 41),.mv (.tmp 0),(some (39,true)),0⟩,⟨(some 42),.mv (.tmp 9),(some (39,true)),0⟩,⟨(some 43),.ixs 1 (.tmp 41) (.tmp 42),(some (39,true)),0⟩,⟨(some 44),.ld 1 false (.tmp 43),(some (39,true)),0⟩,⟨(some 45),.mv (.tmp 1),(some (39,true)),0⟩,⟨(some 46),.cv (.tmp 40) [(.tmp 44),(.tmp 45)],(some (39,true)),0⟩,⟨(some 47),.bin .eql (.tmp 46) (.const (.int .i64 0)),(some (39,true)),0⟩,⟨(some 48),.pick (.tmp 39) (.tmp 47) (.const (.bool false)),none,0⟩,⟨(some 6),.mv (.tmp 35),none,0⟩,⟨(some 7),.mv (.tmp 48),none,0⟩] none 0 []) .ret)))))
theorem gc260_ok:compF Tryz.prog Tryz.f260=some (gc260.er,49,[.tmp 6,.tmp 7]):=by unfold gc260;kernel_rfl
theorem p_slices_BinarySearchFunc_string_v {u1:Bool} (a0:List ByteArray) (a1:ByteArray) (a2:ByteArray→ByteArray→Option Int) {a2_g:Nat} {a2_k:List V} (a2_h:Clo2 Tryz.prog a2_g a2_k V.s V.s V.i a2):CallsO Tryz.prog 260 [.sl (List.map V.s a0) u1,.s a1,.clo (.func a2_g) a2_k] (fun r:Int × Bool=>.tup [V.i r.1,V.b r.2]) (p_slices_BinarySearchFunc_string a0 a1 a2):=by
 refine callsO_comp mix Tryz.func260 gc260_ok fun r H=>?_
 rw [p_slices_BinarySearchFunc_string] at H
 conv=>whnf
 refine LenQ.M ?_;conv=>whnf
 obtain ⟨o2,HL3,HQ4⟩:=bind_c H
 refine loop_c [9,10] [11,15,16,17,18,19,20,21,22,23,24,25,26,27,28,29,30,31,32,33,34] [11,15,16,17,18,19,20,21,22,23,24,25,26,27,28,29,30,31,32,33,34] (fun n vals st=>(∃ y6 y7,p_slices_BinarySearchFunc_string_l1  a2 a0 a1 n y6 y7=some o2∧vals=[.i y6,.i y7]∧st=[])) fuel 0 [] (⟨_,_,HL3,rfl,rfl⟩) (Nat.zero_le _) rfl (by simp only [maskF,setF,List.set_cons_zero,List.set_cons_succ,V.ren.renL,V.ren,renL_id _ a2_h.own] <;> rfl) (by simp only [maskF,setF,List.set_cons_zero,List.set_cons_succ,V.idlt.belowL,V.idlt,fun n=>idltL_up (n:=n) _ a2_h.own] <;> rfl) rfl trivial ?_
 rintro (_ | n5) _ _ (⟨y6,y7,H,rfl,rfl⟩)
 ·rw [p_slices_BinarySearchFunc_string_l1] at H;cases H
 rw [p_slices_BinarySearchFunc_string_l1] at H
 conv=>whnf
 refine tst_d H (fun b8 H=>?_) (fun b8 H=>?_)
 ·conv=>whnf
  obtain rfl:=Option.some.inj H
  have H:=HQ4
  try dsimp only at H
  refine tst_d H (fun b12 H=>?_) (fun b12 H=>?_)
  ·conv=>whnf
   iterate 8 (refine Tst.F ?_;conv=>whnf)
   exact fin0_c (enc:=(fun r:Int × Bool=>.tup [V.i r.1,V.b r.2])) H (.inr rfl) (.cons (.tmp rfl) (.cons (.tmp rfl) (.nil))) rfl rfl
  conv=>whnf
  iterate 3 (refine Tst.T ?_;conv=>whnf)
  refine ixs_c (f:=V.s) H (fun _=>rfl) (fun x13 H=>?_);conv=>whnf
  iterate 3 (refine Tst.T ?_;conv=>whnf)
  refine askC2_c a2_h H (.cons (.c (.id rfl)) (.cons (.c (.id rfl)) (.nil))) (fun v14 H=>?_);conv=>whnf
  iterate 2 (refine Tst.T ?_;conv=>whnf)
  exact fin0_c (enc:=(fun r:Int × Bool=>.tup [V.i r.1,V.b r.2])) H (.inr rfl) (.cons (.tmp rfl) (.cons (.tmp rfl) (.nil))) rfl rfl
 conv=>whnf
 iterate 2 (refine Ari.w ?_;conv=>whnf)
 refine Shr.ok (by decide) ?_;conv=>whnf
 refine Ari.w ?_;conv=>whnf
 refine ixs_c (f:=V.s) H (fun _=>rfl) (fun x9 H=>?_);conv=>whnf
 refine askC2_c a2_h H (.cons (.c (.id rfl)) (.cons (.c (.id rfl)) (.nil))) (fun v10 H=>?_);conv=>whnf
 refine tst_d H (fun b11 H=>?_) (fun b11 H=>?_)
 ·conv=>whnf
  exact again_c [11,15,16,17,18,19,20,21,22,23,24,25,26,27,28,29,30,31,32,33,34] n5 0 [] (⟨_,_,H,rfl,rfl⟩) (Nat.lt_succ_self _) (Nat.zero_le _) rfl (by simp only [maskF,setF,List.set_cons_zero,List.set_cons_succ,V.ren.renL,V.ren,renL_id _ a2_h.own] <;> rfl) (by simp only [maskF,setF,List.set_cons_zero,List.set_cons_succ,V.idlt.belowL,V.idlt,fun n=>idltL_up (n:=n) _ a2_h.own] <;> rfl) rfl trivial
 conv=>whnf
 refine Ari.w ?_;conv=>whnf
 exact again_c [11,15,16,17,18,19,20,21,22,23,24,25,26,27,28,29,30,31,32,33,34] n5 0 [] (⟨_,_,H,rfl,rfl⟩) (Nat.lt_succ_self _) (Nat.zero_le _) rfl (by simp only [maskF,setF,List.set_cons_zero,List.set_cons_succ,V.ren.renL,V.ren,renL_id _ a2_h.own] <;> rfl) (by simp only [maskF,setF,List.set_cons_zero,List.set_cons_succ,V.idlt.belowL,V.idlt,fun n=>idltL_up (n:=n) _ a2_h.own] <;> rfl) rfl trivial
def gc222:BCode:=(.seq (.reg 1 [⟨(some 5),.bx (.tmp 2),none,0⟩,⟨(some 6),.mv (.const (.int .i64 0)),none,1⟩,⟨(some 7),.mv (.const (.bool false)),none,1⟩] none 0 []) (.seq (.reg 0 [⟨(some 8),.mv (.tmp 0),none,0⟩,⟨(some 9),.mv (.tmp 1),none,0⟩,⟨(some 10),.mf (.func 261) [(.tmp 5)],none,0⟩,⟨(some 11),.cl 260 [(.tmp 8),(.tmp 9),(.tmp 10)],none,0⟩,⟨(some 12),.ex (.tmp 11) 0,none,0⟩,⟨(some 13),.ex (.tmp 11) 1,none,0⟩,⟨(some 6),.mv (.tmp 12),none,0⟩,⟨(some 7),.mv (.tmp 13),none,0⟩] none 0 [5]) .ret))
theorem gc222_ok:compF Tryz.prog Tryz.f222=some (gc222.er,14,[.tmp 6,.tmp 7]):=by unfold gc222;kernel_rfl
theorem p_view_find_string__v {u1:Bool} (a0:List ByteArray) (a1:ByteArray) (a2:ByteArray→Option ByteArray) {a2_g:Nat} {a2_k:List V} (a2_h:Clo1 Tryz.prog a2_g a2_k V.s V.s a2):CallsO Tryz.prog 222 [.sl (List.map V.s a0) u1,.s a1,.clo (.func a2_g) a2_k] (fun r:Int × Bool=>.tup [V.i r.1,V.b r.2]) (p_view_find_string_ a0 a1 a2):=by
 refine callsO_comp mix Tryz.func222 gc222_ok fun r H=>?_
 rw [p_view_find_string_] at H
 conv=>whnf
 refine ⟨Nat.zero_le _,?_⟩;conv=>whnf
 refine askF_c (p_slices_BinarySearchFunc_string_v _ _ _ ⟨⟨_,Tryz.func261,by kernel_rfl,by kernel_rfl⟩,(by simp only [V.idlt.belowL,V.idlt,a2_h.own] <;> rfl),fun x0 x1=>p_view_find_string__1_v _ _ _ a2_h⟩) H (.cons (.c (.slw)) (.cons (.c (.id rfl)) (.cons (.c (.clo (.cons (.ptr rfl (Nat.le_of_ble_eq_true rfl) (.cons (.id a2_h.own) (.nil))) (.nil)))) (.nil)))) (fun v1 H=>?_);conv=>whnf
 exact fin0_c (enc:=(fun r:Int × Bool=>.tup [V.i r.1,V.b r.2])) H (.inr rfl) (.cons (.tmp rfl) (.cons (.tmp rfl) (.nil))) rfl rfl
def gc221:BCode:=(.seq (.reg 1 [⟨(some 2),.bx (.tmp 0),none,0⟩,⟨(some 3),.mv (.const (.bool false)),none,1⟩] none 0 []) (.seq (.reg 0 [⟨(some 7),.fa 3 (.tmp 1),none,0⟩,⟨(some 8),.ld 1 false (.tmp 7),none,0⟩,⟨(some 9),.fa 0 (.tmp 2),none,0⟩,⟨(some 10),.ld 1 false (.tmp 9),none,0⟩,⟨(some 11),.cl 222 [(.tmp 8),(.tmp 10),(.func 191)],none,0⟩,⟨(some 6),.mv (.tmp 11),none,0⟩,⟨(some 12),.ex (.tmp 6) 0,none,0⟩,⟨(some 13),.ex (.tmp 6) 1,none,0⟩,⟨(some 4),.mv (.tmp 12),none,0⟩,⟨(some 5),.mv (.tmp 13),none,0⟩] none 0 []) (.seq (.reg 0 [⟨(some 14),.mv (.tmp 5),none,0⟩,⟨(some 15),.un .not (.tmp 14),none,0⟩,⟨(some 3),.mv (.tmp 15),none,0⟩] none 0 []) .ret)))
theorem gc221_ok:compF Tryz.prog Tryz.f221=some (gc221.er,16,[.tmp 3]):=by unfold gc221;kernel_rfl
theorem p_view_State_done_1_v {u1 u2 u3 u4:Bool} (a0:MailEntry) (c0:Ref35State):CallsO Tryz.prog 221 [.agg [.s a0.Key,.b a0.P.On,.i a0.P.Show,.i a0.P.Prio,.i a0.P.Seq],.eptr [.sl (List.map MailEntry.v c0.Rows) u1,.sl (List.map MailEntry.v c0.Last) u2,.b c0.Anew,.sl (List.map V.s c0.Seen) u3,.sl (List.map Ref35Contact.v c0.List) u4,.i c0.Odd,.i c0.Told]] V.b (p_view_State_done_1 a0 c0):=by
 refine callsO_comp mix Tryz.func221 gc221_ok fun r H=>?_
 rw [p_view_State_done_1] at H
 conv=>whnf
 refine ⟨Nat.le_of_ble_eq_true rfl,?_⟩;conv=>whnf
 refine askF_c (p_view_find_string__v _ _ _ ⟨⟨_,Tryz.func191,by kernel_rfl,by kernel_rfl⟩,rfl,fun x0=>p_view_itself_v _⟩) H (.cons (.c (.slw)) (.cons (.c (.id rfl)) (.cons (.c (.clo (.nil))) (.nil)))) (fun v1 H=>?_);conv=>whnf
 exact fb_ H
def gc178:BCode:=(.seq (.reg 2 [⟨(some 1),.bx (.tmp 0),none,0⟩,⟨(some 2),.al (.agg [(.sl [] true),(.sl [] true),(.lit (.bool false)),(.sl [] true),(.sl [] true),(.lit (.int .i64 0)),(.lit (.int .i64 0))]),none,1⟩] none 0 []) (.seq (.seq (.reg 0 [⟨(some 4),.fa 2 (.tmp 1),none,0⟩,⟨(some 5),.ld 1 false (.tmp 4),none,0⟩,⟨(some 6),.un .not (.tmp 5),none,0⟩] none 0 []) (.cond (.tmp 6) (.seq (.reg 0 [⟨(some 7),.ld 7 true (.tmp 1),none,0⟩,⟨none,.st 7 (.tmp 2) (.tmp 7),none,0⟩] none 0 []) .ret) .skip)) (.seq (.reg 0 [⟨(some 8),.mf (.func 221) [(.tmp 1)],none,0⟩,⟨(some 3),.mv (.tmp 8),none,0⟩] none 0 []) (.seq (.reg 0 [⟨(some 9),.fa 0 (.tmp 1),none,0⟩,⟨(some 10),.ld 1 false (.tmp 9),none,0⟩,⟨(some 11),.cl 224 [(.tmp 10)],none,0⟩,⟨(some 12),.mv (.tmp 3),none,0⟩,⟨(some 13),.cl 223 [(.tmp 11),(.tmp 12)],none,0⟩,⟨(some 14),.fa 0 (.tmp 1),none,0⟩,⟨none,.st 1 (.tmp 14) (.tmp 13),none,0⟩] none 1 []) (.seq (.reg 0 [⟨(some 15),.fa 2 (.tmp 1),none,0⟩,⟨none,.st 1 (.tmp 15) (.const (.bool false)),none,0⟩,⟨(some 16),.fa 3 (.tmp 1),none,0⟩,⟨none,.st 1 (.tmp 16) (.const (.slice none 0 0)),none,0⟩] none 0 []) (.seq (.reg 0 [⟨(some 17),.ld 7 true (.tmp 1),none,0⟩,⟨none,.st 7 (.tmp 2) (.tmp 17),none,0⟩] none 0 []) .ret))))))
theorem gc178_ok:compF Tryz.prog Tryz.f178=some (gc178.er,18,[.cell 2 7 true]):=by unfold gc178;kernel_rfl
theorem p_view_State_done_v {u1 u2 u3 u4:Bool} (a0:Ref35State):CallsO Tryz.prog 178 [.agg [.sl (List.map MailEntry.v a0.Rows) u1,.sl (List.map MailEntry.v a0.Last) u2,.b a0.Anew,.sl (List.map V.s a0.Seen) u3,.sl (List.map Ref35Contact.v a0.List) u4,.i a0.Odd,.i a0.Told]] Ref35State.v (p_view_State_done a0):=by
 refine callsO_comp mix Tryz.func178 gc178_ok fun r H=>?_
 rw [p_view_State_done] at H
 conv=>whnf
 refine Tst.not ?_
 refine tst_d H (fun b1 H=>?_) (fun b1 H=>?_)
 ·conv=>whnf
  refine ⟨Nat.le_of_ble_eq_true rfl,?_⟩;conv=>whnf
  refine finR_c (enc:=Ref35State.v) H ?_;conv=>whnf
  exact ⟨_,.v (fzagg (.cons (.slw) (.cons (.slw) (.cons (.id rfl) (.cons (.slw) (.cons (.slw) (.cons (.id rfl) (.cons (.id rfl) (.nil)))))))) rfl)⟩
 conv=>whnf
 refine clone_c (f:=MailEntry.v) (id:=2) cloR224_v H (fun _=>rfl) (fun _=>rfl) rfl (fun H=>?_) (fun l2 H=>?_)
 ·conv=>whnf
  refine dfNT_c (f:=MailEntry.v) [0] delF223_n H (⟨⟨_,Tryz.func221,by kernel_rfl,by kernel_rfl⟩,rfl,fun x0=>p_view_State_done_1_v _ _⟩) (.clo (.cons (.ptr rfl (Nat.le_of_ble_eq_true rfl) (.cons (.id rfl) (.cons (.id rfl) (.cons (.id rfl) (.cons (.id rfl) (.cons (.id rfl) (.cons (.id rfl) (.cons (.id rfl) (.nil))))))))) (.nil))) (fun H=>?_);conv=>whnf
  refine ⟨Nat.le_of_ble_eq_true rfl,?_⟩;conv=>whnf
  refine ⟨Nat.le_of_ble_eq_true rfl,?_⟩;conv=>whnf
  refine ⟨Nat.le_of_ble_eq_true rfl,?_⟩;conv=>whnf
  refine ⟨Nat.le_of_ble_eq_true rfl,?_⟩;conv=>whnf
  refine finR_c (enc:=Ref35State.v) H ?_;conv=>whnf
  exact ⟨_,.v (fzagg (.cons (.slw) (.cons (.slw) (.cons (.id rfl) (.cons (.slw) (.cons (.slw) (.cons (.id rfl) (.cons (.id rfl) (.nil)))))))) rfl)⟩
 conv=>whnf
 refine dfT_c (f:=MailEntry.v) delF223_v H (⟨⟨_,Tryz.func221,by kernel_rfl,by kernel_rfl⟩,rfl,fun x0=>p_view_State_done_1_v _ _⟩) (.ptr rfl (by decide) (.cons (.id rfl) (.cons (.id rfl) (.cons (.id rfl) (.cons (.id rfl) (.cons (.id rfl) (.cons (.id rfl) (.cons (.id rfl) (.nil)))))))) (.nil)) (fun _=>rfl) (fun _=>rfl) rfl rfl (fun v3 H=>?_);conv=>whnf
 refine ⟨Nat.le_of_ble_eq_true rfl,?_⟩;conv=>whnf
 refine ⟨Nat.le_of_ble_eq_true rfl,?_⟩;conv=>whnf
 refine ⟨Nat.le_of_ble_eq_true rfl,?_⟩;conv=>whnf
 refine ⟨Nat.le_of_ble_eq_true rfl,?_⟩;conv=>whnf
 refine finRz_c (enc:=Ref35State.v) [2] H ?_;conv=>whnf
 refine ⟨Nat.zero_le _,?_⟩;conv=>whnf
 exact ⟨_,.v (fzagg (.cons (fzown (f:=MailEntry.v) (l:=v3) rfl rfl (fun _=>rfl) (fun _=>rfl)) (.cons (.slw) (.cons (.id rfl) (.cons (.slw) (.cons (.slw) (.cons (.id rfl) (.cons (.id rfl) (.nil)))))))) rfl)⟩
def gc293:BCode:=(.seq (.reg 0 [⟨(some 6),.mv (.const (.bool false)),none,0⟩] none 0 []) (.seq (.reg 0 [⟨(some 7),.mv (.tmp 1),none,0⟩,⟨(some 8),.mv (.tmp 0),none,0⟩,⟨(some 9),.bin .leq (.tmp 7) (.tmp 8),none,0⟩,⟨(some 10),.mv (.tmp 9),none,0⟩,⟨(some 11),.mv (.tmp 0),(some (10,true)),0⟩,⟨(some 12),.mv (.tmp 2),(some (10,true)),0⟩,⟨(some 13),.bin .leq (.tmp 11) (.tmp 12),(some (10,true)),0⟩,⟨(some 14),.pick (.tmp 10) (.tmp 13) (.const (.bool false)),none,0⟩,⟨(some 6),.mv (.tmp 14),none,0⟩] none 0 []) .ret))
theorem gc293_ok:compF Tryz.prog Tryz.f293=some (gc293.er,15,[.tmp 6]):=by unfold gc293;kernel_rfl
theorem p_pres_in_v (a0:Int) (a1:Int) (a2:Int):CallsO Tryz.prog 293 [.i a0,.i a1,.i a2] V.b (p_pres_in a0 a1 a2):=by
 refine callsO_comp mix Tryz.func293 gc293_ok fun r H=>?_
 rw [p_pres_in] at H
 conv=>whnf
 refine tst_c H (fun b1 H=>?_) (fun b1 H=>?_)
 ·conv=>whnf
  iterate 3 (refine Tst.T ?_;conv=>whnf)
  exact fb_ H
 conv=>whnf
 iterate 3 (refine Tst.F ?_;conv=>whnf)
 exact fb_ H
def gc263:BCode:=(.seq (.reg 1 [⟨(some 1),.bx (.tmp 0),none,0⟩,⟨(some 2),.mv (.const (.int .i64 0)),none,1⟩] none 0 []) (.seq (.seq (.reg 0 [⟨(some 4),.fa 1 (.tmp 1),none,0⟩,⟨(some 5),.ld 1 false (.tmp 4),none,0⟩,⟨(some 6),.cl 293 [(.tmp 5),(.const (.int .i64 0)),(.const (.int .i64 4))],none,0⟩,⟨(some 7),.un .not (.tmp 6),none,0⟩,⟨(some 8),.mv (.tmp 7),none,0⟩,⟨(some 9),.fa 2 (.tmp 1),(some (8,false)),0⟩,⟨(some 10),.ld 1 false (.tmp 9),(some (8,false)),0⟩,⟨(some 11),.cl 293 [(.tmp 10),(.const (.int .i64 (-128))),(.const (.int .i64 127))],(some (8,false)),0⟩,⟨(some 12),.un .not (.tmp 11),(some (8,false)),0⟩,⟨(some 13),.pick (.tmp 8) (.const (.bool true)) (.tmp 12),none,0⟩,⟨(some 14),.mv (.tmp 13),none,0⟩,⟨(some 15),.fa 3 (.tmp 1),(some (14,false)),0⟩,⟨(some 16),.ld 1 false (.tmp 15),(some (14,false)),0⟩,⟨(some 17),.cl 293 [(.tmp 16),(.const (.int .i64 0)),(.const (.int .i64 1099511627776))],(some (14,false)),0⟩,⟨(some 18),.un .not (.tmp 17),(some (14,false)),0⟩,⟨(some 19),.pick (.tmp 14) (.const (.bool true)) (.tmp 18),none,0⟩] none 0 []) (.cond (.tmp 19) (.seq (.reg 0 [⟨(some 2),.mv (.const (.int .i64 8)),none,0⟩] none 0 []) .ret) .skip)) (.seq (.seq (.reg 1 [⟨(some 20),.fa 3 (.tmp 1),none,0⟩,⟨(some 21),.ld 1 false (.tmp 20),none,0⟩,⟨(some 22),.bd [(.lit (.bool false)),(.lit (.int .i64 0)),(.lit (.int .i64 0)),(.lit (.int .i64 0))] [(3,1,(.tmp 21))],none,0⟩,⟨(some 3),.al (.agg [(.lit (.bool false)),(.lit (.int .i64 0)),(.lit (.int .i64 0)),(.lit (.int .i64 0))]),none,0⟩,⟨none,.st 4 (.tmp 3) (.tmp 22),none,1⟩] none 0 []) (.seq (.reg 0 [⟨(some 23),.fa 0 (.tmp 1),none,0⟩,⟨(some 24),.ld 1 false (.tmp 23),none,0⟩,⟨(some 25),.un .not (.tmp 24),none,0⟩,⟨(some 26),.mv (.tmp 25),none,0⟩,⟨(some 27),.ld 4 true (.tmp 1),(some (26,true)),0⟩,⟨(some 28),.ld 4 true (.tmp 3),(some (26,true)),0⟩,⟨(some 29),.eqa true [0,1,1,1] (.tmp 27) (.tmp 28),(some (26,true)),0⟩,⟨(some 30),.pick (.tmp 26) (.tmp 29) (.const (.bool false)),none,0⟩] none 0 []) (.cond (.tmp 30) (.seq (.reg 0 [⟨(some 2),.mv (.const (.int .i64 4)),none,0⟩] none 0 []) .ret) .skip))) (.seq (.reg 0 [⟨(some 2),.mv (.const (.int .i64 0)),none,0⟩] none 0 []) .ret))))
theorem gc263_ok:compF Tryz.prog Tryz.f263=some (gc263.er,31,[.tmp 2]):=by unfold gc263;kernel_rfl
theorem p_pres_Check_v (a0:PresPres):CallsO Tryz.prog 263 [.agg [.b a0.On,.i a0.Show,.i a0.Prio,.i a0.Seq]] V.i (p_pres_Check a0):=by
 refine callsO_comp mix Tryz.func263 gc263_ok fun r H=>?_
 rw [p_pres_Check] at H
 conv=>whnf
 refine ask_c (p_pres_in_v _ _ _) H rfl rfl (fun v1 H=>?_);conv=>whnf
 refine Tst.not ?_
 refine tst_d H (fun b2 H=>?_) (fun b2 H=>?_)
 ·conv=>whnf
  iterate 10 (refine Tst.T ?_;conv=>whnf)
  exact fi_ H
 conv=>whnf
 iterate 2 (refine Tst.F ?_;conv=>whnf)
 refine ask_c (p_pres_in_v _ _ _) H rfl rfl (fun v3 H=>?_);conv=>whnf
 iterate 2 (refine Tst.F ?_;conv=>whnf)
 refine Tst.not ?_
 refine tst_d H (fun b4 H=>?_) (fun b4 H=>?_)
 ·conv=>whnf
  iterate 5 (refine Tst.T ?_;conv=>whnf)
  exact fi_ H
 conv=>whnf
 iterate 2 (refine Tst.F ?_;conv=>whnf)
 refine ask_c (p_pres_in_v _ _ _) H rfl rfl (fun v5 H=>?_);conv=>whnf
 iterate 2 (refine Tst.F ?_;conv=>whnf)
 refine Tst.not ?_
 refine tst_d H (fun b6 H=>?_) (fun b6 H=>?_)
 ·conv=>whnf
  exact fi_ H
 conv=>whnf
 refine ⟨Nat.le_of_ble_eq_true rfl,?_⟩;conv=>whnf
 refine Tst.not ?_
 refine tst_c H (fun b7 H=>?_) (fun b7 H=>?_)
 ·conv=>whnf
  iterate 4 (refine Tst.F ?_;conv=>whnf)
  exact fi_ H
 conv=>whnf
 iterate 3 (refine Tst.T ?_;conv=>whnf)
 refine Tst.not ?_
 refine tst_c H (fun b8 H=>?_) (fun b8 H=>?_)
 ·conv=>whnf
  exact fi_ H
 conv=>whnf
 exact fi_ H
def gc225:BCode:=(.seq (.reg 2 [⟨(some 1),.bx (.tmp 0),none,0⟩,⟨(some 2),.mv (.const (.string ⟨#[]⟩)),none,1⟩,⟨(some 3),.mv (.const (.string ⟨#[]⟩)),none,1⟩,⟨(some 4),.al (.agg [(.lit (.bool false)),(.lit (.int .i64 0)),(.lit (.int .i64 0)),(.lit (.int .i64 0))]),none,1⟩,⟨(some 5),.mv (.const (.int .i64 0)),none,2⟩] none 0 []) (.seq (.seq (.reg 0 [⟨(some 9),.fa 0 (.tmp 1),none,0⟩,⟨(some 10),.ld 1 false (.tmp 9),none,0⟩,⟨(some 11),.bin .neq (.tmp 10) (.const (.int .u8 34)),none,0⟩,⟨(some 12),.mv (.tmp 11),none,0⟩,⟨(some 13),.fa 0 (.tmp 1),(some (12,true)),0⟩,⟨(some 14),.ld 1 false (.tmp 13),(some (12,true)),0⟩,⟨(some 15),.bin .neq (.tmp 14) (.const (.int .u8 35)),(some (12,true)),0⟩,⟨(some 16),.pick (.tmp 12) (.tmp 15) (.const (.bool false)),none,0⟩] none 0 []) (.cond (.tmp 16) (.seq (.reg 0 [⟨(some 17),.bd [(.lit (.bool false)),(.lit (.int .i64 0)),(.lit (.int .i64 0)),(.lit (.int .i64 0))] [],none,0⟩,⟨(some 2),.mv (.const (.string ⟨#[]⟩)),none,0⟩,⟨(some 3),.mv (.const (.string ⟨#[]⟩)),none,0⟩,⟨none,.st 4 (.tmp 4) (.tmp 17),none,0⟩,⟨(some 5),.mv (.const (.int .i64 12)),none,0⟩] none 0 []) .ret) .skip)) (.seq (.seq (.reg 0 [⟨(some 18),.ld 8 true (.tmp 1),none,0⟩,⟨(some 19),.cl 262 [(.tmp 18)],none,0⟩,⟨(some 6),.mv (.tmp 19),none,0⟩] none 0 []) (.seq (.reg 0 [⟨(some 20),.mv (.tmp 6),none,0⟩,⟨(some 21),.bin .neq (.tmp 20) (.const (.int .i64 0)),none,0⟩] none 0 []) (.cond (.tmp 21) (.seq (.reg 0 [⟨(some 22),.bd [(.lit (.bool false)),(.lit (.int .i64 0)),(.lit (.int .i64 0)),(.lit (.int .i64 0))] [],none,0⟩,⟨(some 23),.mv (.tmp 6),none,0⟩,⟨(some 2),.mv (.const (.string ⟨#[]⟩)),none,0⟩,⟨(some 3),.mv (.const (.string ⟨#[]⟩)),none,0⟩,⟨none,.st 4 (.tmp 4) (.tmp 22),none,0⟩,⟨(some 5),.mv (.tmp 23),none,0⟩] none 0 []) .ret) .skip))) (.seq (.reg 1 [⟨(some 24),.fa 0 (.tmp 1),none,0⟩,⟨(some 25),.ld 1 false (.tmp 24),none,0⟩,⟨(some 26),.bin .eql (.tmp 25) (.const (.int .u8 34)),none,0⟩,⟨(some 27),.fa 4 (.tmp 1),none,0⟩,⟨(some 28),.ld 1 false (.tmp 27),none,0⟩,⟨(some 29),.fa 5 (.tmp 1),none,0⟩,⟨(some 30),.ld 1 false (.tmp 29),none,0⟩,⟨(some 31),.fa 7 (.tmp 1),none,0⟩,⟨(some 32),.ld 1 false (.tmp 31),none,0⟩,⟨(some 33),.bd [(.lit (.bool false)),(.lit (.int .i64 0)),(.lit (.int .i64 0)),(.lit (.int .i64 0))] [(0,1,(.tmp 26)),(1,1,(.tmp 28)),(2,1,(.tmp 30)),(3,1,(.tmp 32))],none,0⟩,⟨(some 7),.al (.agg [(.lit (.bool false)),(.lit (.int .i64 0)),(.lit (.int .i64 0)),(.lit (.int .i64 0))]),none,0⟩,⟨none,.st 4 (.tmp 7) (.tmp 33),none,1⟩] none 0 []) (.seq (.seq (.reg 0 [⟨(some 34),.ld 4 true (.tmp 7),none,0⟩,⟨(some 35),.cl 263 [(.tmp 34)],none,0⟩,⟨(some 8),.mv (.tmp 35),none,0⟩] none 0 []) (.seq (.reg 0 [⟨(some 36),.mv (.tmp 8),none,0⟩,⟨(some 37),.bin .neq (.tmp 36) (.const (.int .i64 0)),none,0⟩] none 0 []) (.cond (.tmp 37) (.seq (.reg 0 [⟨(some 38),.bd [(.lit (.bool false)),(.lit (.int .i64 0)),(.lit (.int .i64 0)),(.lit (.int .i64 0))] [],none,0⟩,⟨(some 39),.mv (.tmp 8),none,0⟩,⟨(some 2),.mv (.const (.string ⟨#[]⟩)),none,0⟩,⟨(some 3),.mv (.const (.string ⟨#[]⟩)),none,0⟩,⟨none,.st 4 (.tmp 4) (.tmp 38),none,0⟩,⟨(some 5),.mv (.tmp 39),none,0⟩] none 0 []) .ret) .skip))) (.seq (.reg 0 [⟨(some 40),.fa 1 (.tmp 1),none,0⟩,⟨(some 41),.ld 1 false (.tmp 40),none,0⟩,⟨(some 42),.fa 2 (.tmp 1),none,0⟩,⟨(some 43),.ld 1 false (.tmp 42),none,0⟩,⟨(some 44),.ld 4 true (.tmp 7),none,0⟩,⟨(some 2),.mv (.tmp 41),none,0⟩,⟨(some 3),.mv (.tmp 43),none,0⟩,⟨none,.st 4 (.tmp 4) (.tmp 44),none,0⟩,⟨(some 5),.mv (.const (.int .i64 0)),none,0⟩] (some [[],[0],[],[2],[],[0,1],[1,0,5,2,3],[3,2,5,0,1,6,4],[4,6,1,0,5,2,3,7]]) 0 []) .ret))))))
theorem gc225_ok:compF Tryz.prog Tryz.f225=some (gc225.er,45,[.tmp 2,.tmp 3,.cell 4 4 true,.tmp 5]):=by unfold gc225;kernel_rfl
theorem p_pres_Of_v (a0:StanzaStanza):CallsO Tryz.prog 225 [.agg [.y8 a0.Kind,.s a0.User,.s a0.Res,.s a0.Name,.i a0.Show,.i a0.Prio,.i a0.Code,.i a0.N]] (fun r:ByteArray × ByteArray × PresPres × Int=>.tup [V.s r.1,V.s r.2.1,PresPres.v r.2.2.1,V.i r.2.2.2]) (p_pres_Of a0):=by
 refine callsO_comp mix Tryz.func225 gc225_ok fun r H=>?_
 rw [p_pres_Of] at H
 conv=>whnf
 refine tst_d H (fun b1 H=>?_) (fun b1 H=>?_)
 ·conv=>whnf
  iterate 4 (refine Tst.F ?_;conv=>whnf)
  refine ask_c (p_stanza_Check_v _) H rfl rfl (fun v7 H=>?_);conv=>whnf
  refine tst_c H (fun b8 H=>?_) (fun b8 H=>?_)
  ·conv=>whnf
   refine ⟨Nat.le_of_ble_eq_true rfl,?_⟩;conv=>whnf
   exact fin0_c (enc:=(fun r:ByteArray × ByteArray × PresPres × Int=>.tup [V.s r.1,V.s r.2.1,PresPres.v r.2.2.1,V.i r.2.2.2])) H (.inr rfl) (.cons (.tmp rfl) (.cons (.tmp rfl) (.cons (.cell rfl rfl (Nat.le_of_ble_eq_true rfl)) (.cons (.tmp rfl) (.nil))))) rfl rfl
  conv=>whnf
  refine ⟨Nat.le_of_ble_eq_true rfl,?_⟩;conv=>whnf
  refine ask_c (p_pres_Check_v _) H rfl rfl (fun v9 H=>?_);conv=>whnf
  refine tst_c H (fun b10 H=>?_) (fun b10 H=>?_)
  ·conv=>whnf
   refine ⟨Nat.le_of_ble_eq_true rfl,?_⟩;conv=>whnf
   exact fin0_c (enc:=(fun r:ByteArray × ByteArray × PresPres × Int=>.tup [V.s r.1,V.s r.2.1,PresPres.v r.2.2.1,V.i r.2.2.2])) H (.inr rfl) (.cons (.tmp rfl) (.cons (.tmp rfl) (.cons (.cell rfl rfl (Nat.le_of_ble_eq_true rfl)) (.cons (.tmp rfl) (.nil))))) rfl rfl
  conv=>whnf
  refine ⟨Nat.le_of_ble_eq_true rfl,?_⟩;conv=>whnf
  refine FootQ.mk ⟨rfl,?_⟩;conv=>whnf
  exact fin0_c (enc:=(fun r:ByteArray × ByteArray × PresPres × Int=>.tup [V.s r.1,V.s r.2.1,PresPres.v r.2.2.1,V.i r.2.2.2])) H (.inr rfl) (.cons (.tmp rfl) (.cons (.tmp rfl) (.cons (.cell rfl rfl (Nat.le_of_ble_eq_true rfl)) (.cons (.tmp rfl) (.nil))))) rfl rfl
 conv=>whnf
 iterate 3 (refine Tst.T ?_;conv=>whnf)
 refine tst_c H (fun b2 H=>?_) (fun b2 H=>?_)
 ·conv=>whnf
  refine ⟨Nat.le_of_ble_eq_true rfl,?_⟩;conv=>whnf
  exact fin0_c (enc:=(fun r:ByteArray × ByteArray × PresPres × Int=>.tup [V.s r.1,V.s r.2.1,PresPres.v r.2.2.1,V.i r.2.2.2])) H (.inr rfl) (.cons (.tmp rfl) (.cons (.tmp rfl) (.cons (.cell rfl rfl (Nat.le_of_ble_eq_true rfl)) (.cons (.tmp rfl) (.nil))))) rfl rfl
 conv=>whnf
 refine ask_c (p_stanza_Check_v _) H rfl rfl (fun v3 H=>?_);conv=>whnf
 refine tst_c H (fun b4 H=>?_) (fun b4 H=>?_)
 ·conv=>whnf
  refine ⟨Nat.le_of_ble_eq_true rfl,?_⟩;conv=>whnf
  exact fin0_c (enc:=(fun r:ByteArray × ByteArray × PresPres × Int=>.tup [V.s r.1,V.s r.2.1,PresPres.v r.2.2.1,V.i r.2.2.2])) H (.inr rfl) (.cons (.tmp rfl) (.cons (.tmp rfl) (.cons (.cell rfl rfl (Nat.le_of_ble_eq_true rfl)) (.cons (.tmp rfl) (.nil))))) rfl rfl
 conv=>whnf
 refine ⟨Nat.le_of_ble_eq_true rfl,?_⟩;conv=>whnf
 refine ask_c (p_pres_Check_v _) H rfl rfl (fun v5 H=>?_);conv=>whnf
 refine tst_c H (fun b6 H=>?_) (fun b6 H=>?_)
 ·conv=>whnf
  refine ⟨Nat.le_of_ble_eq_true rfl,?_⟩;conv=>whnf
  exact fin0_c (enc:=(fun r:ByteArray × ByteArray × PresPres × Int=>.tup [V.s r.1,V.s r.2.1,PresPres.v r.2.2.1,V.i r.2.2.2])) H (.inr rfl) (.cons (.tmp rfl) (.cons (.tmp rfl) (.cons (.cell rfl rfl (Nat.le_of_ble_eq_true rfl)) (.cons (.tmp rfl) (.nil))))) rfl rfl
 conv=>whnf
 refine ⟨Nat.le_of_ble_eq_true rfl,?_⟩;conv=>whnf
 refine FootQ.mk ⟨rfl,?_⟩;conv=>whnf
 exact fin0_c (enc:=(fun r:ByteArray × ByteArray × PresPres × Int=>.tup [V.s r.1,V.s r.2.1,PresPres.v r.2.2.1,V.i r.2.2.2])) H (.inr rfl) (.cons (.tmp rfl) (.cons (.tmp rfl) (.cons (.cell rfl rfl (Nat.le_of_ble_eq_true rfl)) (.cons (.tmp rfl) (.nil))))) rfl rfl
def gc236:BCode:=(.seq (.reg 0 [⟨(some 4),.mv (.const (.bool false)),none,0⟩] none 0 []) (.seq (.reg 0 [⟨(some 5),.mv (.tmp 1),none,0⟩,⟨(some 6),.cl 275 [(.tmp 5)],none,0⟩,⟨(some 7),.bin .eql (.tmp 6) (.const (.int .i64 0)),none,0⟩,⟨(some 8),.mv (.tmp 7),none,0⟩,⟨(some 9),.mv (.tmp 0),(some (8,true)),0⟩,⟨(some 10),.cl 84 [(.tmp 9)],(some (8,true)),0⟩,⟨(some 11),.pick (.tmp 8) (.tmp 10) (.const (.bool false)),none,0⟩,⟨(some 4),.mv (.tmp 11),none,0⟩] none 0 []) .ret))
theorem gc236_ok:compF Tryz.prog Tryz.f236=some (gc236.er,12,[.tmp 4]):=by unfold gc236;kernel_rfl
theorem p_pres_named_v (a0:ByteArray) (a1:ByteArray):CallsO Tryz.prog 236 [.s a0,.s a1] V.b (p_pres_named a0 a1):=by
 refine callsO_comp mix Tryz.func236 gc236_ok fun r H=>?_
 rw [p_pres_named] at H
 conv=>whnf
 refine ask_c (p_addr_Resource_v _) H rfl rfl (fun v1 H=>?_);conv=>whnf
 refine tst_d H (fun b2 H=>?_) (fun b2 H=>?_)
 ·conv=>whnf
  iterate 2 (refine Tst.F ?_;conv=>whnf)
  exact fb_ H
 conv=>whnf
 refine Tst.T ?_;conv=>whnf
 refine ask_c (p_addr_IsBare_v _) H rfl rfl (fun v3 H=>?_);conv=>whnf
 refine Tst.T ?_;conv=>whnf
 exact fb_ H
end Go.Proofs.YtpmoioopjbfhkaaGreat

