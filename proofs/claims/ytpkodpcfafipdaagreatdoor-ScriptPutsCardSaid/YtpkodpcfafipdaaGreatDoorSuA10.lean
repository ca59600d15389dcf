/- A part of the proof: 4 texts joined. -/
import Derived.Test.YtpkodpcfafipdaaGreatDoorSuA9
import Derived.Orders
set_option linter.all false
namespace Go.Proofs.YtpkodpcfafipdaaGreatDoor
open Go.RowKit
section
variable {P : Program} {o : Oper} {a : Act} {w : World} {K : Act → World → Prop} {Q : Exit → Act → World → Prop} {B : Kp} {m0 m : Mem} {bk : Bks} {st : List Slot} {fr : List V}
theorem Sim.rename (hsim:Sim B m0 m bk w st) {i id:Nat} {cs:List V} {frz:Nat} {x:Nat × Nat} (hi:st[i]?=some (.live cs frz)) (hf:st[id]?=some .fresh) (hx:bk i=some x):Sim B m0 m (newBk bk id x) w ((st.set i .dead).set id (.live cs frz)):=by
 have hn:=hsim.nb id (.inr hf)
 have hge:=newBk_ge (x:=x) hn
 have hne:i≠id:=by intro e;subst e;rw [hi] at hf;cases hf
 have hidl:=(List.getElem?_eq_some_iff.1 hf).1
 have get:∀ (k:Nat) (c:List V) (f:Nat),((st.set i Slot.dead).set id (Slot.live cs frz))[k]?=some (Slot.live c f)→(k=id∧c=cs∧f=frz)∨(k≠id∧k≠i∧st[k]?=some (Slot.live c f)):=by
  intro k c f h
  rw [List.getElem?_set] at h
  by_cases e:id=k
  ·subst e
   rw [if_pos rfl,if_pos (by simpa using hidl)] at h
   simp only [Option.some.injEq,Slot.live.injEq] at h
   exact .inl ⟨rfl,h.1.symm,h.2.symm⟩
  ·rw [if_neg e,List.getElem?_set] at h
   by_cases e2:i=k
   ·subst e2;rw [if_pos rfl] at h;split at h <;> cases h
   ·rw [if_neg e2] at h;exact .inr ⟨fun q=>e q.symm,fun q=>e2 q.symm,h⟩
 have nbk:∀ k,k≠id→newBk bk id x k=bk k:=fun k hk=>by unfold newBk;rw [if_neg hk]
 have nid:newBk bk id x id=some x:=by simp [newBk]
 refine ⟨hsim.base,hsim.mem,hsim.ext,hsim.old,fun k c f hk=>?_,fun p q cp fp cq fq y z h1 h2 hy hz e=>?_,fun k hk=>?_⟩
 ·rcases get k c f hk with ⟨rfl,rfl,rfl⟩ | ⟨h1,h2,h3⟩
  ·rcases hsim.blk _ _ _ hi with ⟨_,_,n3⟩ | ⟨b,sz,arr,t,lo,hi',hl⟩
   ·rw [n3] at hx;cases hx
   have e:=hl.at_
   rw [hx] at e
   injection e with e
   subst e
   exact .inr ⟨b,sz,arr,t,lo,hi',⟨nid,hl.own,hl.heap,hl.size,hl.free,hl.fit,hl.one,fun k hk=>by obtain ⟨u,g1,g2⟩:=hl.rep k hk;exact ⟨u,g1,g2.mono (fun _ _ h=>h) hge⟩,hl.mu,hl.fz⟩⟩
  ·rcases hsim.blk _ _ _ h3 with ⟨n1,n2,n3⟩ | ⟨b,sz,arr,t,lo,hi',hl⟩
   ·exact .inl ⟨n1,n2,by rw [nbk k h1];exact n3⟩
   exact .inr ⟨b,sz,arr,t,lo,hi',⟨hge _ _ hl.at_,hl.own,hl.heap,hl.size,hl.free,hl.fit,hl.one,fun k hk=>by obtain ⟨u,g1,g2⟩:=hl.rep k hk;exact ⟨u,g1,g2.mono (fun _ _ h=>h) hge⟩,hl.mu,hl.fz⟩⟩
 ·rcases get p cp fp h1 with ⟨rfl,rfl,rfl⟩ | ⟨p1,p2,p3⟩
  ·rcases get q cq fq h2 with ⟨rfl,rfl,rfl⟩ | ⟨q1,q2,q3⟩
   ·rfl
   ·rw [nid] at hy;injection hy with hy;subst hy
    rw [nbk q q1] at hz
    exact absurd (hsim.inj i q _ _ _ _ _ _ hi q3 hx hz e) (fun e=>q2 e.symm)
  ·rw [nbk p p1] at hy
   rcases get q cq fq h2 with ⟨rfl,rfl,rfl⟩ | ⟨q1,q2,q3⟩
   ·rw [nid] at hz;injection hz with hz;subst hz
    exact absurd (hsim.inj p i _ _ _ _ _ _ p3 hi hy hx e) p2
   ·rw [nbk q q1] at hz
    exact hsim.inj p q _ _ _ _ _ _ p3 q3 hy hz e
 ·have hkid:k≠id:=by
   intro e;subst e
   rw [List.getElem?_set,if_pos rfl,if_pos (by simpa using hidl)] at hk
   rcases hk with h | h <;> cases h
  rw [nbk k hkid]
  refine hsim.nb k ?_
  rw [List.getElem?_set,if_neg (fun e=>hkid e.symm),List.getElem?_set] at hk
  by_cases e2:i=k
  ·subst e2
   rw [if_pos rfl] at hk
   split at hk
   ·rcases hk with h | h <;> cases h
   ·rename_i h;exact absurd (List.getElem?_eq_some_iff.1 hi).1 h
  ·rw [if_neg e2] at hk;exact hk
theorem src_of (hsim:Sim B m0 m bk w st) {es n:Nat} {v:V} {ds:List V} {rd:List Nat} {c:Value} (hc:Rep m bk c v) (h:SrcV st es v n ds rd) :
  ∃ A cap news,c=.slice A n cap∧n≤cap∧(v.full=true→cap=n)∧RepL m bk news ds∧(∀ u ∈ ds,u.one=true)∧ds.length=n * es∧(∀ w' : World,w'.heap=w.heap→(Builtin.firstCells es n (.slice A n cap)).run P w'=.ok news.toArray w'):=by
 cases h with
 | @sl ys f hes =>
  have hlen:(ys.flatMap V.cells).length=ys.length * es:=by
   rw [List.length_flatMap,show ys.map (fun x=>x.cells.length)=ys.map (fun _=>es) from List.map_congr_left hes,List.map_const']
   simp
  cases hc with
  | @slnil _ A cap _ hf =>
   refine ⟨A,cap,[],rfl,Nat.zero_le _,hf,⟨rfl,fun j h1 _=>absurd h1 (by simp)⟩,by simp,by simp,fun w' _=>?_⟩
   cases A with
   | none=>simp [Builtin.firstCells]
   | some A=>simp [Builtin.firstCells,loadCells,loadCellsFrom]
  | @sl _ b oo _ cap es' _ _ us hn hcc hf hes' h1 hm hr =>
   subst hn
   refine ⟨_,cap,(List.range (ys.flatMap V.cells).length).map us,rfl,hcc,hf,⟨by simp,fun j g1 g2=>?_⟩,h1,hlen,fun w' hw=>?_⟩
   ·simp only [List.getElem_map,List.getElem_range]
    exact (hr j g2).mono (fun _ _ h=>h) (fun _ _ h=>by cases h)
   ·refine run_firstCells_some w' es _ ⟨b,oo,none⟩ _ _ _ (by rw [List.length_map,List.length_range];exact hlen) fun j u hj=>?_
    rw [List.getElem?_map] at hj
    by_cases hj2:j < (ys.flatMap V.cells).length
    ·rw [List.getElem?_range hj2] at hj
     simp only [Option.map_some,Option.some.injEq] at hj
     subst hj
     rw [Addr.add_lit]
     have:=hsim.mem _ _ (hm j hj2)
     simpa [World.cell?,hw] using this
    ·rw [List.getElem?_eq_none (by rw [List.length_range];exact Nat.le_of_not_lt hj2)] at hj
     simp at hj
 | @osl i off n f cs frz hi hl =>
  cases hc with
  | oslnil =>
   rename_i A
   refine ⟨A,0,[],rfl,Nat.le_refl _,fun _=>rfl,⟨by simp,fun j h1 _=>absurd h1 (by simp)⟩,by simp,by simp,fun w' _=>?_⟩
   cases A with
   | none=>simp [Builtin.firstCells]
   | some A=>simp [Builtin.firstCells,loadCells,loadCellsFrom]
  | @osl _ _ b sz _ _ cap _ _ hb hcc hf hsz =>
  obtain ⟨arr,t,lo,hi',hlv,hrep⟩:=sim_live hsim hi hb
  have hfit:=hlv.fit
  have hsize:=hlv.size
  refine ⟨_,cap,((arr.toList.take cs.length).drop off).take (n * es),rfl,hcc,hf,(hrep.drop off).take _,fun u hu=>hlv.one u (List.mem_of_mem_drop (List.mem_of_mem_take hu)),by simp;omega,fun w' hw=>?_⟩
  refine run_firstCells_some w' es n ⟨b,off,none⟩ n cap _ (by simp;omega) fun j u hj=>?_
  rw [List.getElem?_take] at hj
  split at hj
  ·rename_i hjn
   rw [List.getElem?_drop,List.getElem?_take,if_pos (by omega)] at hj
   rw [Addr.add_lit]
   simpa [World.cell?,hw,hlv.heap] using hj
  ·cases hj
theorem srcX_of (hsim:Sim B m0 m bk w st) {es n:Nat} {v:V} {ds:List V} {rd:List Nat} {c:Value} (hc:Rep m bk c v) (h:SrcX st es v n ds rd) {tx:TypeId} (hk:(∃ e',P.underlying tx=some (.slice e'))∨P.underlying tx=some .string) :
  ∃ news,Src P es tx c n news w∧RepL m bk news ds∧(∀ u ∈ ds,u.one=true)∧ds.length=n * es:=by
 cases h with
 | v h =>
  obtain ⟨A',cap',news,hce',hcap',_,hrn,hdone',hdl',hfirst'⟩:=src_of (P:=P) hsim hc h
  refine ⟨news,?_,hrn,hdone',hdl'⟩
  rw [hce']
  exact ⟨hk,fun _=>rfl,hfirst' w rfl,hfirst' w.drew rfl,by rw [hrn.1,hdl'],rep_one_cells hrn hdone'⟩
 | @str s he =>
  subst he
  rw [hc.int]
  refine ⟨byteCells s,⟨hk,fun _=>rfl,firstCells_string s w,firstCells_string s w.drew,by rw [byteCells_length,Nat.mul_one],fun u hu=>?_⟩,⟨by simp [byteCells],fun j h1 h2=>?_⟩,fun u hu=>?_,by simp⟩
  ·obtain ⟨_,_,rfl⟩:=List.mem_map.1 hu
   rfl
  ·simp only [byteCells,List.getElem_map]
   exact .lit rfl
  ·obtain ⟨b,_,rfl⟩:=List.mem_map.1 hu
   rfl
theorem getD_pos {α:Type} (l:List α) (n:Nat) (d:α) (h:n < l.length):l.getD n d=l[n]:=by simp [List.getD,h]
theorem slot_no_fresh {i:Nat} {cs:List V} {frz:Nat} (hi:st[i]?=some (.live cs frz)):st[i]?≠some .fresh:=by rw [hi];simp
theorem grown_bound {n k bytes:Nat} (hn:n + k≤1000000) (hb:bytes≤1000):(n + k) * bytes≤140737488355328:=by
 have:(n + k) * bytes≤1000000 * 1000:=Nat.mul_le_mul hn hb
 omega
theorem stP_sound {ty:TypeId} {op:Op} {v:V} {rd:List Nat} {ef:List (Nat × Slot)} {id:Nat} {ao:AOp} (he:o.op=op) (hc:Cop P op ty ao) (hs:AStep P (evO fr) st id ao v rd ef) (hao:∃ sz a x,ao=.st sz a x) (hsim:Sim B m0 m bk w st) (hg:GM m) (hfr:FrRep m bk a.tmps fr)
  (hK:∀ c w',Aft B m0 m bk w (AStep.eff st ef) v c w'→K (a.put o.dst c) w'):o.wp P a w K Q:=by
 obtain ⟨sz,x,y,rfl⟩:=hao
 cases hs with
 | @stP sz x y i off cs frz v h hv h1 hl hi hf hs =>
  cases hc with
  | @st _ t ii _ _ hii =>
  have h0:=h ▸ hfr.ev x
  have h2:=hv ▸ hfr.ev y
  cases hce:a.eval x <;> rw [hce] at h0 <;> try (cases h0;done)
  cases h0 with
  | @ptr _ _ b bsz _ hb =>
  obtain ⟨arr,tt,lo,hi',hlv,hrep⟩:=sim_live hsim hi hb
  obtain ⟨q1,q2⟩:=h2.cellsL h1
  have hvs:(a.eval y).cells.size=ii.size:=by have:=q1.1;simp at this;omega
  have hfit:=hlv.fit
  have hsize:=hlv.size
  have hcell:∀ j,j < (a.eval y).cells.toList.length→(w.cell? ⟨b,off + 0 + j,none⟩).isSome=true:=fun j hj=>by
   have:off + j < arr.size:=by simp at hj;omega
   simp [World.cell?,hlv.heap,this]
  have hfroz:∀ j,j < (a.eval y).cells.toList.length→w.frozen? ⟨b,off + 0 + j,none⟩=false:=fun j hj=>by
   have:=hlv.free
   simp only [World.frozen?,hlv.heap,Bool.and_eq_false_iff,decide_eq_false_iff_not]
   simp at hj
   omega
  have hst:=run_storeCells_cells (P:=P) b off (a.eval y).cells.toList 0 w hcell hfroz (rep_one_cells q1 q2)
  obtain ⟨⟨arr',g1,g2,g3⟩,g4,g5,g6,g7,g8⟩:=setCells_heap b tt (lo,hi') (a.eval y).cells.toList (off + 0) w arr hlv.heap (by simp;omega)
  have hrun:(execOp a.eval o).run P w=.ok .skip (w.setCells b (off + 0) (a.eval y).cells.toList):=by
   simp [execOp,he,hce,Instr.storeAt,Instr.sureAddr,storeVar,run_sizeOf hii,hvs]
   rw [hst];rfl
  unfold Oper.wp
  rw [hrun,Oper.upon_skip]
  refine hK _ _ ⟨m,bk,hsim.write hi hlv g1 g2 g4 g5 (fun k hk=>by rw [g3,if_neg (by omega)]) ?_ ?_ ?_,.any,fun _ _ h=>h,fun _ _ h=>h,Bel.write g6 g7 g8 hlv.heap g1 g2 g4 g5 hlv.own⟩
  ·simp;omega
  ·intro u hu
   simp only [List.mem_append] at hu
   rcases hu with (hu | hu) | hu
   ·exact hlv.one u (List.mem_of_mem_take hu)
   ·exact q2 u hu
   ·exact hlv.one u (List.mem_of_mem_drop hu)
  ·intro k hk
   have hk' : k < arr'.size:=by simp at hk;omega
   refine ⟨arr'[k],by simp [hk'],?_⟩
   have e:arr'[k]?=some arr'[k]:=by simp [hk']
   rw [g3] at e
   have hvl:v.cells.length=(a.eval y).cells.toList.length:=q1.1.symm
   by_cases hin:off + 0≤k∧k < off + 0 + (a.eval y).cells.toList.length
   ·rw [if_pos hin] at e
    obtain ⟨j,rfl⟩ : ∃ j,k=off + j:=⟨k - off,by omega⟩
    have hj:j < (a.eval y).cells.toList.length:=by omega
    rw [show off + j - (off + 0)=j by omega,List.getElem?_eq_getElem hj] at e
    injection e with e
    rw [← e]
    have:=q1.2 j hj (by omega)
    rw [List.getElem_append_left (by simp;omega),List.getElem_append_right (by simp;omega)]
    have e2:off + j - (cs.take off).length=j:=by simp;omega
    simp only [e2]
    exact this
   ·rw [if_neg hin] at e
    simp at hk
    have hkc:k < cs.length:=by omega
    obtain ⟨u,hu,hr⟩:=hlv.rep k hkc
    rw [hu] at e
    injection e with e
    rw [← e]
    by_cases hlt:k < off
    ·rw [List.getElem_append_left (by simp;omega),List.getElem_append_left (by simp;omega),List.getElem_take]
     exact hr
    ·simp at hin
     rw [List.getElem_append_right (by simp;omega)]
     have e2:off + ii.size + (k - (cs.take off++v.cells).length)=k:=by simp;omega
     simp only [List.getElem_drop,e2]
     exact hr
theorem al_sound {ty:TypeId} {op:Op} {v:V} {rd:List Nat} {ef:List (Nat × Slot)} {id:Nat} {ao:AOp} (he:o.op=op) (hc:Cop P op ty ao) (hs:AStep P (evO fr) st id ao v rd ef) (hao:∃ z,ao=.al z) (hsim:Sim B m0 m bk w st) (hg:GM m) (hfr:FrRep m bk a.tmps fr)
  (hK:∀ c w',Aft B m0 m bk w (AStep.eff st ef) v c w'→K (a.put o.dst c) w'):o.wp P a w K Q:=by
 obtain ⟨z,rfl⟩:=hao
 cases hs with
 | @al z h1 hf =>
  cases hc with
  | @al _ t i z0 hi hz =>
  obtain ⟨q1,q2⟩:=ofValue_stb (m:=m) (bk:=bk) h1
  have hl:(V.ofValue z0).cells.length=z0.cells.toList.length:=q1.1.symm
  refine wp_of_run (S:=Instr.alloc t true (.tuple #[])) (c:=.pointer (some ⟨w.heap.size,0,none⟩)) (w':=w.alloc (.cells z0.cells t)) (by simp [execOp,he]) ?_ (hK _ _ (make_aft hsim hf (.inl rfl) (Nat.le_refl _) (by rw [hl,List.take_length];exact q1) q2 (.ptr (by simp [newBk];rfl))))
  simp [Instr.alloc,zeroValue,run_info hi,hz,newVar,newRow]
theorem bx_sound {ty:TypeId} {op:Op} {v:V} {rd:List Nat} {ef:List (Nat × Slot)} {id:Nat} {ao:AOp} (he:o.op=op) (hc:Cop P op ty ao) (hs:AStep P (evO fr) st id ao v rd ef) (hao:∃ x,ao=.bx x) (hsim:Sim B m0 m bk w st) (hg:GM m) (hfr:FrRep m bk a.tmps fr)
  (hK:∀ c w',Aft B m0 m bk w (AStep.eff st ef) v c w'→K (a.put o.dst c) w'):o.wp P a w K Q:=by
 obtain ⟨x,rfl⟩:=hao
 cases hs with
 | @bx x v hv h1 hf =>
  cases hc with
  | @bx _ t _ =>
  obtain ⟨q1,q2⟩:=(hv ▸ hfr.ev x).cellsL h1
  have hl:v.cells.length=(a.eval x).cells.toList.length:=q1.1.symm
  refine wp_of_run (S:=Instr.box t (a.eval x)) (c:=.pointer (some ⟨w.heap.size,0,none⟩)) (w':=w.alloc (.cells (a.eval x).cells t)) (by simp [execOp,he]) ?_ (hK _ _ (make_aft hsim hf (.inl rfl) (Nat.le_refl _) (by rw [hl,List.take_length];exact q1) q2 (.ptr (by simp [newBk];rfl))))
  simp [Instr.box,newVar,newRow]
theorem bs_sound {ty:TypeId} {op:Op} {v:V} {rd:List Nat} {ef:List (Nat × Slot)} {id:Nat} {ao:AOp} (he:o.op=op) (hc:Cop P op ty ao) (hs:AStep P (evO fr) st id ao v rd ef) (hao:∃ es len z ps,ao=.bs es len z ps) (hsim:Sim B m0 m bk w st) (hg:GM m) (hfr:FrRep m bk a.tmps fr)
  (hK:∀ c w',Aft B m0 m bk w (AStep.eff st ef) v c w'→K (a.put o.dst c) w'):o.wp P a w K Q:=by
 obtain ⟨es,len,z,ps,rfl⟩:=hao
 cases hs with
 | @bs es len z ps cs h hz hf fz hfz =>
  cases hc with
  | @bs _ t e i z0 _ parts hd hi hzz h0 hzs hlen hone =>
  obtain ⟨q1,q2⟩:=ofValue_stb (m:=m) (bk:=bk) hone
  have hzc:z0.cells.size=(V.ofValue z0).cells.length:=by simpa using q1.1
  have hpos:0 < i.size:=by rcases Nat.eq_zero_or_pos i.size with h | h;exact absurd (by rw [h];simp) h0;exact h
  have hzrep:RepL m bk ((Array.range (len * i.size)).map (z0.cells[· % z0.cells.size]!)).toList ((List.range (len * i.size)).map fun k=>(V.ofValue z0).cells.getD (k % i.size) .any):=by
   refine ⟨by simp,fun j h1 h2=>?_⟩
   have hm:j % i.size < i.size:=Nat.mod_lt _ hpos
   have hm2:j % i.size < (V.ofValue z0).cells.length:=by omega
   have hm1:j % i.size < z0.cells.toList.length:=by simp;omega
   have:=q1.2 _ hm1 hm2
   simp only [Array.toList_map,Array.toList_range,List.getElem_map,List.getElem_range,hzs]
   rw [getD_pos _ _ _ hm2,getElem!_pos _ _ (by simpa using hm1)]
   simpa using this
  obtain ⟨c,c1,c2,c3⟩:=fill_rep (fun k=>some (k * i.size,i.size)) (parts.toList.map fun p=>(p.1,a.eval p.2)) (parts.toList.map fun p=>(p.1 * i.size,i.size,evO fr p.2)) _ _ cs hzrep (fun u hu=>by
   obtain ⟨k,hk,rfl⟩:=List.mem_map.1 hu
   have hm:k % i.size < i.size:=Nat.mod_lt _ hpos
   rw [getD_pos _ _ _ (show k % i.size < _ by omega)]
   exact q2 _ (List.getElem_mem _)) (by simp) (fun j h1 h2=>⟨by simp,by simp only [List.getElem_map];exact hfr.ev _⟩) h
  have hcl:c.size=cs.length:=by simpa using c2.1
  have hcs:cs.length=len * i.size:=by
   have:∀ (ps:List (Nat × Nat × V)) (z cs:List V),fillV z ps=some cs→cs.length=z.length:=by
    intro ps
    induction ps with
    | nil=>intro z cs h;simp [fillV] at h;rw [h]
    | cons p ps ih =>
     intro z cs h
     obtain ⟨off,sz,v⟩:=p
     simp only [fillV] at h
     split at h
     ·rename_i hc
      rw [ih _ _ h];simp;omega
     ·cases h
   rw [this _ _ _ h];simp
  have hrun:=run_buildSlice (P:=P) w t e len (parts.map fun (i,x)=>(i,a.eval x)) c i z0 hd hi hzz (Nat.not_lt.2 (Nat.le_trans hlen (by decide))) h0 (by simpa using c1)
  have htake:c.toList.take cs.length=c.toList:=by rw [← hcl,← Array.length_toList,List.take_length]
  have hv:Rep m (newBk bk id (w.heap.size,c.size)) (.slice (some ⟨w.heap.size,0,none⟩) len len) (.osl id 0 len i.size true):=.osl (b:=w.heap.size) (sz:=c.size) (by simp [newBk]) (Nat.le_refl _) (fun _=>rfl) (by rw [hcl,hcs,Nat.zero_add];exact Nat.le_refl _)
  have haft:=make_aft (w':=w.alloc (.cells c e)) (lo:=0) (hi:=0) (t:=e) (arr:=c) hsim hf (.inl rfl) (Nat.le_refl _) (by rw [htake];exact c2) c3 hv
  have hex:(execOp a.eval o).run P w=.ok (.value (.slice (some ⟨w.heap.size,0,none⟩) len len)) (w.alloc (.cells c e)):=by
   unfold execOp
   simp only [he,Sem.run_bind]
   rw [hrun]
   rfl
  have haft2:=haft.freeze (f:=fz) (set_freeze (List.getElem?_eq_some_iff.1 hf).1) (Nat.zero_le _) hfz
  rw [List.set_set] at haft2
  exact wp_val hex (hK _ _ haft2)
theorem s2b_sound {ty:TypeId} {op:Op} {v:V} {rd:List Nat} {ef:List (Nat × Slot)} {id:Nat} {ao:AOp} (he:o.op=op) (hc:Cop P op ty ao) (hs:AStep P (evO fr) st id ao v rd ef) (hao:∃ x,ao=.s2b x) (hsim:Sim B m0 m bk w st) (hg:GM m) (hfr:FrRep m bk a.tmps fr)
  (hK:∀ c w',Aft B m0 m bk w (AStep.eff st ef) v c w'→K (a.put o.dst c) w'):o.wp P a w K Q:=by
 obtain ⟨x,rfl⟩:=hao
 cases hs with
 | @s2b x s h =>
  cases hc with
  | @s2b _ sr d e _ hs hd hee =>
  have h0:=(h ▸ hfr.ev x).int
  have hrun:=run_bytes_of_string (P:=P) w sr d e s hs hd hee
  have hge:=grownCap_ge w s.size 0 e
  have hsz:(bytesRow s (grownCap w s.size 0 e)).size=grownCap w s.size 0 e:=by
   simp [bytesRow]
   have:s.data.size=s.size:=rfl
   omega
  have hfl:(s.data.toList.map byteV).flatMap V.cells=s.data.toList.map byteV:=by
   induction s.data.toList with
   | nil=>rfl
   | cons b l ih=>rw [List.map_cons,List.flatMap_cons,ih];rfl
  have hl:(s.data.toList.map byteV).length=s.size:=by simp
  have hA:=row_aft (xs:=s.data.toList.map byteV) (full:=false) (cap:=grownCap w s.size 0 e) (es:=1) hsim (w':=w.drew.alloc (.cells (bytesRow s (grownCap w s.size 0 e)) e ((bytesRow s (grownCap w s.size 0 e)).size,(bytesRow s (grownCap w s.size 0 e)).size + 1))) (((Below.refl w.heap.size w).drew).alloc (Nat.le_refl _) _) (arr:=bytesRow s (grownCap w s.size 0 e)) (t:=e) (lo:=(bytesRow s (grownCap w s.size 0 e)).size) (hi:=(bytesRow s (grownCap w s.size 0 e)).size + 1)
   (by show (w.heap.push _)[w.heap.size]?=_;simp) (by rw [hl];exact hge) (fun e=>by cases e) (fun x hx=>by obtain ⟨b,_,rfl⟩:=List.mem_map.1 hx;rfl) (fun u hu=>by rw [hfl] at hu;obtain ⟨b,_,rfl⟩:=List.mem_map.1 hu;rfl) (by rw [hfl,hl,hsz];exact hge) (fun k hk=>by
    have hk' : k < s.data.size:=by rw [hfl,hl] at hk;exact hk
    refine ⟨.int .u8 (s.data.toList[k]'(by simpa using hk')).toNat,?_,?_⟩
    ·unfold bytesRow
     rw [Array.getElem?_append_left (by simpa using hk'),Array.getElem?_map,Array.getElem?_eq_getElem hk']
     simp
    ·simp only [hfl,List.getElem_map,byteV]
     exact .lit rfl)
  rw [hl] at hA
  exact wp_of_run (S:=convert sr d (a.eval x)) (by simp [execOp,he]) (by rw [h0];exact hrun) (hK _ _ hA)
theorem apN_sound {ty:TypeId} {op:Op} {id es bytes n k:Nat} {s x:Operand} {ds ds' : List V} {rd1 rd' : List Nat} (he:o.op=op) (hc:Cop P op ty (.ap es bytes s x)) (hs:SrcV st es (evO fr s) n ds rd1) (hfu:(evO fr s).full=true) (hx:SrcX st es (evO fr x) k ds' rd') (hk:0 < k) (hn:n + k≤1000000) (hb:bytes≤1000) (hf:st[id]?=some .fresh) (hsim:Sim B m0 m bk w st) (hfr:FrRep m bk a.tmps fr)
  (hK:∀ c w',Aft B m0 m bk w (st.set id (.live (ds++ds') 0)) (.osl id 0 (n + k) es false) c w'→K (a.put o.dst c) w'):o.wp P a w K Q:=by
  cases hc with
  | @ap _ _ _ t t2 e i z hd hi hz hzs h0 hkk =>
  obtain ⟨A,cap,olds,hce,hcap,hful,hro,hdone,hdl,hfirst⟩:=src_of (P:=P) hsim (hfr.ev s) hs
  obtain ⟨news,hsrc,hrn,hdone',hdl'⟩:=srcX_of (P:=P) hsim (hfr.ev x) hx hkk
  have hcn:=hful hfu
  have hrun:=run_append_grow_src (P:=P) w t t2 o.type e i z hd hi hz A n cap olds (hcn ▸ hfirst w.drew rfl) (a.eval x) k news hsrc (by omega) (by omega) (growslice_fits (by omega) (grown_bound hn hb))
  have hge:=grownCap_ge w (n + k) cap e
  refine wp_of_run (S:=Builtin.append_ #[t,t2] o.type #[a.eval s,a.eval x]) (by simp [execOp,he,resolve,invoke,builtin]) (by rw [hce];exact hrun) (hK _ _ (make_aft hsim hf (.inr rfl) (Nat.le_refl _) ?_ (fun u hu=>?_) (.osl (by simp [newBk];rfl) hge (fun e=>by cases e) ?_)))
  ·have:=hro.append hrn
   have hl:(ds++ds').length=(olds++news).length:=this.1.symm
   rw [hl]
   simp only [Array.toList_append,List.take_left]
   exact this
  ·rcases List.mem_append.1 hu with h | h
   ·exact hdone u h
   ·exact hdone' u h
  ·simp only [Nat.zero_add,Array.size_append,List.size_toArray,size_zeroCells,hzs,List.length_append,hro.1,hrn.1,hdl,hdl']
   rw [← Nat.add_mul,← Nat.add_mul]
   exact Nat.mul_le_mul_right _ (by omega)
theorem apO_sound {ty:TypeId} {op:Op} {id es bytes i n frz k:Nat} {s x:Operand} {cs ds' : List V} {rd' : List Nat} (he:o.op=op) (hc:Cop P op ty (.ap es bytes s x)) (hs:evO fr s=.osl i 0 n es false) (hi:st[i]?=some (.live cs frz)) (hl:cs.length=n * es) (hzz:frz≤cs.length) (hx:SrcX st es (evO fr x) k ds' rd') (hk:0 < k) (hn:n + k≤1000000) (hb:bytes≤1000) (hf:st[id]?=some .fresh) (hsim:Sim B m0 m bk w st) (hfr:FrRep m bk a.tmps fr)
  (hK:∀ c w',Aft B m0 m bk w ((st.set i .dead).set id (.live (cs++ds') frz)) (.osl id 0 (n + k) es false) c w'→K (a.put o.dst c) w'):o.wp P a w K Q:=by
  cases hc with
  | @ap _ _ _ t t2 e ii z hd hii hz hzs h0 hkk =>
  have hsr:=hs ▸ hfr.ev s
  have hexec:execOp a.eval o=(do pure (.value (← Builtin.append_ #[t,t2] o.type #[a.eval s,a.eval x]))):=by simp [execOp,he,resolve,invoke,builtin]
  obtain ⟨news,hsrc,hrn,hdone',hdl'⟩:=srcX_of (P:=P) hsim (hfr.ev x) hx hkk
  have grow:∀ (A:Option Addr) (cap:Nat),a.eval s=.slice A n cap→¬ n + k≤cap→o.wp P a w K Q:=by
   intro A cap hce hroom
   obtain ⟨A0,cap0,olds,hce0,_,_,hro,hdone,hdl,hfirst⟩:=src_of (P:=P) hsim (hce ▸ hfr.ev s:Rep m bk (.slice A n cap) (evO fr s)) (hs ▸ SrcV.osl hi (by omega):SrcV st ii.size (evO fr s) n ((cs.drop 0).take (n * ii.size)) [i])
   injection hce0 with hA hn0 hcap0
   subst hA hcap0
   have hds:(cs.drop 0).take (n * ii.size)=cs:=by rw [List.drop_zero,← hl,List.take_length]
   rw [hds] at hro hdone hdl
   have hrun:=run_append_grow_src (P:=P) w t t2 o.type e ii z hd hii hz _ n cap olds (hfirst w.drew rfl) (a.eval x) k news hsrc (by omega) (by omega) (growslice_fits (by omega) (grown_bound hn hb))
   have hge:=grownCap_ge w (n + k) cap e
   have hdead:=hsim.dead i (slot_no_fresh hi)
   have hne:i≠id:=by intro e;subst e;rw [hi] at hf;cases hf
   refine wp_of_run hexec (by rw [hce];exact hrun) (hK _ _ ?_)
   have hfd:(st.set i Slot.dead)[id]?=some .fresh:=by rw [List.getElem?_set,if_neg hne];exact hf
   have hidl:id < (st.set i Slot.dead).length:=(List.getElem?_eq_some_iff.1 hfd).1
   have key:Aft B m0 m bk w ((st.set i Slot.dead).set id (.live (cs++ds') 0)) (.osl id 0 (n + k) ii.size false) (.slice (some ⟨w.heap.size,0,none⟩) (n + k) (grownCap w (n + k) cap e)) (w.drew.alloc (.cells ((olds++news).toArray++Builtin.zeroCells z.cells (grownCap w (n + k) cap e - (n + k))) e)):=by
    refine make_aft hdead hfd (.inr rfl) (Nat.le_refl _) ?_ (fun u hu=>?_) (.osl (by simp [newBk];rfl) hge (fun e=>by cases e) ?_)
    ·have:=hro.append hrn
     have hl:(cs++ds').length=(olds++news).length:=this.1.symm
     rw [hl]
     simp only [Array.toList_append,List.take_left]
     exact this
    ·rcases List.mem_append.1 hu with h | h
     ·exact hdone u h
     ·exact hdone' u h
    ·simp only [Nat.zero_add,Array.size_append,List.size_toArray,size_zeroCells,hzs,List.length_append,hro.1,hrn.1,hl,hdl']
     rw [← Nat.add_mul,← Nat.add_mul]
     exact Nat.mul_le_mul_right _ (by omega)
   have:=key.freeze (f:=frz) (by rw [List.getElem?_set,if_pos rfl,if_pos hidl]) (Nat.zero_le _) (by simp;omega)
   rw [List.set_set] at this
   exact this
  cases hce:a.eval s <;> rw [hce] at hsr <;> try (cases hsr;done)
  cases hsr with
  | oslnil=>exact grow _ _ hce (by omega)
  | @osl _ _ b sz _ _ _ _ _ hbk hcap hful hsz =>
  rename_i cap
  obtain ⟨arr,tt,lo,hi',hlv,hrep⟩:=sim_live hsim hi hbk
  have hfit:=hlv.fit
  have hsize:=hlv.size
  have hnl:news.length=k * ii.size:=by rw [hrn.1,hdl']
  by_cases hroom:n + k≤cap
  ·have hmul:(n + k) * ii.size≤cap * ii.size:=Nat.mul_le_mul_right _ hroom
   rw [Nat.add_mul] at hmul
   have hrun:=run_append_room_src (P:=P) w t t2 o.type e ii hd hii b 0 n cap (a.eval x) k news hsrc hroom (fun j hj=>by
    have:0 + n * ii.size + j < arr.size:=by omega
    simp [World.cell?,hlv.heap];omega) (fun j hj=>by
    have:=hlv.free
    simp only [World.frozen?,hlv.heap,Bool.and_eq_false_iff,decide_eq_false_iff_not]
    omega)
   obtain ⟨⟨arr',g1,g2,g3⟩,g4,g5,g6,g7,g8⟩:=setCells_heap b tt (lo,hi') news (0 + n * ii.size) w arr hlv.heap (by omega)
   have hw:=hsim.write (cs':=cs++ds') hi hlv g1 g2 g4 g5 (fun q hq=>by
    rw [g3]
    by_cases hin:0 + n * ii.size≤q∧q < 0 + n * ii.size + news.length
    ·omega
    ·rw [if_neg hin]) (by simp [hl,hdl'];omega) (fun u hu=>by
     rcases List.mem_append.1 hu with h | h
     ·exact hlv.one u h
     ·exact hdone' u h) (fun q hq=>by
    have hq' : q < arr'.size:=by simp [hl,hdl'] at hq;omega
    have e:arr'[q]?=some arr'[q]:=by simp [hq']
    refine ⟨arr'[q],e,?_⟩
    rw [g3] at e
    by_cases hlt:q < cs.length
    ·rw [if_neg (by omega)] at e
     obtain ⟨u,hu,hr⟩:=hlv.rep q hlt
     rw [hu] at e
     injection e with e
     rw [← e,List.getElem_append_left hlt]
     exact hr
    ·have hqn:q - cs.length < news.length:=by simp [hdl'] at hq;omega
     rw [if_pos (by omega)] at e
     rw [show q - (0 + n * ii.size)=q - cs.length by omega,List.getElem?_eq_getElem hqn] at e
     injection e with e
     rw [← e,List.getElem_append_right (by omega)]
     exact hrn.2 _ hqn _)
   have hsi:(st.set i (Slot.live (cs++ds') frz))[i]?=some (Slot.live (cs++ds') frz):=by rw [List.getElem?_set,if_pos rfl,if_pos (List.getElem?_eq_some_iff.1 hi).1]
   have hne:i≠id:=by intro e;subst e;rw [hi] at hf;cases hf
   have hw2:=hw.rename hsi (id:=id) (by rw [List.getElem?_set,if_neg hne];exact hf) hbk
   rw [List.set_set] at hw2
   refine wp_of_run hexec (by rw [hce];exact hrun) (hK _ _ ⟨m,_,hw2,.osl (b:=b) (sz:=sz) (by simp [newBk]) hroom (fun e=>by cases e) (by omega),fun _ _ h=>h,newBk_ge (hsim.nb id (.inr hf)),Bel.write g6 g7 g8 hlv.heap g1 g2 g4 g5 hlv.own⟩)
  ·exact grow _ _ hce hroom
theorem zeroCells_one {z:Array Value} (h1:∀ v ∈ z.toList,v.oneCell'=true) (m:Nat):∀ v ∈ (Builtin.zeroCells z m).toList,v.oneCell'=true:=by
 intro v hv
 simp only [Builtin.zeroCells,Array.toList_map,List.mem_map,Array.mem_toList_iff,Array.mem_range] at hv
 obtain ⟨a,ha,rfl⟩:=hv
 have hp:0 < z.size:=by
  rcases Nat.eq_zero_or_pos z.size with h | h
  ·rw [h] at ha;omega
  ·exact h
 have hlt:=Nat.mod_lt a hp
 rw [getElem!_pos z (a % z.size) hlt]
 exact h1 _ (Array.getElem_mem_toList hlt)
theorem run_clear_es {P:Program} (w:World) (t e ty:TypeId) (z:Value) (es:Nat) (ht:P.underlying t=some (.slice e)) (hv:∀ w,(zeroValue e).run P w=.ok z w) (hz:z.cells.size=es) (h1:∀ m,∀ v ∈ (Builtin.zeroCells z.cells m).toList,v.oneCell'=true) (b o n c:Nat) (hn:0 < n)
  (hc:∀ j,j < n * es→(w.cell? ⟨b,o + j,none⟩).isSome=true) (hf:∀ j,j < n * es→w.frozen? ⟨b,o + j,none⟩=false) :
  (Builtin.clear_ #[t] ty #[.slice (some ⟨b,o,none⟩) n c]).run P w=.ok (.tuple #[]) (w.setCells b o (Builtin.zeroCells z.cells n).toList):=by
 have hl:(Builtin.zeroCells z.cells n).toList.length=n * es:=by rw [Array.length_toList,size_zeroCells,hz]
 have hst:=run_storeCells_cells (P:=P) b o (Builtin.zeroCells z.cells n).toList 0 w (by rw [hl];simpa using hc) (by rw [hl];simpa using hf) (h1 n)
 simp only [Nat.add_zero] at hst
 obtain ⟨m,rfl⟩ : ∃ m,n=m + 1:=⟨n - 1,by omega⟩
 simp [Builtin.clear_,run_underlying ht,hv,hst]
theorem clr_sound {ty:TypeId} {op:Op} {v:V} {rd:List Nat} {ef:List (Nat × Slot)} {id:Nat} {ao:AOp} (he:o.op=op) (hc:Cop P op ty ao) (hs:AStep P (evO fr) st id ao v rd ef) (hao:∃ es x,ao=.clr es x) (hsim:Sim B m0 m bk w st) (hg:GM m) (hfr:FrRep m bk a.tmps fr)
  (hK:∀ c w',Aft B m0 m bk w (AStep.eff st ef) v c w'→K (a.put o.dst c) w'):o.wp P a w K Q:=by
 obtain ⟨es,x,rfl⟩:=hao
 cases hs with
 | @clr _ _ i off n full cs frz hx hi hf hcl hn =>
  cases hc with
  | @clr _ t e ii z _ hd hii hz hzs hone =>
  have hx':=hx ▸ hfr.ev x
  cases hce:a.eval x <;> rw [hce] at hx' <;> try (cases hx';done)
  cases hx' with
  | oslnil=>exact absurd hn (Nat.lt_irrefl _)
  | @osl _ _ b sz _ _ _ _ _ hb hcc hfu hsz =>
  rename_i cap
  obtain ⟨arr,tt,lo,hi',hlv,hrep⟩:=sim_live hsim hi hb
  have hfit:=hlv.fit
  have hsize:=hlv.size
  have hle:n * ii.size≤cap * ii.size:=Nat.mul_le_mul_right _ hcc
  have hone' : ∀ m,∀ v ∈ (Builtin.zeroCells z.cells m).toList,v.oneCell'=true:=zeroCells_one (fun v hv=>List.all_eq_true.1 hone v hv)
  have hrun:=run_clear_es (P:=P) w t e o.type z ii.size hd (fun w=>by simp [zeroValue,typeInfo,hii,hz]) hzs hone' b off n cap hn (fun j hj=>by
   have:off + j < arr.size:=by omega
   simp [World.cell?,hlv.heap,this]) (fun j hj=>by
   have:=hlv.free
   simp only [World.frozen?,hlv.heap,Bool.and_eq_false_iff,decide_eq_false_iff_not]
   omega)
  have hzl:(Builtin.zeroCells z.cells n).toList.length=n * ii.size:=by rw [Array.length_toList,size_zeroCells,hzs]
  obtain ⟨⟨arr',g1,g2,g3⟩,g4,g5,g6,g7,g8⟩:=setCells_heap b tt (lo,hi') (Builtin.zeroCells z.cells n).toList off w arr hlv.heap (by omega)
  refine wp_of_run (S:=Builtin.clear_ #[t] o.type #[a.eval x]) (by simp [execOp,he,resolve,invoke,builtin]) (by rw [hce];exact hrun) (hK _ _ ⟨m,bk,hsim.write hi hlv g1 g2 g4 g5 (fun k hk=>by rw [g3,if_neg (by omega)]) (by simp;omega) (fun u hu=>hlv.one u (List.mem_of_mem_take hu)) (fun k hk=>?_),.tup rfl fun j h1 _=>absurd h1 (Nat.not_lt_zero _),fun _ _ h=>h,fun _ _ h=>h,Bel.write g6 g7 g8 hlv.heap g1 g2 g4 g5 hlv.own⟩)
  rw [List.length_take] at hk
  obtain ⟨u,q1,q2⟩:=hlv.rep k (by omega)
  refine ⟨u,by rw [g3,if_neg (by omega)];exact q1,?_⟩
  rw [List.getElem_take]
  exact q2
theorem mks_sound {ty:TypeId} {op:Op} {v:V} {rd:List Nat} {ef:List (Nat × Slot)} {id:Nat} {ao:AOp} (he:o.op=op) (hc:Cop P op ty ao) (hs:AStep P (evO fr) st id ao v rd ef) (hao:∃ es bytes z n c,ao=.mks es bytes z n c) (hsim:Sim B m0 m bk w st) (hg:GM m) (hfr:FrRep m bk a.tmps fr)
  (hK:∀ c w',Aft B m0 m bk w (AStep.eff st ef) v c w'→K (a.put o.dst c) w'):o.wp P a w K Q:=by
 obtain ⟨es,bytes,z,x,y,rfl⟩:=hao
 cases hs with
 | @mks _ _ _ _ _ kn kc n c full hx hy h1 hcb hbb hfu hf fz hfz =>
  cases hc with
  | @mks _ t e i z0 _ _ hd hi hz h0 hzs hone =>
  obtain ⟨q1,q2⟩:=ofValue_stb (m:=m) (bk:=bk) hone
  have hzc:z0.cells.size=(V.ofValue z0).cells.length:=by simpa using q1.1
  have hpos:0 < i.size:=Nat.pos_of_ne_zero h0
  have hx0:=(hx ▸ hfr.ev x).int
  have hy0:=(hy ▸ hfr.ev y).int
  have hbc:i.bytes * c≤1000 * 1000000:=Nat.mul_le_mul hbb hcb
  have hbI:(i.bytes:Int) * (c:Int)≤281474976710656:=by
   have h:((i.bytes * c:Nat):Int)≤281474976710656:=by omega
   rwa [Int.natCast_mul] at h
  have hrun:=run_make (P:=P) w t e i z0 hd hi hz kn kc n c (by omega) (by omega) hbI (by omega)
  simp only [Int.toNat_natCast] at hrun
  have hle:n * i.size≤c * i.size:=Nat.mul_le_mul_right _ h1
  have hget:∀ k,k % i.size < (V.ofValue z0).cells.length:=fun k=>by have:=Nat.mod_lt k hpos;omega
  have haft:=make_aft (w':=w.alloc (.cells (madeCells z0.cells (c * i.size)) e)) (lo:=0) (hi:=0) (t:=e) (arr:=madeCells z0.cells (c * i.size)) (c:=.slice (some ⟨w.heap.size,0,none⟩) n c) (v:=.osl id 0 n i.size full)
   (cs:=(List.range (n * i.size)).map fun k=>(V.ofValue z0).cells.getD (k % i.size) .any) hsim hf (.inl rfl) (Nat.le_refl _) ⟨by simp only [List.length_take,Array.length_toList,size_madeCells,List.length_map,List.length_range];exact Nat.min_eq_left hle,fun j g1 g2=>?_⟩ (fun u hu=>?_) (.osl (b:=w.heap.size) (sz:=c * i.size) (by simp [newBk,size_madeCells]) h1 (fun e=>(hfu e).symm) (by rw [Nat.zero_add];exact Nat.le_refl _))
  ·have haft2:=haft.freeze (f:=fz) (set_freeze (List.getElem?_eq_some_iff.1 hf).1) (Nat.zero_le _) (by simpa using hfz)
   rw [List.set_set] at haft2
   refine wp_val ?_ (hK _ _ haft2)
   unfold execOp
   simp only [he,Sem.run_bind]
   rw [hx0,hy0,hrun]
   rfl
  ·have hj:j < n * i.size:=by simpa using g2
   have hm1:j % i.size < z0.cells.toList.length:=by have:=Nat.mod_lt j hpos;simp;omega
   have:=q1.2 _ hm1 (hget j)
   simp only [List.getElem_map,List.getElem_range,getD_pos _ _ _ (hget j),List.getElem_take,Array.getElem_toList,madeCells,Array.getElem_map,Array.getElem_range,hzs]
   rw [getElem!_pos _ _ (by simpa using hm1)]
   simpa using this
  ·obtain ⟨k,hk,rfl⟩:=List.mem_map.1 hu
   rw [getD_pos _ _ _ (hget k)]
   exact q2 _ (List.getElem_mem _)
end
end Go.Proofs.YtpkodpcfafipdaaGreatDoor

namespace Go.Proofs.YtpkodpcfafipdaaGreatDoor
open Go.RowKit
section
variable {P : Program} {o : Oper} {a : Act} {w : World} {K : Act → World → Prop} {Q : Exit → Act → World → Prop} {B : Kp} {m0 m : Mem} {bk : Bks} {st : List Slot} {fr : List V}
theorem op_sound {v:V} {rd:List Nat} {ef:List (Nat × Slot)} {id:Nat} {ao:AOp} (hc:Cop P o.op o.type ao) (hs:AStep P (evO fr) st id ao v rd ef) (hsim:Sim B m0 m bk w st) (hg:GM m) (hfr:FrRep m bk a.tmps fr)
  (hK:∀ c w',Aft B m0 m bk w (AStep.eff st ef) v c w'→K (a.put o.dst c) w'):o.wp P a w K Q:=by
 by_cases hap:∃ es bytes s x,ao=.ap es bytes s x
 ·obtain ⟨es,bytes,s,x,rfl⟩:=hap
  cases hs with
  | apN h1 h2 h3 h4 h5 h6 h7 hfz=>exact apN_sound rfl hc h1 h2 h3 h4 h5 h6 h7 hsim hfr fun c w' hA=>hK _ _ (by have:=hA.freeze (set_freeze (List.getElem?_eq_some_iff.1 h7).1) (Nat.zero_le _) hfz;rw [List.set_set] at this;exact this)
  | apO h1 h2 h3 h4 h5 h6 h7 h8 h9 hfz0 hfz=>exact apO_sound rfl hc h1 h2 h3 h4 h5 h6 h7 h8 h9 hsim hfr fun c w' hA=>hK _ _ (by have:=hA.freeze (set_freeze (by simpa using (List.getElem?_eq_some_iff.1 h9).1)) hfz0 hfz;rw [List.set_set] at this;exact this)
  | apZ h1 h2 =>
   obtain ⟨A,cap,olds,hce,hcap,_,_,_,_,_⟩:=src_of (P:=P) hsim (hfr.ev s) h1
   have hkk:∃ t t2 e i,es=i.size∧o.op=.call ⟨.builtin .append,#[s,x],#[t,t2]⟩∧P.underlying t=some (.slice e)∧P.info? e=some i∧((∃ e',P.underlying t2=some (.slice e'))∨P.underlying t2=some .string):=by
    generalize hop:o.op=op at hc
    cases hc with
    | @ap _ _ _ t t2 e i z hd hi hz hzs h0 hk=>exact ⟨t,t2,e,i,rfl,rfl,hd,hi,hk⟩
   obtain ⟨t,t2,e,i,hes,hop,hd,hi,hk⟩:=hkk
   subst hes
   obtain ⟨news,hsrc,hrn,_,_⟩:=srcX_of (P:=P) hsim (hfr.ev x) h2 hk
   have hn:news=[]:=List.eq_nil_of_length_eq_zero (by simpa using hrn.1)
   subst hn
   have hv:=hfr.ev s
   rw [hce] at hv
   refine wp_of_run (S:=Builtin.append_ #[t,t2] o.type #[a.eval s,a.eval x]) (c:=.slice A _ cap) (w':=w) (by simp [execOp,hop,resolve,invoke,builtin]) ?_ (hK _ _ (Aft.same hsim hv))
   rw [hce]
   have hln:=hsrc.len
   have hcl:=hsrc.cells
   generalize a.eval x=xv at hln hcl
   cases A with
   | none=>rcases hsrc.kind with ⟨e',hk'⟩ | hk' <;> simp [Builtin.append_,run_underlying hd,run_underlying hk',run_sizeOf hi,hln,hcap,hcl]
   | some A=>rcases hsrc.kind with ⟨e',hk'⟩ | hk' <;> simp [Builtin.append_,run_underlying hd,run_underlying hk',run_sizeOf hi,hln,hcap,hcl,storeCells]
 ·cases ao with
  | st sz x y=>exact stP_sound rfl hc hs ⟨_,_,_,rfl⟩ hsim hg hfr hK
  | al z=>exact al_sound rfl hc hs ⟨_,rfl⟩ hsim hg hfr hK
  | bx x=>exact bx_sound rfl hc hs ⟨_,rfl⟩ hsim hg hfr hK
  | bs es len z ps=>exact bs_sound rfl hc hs ⟨_,_,_,_,rfl⟩ hsim hg hfr hK
  | mks es bytes z n c=>exact mks_sound rfl hc hs ⟨_,_,_,_,_,rfl⟩ hsim hg hfr hK
  | clr es x=>exact clr_sound rfl hc hs ⟨_,_,rfl⟩ hsim hg hfr hK
  | s2b x=>exact s2b_sound rfl hc hs ⟨_,rfl⟩ hsim hg hfr hK
  | ap es bytes s x=>exact absurd ⟨_,_,_,_,rfl⟩ hap
  | cl f args=>exact call_sound rfl hc hs hsim hg hfr rfl hK
  | cv f args=>exact call_sound rfl hc hs hsim hg hfr rfl hK
  | eqa | bd | mf | lent | lens | b2s | mn =>
   have:ef=[]:=by cases hs <;> rfl
   subst this
   exact late_sound rfl hc hs hsim hg hfr rfl rfl (fun _ _ _ _ h=>hap ⟨_,_,_,_,h⟩) (fun _ h=>by cases h) hK
  | _ =>
   have:ef=[]:=by cases hs <;> rfl
   subst this
   exact pure_sound rfl rfl hc hs hsim hg hfr rfl hK
end
def AOp.opers:AOp→List Operand
 | .mv x | .ld _ _ x | .bx x | .nc x | .un _ x | .cvi _ x | .cvs x | .s2b x | .b2s x | .fa _ x | .fd _ _ _ x | .ex x _ | .lent x | .lens x | .clr _ x=>[x]
 | .pick c a b=>[c,a,b]
 | .st _ a x | .bin _ a x | .binb _ a x | .eqp _ a x | .eqa _ _ a x | .ixs _ a x | .ixa _ _ a x | .ixg _ _ _ a x | .ixt a x | .ap _ _ a x | .mn _ a x | .mks _ _ _ a x=>[a,x]
 | .al _=>[]
 | .slt x lo hi=>x :: (lo.toList++hi.toList)
 | .sls _ x lo hi mx=>x :: (lo.toList++hi.toList++mx.toList)
 | .bd _ ps=>ps.map (·.2.2)
 | .bs _ _ _ ps=>ps.map (·.2)
 | .mf _ l | .cl _ l=>l
 | .cv f l=>f :: l
theorem all_same {st st2 st' : List Slot} (hlen:st2.length=st.length) (hl:st'.length=st.length) (h:∀ k,k ∈ (allEff st').map Prod.fst→st2[k]?=st[k]?):st2=st:=by
 apply List.ext_getElem?
 intro k
 by_cases hk:k < st'.length
 ·refine h k ?_
  rw [List.mem_map]
  refine ⟨(k,st'[k]),?_,rfl⟩
  unfold allEff
  rw [List.mem_map]
  exact ⟨(st'[k],k),by rw [List.mem_zipIdx_iff_getElem?];simp [hk],rfl⟩
 ·rw [List.getElem?_eq_none (by omega),List.getElem?_eq_none (by omega)]
theorem SrcV.congr {st st2:List Slot} {es n:Nat} {v:V} {ds:List V} {rd:List Nat} (h:SrcV st es v n ds rd) (hst:∀ k,k ∈ rd→st2[k]?=st[k]?):SrcV st2 es v n ds rd:=by
 cases h with
 | sl h=>exact .sl h
 | osl hi hl=>exact .osl (by rw [hst _ (by simp)];exact hi) hl
theorem SrcX.congr {st st2:List Slot} {es n:Nat} {v:V} {ds:List V} {rd:List Nat} (h:SrcX st es v n ds rd) (hst:∀ k,k ∈ rd→st2[k]?=st[k]?):SrcX st2 es v n ds rd:=by
 cases h with
 | v h=>exact .v (h.congr hst)
 | str he=>exact .str he
theorem AStep.congr {P:Program} {ρ ρ' : Operand→V} {st st2:List Slot} {id:Nat} {ao:AOp} {v:V} {rd:List Nat} {ef:List (Nat × Slot)} (h:AStep P ρ st id ao v rd ef) (hρ:∀ x ∈ ao.opers,ρ' x=ρ x) (hlen:st2.length=st.length) (hst:∀ k,k ∈ rd∨k ∈ ef.map Prod.fst→st2[k]?=st[k]?) :
  AStep P ρ' st2 id ao v rd ef:=by
 cases h with
 | mv x=>rw [← hρ x (by simp [AOp.opers])];exact .mv x
 | pick c a b h =>
  rename_i t
  have e:(if t then ρ a else ρ b)=(if t then ρ' a else ρ' b):=by rw [hρ a (by simp [AOp.opers]),hρ b (by simp [AOp.opers])]
  rw [e]
  exact .pick c a b (by rw [hρ c (by simp [AOp.opers])];exact h)
 | ldE h hs=>exact .ldE (by rw [hρ _ (by simp [AOp.opers])];exact h) hs
 | ldP h hi hs=>exact .ldP (by rw [hρ _ (by simp [AOp.opers])];exact h) (by rw [hst _ (by simp)];exact hi) hs
 | stP h hv h1 hl hi hf hs=>exact .stP (by rw [hρ _ (by simp [AOp.opers])];exact h) (by rw [hρ _ (by simp [AOp.opers])];exact hv) h1 hl (by rw [hst _ (by simp)];exact hi) hf hs
 | al h1 hf=>exact .al h1 (by rw [hst _ (by simp)];exact hf)
 | bx hv h1 hf=>exact .bx (by rw [hρ _ (by simp [AOp.opers])];exact hv) h1 (by rw [hst _ (by simp)];exact hf)
 | ncP h=>exact .ncP (by rw [hρ _ (by simp [AOp.opers])];exact h)
 | ncE h=>exact .ncE (by rw [hρ _ (by simp [AOp.opers])];exact h)
 | ncC h=>exact .ncC (by rw [hρ _ (by simp [AOp.opers])];exact h)
 | binI hx hy hr=>exact .binI (by rw [hρ _ (by simp [AOp.opers])];exact hx) (by rw [hρ _ (by simp [AOp.opers])];exact hy) hr
 | binSh hx hy hr=>exact .binSh (by rw [hρ _ (by simp [AOp.opers])];exact hx) (by rw [hρ _ (by simp [AOp.opers])];exact hy) hr
 | binS hx hy hr=>exact .binS (by rw [hρ _ (by simp [AOp.opers])];exact hx) (by rw [hρ _ (by simp [AOp.opers])];exact hy) hr
 | binb hx hy=>exact .binb (by rw [hρ _ (by simp [AOp.opers])];exact hx) (by rw [hρ _ (by simp [AOp.opers])];exact hy)
 | eqpP hx hy=>exact .eqpP (by rw [hρ _ (by simp [AOp.opers])];exact hx) (by rw [hρ _ (by simp [AOp.opers])];exact hy)
 | eqpQ hx hy hne hi hj=>exact .eqpQ (by rw [hρ _ (by simp [AOp.opers])];exact hx) (by rw [hρ _ (by simp [AOp.opers])];exact hy) hne (by rw [hst _ (by simp)];exact hi) (by rw [hst _ (by simp)];exact hj)
 | eqpS hx hy=>exact .eqpS (by rw [hρ _ (by simp [AOp.opers])];exact hx) (by rw [hρ _ (by simp [AOp.opers])];exact hy)
 | eqpN hx hy=>exact .eqpN (by rw [hρ _ (by simp [AOp.opers])];exact hx) (by rw [hρ _ (by simp [AOp.opers])];exact hy)
 | eqa hx hy hr hl hm=>exact .eqa (by rw [hρ _ (by simp [AOp.opers])];exact hx) (by rw [hρ _ (by simp [AOp.opers])];exact hy) hr hl hm
 | un hx hr=>exact .un (by rw [hρ _ (by simp [AOp.opers])];exact hx) hr
 | cvi hx=>exact .cvi (by rw [hρ _ (by simp [AOp.opers])];exact hx)
 | cvs hx=>exact .cvs (by rw [hρ _ (by simp [AOp.opers])];exact hx)
 | faP h=>exact .faP (by rw [hρ _ (by simp [AOp.opers])];exact h)
 | faE h hs=>exact .faE (by rw [hρ _ (by simp [AOp.opers])];exact h) hs
 | fd h hs=>exact .fd (by rw [hρ _ (by simp [AOp.opers])];exact h) hs
 | ixs h hi hj hn hes=>exact .ixs (by rw [hρ _ (by simp [AOp.opers])];exact h) (by rw [hρ _ (by simp [AOp.opers])];exact hi) hj hn hes
 | ixo h hi hj hn=>exact .ixo (by rw [hρ _ (by simp [AOp.opers])];exact h) (by rw [hρ _ (by simp [AOp.opers])];exact hi) hj hn
 | ixa h hi hj hn=>exact .ixa (by rw [hρ _ (by simp [AOp.opers])];exact h) (by rw [hρ _ (by simp [AOp.opers])];exact hi) hj hn
 | ixae h hi hj hn hs=>exact .ixae (by rw [hρ _ (by simp [AOp.opers])];exact h) (by rw [hρ _ (by simp [AOp.opers])];exact hi) hj hn hs
 | ixg h hi hj hn hs=>exact .ixg (by rw [hρ _ (by simp [AOp.opers])];exact h) (by rw [hρ _ (by simp [AOp.opers])];exact hi) hj hn hs
 | ixt h hi hj hn=>exact .ixt (by rw [hρ _ (by simp [AOp.opers])];exact h) (by rw [hρ _ (by simp [AOp.opers])];exact hi) hj hn
 | slt hx hl hl0 hh hh0 h1 h2=>exact .slt (by rw [hρ _ (by simp [AOp.opers])];exact hx) (fun y hy=>by rw [hρ _ (by simp [AOp.opers,hy])];exact hl y hy) hl0 (fun y hy=>by rw [hρ _ (by simp [AOp.opers,hy])];exact hh y hy) hh0 h1 h2
 | slsE hx hl hl0 h1 hes=>exact .slsE (by rw [hρ _ (by simp [AOp.opers])];exact hx) (fun y hy=>by rw [hρ _ (by simp [AOp.opers,hy])];exact hl y hy) hl0 h1 hes
 | sls hx hl hl0 hh hh0 h1 h2 hes=>exact .sls (by rw [hρ _ (by simp [AOp.opers])];exact hx) (fun y hy=>by rw [hρ _ (by simp [AOp.opers,hy])];exact hl y hy) hl0 (fun y hy=>by rw [hρ _ (by simp [AOp.opers,hy])];exact hh y hy) hh0 h1 h2 hes
 | slsO hx hl hl0 hh hh0 h1 h2 h3=>exact .slsO (by rw [hρ _ (by simp [AOp.opers])];exact hx) (fun y hy=>by rw [hρ _ (by simp [AOp.opers,hy])];exact hl y hy) hl0 (fun y hy=>by rw [hρ _ (by simp [AOp.opers,hy])];exact hh y hy) hh0 h1 h2 h3
 | slsZ hx hl hl0 hh=>exact .slsZ (by rw [hρ _ (by simp [AOp.opers])];exact hx) (fun y hy=>by rw [hρ _ (by simp [AOp.opers,hy])];exact hl y hy) hl0 (fun y hy=>by rw [hρ _ (by simp [AOp.opers,hy])];exact hh y hy)
 | clr hx hi hf hc hn=>exact .clr (by rw [hρ _ (by simp [AOp.opers])];exact hx) (by rw [hst _ (by simp)];exact hi) hf hc hn
 | sls3 hx hl hl0 hh hm h1 h2 hes=>exact .sls3 (by rw [hρ _ (by simp [AOp.opers])];exact hx) (fun y hy=>by rw [hρ _ (by simp [AOp.opers,hy])];exact hl y hy) hl0 (by rw [hρ _ (by simp [AOp.opers])];exact hh) (by rw [hρ _ (by simp [AOp.opers])];exact hm) h1 h2 hes
 | ex h hv=>exact .ex (by rw [hρ _ (by simp [AOp.opers])];exact h) hv
 | @bd z ps cs h=>exact .bd (by rw [show (ps.map fun p=>(p.1,p.2.1,ρ' p.2.2))=ps.map fun p=>(p.1,p.2.1,ρ p.2.2) from List.map_congr_left fun p hp=>by rw [hρ _ (List.mem_map.2 ⟨p,hp,rfl⟩)]];exact h)
 | @bs es len z ps cs h hz hf fz hfz=>exact .bs (by rw [show (ps.map fun p=>(p.1 * es,es,ρ' p.2))=ps.map fun p=>(p.1 * es,es,ρ p.2) from List.map_congr_left fun p hp=>by rw [hρ _ (List.mem_map.2 ⟨p,hp,rfl⟩)]];exact h) hz (by rw [hst _ (by simp)];exact hf) hfz
 | @mf fn caps=>rw [show caps.map ρ=caps.map ρ' from List.map_congr_left fun x hx=>(hρ x hx).symm];exact .mf
 | @cl f args vs rd v ha h =>
  have e:args.map ρ=args.map ρ':=List.map_congr_left fun x hx=>(hρ x hx).symm
  rw [e] at ha
  exact .cl (ha.congr fun k hk=>hst k (by simp [hk])) h
 | @cv f args g caps vs rd v hf hg ha h =>
  have e:args.map ρ=args.map ρ':=List.map_congr_left fun x hx=>(hρ x (by simp [AOp.opers,hx])).symm
  exact .cv (by rw [hρ _ (by simp [AOp.opers]),← e];exact hf) hg (ha.congr fun k hk=>hst k (by simp [hk])) h
 | @clS f args v st' ef h hl hef =>
  have e:args.map ρ=args.map ρ':=List.map_congr_left fun x hx=>(hρ x hx).symm
  have e2:st2=st:=all_same hlen hl (by rw [← hef];exact fun k hk=>hst k (.inr hk))
  rw [e] at h
  rw [e2]
  exact .clS h hl hef
 | @cvS f args g caps v st' ef hf hg h hl hef =>
  have e:args.map ρ=args.map ρ':=List.map_congr_left fun x hx=>(hρ x (by simp [AOp.opers,hx])).symm
  have e2:st2=st:=all_same hlen hl (by rw [← hef];exact fun k hk=>hst k (.inr hk))
  rw [e2]
  exact .cvS (by rw [hρ _ (by simp [AOp.opers]),← e];exact hf) hg h hl hef
 | @clL f args v rd ef h =>
  have e:args.map ρ=args.map ρ':=List.map_congr_left fun x hx=>(hρ x hx).symm
  rw [e] at h
  exact .clL fun st3 hl h3=>h st3 (hl.trans hlen) fun k hk=>(h3 k hk).trans (hst k hk)
 | @cvL f args g caps v rd ef hf hg h =>
  have e:args.map ρ=args.map ρ':=List.map_congr_left fun x hx=>(hρ x (by simp [AOp.opers,hx])).symm
  exact .cvL (by rw [hρ _ (by simp [AOp.opers]),← e];exact hf) hg fun st3 hl h3=>h st3 (hl.trans hlen) fun k hk=>(h3 k hk).trans (hst k hk)
 | lenT h=>exact .lenT (by rw [hρ _ (by simp [AOp.opers])];exact h)
 | lenS h=>exact .lenS (by rw [hρ _ (by simp [AOp.opers])];exact h)
 | lenO h=>exact .lenO (by rw [hρ _ (by simp [AOp.opers])];exact h)
 | mn hx hy=>exact .mn (by rw [hρ _ (by simp [AOp.opers])];exact hx) (by rw [hρ _ (by simp [AOp.opers])];exact hy)
 | mks hx hy h1 hcb hbb hfu hf hfz=>exact .mks (by rw [hρ _ (by simp [AOp.opers])];exact hx) (by rw [hρ _ (by simp [AOp.opers])];exact hy) h1 hcb hbb hfu (by rw [hst _ (by simp)];exact hf) hfz
 | s2b h=>exact .s2b (by rw [hρ _ (by simp [AOp.opers])];exact h)
 | b2sI h=>exact .b2sI (by rw [hρ _ (by simp [AOp.opers])];exact h)
 | b2sO h hi hc=>exact .b2sO (by rw [hρ _ (by simp [AOp.opers])];exact h) (by rw [hst _ (by simp)];exact hi) hc
 | @apZ es bytes s x n ds rd rd' h1 h2 =>
  rw [← hρ s (by simp [AOp.opers])] at h1 ⊢
  rw [← hρ x (by simp [AOp.opers])] at h2
  exact .apZ (h1.congr fun k hk=>hst k (by simp [hk])) (h2.congr fun k hk=>hst k (by simp [hk]))
 | @apN es bytes s x n ds rd k ds' rd' h1 h2 h3 h4 h5 h6 h7 fz hfz =>
  rw [← hρ s (by simp [AOp.opers])] at h1 h2
  rw [← hρ x (by simp [AOp.opers])] at h3
  exact .apN (h1.congr fun k hk=>hst k (by simp [hk])) h2 (h3.congr fun k hk=>hst k (by simp [hk])) h4 h5 h6 (by rw [hst _ (by simp)];exact h7) hfz
 | @apO es bytes s x i n cs frz k ds' rd' h1 h2 h3 h4 h5 h6 h7 h8 h9 fz hfz0 hfz =>
  rw [← hρ s (by simp [AOp.opers])] at h1
  rw [← hρ x (by simp [AOp.opers])] at h5
  exact .apO h1 (by rw [hst _ (by simp)];exact h2) h3 h4 (h5.congr fun k hk=>hst k (by simp [hk])) h6 h7 h8 (by rw [hst _ (by simp)];exact h9) hfz0 hfz
end Go.Proofs.YtpkodpcfafipdaaGreatDoor

namespace Go.Proofs.YtpkodpcfafipdaaGreatDoor
open Go.RowKit
structure AOper where
 dst:Option Nat
 op:AOp
 guard:Option (Nat × Bool)
 c:Nat
 deriving Inhabited
def gval:Option (Nat × Bool)→List V→Option Bool
 | none,_=>some true
 | some (t,want),fr=>match fr.getD t .any with
  | .lit (.bool b)=>some (b == want)
  | .tup []=>some false
  | _=>none
def putF (fr:List V):Option Nat→V→List V
 | none,_=>fr
 | some d,v=>fr.set d v
def AOper.names (o:AOper):List Nat:=(o.op.opers.filterMap fun x=>match x with | .tmp t=>some t | _=>none)++(match o.guard with | some (d,_)=>[d] | none=>[])
def MatchOp (P:Program) (ops:Array Oper) (o:Oper) (ao:AOper):Prop :=
 Cop P o.op o.type ao.op∧o.dst=ao.dst∧(match o.guard,ao.guard with | none,none=>True | some (j,w),some (d,w')=>w=w'∧(ops[j]?).bind (·.dst)=some d | _,_=>False)
structure Org where
 world:World
 mark:Bool
def recD (D:Nat):Deferred:={ target:=.collected D,args:=#[] }
def DefOk (B:Kp) (w0:Org) (ds:List Deferred) (w:World):Prop:=∃ Ds:List Nat,ds=Ds.map recD∧(w0.mark=true∨Ds=[])∧Ds.Nodup∧∀ D ∈ Ds,w.heap[D]?=some (.deferred (some []))∧w0.world.heap.size≤D∧B.ok D
theorem DefOk.nil {B:Kp} {w0:Org} {w:World}:DefOk B w0 [] w:=⟨[],rfl,.inr rfl,.nil,fun _ h=>by cases h⟩
theorem DefOk.none {B:Kp} {w0:World} {ds:List Deferred} {w:World} (h:DefOk B ⟨w0,false⟩ ds w):ds=[]:=by
 obtain ⟨Ds,rfl,h,_⟩:=h
 rcases h with h | rfl
 ·cases h
 ·rfl
theorem DefOk.bel {B B' : Kp} {w0:Org} {w w' : World} {ds:List Deferred} (h:DefOk B w0 ds w) (hb:Bel B' w w'):DefOk B w0 ds w':=by
 obtain ⟨Ds,h1,h2,h3,h4⟩:=h
 exact ⟨Ds,h1,h2,h3,fun D hD=>⟨hb.oth _ _ (h4 D hD).1 rfl,(h4 D hD).2⟩⟩
theorem DefOk.cons {B:Kp} {w0:Org} {w w' : World} {ds:List Deferred} {D:Nat} (h:DefOk B w0 ds w) (hb:Bel B w w') (hm:w0.mark=true) (hD:w'.heap[D]?=some (.deferred (some []))) (h1:w.heap.size≤D) (h2:w0.world.heap.size≤D) (h3:B.ok D):DefOk B w0 (recD D :: ds) w':=by
 have hn:∀ Ds:List Nat,(∀ D ∈ Ds,w.heap[D]?=some (.deferred (some []))∧w0.world.heap.size≤D∧B.ok D)→D ∉ Ds:=fun Ds h4 hm=>by
  have:=(Array.getElem?_eq_some_iff.1 (h4 D hm).1).1
  omega
 obtain ⟨Ds,g1,g2,g3,g4⟩:=h
 refine ⟨D :: Ds,by rw [g1];rfl,.inl hm,List.nodup_cons.2 ⟨hn Ds g4,g3⟩,fun E hE=>?_⟩
 rcases List.mem_cons.1 hE with rfl | hE
 ·exact ⟨hD,h2,h3⟩
 ·exact ⟨hb.oth _ _ (g4 E hE).1 rfl,(g4 E hE).2⟩
def Cn (B:Kp) (m0:Mem) (bk0:Bks) (w0:Org) (a:Act) (w:World) (fr:List V) (st:List Slot):Prop:=∃ m bk,Sim B m0 m bk w st∧FrRep m bk a.tmps fr∧DefOk B w0 a.defers w∧Bel B w0.world w∧∀ id x,bk0 id=some x→bk id=some x
inductive Run (P:Program) (base:Nat):List AOper→List V→List Slot→List (List Nat × List Nat)→List V→List Slot→Prop
 | nil {fr st}:Run P base [] fr st [] fr st
 | on {o os fr st v rd ef fp fr' st'} (hg:gval o.guard fr=some true) (hs:AStep P (evO fr) st (base + o.c) o.op v rd ef) (h:Run P base os (putF fr o.dst v) (AStep.eff st ef) fp fr' st'):Run P base (o :: os) fr st ((rd,ef.map Prod.fst) :: fp) fr' st'
 | off {o os fr st fp fr' st'} (hg:gval o.guard fr=some false) (h:Run P base os (putF fr o.dst (.tup [])) st fp fr' st'):Run P base (o :: os) fr st (([],[]) :: fp) fr' st'
section
variable {P : Program} {ops : Array Oper} {o : Oper} {a : Act} {w : World} {w0 : Org} {K : Act → World → Prop} {Q : Exit → Act → World → Prop} {B : Kp} {m0 : Mem} {bk0 : Bks} {st : List Slot} {fr : List V}
theorem FrRep.put {m:Mem} {bk:Bks} (h:FrRep m bk a.tmps fr) {c:Value} {v:V} (hv:Rep m bk c v) (d:Option Nat):FrRep m bk (a.put d c).tmps (putF fr d v):=by
 cases d with
 | none=>exact h
 | some d =>
  refine ⟨by simpa [Act.put,putF] using h.1,fun j h1 h2=>?_⟩
  simp only [Act.put,putF] at h1 h2 ⊢
  rw [Array.getElem_setIfInBounds (by simpa using h1),List.getElem_set]
  by_cases e:d=j
  ·subst e;simp;exact hv
  ·simp only [e,if_false];exact h.2 j (by simpa using h1) (by simpa using h2)
theorem FrRep.mono {m m' : Mem} {bk bk' : Bks} {tmps:Array Value} (h:FrRep m bk tmps fr) (hm:∀ a u,m a=some u→m' a=some u) (hb:∀ id x,bk id=some x→bk' id=some x):FrRep m' bk' tmps fr :=
 ⟨h.1,fun j h1 h2=>(h.2 j h1 h2).mono hm hb⟩
theorem gval_sound {m:Mem} {bk:Bks} {ao:AOper} {g:Bool} (hfr:FrRep m bk a.tmps fr) (hm:MatchOp P ops o ao) (hg:gval ao.guard fr=some g):Region.wanted o (yielded ops a.tmps)=g:=by
 obtain ⟨_,_,h⟩:=hm
 cases hog:o.guard with
 | none =>
  cases hag:ao.guard with
  | none=>rw [hag] at hg;simp only [gval,Option.some.injEq] at hg;simp [Region.wanted,hog,hg]
  | some x=>rw [hog,hag] at h;exact h.elim
 | some jw =>
  obtain ⟨j,want⟩:=jw
  cases hag:ao.guard with
  | none=>rw [hog,hag] at h;exact h.elim
  | some x =>
   obtain ⟨d,want'⟩:=x
   rw [hog,hag] at h
   obtain ⟨rfl,hd⟩:=h
   rw [hag] at hg
   simp only [gval] at hg
   have hy:yielded ops a.tmps j=match a.tmps[d]? with | some (.bool b)=>some b | _=>none:=by simp [yielded,hd];rfl
   simp only [Region.wanted,hog,hy]
   by_cases hlt:d < fr.length
   ·have hlt' : d < a.tmps.size:=by rw [hfr.1];exact hlt
    have hr:=hfr.2 d hlt' hlt
    have e:fr.getD d .any=fr[d]:=by simp [List.getD,hlt]
    have e2:a.tmps[d]?=some a.tmps[d]:=by simp [hlt']
    rw [e] at hg
    rw [e2]
    generalize fr[d]=v at *
    generalize a.tmps[d]=u at *
    split at hg
    ·have:=hr.int
     rw [this]
     simpa using hg
    ·simp only [Option.some.injEq] at hg
     subst hg
     cases hr with
     | tup hl _=>simp
    ·cases hg
   ·have e:fr.getD d .any=.any:=by simp [List.getD,hlt]
    rw [e] at hg
    simp at hg
theorem Cn.step (hg:GM m0) (h:Cn B m0 bk0 w0 a w fr st) {i:Nat} {ao:AOper} (hi:ops[i]?=some o) (hm:MatchOp P ops o ao) {v:V} {rd:List Nat} {ef:List (Nat × Slot)} {id:Nat} (hgv:gval ao.guard fr=some true) (hs:AStep P (evO fr) st id ao.op v rd ef)
  (hK:∀ a' w',Cn B m0 bk0 w0 a' w' (putF fr ao.dst v) (AStep.eff st ef)→K a' w'):wpOp P ops Q i K a w:=by
 obtain ⟨m,bk,hsim,hfr,hd,hb,hbk⟩:=h
 have hgm:GM m:=by obtain ⟨n,hn⟩:=hg;exact ⟨n,hsim.ext _ _ hn⟩
 have hw:=gval_sound hfr hm hgv
 unfold wpOp
 simp only [hi,hw,if_true]
 left
 refine op_sound hm.1 hs hsim hgm hfr fun c w' hA=>?_
 obtain ⟨m',bk',h1,h2,h3,h4,h5⟩:=hA
 refine hK _ _ ⟨m',bk',h1,?_,?_,hb.trans h5,fun id x h=>h4 _ _ (hbk _ _ h)⟩
 ·rw [hm.2.1];exact (hfr.mono h3 h4).put h2 _
 ·cases o.dst <;> exact hd.bel h5
theorem Cn.skip (h:Cn B m0 bk0 w0 a w fr st) {i:Nat} {ao:AOper} (hi:ops[i]?=some o) (hm:MatchOp P ops o ao) (hgv:gval ao.guard fr=some false)
  (hK:∀ a' w',Cn B m0 bk0 w0 a' w' (putF fr ao.dst (.tup [])) st→K a' w'):wpOp P ops Q i K a w:=by
 obtain ⟨m,bk,hsim,hfr,hd,hb,hbk⟩:=h
 have hw:=gval_sound hfr hm hgv
 unfold wpOp
 simp only [hi,hw,Bool.false_eq_true,if_false]
 refine hK _ _ ⟨m,bk,hsim,?_,?_,hb,hbk⟩
 ·rw [hm.2.1];exact hfr.put (.tup rfl fun j h1 _=>absurd h1 (Nat.not_lt_zero _)) _
 ·cases o.dst <;> exact hd
theorem Cn.drew (h:Cn B m0 bk0 w0 a w fr st):Cn B m0 bk0 w0 a { w with drawn:=w.drawn + 1 } fr st:=by
 obtain ⟨m,bk,hsim,hfr,hd,hb,hbk⟩:=h
 exact ⟨m,bk,hsim.world (Nat.le_refl _) fun _ _=>rfl,hfr,hd,hb.drew,hbk⟩
theorem run_text (hg:GM m0) {base:Nat}:∀ (aos:List AOper) (i:Nat) (fr fr' : List V) (st st' : List Slot) (fp:List (List Nat × List Nat)) (a:Act) (w:World),Run P base aos fr st fp fr' st'→i + aos.length=ops.size →
  (∀ j (h:j < aos.length) (o:Oper),ops[i + j]?=some o→MatchOp P ops o aos[j])→Cn B m0 bk0 w0 a w fr st→(∀ a w,Cn B m0 bk0 w0 a w fr' st'→Q .normal a w)→wpOps P ops Q (List.range' i aos.length) a w
 | [],i,fr,fr',st,st',fp,a,w,hr,hn,hm,hc,hQ=>by
  cases hr
  exact hQ _ _ hc
 | ao :: aos,i,fr,fr',st,st',fp,a,w,hr,hn,hm,hc,hQ=>by
  have hi:i < ops.size:=by simp at hn;omega
  have ho:ops[i]?=some ops[i]:=by simp [hi]
  have hm0:=hm 0 (by simp) ops[i] (by simpa using ho)
  simp only [List.getElem_cons_zero] at hm0
  have hm' : ∀ j (h:j < aos.length) (o:Oper),ops[i + 1 + j]?=some o→MatchOp P ops o aos[j]:=fun j h o hoj=>by
   have:=hm (j + 1) (by simpa using h) o (by rw [show i + (j + 1)=i + 1 + j by omega];exact hoj)
   simpa using this
  rw [List.length_cons,List.range'_succ,wpOps_cons]
  cases hr with
  | on hgv hs h=>exact hc.step hg ho hm0 hgv hs fun a' w' hc'=>run_text hg aos (i + 1) _ _ _ _ _ a' w' h (by simp at hn;omega) hm' hc' hQ
  | off hgv h=>exact hc.skip ho hm0 hgv fun a' w' hc'=>run_text hg aos (i + 1) _ _ _ _ _ a' w' h (by simp at hn;omega) hm' hc' hQ
end
structure Tr (P:Program) (base:Nat) (aos:List AOper) (fps:List (List Nat × List Nat)) (F:Nat→List V) (S:Nat→List Slot):Prop where
 len:fps.length=aos.length
 step:∀ i (h:i < aos.length) (h2:i < fps.length),(gval aos[i].guard (F i)=some true∧∃ v ef,AStep P (evO (F i)) (S i) (base + aos[i].c) aos[i].op v fps[i].1 ef∧fps[i].2=ef.map Prod.fst∧F (i + 1)=putF (F i) aos[i].dst v∧S (i + 1)=AStep.eff (S i) ef) ∨
  (gval aos[i].guard (F i)=some false∧fps[i]=([],[])∧F (i + 1)=putF (F i) aos[i].dst (.tup [])∧S (i + 1)=S i)
theorem run_trace {P:Program} {base:Nat} {aos:List AOper} {fr fr' : List V} {st st' : List Slot} {fps:List (List Nat × List Nat)} (h:Run P base aos fr st fps fr' st') :
  ∃ F S,Tr P base aos fps F S∧F 0=fr∧S 0=st∧F aos.length=fr'∧S aos.length=st':=by
 induction h with
 | @nil fr st=>exact ⟨fun _=>fr,fun _=>st,⟨rfl,fun i h _=>absurd h (by simp)⟩,rfl,rfl,rfl,rfl⟩
 | @on o os fr st v rd ef fp fr' st' hg hs h ih =>
  obtain ⟨F,S,ht,h1,h2,h3,h4⟩:=ih
  refine ⟨fun i=>match i with | 0=>fr | i + 1=>F i,fun i=>match i with | 0=>st | i + 1=>S i,⟨by simp [ht.len],fun i h h2'=>?_⟩,rfl,rfl,h3,h4⟩
  cases i with
  | zero=>exact .inl ⟨hg,v,ef,hs,rfl,h1,h2⟩
  | succ i=>simpa using ht.step i (by simpa using h) (by simpa using h2')
 | @off o os fr st fp fr' st' hg h ih =>
  obtain ⟨F,S,ht,h1,h2,h3,h4⟩:=ih
  refine ⟨fun i=>match i with | 0=>fr | i + 1=>F i,fun i=>match i with | 0=>st | i + 1=>S i,⟨by simp [ht.len],fun i h h2'=>?_⟩,rfl,rfl,h3,h4⟩
  cases i with
  | zero=>exact .inr ⟨hg,rfl,h1,h2⟩
  | succ i=>simpa using ht.step i (by simpa using h) (by simpa using h2')
theorem eff_len (st:List Slot):∀ ef:List (Nat × Slot),(AStep.eff st ef).length=st.length
 | []=>rfl
 | (i,s) :: r=>by rw [AStep.eff,eff_len _ r];simp
theorem eff_other:∀ (ef:List (Nat × Slot)) (st:List Slot) (k:Nat),k ∉ ef.map Prod.fst→(AStep.eff st ef)[k]?=st[k]?
 | [],_,_,_=>rfl
 | (i,s) :: r,st,k,h=>by
  simp only [List.map_cons,List.mem_cons,not_or] at h
  rw [AStep.eff,eff_other r _ k h.2,List.getElem?_set,if_neg (fun e=>h.1 e.symm)]
theorem eff_same:∀ (ef:List (Nat × Slot)) (st st2:List Slot) (k:Nat),st.length=st2.length→(k ∉ ef.map Prod.fst→st[k]?=st2[k]?)→(AStep.eff st ef)[k]?=(AStep.eff st2 ef)[k]?
 | [],_,_,_,_,h=>h (by simp)
 | (i,s) :: r,st,st2,k,hl,h=>by
  rw [AStep.eff,AStep.eff]
  refine eff_same r _ _ k (by simpa using hl) fun hk=>?_
  rw [List.getElem?_set,List.getElem?_set]
  by_cases e:i=k
  ·subst e;simp [hl]
  ·rw [if_neg e,if_neg e]
   exact h (by simp only [List.map_cons,List.mem_cons,not_or];exact ⟨fun q=>e q.symm,hk⟩)
end Go.Proofs.YtpkodpcfafipdaaGreatDoor

namespace Go.Proofs.YtpkodpcfafipdaaGreatDoor
open Go.RowKit
structure RegOK (ops:Array Oper) (aos:List AOper) (bef:List (List Nat)):Prop where
 edges:∀ j (o:Oper),ops[j]?=some o→∀ e ∈ o.after,Region.binds .any e=true→e.on < j
 clos:∀ j (o:Oper),ops[j]?=some o→∀ i ∈ bef.getD j [],∃ e ∈ o.after,Region.binds .any e=true∧(e.on=i∨i ∈ bef.getD e.on [])
 data:∀ i j (hi:i < aos.length) (hj:j < aos.length),i < j→i ∈ bef.getD j []∨((∀ d,aos[i].dst=some d→d ∉ aos[j].names)∧(∀ d,aos[j].dst=some d→d ∉ aos[i].names))
 uniq:∀ i j (hi:i < aos.length) (hj:j < aos.length),i≠j→∀ d,aos[i].dst=some d→aos[j].dst≠some d
def FootOK (bef:List (List Nat)) (fps:List (List Nat × List Nat)):Prop :=
 ∀ i j (hi:i < fps.length) (hj:j < fps.length),i < j→i ∈ bef.getD j []∨∀ k,¬ (k ∈ fps[i].2∧(k ∈ fps[j].1∨k ∈ fps[j].2))∧¬ (k ∈ fps[i].1∧k ∈ fps[j].2)
section
variable {P : Program} {ops : Array Oper} {w0 : Org} {Q : Exit → Act → World → Prop} {B : Kp} {m0 : Mem} {bk0 : Bks} {aos : List AOper} {bef : List (List Nat)} {fps : List (List Nat × List Nat)} {F : Nat → List V} {S : Nat → List Slot} {base : Nat}
theorem tr_len (ht:Tr P base aos fps F S):∀ i,i≤aos.length→(F i).length=(F 0).length∧(S i).length=(S 0).length
 | 0,_=>⟨rfl,rfl⟩
 | i + 1,h=>by
  obtain ⟨h1,h2⟩:=tr_len ht i (by omega)
  have put:∀ (d:Option Nat) (v:V),(putF (F i) d v).length=(F i).length:=by intro d v;cases d <;> simp [putF]
  rcases ht.step i (by omega) (by rw [ht.len];omega) with ⟨_,v,ef,_,_,e1,e2⟩ | ⟨_,_,e1,e2⟩
  ·rw [e1,e2,put,eff_len];exact ⟨h1,h2⟩
  ·rw [e1,e2,put];exact ⟨h1,h2⟩
theorem tr_F (ht:Tr P base aos fps F S) {t:Nat} (i:Nat) (hi:i < aos.length) (h:aos[i].dst≠some t):(F (i + 1))[t]?=(F i)[t]?:=by
 have put:∀ (d:Option Nat) (v:V),d≠some t→(putF (F i) d v)[t]?=(F i)[t]?:=by
  intro d v hd
  cases d with
  | none=>rfl
  | some d=>simp only [putF];rw [List.getElem?_set,if_neg (fun e=>hd (by rw [e]))]
 rcases ht.step i hi (by rw [ht.len];omega) with ⟨_,v,ef,_,_,e1,e2⟩ | ⟨_,_,e1,e2⟩
 ·rw [e1,put _ _ h]
 ·rw [e1,put _ _ h]
theorem tr_Fc (ht:Tr P base aos fps F S) {t a:Nat}:∀ b,a≤b→b≤aos.length→(∀ j (hj:j < aos.length),a≤j→j < b→aos[j].dst≠some t)→(F b)[t]?=(F a)[t]?
 | 0,h,_,_=>by have:a=0:=(by omega);subst this;rfl
 | b + 1,h,hb,hn=>by
  by_cases e:a=b + 1
  ·subst e;rfl
  ·rw [tr_F ht b (by omega) (hn b (by omega) (by omega) (by omega))]
   exact tr_Fc ht b (by omega) (by omega) fun j hj h1 h2=>hn j hj h1 (by omega)
theorem tr_S (ht:Tr P base aos fps F S) {k:Nat} (i:Nat) (hi:i < fps.length) (h:k ∉ fps[i].2):(S (i + 1))[k]?=(S i)[k]?:=by
 rcases ht.step i (by rw [← ht.len];exact hi) hi with ⟨_,v,ef,_,e0,e1,e2⟩ | ⟨_,_,e1,e2⟩
 ·rw [e2];exact eff_other _ _ _ (by rw [← e0];exact h)
 ·rw [e2]
theorem tr_Sc (ht:Tr P base aos fps F S) {k a:Nat}:∀ b,a≤b→b≤fps.length→(∀ j (hj:j < fps.length),a≤j→j < b→k ∉ fps[j].2)→(S b)[k]?=(S a)[k]?
 | 0,h,_,_=>by have:a=0:=(by omega);subst this;rfl
 | b + 1,h,hb,hn=>by
  by_cases e:a=b + 1
  ·subst e;rfl
  ·rw [tr_S ht b (by omega) (hn b (by omega) (by omega) (by omega))]
   exact tr_Sc ht b (by omega) (by omega) fun j hj h1 h2=>hn j hj h1 (by omega)
structure Inv (P:Program) (ops:Array Oper) (B:Kp) (m0:Mem) (bk0:Bks) (w0:Org) (aos:List AOper) (fps:List (List Nat × List Nat)) (F:Nat→List V) (S:Nat→List Slot) (listed:Array Bool) (a:Act) (w:World):Prop where
 down:∀ j,listed.getD j false=true→∀ o,ops[j]?=some o→∀ e ∈ o.after,Region.binds .any e=true→listed.getD e.on false=true
 size:listed.size=ops.size
 st:∃ frS stS,Cn B m0 bk0 w0 a w frS stS∧frS.length=(F 0).length∧stS.length=(S 0).length ∧
  (∀ t,(∀ i (hi:i < aos.length),listed.getD i false=true→aos[i].dst≠some t)→frS[t]?=(F 0)[t]?) ∧
  (∀ t i (hi:i < aos.length),listed.getD i false=true→aos[i].dst=some t→frS[t]?=(F aos.length)[t]?) ∧
  ∀ k,∃ p,p≤aos.length∧stS[k]?=(S p)[k]?∧∀ i (hi:i < fps.length),k ∈ fps[i].2→(listed.getD i false=true ↔ i < p)
theorem listed_lt {listed:Array Bool} {j:Nat} (h:listed.getD j false=true):j < listed.size:=by
 rcases Nat.lt_or_ge j listed.size with g | g
 ·exact g
 ·simp [Array.getD,Nat.not_lt.2 g] at h
theorem down_bef (hreg:RegOK ops aos bef) {listed:Array Bool} (hsz:listed.size=ops.size) (hdown:∀ j,listed.getD j false=true→∀ o,ops[j]?=some o→∀ e ∈ o.after,Region.binds .any e=true→listed.getD e.on false=true) :
  ∀ (j i:Nat),listed.getD j false=true→i ∈ bef.getD j []→listed.getD i false=true:=by
 intro j
 induction j using Nat.strongRecOn with
 | _ j ih =>
  intro i hj hi
  have hlt:=listed_lt hj
  have ho:ops[j]?=some (ops[j]'(by omega)):=by simp
  obtain ⟨e,he,hb,h⟩:=hreg.clos j _ ho i hi
  have hl:=hdown j hj _ ho e he hb
  rcases h with rfl | h
  ·exact hl
  ·exact ih e.on (hreg.edges j _ ho e he hb) i hl h
theorem ev_same {fr fr2:List V} {o:AOp} (h:∀ t,Operand.tmp t ∈ o.opers→fr2[t]?=fr[t]?):∀ x ∈ o.opers,evO fr2 x=evO fr x:=by
 intro x hx
 cases x with
 | tmp t=>show fr2.getD t .any=fr.getD t .any;rw [List.getD,List.getD,h t hx]
 | _=>rfl
theorem names_oper {o:AOper} {t:Nat} (h:Operand.tmp t ∈ o.op.opers):t ∈ o.names:=by
 unfold AOper.names
 rw [List.mem_append]
 left
 rw [List.mem_filterMap]
 exact ⟨_,h,rfl⟩
theorem gval_same {fr fr2:List V} {g:Option (Nat × Bool)} (h:∀ d b,g=some (d,b)→fr2[d]?=fr[d]?):gval g fr2=gval g fr:=by
 cases g with
 | none=>rfl
 | some x=>obtain ⟨d,b⟩:=x;simp only [gval,List.getD,h d b rfl]
theorem inv_step (hreg:RegOK ops aos bef) (hfoot:FootOK bef fps) (ht:Tr P base aos fps F S) (hg:GM m0) (hn:ops.size=aos.length) (hmatch:∀ j (h:j < aos.length) (o:Oper),ops[j]?=some o→MatchOp P ops o aos[j])
  {listed:Array Bool} {a:Act} {w:World} (hinv:Inv P ops B m0 bk0 w0 aos fps F S listed a w) {i:Nat} (hr:i ∈ Region.ready .any ops listed) {K:Act→World→Prop}
  (hK:∀ a w,Inv P ops B m0 bk0 w0 aos fps F S (listed.setIfInBounds i true) a w→K a w):wpOp P ops Q i K a w:=by
 obtain ⟨frS,stS,hcn,hfl,hsl,hf0,hf1,hst⟩:=hinv.st
 rw [mem_ready] at hr
 obtain ⟨hni,o,ho,hpre⟩:=hr
 have hio:i < ops.size:=(Array.getElem?_eq_some_iff.1 ho).1
 have hi:i < aos.length:=by omega
 have hif:i < fps.length:=by rw [ht.len];exact hi
 have his:i < listed.size:=by rw [hinv.size];exact hio
 have hnl:¬ listed.getD i false=true:=by
  intro h
  rw [Array.getD,dif_pos his] at h hni
  rw [h] at hni;cases hni
 have down:=down_bef hreg hinv.size hinv.down
 have hbef:∀ j,j ∈ bef.getD i []→listed.getD j false=true:=fun j hj=>by
  obtain ⟨e,he,hb,h⟩:=hreg.clos i o ho j hj
  rcases h with rfl | h
  ·exact hpre e he hb
  ·exact down _ _ (hpre e he hb) h
 have hnm:∀ t,t ∈ aos[i].names→frS[t]?=(F i)[t]?:=by
  intro t htn
  by_cases hw:∃ j,∃ hj:j < aos.length,listed.getD j false=true∧aos[j].dst=some t
  ·obtain ⟨j,hj,hlj,hdj⟩:=hw
   have hji:j < i:=by
    rcases Nat.lt_trichotomy j i with h | h | h
    ·exact h
    ·subst h;exact absurd hlj hnl
    ·rcases hreg.data i j hi hj h with g | ⟨_,g⟩
     ·exact absurd (down j i hlj g) hnl
     ·exact absurd htn (g t hdj)
   rw [hf1 t j hj hlj hdj]
   refine tr_Fc ht _ (by omega) (Nat.le_refl _) fun l hl h1 _ hdl=>?_
   exact hreg.uniq j l hj hl (by omega) t hdj hdl
  ·rw [hf0 t fun j hj hlj hdj=>hw ⟨j,hj,hlj,hdj⟩]
   refine (tr_Fc ht _ (Nat.zero_le _) (by omega) fun l hl _ h1 hdl=>?_).symm
   rcases hreg.data l i hl hi h1 with g | ⟨g,_⟩
   ·exact hw ⟨l,hl,hbef l g,hdl⟩
   ·exact g t hdl htn
 have hwr:∀ k,(k ∈ fps[i].1∨k ∈ fps[i].2)→(∀ j (hj:j < fps.length),k ∈ fps[j].2→j < i→listed.getD j false=true)∧(∀ j (hj:j < fps.length),k ∈ fps[j].2→i < j→¬ listed.getD j false=true):=by
  intro k hk
  refine ⟨fun j hj hkj hji=>?_,fun j hj hkj hij hlj=>?_⟩
  ·rcases hfoot j i hj hif hji with g | g
   ·exact hbef j g
   ·exact absurd ⟨hkj,hk⟩ (g k).1
  ·rcases hfoot i j hif hj hij with g | g
   ·exact hnl (down j i hlj g)
   ·rcases hk with hk | hk
    ·exact (g k).2 ⟨hk,hkj⟩
    ·exact (g k).1 ⟨hk,.inr hkj⟩
 have hsk:∀ k,(k ∈ fps[i].1∨k ∈ fps[i].2)→stS[k]?=(S i)[k]?:=by
  intro k hk
  obtain ⟨p,hp,hsp,hiff⟩:=hst k
  obtain ⟨hA,hB⟩:=hwr k hk
  rw [hsp]
  rcases Nat.le_total p i with h | h
  ·refine (tr_Sc ht _ h (by omega) fun j hj h1 h2 hkj=>?_).symm
   have:=(hiff j hj hkj).1 (hA j hj hkj h2)
   omega
  ·refine tr_Sc ht _ h (by rw [ht.len];exact hp) fun j hj h1 h2 hkj=>?_
   have hlj:=(hiff j hj hkj).2 h2
   rcases Nat.lt_or_ge i j with g | g
   ·exact hB j hj hkj g hlj
   ·have:j=i:=by omega
    subst this
    exact hnl hlj
 have after:∀ (v:V) (ef:List (Nat × Slot)) (a' : Act) (w' : World),fps[i].2=ef.map Prod.fst→F (i + 1)=putF (F i) aos[i].dst v→S (i + 1)=AStep.eff (S i) ef→Cn B m0 bk0 w0 a' w' (putF frS aos[i].dst v) (AStep.eff stS ef) →
   Inv P ops B m0 bk0 w0 aos fps F S (listed.setIfInBounds i true) a' w':=by
  intro v ef a' w' e0 e1 e2 hc
  have hself:(listed.setIfInBounds i true).getD i false=true:=by
   rw [Array.getD,dif_pos (by simpa using his)];simp
  have hlen:∀ (l:List V) (d:Option Nat),(putF l d v).length=l.length:=by intro l d;cases d <;> simp [putF]
  have hoth:∀ (l:List V) (t:Nat),aos[i].dst≠some t→(putF l aos[i].dst v)[t]?=l[t]?:=by
   intro l t h
   cases hd:aos[i].dst with
   | none=>rfl
   | some d=>simp only [putF];rw [List.getElem?_set,if_neg (fun e=>h (by rw [hd,e]))]
  refine ⟨fun j hj o' ho' e he hb=>?_,by simpa using hinv.size,putF frS aos[i].dst v,AStep.eff stS ef,hc,by rw [hlen,hfl],by rw [eff_len,hsl],fun t hno=>?_,fun t j hj hlj hdj=>?_,fun k=>?_⟩
  ·by_cases e' : i=j
   ·subst e'
    rw [ho] at ho'
    injection ho' with ho'
    subst ho'
    exact getD_set_true (hpre e he hb)
   ·rw [getD_set_ne false e'] at hj
    exact getD_set_true (hinv.down j hj o' ho' e he hb)
  ·rw [hoth _ _ (hno i hi hself)]
   exact hf0 t fun j hj hlj=>hno j hj (getD_set_true hlj)
  ·by_cases e' : i=j
   ·subst e'
    have e3:(F aos.length)[t]?=(F (i + 1))[t]?:=tr_Fc ht _ (by omega) (Nat.le_refl _) fun l hl h1 _ hdl=>hreg.uniq i l hi hl (by omega) t hdj hdl
    rw [e3,e1,hdj]
    simp only [putF]
    rw [List.getElem?_set,List.getElem?_set,hfl,(tr_len ht i (by omega)).1]
    simp
   ·rw [getD_set_ne false e'] at hlj
    rw [hoth _ _ (hreg.uniq j i hj hi (fun q=>e' q.symm) t hdj)]
    exact hf1 t j hj hlj hdj
  ·by_cases hk:k ∈ fps[i].2
   ·refine ⟨i + 1,hi,?_,fun j hj hkj=>?_⟩
    ·rw [e2]
     exact eff_same ef _ _ k (by rw [hsl,(tr_len ht i (by omega)).2]) fun _=>hsk k (.inr hk)
    ·obtain ⟨hA,hB⟩:=hwr k (.inr hk)
     by_cases e' : i=j
     ·subst e';exact ⟨fun _=>by omega,fun _=>hself⟩
     ·rw [getD_set_ne false e']
      rcases Nat.lt_or_ge j i with g | g
      ·exact ⟨fun _=>by omega,fun _=>hA j hj hkj g⟩
      ·exact ⟨fun q=>absurd q (hB j hj hkj (by omega)),fun q=>by omega⟩
   ·obtain ⟨p,hp,hsp,hiff⟩:=hst k
    refine ⟨p,hp,?_,fun j hj hkj=>?_⟩
    ·rw [eff_other _ _ _ (by rw [← e0];exact hk)];exact hsp
    ·have e' : i≠j:=fun q=>by subst q;exact hk hkj
     rw [getD_set_ne false e']
     exact hiff j hj hkj
 have hgd:∀ d b,aos[i].guard=some (d,b)→frS[d]?=(F i)[d]?:=fun d b h=>hnm d (by unfold AOper.names;rw [h];simp)
 have hm:=hmatch i hi o ho
 rcases ht.step i hi hif with ⟨g1,v,ef,hs,e0,e1,e2⟩ | ⟨g1,e0,e1,e2⟩
 ·refine hcn.step (v:=v) (rd:=fps[i].1) (ef:=ef) hg ho hm (by rw [gval_same hgd];exact g1) (hs.congr (ev_same fun t htn=>hnm t (names_oper htn)) (by rw [hsl,(tr_len ht i (by omega)).2]) fun k hk=>hsk k (by rw [e0];exact hk)) fun a' w' hc=>hK a' w' (after v ef a' w' e0 e1 e2 hc)
 ·refine hcn.skip ho hm (by rw [gval_same hgd];exact g1) fun a' w' hc=>hK a' w' (after _ [] a' w' (by rw [e0];rfl) e1 e2 hc)
def unl (listed:Array Bool) (n:Nat):Nat:=(List.range n).countP fun i=>!listed.getD i false
theorem countP_lt {α:Type} {p q:α→Bool}:∀ {l:List α} (_:∀ x,q x=true→p x=true) {x:α},x ∈ l→p x=true→q x=false→l.countP q < l.countP p
 | y :: l,h,x,hx,hp,hq=>by
  have hle:∀ l:List α,l.countP q≤l.countP p:=fun l=>List.countP_mono_left fun z _ hz=>h z hz
  rcases List.mem_cons.1 hx with rfl | hx
  ·rw [List.countP_cons_of_pos hp,List.countP_cons_of_neg (by simp [hq])]
   have:=hle l;omega
  ·have ih:=countP_lt h hx hp hq
   rw [List.countP_cons,List.countP_cons]
   have:(if q y=true then 1 else 0)≤(if p y=true then 1 else 0):=by
    by_cases hy:q y=true
    ·rw [if_pos hy,if_pos (h y hy)];exact Nat.le_refl _
    ·rw [if_neg hy];exact Nat.zero_le _
   omega
theorem inv_done (ht:Tr P base aos fps F S) (hn:ops.size=aos.length) {listed:Array Bool} {a:Act} {w:World} (hinv:Inv P ops B m0 bk0 w0 aos fps F S listed a w) (hall:∀ i,i < ops.size→listed.getD i false=true) :
  Cn B m0 bk0 w0 a w (F aos.length) (S aos.length):=by
 obtain ⟨frS,stS,hcn,hfl,hsl,hf0,hf1,hst⟩:=hinv.st
 have e1:frS=F aos.length:=by
  apply List.ext_getElem?
  intro t
  by_cases hw:∃ j,∃ hj:j < aos.length,aos[j].dst=some t
  ·obtain ⟨j,hj,hd⟩:=hw
   exact hf1 t j hj (hall j (by omega)) hd
  ·rw [hf0 t fun j hj _ hd=>hw ⟨j,hj,hd⟩]
   exact (tr_Fc ht _ (Nat.zero_le _) (Nat.le_refl _) fun j hj _ _ hd=>hw ⟨j,hj,hd⟩).symm
 have e2:stS=S aos.length:=by
  apply List.ext_getElem?
  intro k
  obtain ⟨p,hp,hsp,hiff⟩:=hst k
  rw [hsp]
  refine (tr_Sc ht _ hp (by rw [ht.len];exact Nat.le_refl _) fun j hj h1 _ hkj=>?_).symm
  have:=(hiff j hj hkj).1 (hall j (by rw [hn,← ht.len];exact hj))
  omega
 rw [← e1,← e2]
 exact hcn
theorem all_of_ready (hreg:RegOK ops aos bef) {listed:Array Bool} (hsz:listed.size=ops.size) (hr:Region.ready .any ops listed=[]):∀ i,i < ops.size→listed.getD i false=true:=by
 intro i
 induction i using Nat.strongRecOn with
 | _ i ih =>
  intro hi
  by_cases h:listed.getD i false=true
  ·exact h
  ·have ho:ops[i]?=some ops[i]:=by simp [hi]
   have:i ∈ Region.ready .any ops listed:=by
    rw [mem_ready]
    refine ⟨?_,_,ho,fun e he hb=>?_⟩
    ·rw [Array.getD,dif_pos (by omega)] at h ⊢
     simpa using h
    ·have hlt:=hreg.edges i _ ho e he hb
     exact ih e.on hlt (by omega)
   rw [hr] at this
   cases this
theorem reg_any (hreg:RegOK ops aos bef) (hfoot:FootOK bef fps) (ht:Tr P base aos fps F S) (hg:GM m0) (hn:ops.size=aos.length) (hmatch:∀ j (h:j < aos.length) (o:Oper),ops[j]?=some o→MatchOp P ops o aos[j])
  (hQ:∀ a w,Cn B m0 bk0 w0 a w (F aos.length) (S aos.length)→Q .normal a w):∀ (fuel:Nat) (listed:Array Bool) (a:Act) (w:World),unl listed ops.size≤fuel→Inv P ops B m0 bk0 w0 aos fps F S listed a w→wpAny P .any ops Q fuel listed a w
 | 0,listed,a,w,hu,hinv=>by
  have hall:∀ i,i < ops.size→listed.getD i false=true:=by
   intro i hi
   have h0:unl listed ops.size=0:=by omega
   unfold unl at h0
   rw [List.countP_eq_zero] at h0
   have:=h0 i (List.mem_range.2 hi)
   simpa using this
  refine ⟨?_,hQ _ _ (inv_done ht hn hinv hall)⟩
  rw [List.eq_nil_iff_forall_not_mem]
  intro i hi
  rw [mem_ready] at hi
  obtain ⟨h1,o,h2,_⟩:=hi
  have hlt:i < ops.size:=(Array.getElem?_eq_some_iff.1 h2).1
  have:=hall i hlt
  rw [Array.getD,dif_pos (by rw [hinv.size];exact hlt)] at this h1
  rw [this] at h1;cases h1
 | fuel + 1,listed,a,w,hu,hinv=>by
  refine ⟨fun hr=>hQ _ _ (inv_done ht hn hinv (all_of_ready hreg hinv.size hr)),fun i hi=>?_⟩
  refine inv_step hreg hfoot ht hg hn hmatch hinv hi fun a' w' hinv'=>?_
  refine reg_any hreg hfoot ht hg hn hmatch hQ fuel _ a' w' ?_ hinv'
  rw [mem_ready] at hi
  obtain ⟨h1,o,h2,_⟩:=hi
  have hlt:i < ops.size:=(Array.getElem?_eq_some_iff.1 h2).1
  have hls:i < listed.size:=by rw [hinv.size];exact hlt
  have:unl (listed.setIfInBounds i true) ops.size < unl listed ops.size:=by
   refine countP_lt (fun x hx=>?_) (List.mem_range.2 hlt) ?_ ?_
   ·simp only [Bool.not_eq_true'] at hx ⊢
    cases hb:listed.getD x false with
    | false=>rfl
    | true=>rw [getD_set_true hb] at hx;cases hx
   ·rw [Array.getD,dif_pos hls] at h1 ⊢
    simpa using h1
   ·rw [Array.getD,dif_pos (by simpa using hls)];simp
  omega
theorem reg_draw {id:Nat} (hmix:P.follows .mixedOrders=true) (hreg:RegOK ops aos bef) (hfoot:FootOK bef fps) (hg:GM m0) (hn:ops.size=aos.length) (hmatch:∀ j (h:j < aos.length) (o:Oper),ops[j]?=some o→MatchOp P ops o aos[j])
  {fr fr' : List V} {st st' : List Slot} (hrun:Run P base aos fr st fps fr' st') {a:Act} {w:World} (hcn:Cn B m0 bk0 w0 a w fr st) (hQ:∀ a w,Cn B m0 bk0 w0 a w fr' st'→Q .normal a w):(Code.region id ops true).wp P Q a w:=by
 obtain ⟨F,S,ht,h1,h2,h3,h4⟩:=run_trace hrun
 refine wp_region_any hmix (reg_any hreg hfoot ht hg hn hmatch (by rw [h3,h4];exact hQ) ops.size _ a _ ?_ ⟨fun j hj=>?_,by simp,fr,st,hcn.drew,by rw [h1],by rw [h2],fun t _=>by rw [h1],fun t i _ hl=>?_,fun k=>⟨0,Nat.zero_le _,by rw [h2],fun i hi _=>?_⟩⟩)
 ·exact Nat.le_trans (List.countP_le_length) (by simp)
 ·have:=listed_lt hj
  rw [Array.getD,dif_pos this] at hj
  simp at hj
 ·have:=listed_lt hl
  rw [Array.getD,dif_pos this] at hl
  simp at hl
 ·constructor
  ·intro hl
   have:=listed_lt hl
   rw [Array.getD,dif_pos this] at hl
   simp at hl
  ·omega
end
end Go.Proofs.YtpkodpcfafipdaaGreatDoor

