/- A part of the proof: 2 texts joined. -/
import Derived.Test.YtmmmcpeickfolaaGreatZcA9
set_option linter.all false
namespace Go.Proofs.YtmmmcpeickfolaaGreat
open Go.RowKit
section
variable {P : Program} {o : Oper} {a : Act} {w : World} {K : Act → World → Prop} {Q : Exit → Act → World → Prop} {B : Nat} {m0 m : Mem} {bk : Bks} {st : List Slot} {fr : List V}
theorem mapM_places {pl:Nat→Option (Nat × Nat)}:∀ {parts:List (Nat × Operand)} {ps:List (Nat × Nat × Operand)},parts.mapM (fun p=>(pl p.1).map fun q=>(q.1,q.2,p.2))=some ps →
  parts.length=ps.length∧∀ j (h1:j < parts.length) (h2:j < ps.length),pl parts[j].1=some (ps[j].1,ps[j].2.1)∧parts[j].2=ps[j].2.2
 | [],ps,h=>by simp at h;subst h;simp
 | p :: parts,ps,h=>by
  rw [List.mapM_cons] at h
  simp only [bind,Option.bind_eq_some_iff,pure,Option.some.injEq,Option.map_eq_some_iff] at h
  obtain ⟨x,⟨q,hq,rfl⟩,l,hl,rfl⟩:=h
  obtain ⟨g1,g2⟩:=mapM_places hl
  refine ⟨by simp [g1],fun j h1 h2=>?_⟩
  cases j with
  | zero=>simpa using hq
  | succ j=>simpa using g2 j (by simpa using h1) (by simpa using h2)
theorem agg_list {m:Mem} {bk:Bks} {z:Value} {zs:List V} (h:V.ofValue z=.agg zs):RepL m bk z.cells.toList zs∧∀ u ∈ zs,u.one=true:=by
 have:=Rep.ofValue (m:=m) (bk:=bk) z
 rw [h] at this
 exact this.cellsL rfl
theorem ofValue_stb {m:Mem} {bk:Bks} {z:Value} (h:(V.ofValue z).stb=true):RepL m bk z.cells.toList (V.ofValue z).cells∧∀ u ∈ (V.ofValue z).cells,u.one=true:=(Rep.ofValue (m:=m) (bk:=bk) z).cellsL h
theorem rep_agg {m:Mem} {bk:Bks} {c:Array Value} {cs:List V} (h:RepL m bk c.toList cs) (h1:∀ u ∈ cs,u.one=true):Rep m bk (.agg c) (.agg cs) :=
 .agg (by simpa using h.1) h1 fun j a b=>by have:=h.2 j (by simpa using a) b;rw [Array.getElem_toList] at this;exact this
theorem args_rep (hfr:FrRep m bk a.tmps fr) (args:List Operand):RepL m bk (args.map a.eval) (args.map (evO fr)) :=
 ⟨by simp,fun j h1 h2=>by simp only [List.getElem_map];exact hfr.ev _⟩
theorem RepL.toA {l:List Value} {vs:List V} (h:RepL m bk l vs):RepA m bk l.toArray vs :=
 ⟨by simpa using h.1,fun j a b=>by have:=h.2 j (by simpa using a) b;rw [List.getElem_toArray];exact this⟩
theorem RepL.noBk {l:List Value} {vs:List V} (h:RepL m bk l vs) (hv:V.idlt.belowL 0 vs=true):RepA m noBk l.toArray vs :=
 ⟨by simpa using h.1,fun j a b=>(by have:=h.2 j (by simpa using a) b;rw [List.getElem_toArray];exact this:Rep m bk l.toArray[j] vs[j]).zero (belowL_get hv j b)⟩
theorem run_callFunc {f:FuncId} (h:Callable P f) (args:Array Value) (w:World):(callFunc f args).run P w=.ok (.enter f args) w:=by
 obtain ⟨fn,h1,h2,h3⟩:=h
 have h4:fn.body.isNone=false:=by cases hb:fn.body <;> simp_all
 simp only [callFunc,Sem.run_bind,run_program,Result.andThen_ok,h1,h3,h4,Bool.false_eq_true,if_false,Sem.run_pure]
theorem wp_call {f:FuncId} {args:Array Value} {vs:List V} {v:V} (he:(execOp a.eval o).run P w=.ok (.enter f args) w) (hsim:Sim B m0 m bk w st) (hg:GM m) (hargs:RepA m noBk args vs) (hc:CallsV P f vs v)
  (hK:∀ c w',Aft B m0 m bk w st v c w'→K (a.put o.dst c) w'):o.wp P a w K Q:=by
 unfold Oper.wp
 rw [he,Oper.upon_enter]
 refine (hc m w args hg hsim.mem hargs).mono ?_
 rintro e w' ⟨c,m',rfl,hb,g1,g2,g3,hr⟩
 exact hK _ _ ⟨m',bk,hsim.call hb g1 g2 g3,hr.mono (fun _ _ h=>h) (fun _ _ h=>by cases h),g2,fun _ _ h=>h,Bel.of hb hsim.base⟩
theorem make_aft {id:Nat} {v:V} {cs:List V} {arr:Array Value} {t:TypeId} {c:Value} {w' : World} {lo hi:Nat} (hsim:Sim B m0 m bk w st) (hf:st[id]?=some .fresh) (hw:w'=w.alloc (.cells arr t (lo,hi))∨w'=w.drew.alloc (.cells arr t (lo,hi))) (hfree:hi≤lo)
  (hr:RepL m bk (arr.toList.take cs.length) cs) (hone:∀ u ∈ cs,u.one=true) (hv:Rep m (newBk bk id (w.heap.size,arr.size)) c v):Aft B m0 m bk w (st.set id (.live cs 0)) v c w':=by
 have hlen:cs.length≤arr.size:=by have:=hr.1;simp at this;omega
 have hh:w'.heap=w.heap.push (.cells arr t (lo,hi)):=by rcases hw with rfl | rfl <;> rfl
 refine ⟨m,newBk bk id (w.heap.size,arr.size),hsim.make hf (arr:=arr) (t:=t) (lo:=lo) (hi:=hi) (by rw [hh];simp) (fun k hk=>by rw [hh,Array.getElem?_push,if_neg (by omega)]) (by rw [hh];simp) hfree hlen hone (fun k hk=>?_),hv,fun _ _ h=>h,newBk_ge (hsim.nb id (.inr hf)),?_⟩
 ·have hk' : k < arr.size:=by omega
  refine ⟨arr[k],by simp [hk'],?_⟩
  have:=hr.2 k (by simp;omega) hk
  simpa using this
 ·have:=(Bel.refl B w).alloc hsim.base (.cells arr t (lo,hi))
  have h2:=((Bel.refl B w).drew).alloc hsim.base (.cells arr t (lo,hi))
  rcases hw with rfl | rfl
  ·exact this
  ·exact h2
theorem row_aft {w' : World} {arr:Array Value} {t:TypeId} {lo hi:Nat} {xs:List V} {full:Bool} {cap es:Nat} (hsim:Sim B m0 m bk w st) (hb:Below w.heap.size w w') (hh:w'.heap[w.heap.size]?=some (.cells arr t (lo,hi))) (hc:xs.length≤cap) (hf:full=true→cap=xs.length)
  (hes:∀ x ∈ xs,x.cells.length=es) (h1:∀ u ∈ xs.flatMap V.cells,u.one=true) (hlen:(xs.flatMap V.cells).length≤arr.size) (hr:∀ k (hk:k < (xs.flatMap V.cells).length),∃ u,arr[k]?=some u∧Rep m noBk u (xs.flatMap V.cells)[k]) :
  Aft B m0 m bk w st (.sl xs full) (.slice (some ⟨w.heap.size,0,none⟩) xs.length cap) w':=by
 let m' : Mem:=fun a=>if a.block=w.heap.size∧a.off < (xs.flatMap V.cells).length∧a.spot=none then arr[a.off]? else m a
 have hge:∀ a u,m a=some u→m' a=some u:=by
  intro a u h
  show (if a.block=w.heap.size∧a.off < (xs.flatMap V.cells).length∧a.spot=none then arr[a.off]? else m a)=some u
  have:=cell_lt (hsim.mem a u h)
  rw [if_neg (by omega)]
  exact h
 have hmem:∀ a u,m' a=some u→w'.cell? a=some u:=by
  intro a u h
  change (if a.block=w.heap.size∧a.off < (xs.flatMap V.cells).length∧a.spot=none then arr[a.off]? else m a)=some u at h
  by_cases hc:a.block=w.heap.size∧a.off < (xs.flatMap V.cells).length∧a.spot=none
  ·rw [if_pos hc] at h
   obtain ⟨ab,ao,sp⟩:=a
   obtain ⟨h1,h2,h3⟩:=hc
   simp only at h1 h2 h3 h
   subst h1 h3
   simpa [World.cell?,hh] using h
  ·rw [if_neg hc] at h
   have g:=hsim.mem a u h
   rw [← g]
   exact World.cell?_of_block (w:=w) (hb.block _ (cell_lt g))
 have hold:∀ a u,m' a=some u→m a=some u∨w.heap.size≤a.block:=by
  intro a u h
  change (if a.block=w.heap.size∧a.off < (xs.flatMap V.cells).length∧a.spot=none then arr[a.off]? else m a)=some u at h
  by_cases hc:a.block=w.heap.size∧a.off < (xs.flatMap V.cells).length∧a.spot=none
  ·exact .inr (by omega)
  ·rw [if_neg hc] at h;exact .inl h
 refine ⟨m',bk,hsim.call hb hmem hge hold,?_,hge,fun _ _ h=>h,Bel.of hb hsim.base⟩
 refine .sl (b:=w.heap.size) (o:=0) (es:=es) (us:=fun k=>arr.getD k undef) rfl hc hf hes h1 (fun k hk=>?_) (fun k hk=>?_)
 ·show (if w.heap.size=w.heap.size∧0 + k < (xs.flatMap V.cells).length∧none=none then arr[0 + k]? else m ⟨w.heap.size,0 + k,none⟩)=some (arr.getD k undef)
  rw [Nat.zero_add,if_pos ⟨rfl,hk,rfl⟩]
  have:k < arr.size:=by omega
  simp [Array.getD,this]
 ·obtain ⟨u,g1,g2⟩:=hr k hk
  have:arr.getD k undef=u:=by
   rw [Array.getD_eq_getD_getElem?,g1];rfl
  rw [this]
  exact g2.mono hge (fun _ _ h=>h)
theorem Aft.freeze {id:Nat} {v:V} {cs:List V} {c:Value} {w' : World} {st' : List Slot} {frz:Nat} (h:Aft B m0 m bk w st' v c w') (hi:st'[id]?=some (.live cs frz)) {f:Nat} (hf0:frz≤f) (hf:f≤cs.length):Aft B m0 m bk w (st'.set id (.live cs f)) v c w':=by
 obtain ⟨m',bk',h1,h2,h3,h4,h5⟩:=h
 obtain ⟨m2,g1,g2⟩:=h1.freeze hi hf0 hf
 exact ⟨m2,bk',g1,h2.mono g2 (fun _ _ h=>h),fun a u h=>g2 _ _ (h3 a u h),h4,h5⟩
theorem set_freeze {l:List Slot} {id:Nat} {s:Slot} (h:id < l.length):(l.set id s)[id]?=some s:=by rw [List.getElem?_set,if_pos rfl,if_pos h]
theorem rep_one_cells {m:Mem} {bk:Bks} {l:List Value} {vs:List V} (h:RepL m bk l vs) (h1:∀ u ∈ vs,u.one=true):∀ u ∈ l,u.oneCell'=true:=by
 intro u hu
 obtain ⟨j,hj,rfl⟩:=List.getElem_of_mem hu
 have hj' : j < vs.length:=by rw [← h.1];exact hj
 exact (h.2 j hj hj').one (h1 _ (List.getElem_mem hj'))
theorem sim_live (hsim:Sim B m0 m bk w st) {i:Nat} {cs:List V} {frz:Nat} (hi:st[i]?=some (.live cs frz)) {b sz:Nat} (hb:bk i=some (b,sz)) :
  ∃ arr t lo hi',LiveAt B m bk w i cs frz b sz arr t lo hi'∧RepL m bk (arr.toList.take cs.length) cs:=by
 obtain ⟨b',sz',arr,t,lo,hi',hl⟩:=hsim.blk _ _ _ hi
 have e:=hl.at_
 rw [hb] at e
 injection e with e
 injection e with e1 e2
 subst e1 e2
 refine ⟨arr,t,lo,hi',hl,?_,fun j h1 h2=>?_⟩
 ·have:=hl.fit;have:=hl.size;simp;omega
 ·obtain ⟨u,g1,g2⟩:=hl.rep j h2
  have hj:j < arr.size:=(Array.getElem?_eq_some_iff.1 g1).1
  have:=(Array.getElem?_eq_some_iff.1 g1).2
  simp only [List.getElem_take,Array.getElem_toList,this]
  exact g2
theorem SlW.one {v v' : V} (h:SlW v v') (h1:v.one=true):v'.one=true:=by
 cases h with
 | id=>exact h1
 | slw=>rfl
theorem SlW.rep {m:Mem} {bk:Bks} {c:Value} {v v' : V} (h:Rep m bk c v) (hf:SlW v v'):Rep m noBk c v':=by
 cases hf with
 | id h0=>exact h.zero h0
 | slw =>
  cases h with
  | sl hn hc hf hes h1 hm h=>exact .sl hn hc (fun e=>by cases e) hes h1 hm h
  | slnil=>exact .slnil fun e=>by cases e
theorem SlWL.at {l l' : List V} (h:SlWL l l'):l'.length=l.length∧∀ k (h1:k < l.length) (h2:k < l'.length),SlW l[k] l'[k]:=by
 induction h with
 | nil=>exact ⟨rfl,fun k h1=>absurd h1 (by simp)⟩
 | cons h t ih =>
  refine ⟨by simp [ih.1],fun k h1 h2=>?_⟩
  cases k with
  | zero=>exact h
  | succ k=>exact ih.2 k (Nat.lt_of_succ_lt_succ h1) (Nat.lt_of_succ_lt_succ h2)
theorem FzP.rep (hsim:Sim B m0 m bk w st) {c:Value} {v v' : V} {r:List Nat} (h:Rep m bk c v) (hf:FzP st v v' r):Rep m noBk c v':=by
 cases hf with
 | id h0=>exact h.zero h0
 | @ptr i cs us frz hi hfz hw =>
  cases h with
  | @ptr _ _ b sz _ hb =>
  obtain ⟨arr,t,lo,hi',hlv,hrep⟩:=sim_live hsim hi hb
  obtain ⟨hl,hat⟩:=hw.at
  refine .eptr (us:=fun k=>arr.getD k undef) (fun u hu=>?_) (fun k hk=>?_) (fun k hk=>?_)
  ·obtain ⟨k,hk,rfl⟩:=List.getElem_of_mem hu
   exact (hat k (by omega) hk).one (hlv.one _ (List.getElem_mem _))
  ·obtain ⟨u,g1,g2⟩:=hlv.rep k (by omega)
   rw [Nat.zero_add,hlv.fz k (by omega),Array.getD_eq_getD_getElem?,g1];rfl
  ·obtain ⟨u,g1,g2⟩:=hlv.rep k (by omega)
   have e:arr.getD k undef=u:=by simp [Array.getD_eq_getD_getElem?,g1]
   rw [e]
   exact (hat k (by omega) hk).rep g2
theorem FzPL.rep (hsim:Sim B m0 m bk w st) {l l' : List V} {r:List Nat} (hf:FzPL st l l' r):∀ {cs:List Value},RepL m bk cs l→RepL m noBk cs l':=by
 induction hf with
 | nil=>intro cs h;exact ⟨h.1,fun j _ h2=>absurd h2 (by simp)⟩
 | @cons v v' r l l' r' h t ih =>
  intro cs hr
  cases cs with
  | nil=>have:=hr.1;simp at this
  | cons c cs =>
   have h0:=hr.2 0 (by simp) (by simp)
   have ih':=@ih cs ⟨by simpa using hr.1,fun j h1 h2=>hr.2 (j + 1) (Nat.succ_lt_succ h1) (Nat.succ_lt_succ h2)⟩
   refine ⟨by simpa using ih'.1,fun j h1 h2=>?_⟩
   cases j with
   | zero=>exact h.rep hsim h0
   | succ j=>exact ih'.2 j (Nat.lt_of_succ_lt_succ h1) (Nat.lt_of_succ_lt_succ h2)
theorem FzC.rep (hsim:Sim B m0 m bk w st) {c:Value} {v v' : V} {r:List Nat} (h:Rep m bk c v) (hf:FzC st v v' r):Rep m noBk c v':=by
 cases hf with
 | p hp=>exact hp.rep hsim h
 | clo hp =>
  cases h with
  | @bnd _ _ cs _ hl hr =>
   have g:=FzPL.rep hsim hp (cs:=cs.toList) ⟨by simpa using hl,fun j a b=>by simpa using hr j (by simpa using a) b⟩
   exact .bnd (by simpa using g.1) fun j a b=>by have:=g.2 j (by simpa using a) b;rw [Array.getElem_toList] at this;exact this
  | @clo _ _ cs _ hv hl hr =>
   have g:=FzPL.rep hsim hp (cs:=cs.toList) ⟨by simpa using hl,fun j a b=>by simpa using hr j (by simpa using a) b⟩
   exact .clo hv (by simpa using g.1) fun j a b=>by have:=g.2 j (by simpa using a) b;rw [Array.getElem_toList] at this;exact this
 | id h0=>exact h.zero h0
 | slw =>
  cases h with
  | sl hn hc hf hes h1 hm h=>exact .sl hn hc (fun e=>by cases e) hes h1 hm h
  | slnil=>exact .slnil fun e=>by cases e
 | @osl i off n es f f' cs frz xs hff hi hfz hl hlen hes hc h0 =>
  cases h with
  | @osl _ _ b sz _ _ cap _ _ hb hcap hful hsz =>
  obtain ⟨arr,t,lo,hi',hlv,hrep⟩:=sim_live hsim hi hb
  have hfit:=hlv.fit
  have hsize:=hlv.size
  have hfl:(xs.flatMap V.cells).length=n * es:=by rw [← hc];simp;omega
  have hget:∀ k (hk:k < (xs.flatMap V.cells).length),(xs.flatMap V.cells)[k]=cs[off + k]'(by omega):=by
   intro k hk
   have:((cs.drop off).take (n * es))[k]?=some (xs.flatMap V.cells)[k]:=by rw [hc];simp [hk]
   rw [List.getElem?_take,if_pos (by omega),List.getElem?_drop,List.getElem?_eq_getElem (by omega)] at this
   injection this with this
   exact this.symm
  refine .sl (us:=fun k=>arr.getD (off + k) undef) hlen.symm hcap (fun e=>hful (hff e)) hes (fun u hu=>?_) (fun k hk=>?_) (fun k hk=>?_)
  ·rw [← hc] at hu
   exact hlv.one u (List.mem_of_mem_drop (List.mem_of_mem_take hu))
  ·rw [hlv.fz _ (by omega)]
   simp [Array.getD,show off + k < arr.size by omega]
  ·obtain ⟨u,g1,g2⟩:=hlv.rep (off + k) (by omega)
   rw [hget k hk]
   have e:arr.getD (off + k) undef=u:=by simp [Array.getD_eq_getD_getElem?,g1]
   rw [e]
   exact g2.zero (by rw [← hget k hk];exact belowL_get h0 k hk)
theorem FzL.rep (hsim:Sim B m0 m bk w st) {l l' : List V} {r:List Nat} (hf:FzL st l l' r):∀ {cs:List Value},RepL m bk cs l→RepL m noBk cs l':=by
 induction hf with
 | nil=>intro cs h;exact ⟨h.1,fun j _ h2=>absurd h2 (by simp)⟩
 | @cons v v' r l l' r' h t ih =>
  intro cs hr
  cases cs with
  | nil=>have:=hr.1;simp at this
  | cons c cs =>
   have h0:=hr.2 0 (by simp) (by simp)
   have ih':=@ih cs ⟨by simpa using hr.1,fun j h1 h2=>hr.2 (j + 1) (Nat.succ_lt_succ h1) (Nat.succ_lt_succ h2)⟩
   refine ⟨by simpa using ih'.1,fun j h1 h2=>?_⟩
   cases j with
   | zero=>exact h.rep hsim h0
   | succ j=>exact ih'.2 j (Nat.lt_of_succ_lt_succ h1) (Nat.lt_of_succ_lt_succ h2)
theorem FzV.rep (hsim:Sim B m0 m bk w st) {c:Value} {v v' : V} {r:List Nat} (h:Rep m bk c v) (hf:FzV st v v' r):Rep m noBk c v':=by
 cases hf with
 | c h'=>exact h'.rep hsim h
 | agg hl h1 =>
  obtain ⟨ds,rfl,g1,g2,g3⟩:=agg_inv h
  exact rep_agg (FzL.rep hsim hl ⟨by simpa using g1,fun j a b=>by simpa using g3 j (by simpa using a) b⟩) h1
 | @osl i off n es f cs frz xs r hi hfz hl hlen hes hL h1 =>
  cases h with
  | @osl _ _ b sz _ _ cap _ _ hb hcap hful hsz =>
  obtain ⟨arr,t,lo,hi',hlv,hrep⟩:=sim_live hsim hi hb
  have hfit:=hlv.fit
  have hsize:=hlv.size
  have htl:((cs.drop off).take (n * es)).length=n * es:=by rw [List.length_take,List.length_drop];omega
  have g:=FzL.rep hsim hL (cs:=(List.range (n * es)).map fun k=>arr.getD (off + k) undef) ⟨by rw [htl];simp,fun j a b=>by
   have hj:j < n * es:=by simpa using a
   obtain ⟨u,g1,g2⟩:=hlv.rep (off + j) (by omega)
   have e:arr.getD (off + j) undef=u:=by simp [Array.getD_eq_getD_getElem?,g1]
   have e2:((cs.drop off).take (n * es))[j]=cs[off + j]'(by omega):=by rw [List.getElem_take,List.getElem_drop]
   rw [List.getElem_map,List.getElem_range,e,e2];exact g2⟩
  have hxl:(xs.flatMap V.cells).length=n * es:=by have:=g.1;simpa using this.symm
  refine .sl (us:=fun k=>arr.getD (off + k) undef) hlen.symm hcap (fun e=>by cases e) hes h1 (fun k hk=>?_) (fun k hk=>?_)
  ·rw [hlv.fz _ (by omega)]
   simp [Array.getD,show off + k < arr.size by omega]
  ·have:=g.2 k (by simp;omega) hk
   simpa using this
theorem FzA.rep (hsim:Sim B m0 m bk w st) {l l' : List V} {r:List Nat} (hf:FzA st l l' r):∀ {cs:List Value},RepL m bk cs l→RepL m noBk cs l':=by
 induction hf with
 | nil=>intro cs h;exact ⟨h.1,fun j _ h2=>absurd h2 (by simp)⟩
 | @cons v v' r l l' r' h t ih =>
  intro cs hr
  cases cs with
  | nil=>have:=hr.1;simp at this
  | cons c cs =>
   have h0:=hr.2 0 (by simp) (by simp)
   have ih':=@ih cs ⟨by simpa using hr.1,fun j h1 h2=>hr.2 (j + 1) (Nat.succ_lt_succ h1) (Nat.succ_lt_succ h2)⟩
   refine ⟨by simpa using ih'.1,fun j h1 h2=>?_⟩
   cases j with
   | zero=>exact h.rep hsim h0
   | succ j=>exact ih'.2 j (Nat.lt_of_succ_lt_succ h1) (Nat.lt_of_succ_lt_succ h2)
theorem FzR.rep (hsim:Sim B m0 m bk w st) {c:Value} {v v' : V} {r:List Nat} (h:Rep m bk c v) (hf:FzR st v v' r):Rep m noBk c v':=by
 cases hf with
 | v h'=>exact h'.rep hsim h
 | @tup l l' r ha =>
  cases h with
  | @tup _ cs _ hl hr =>
   have:=FzA.rep hsim ha (cs:=cs.toList) ⟨by simpa using hl,fun j a b=>by simpa using hr j (by simpa using a) b⟩
   exact .tup (by simpa using this.1) fun j a b=>by have:=this.2 j (by simpa using a) b;rw [Array.getElem_toList] at this;exact this
theorem FzP.congr {st st2:List Slot} {v v' : V} {r:List Nat} (h:FzP st v v' r) (hst:∀ k,k ∈ r→st2[k]?=st[k]?):FzP st2 v v' r:=by
 cases h with
 | id h=>exact .id h
 | ptr hi hf h=>exact .ptr (by rw [hst _ (by simp)];exact hi) hf h
theorem FzPL.congr {st st2:List Slot} {l l' : List V} {r:List Nat} (h:FzPL st l l' r):(∀ k,k ∈ r→st2[k]?=st[k]?)→FzPL st2 l l' r:=by
 induction h with
 | nil=>exact fun _=>.nil
 | cons h _ ih=>exact fun hst=>.cons (h.congr fun k hk=>hst k (List.mem_append_left _ hk)) (ih fun k hk=>hst k (List.mem_append_right _ hk))
theorem FzC.congr {st st2:List Slot} {v v' : V} {r:List Nat} (h:FzC st v v' r) (hst:∀ k,k ∈ r→st2[k]?=st[k]?):FzC st2 v v' r:=by
 cases h with
 | p h=>exact .p (h.congr hst)
 | clo h=>exact .clo (h.congr hst)
 | id h=>exact .id h
 | slw=>exact .slw
 | osl hff hi hf hl hlen hes hc h0=>exact .osl hff (by rw [hst _ (by simp)];exact hi) hf hl hlen hes hc h0
theorem FzL.congr {st st2:List Slot} {l l' : List V} {r:List Nat} (h:FzL st l l' r):(∀ k,k ∈ r→st2[k]?=st[k]?)→FzL st2 l l' r:=by
 induction h with
 | nil=>intro _;exact .nil
 | cons h t ih=>intro hst;exact .cons (h.congr fun k hk=>hst k (by simp [hk])) (ih fun k hk=>hst k (by simp [hk]))
theorem FzV.congr {st st2:List Slot} {v v' : V} {r:List Nat} (h:FzV st v v' r) (hst:∀ k,k ∈ r→st2[k]?=st[k]?):FzV st2 v v' r:=by
 cases h with
 | c h=>exact .c (h.congr hst)
 | agg h h1=>exact .agg (h.congr hst) h1
 | osl hi hf hl hlen hes h h1=>exact .osl (by rw [hst _ (by simp)];exact hi) hf hl hlen hes (h.congr fun k hk=>hst k (by simp [hk])) h1
theorem FzA.congr {st st2:List Slot} {l l' : List V} {r:List Nat} (h:FzA st l l' r):(∀ k,k ∈ r→st2[k]?=st[k]?)→FzA st2 l l' r:=by
 induction h with
 | nil=>intro _;exact .nil
 | cons h t ih=>intro hst;exact .cons (h.congr fun k hk=>hst k (by simp [hk])) (ih fun k hk=>hst k (by simp [hk]))
end
end Go.Proofs.YtmmmcpeickfolaaGreat

namespace Go.Proofs.YtmmmcpeickfolaaGreat
open Go.RowKit
theorem bytes_flat (l:List UInt8):(l.map byteV).flatMap V.cells=l.map byteV:=by
 induction l with
 | nil=>rfl
 | cons b l ih=>simp [List.flatMap_cons,ih,byteV,V.cells]
def AOp.isCall:AOp→Bool
 | .cl .. | .cv ..=>true
 | _=>false
theorem eff_get:∀ (l:List (Slot × Nat)) (st:List Slot) (k:Nat),(∀ x ∈ l,x.2≠k)→(AStep.eff st (l.map fun x=>(x.2,x.1)))[k]?=st[k]?
 | [],_,_,_=>rfl
 | x :: l,st,k,h=>by
  rw [List.map_cons,AStep.eff,eff_get l _ k fun y hy=>h y (List.mem_cons_of_mem _ hy),List.getElem?_set,if_neg (h x (by simp))]
theorem eff_zip:∀ (l:List Slot) (n:Nat) (st:List Slot) (k:Nat),n + l.length≤st.length→n≤k→k < n + l.length→(AStep.eff st ((l.zipIdx n).map fun x=>(x.2,x.1)))[k]?=l[k - n]?
 | [],n,st,k,_,h1,h2=>by simp at h2;omega
 | x :: l,n,st,k,hl,h1,h2=>by
  rw [List.zipIdx_cons,List.map_cons,AStep.eff]
  simp only [List.length_cons] at hl h2
  by_cases e:k=n
  ·subst e
   rw [eff_get (l.zipIdx (k + 1)) _ k fun y hy=>by have:=List.le_snd_of_mem_zipIdx hy;omega]
   rw [List.getElem?_set,if_pos rfl,if_pos (by omega)];simp
  ·rw [eff_zip l (n + 1) _ k (by simp;omega) (by omega) (by omega)]
   rw [show k - n=k - (n + 1) + 1 by omega];rfl
theorem eff_all {st st' : List Slot} (h:st'.length=st.length):AStep.eff st (allEff st')=st':=by
 apply List.ext_getElem?
 intro k
 by_cases hk:k < st'.length
 ·have:=eff_zip st' 0 st k (by omega) (Nat.zero_le _) (by omega)
  simpa [allEff] using this
 ·have hl:(AStep.eff st (allEff st')).length=st.length:=by
   have:∀ (ef:List (Nat × Slot)) (st:List Slot),(AStep.eff st ef).length=st.length:=by
    intro ef
    induction ef with
    | nil=>intro st;rfl
    | cons x ef ih=>intro st;rw [AStep.eff,ih];simp
   exact this _ _
  rw [List.getElem?_eq_none (by omega),List.getElem?_eq_none (by omega)]
section
variable {P : Program} {o : Oper} {a : Act} {w : World} {K : Act → World → Prop} {Q : Exit → Act → World → Prop} {B : Nat} {m0 m : Mem} {bk : Bks} {st : List Slot} {fr : List V}
theorem late_sound {ty:TypeId} {op:Op} {ao:AOp} {v:V} {rd:List Nat} {id:Nat} (he:o.op=op) (hc:Cop P op ty ao) (hs:AStep P (evO fr) st id ao v rd []) (hsim:Sim B m0 m bk w st) (hg:GM m) (hfr:FrRep m bk a.tmps fr) (hlate:ao.late=true)
  (hnc:ao.isCall=false) (hap:∀ es bytes s x,ao≠.ap es bytes s x) (hsb:∀ x,ao≠.s2b x) (hK:∀ c w',Aft B m0 m bk w st v c w'→K (a.put o.dst c) w'):o.wp P a w K Q:=by
 cases hs with
 | @eqa neg ks x y l r b hx hy hr hl hm =>
  cases hc with
  | @eqa _ neg t _ _ t' _ d hte hd ha hgt hcl =>
  obtain ⟨ds,h1,q1,q2,q3⟩:=agg_inv (hx ▸ hfr.ev x)
  obtain ⟨es,h2,p1,p2,p3⟩:=agg_inv (hy ▸ hfr.ev y)
  have hv:=eqL_vals ks l r ds.toList es.toList b hr (by simpa using q1.symm) (by simpa using p1.symm) (fun j a b=>by simpa using q3 j (by simpa using a) b) (fun j a b=>by simpa using p3 j (by simpa using a) b)
  have heq:=eqIn (P:=P) (10000 - d) d t ks ds.toList es.toList b w hte (by rw [hcl,← hl,← q1];simp) (by rw [hcl,← hm,← p1];simp) hv
  rw [ha,show 10000 - d + d=10000 by omega] at heq
  simp only [mkV,if_true] at heq
  refine wp_val (c:=.bool (if neg then !b else b)) (w':=w) ?_ (hK _ _ (Aft.same hsim (.lit rfl)))
  cases neg
  ·simp only [execOp,he,h1,h2,Sem.run_bind,run_eqGuard_agg w _ t x y ds es hgt,Result.andThen_ok,Bool.false_eq_true,if_false,run_eql_struct,heq,Sem.run_pure]
  ·simp only [execOp,he,h1,h2,Sem.run_bind,run_eqGuard_agg w _ t x y ds es hgt,Result.andThen_ok,if_true,run_neq_struct,heq,Sem.run_pure]
 | @bd z ps cs h =>
  cases hc with
  | @bd _ t i z0 _ parts _ pl hb hi hz hzs hp =>
  obtain ⟨g1,g2⟩:=agg_list (m:=m) (bk:=bk) hzs
  obtain ⟨m1,m2⟩:=mapM_places hp
  obtain ⟨c,c1,c2,c3⟩:=fill_rep pl (parts.toList.map fun p=>(p.1,a.eval p.2)) (ps.map fun p=>(p.1,p.2.1,evO fr p.2.2)) z0.cells z cs g1 g2 (by simpa using m1) (fun j h1 h2=>by
   have q:=m2 j (by simpa using h1) (by simpa using h2)
   simp only [List.getElem_map]
   refine ⟨q.1,?_⟩
   rw [q.2]
   exact hfr.ev _) h
  refine op_val (S:=Instr.build t (parts.map fun (i,x)=>(i,a.eval x))) (by simp [execOp,he]) (run_build w t _ c (by rw [hb];simpa using c1)) hsim (rep_agg c2 c3) hK
 | @mf fn caps =>
  cases hc with
  | @mf _ _ caps hv =>
   have h1:=args_rep hfr caps.toList
   refine op_val (S:=Instr.makeFunc fn #[] (caps.map a.eval)) (c:=.func fn #[] (caps.map a.eval)) (by simp [execOp,he]) (by simp [Instr.makeFunc]) hsim (.clo hv (by simpa using h1.1) fun j g1 g2=>?_) hK
   have:=h1.2 j (by simpa using g1) g2
   simpa using this
  | @mfb _ g bs =>
   have h1:=args_rep hfr bs.toList
   refine op_val (S:=Instr.makeFunc (.func g) (bs.map a.eval) #[]) (c:=.func (.func g) (bs.map a.eval) #[]) (by simp [execOp,he]) (by simp [Instr.makeFunc]) hsim (.bnd (by simpa using h1.1) fun j g1 g2=>?_) hK
   have:=h1.2 j (by simpa using g1) g2
   simpa using this
 | cl | cv | clS | cvS=>simp [AOp.isCall] at hnc
 | @lenT x s h =>
  have h0:=(h ▸ hfr.ev x).int
  cases hc with
  | @lenT _ _ t hd=>exact wp_val (c:=.int .i64 s.size) (w':=w) (by simp [execOp,he,resolve,invoke,builtin,Builtin.len_,h0,run_underlying hd,goInt]) (hK _ _ (Aft.same hsim (.lit rfl)))
 | @lenS x xs full h =>
  have h0:=h ▸ hfr.ev x
  cases hce:a.eval x <;> rw [hce] at h0 <;> try (cases h0;done)
  rename_i A n cap
  have hn:n=xs.length:=by
   cases h0 with
   | slnil=>rfl
   | sl hn=>exact hn
  subst hn
  cases hc with
  | @lenS _ _ t e hd=>exact wp_val (c:=.int .i64 xs.length) (w':=w) (by simp [execOp,he,resolve,invoke,builtin,Builtin.len_,hce,run_underlying hd,goInt]) (hK _ _ (Aft.same hsim (.lit rfl)))
 | @lenO x i off n es full h =>
  have h0:=h ▸ hfr.ev x
  cases hce:a.eval x <;> rw [hce] at h0 <;> try (cases h0;done)
  cases h0 with
  | osl =>
  cases hc with
  | @lenS _ _ t e hd=>exact wp_val (c:=.int .i64 n) (w':=w) (by simp [execOp,he,resolve,invoke,builtin,Builtin.len_,hce,run_underlying hd,goInt]) (hK _ _ (Aft.same hsim (.lit rfl)))
 | @b2sI x full l h =>
  cases hc with
  | @b2s _ s d e _ hs hee hd =>
  have h0:=h ▸ hfr.ev x
  refine op_val (S:=convert s d (a.eval x)) (c:=.string ⟨l.toArray⟩) (by simp [execOp,he]) ?_ hsim (.lit rfl) hK
  cases hce:a.eval x <;> rw [hce] at h0 <;> try (cases h0;done)
  rename_i A n cap
  generalize hxs:l.map byteV=xs at h0
  cases h0 with
  | slnil =>
   have:l=[]:=by simpa using hxs
   subst this
   cases A with
   | none=>simp [convert,run_underlying hs,run_underlying hee,run_underlying hd,Conv.bytesToString];rfl
   | some A=>exact run_convert_bytes_back w s d e A cap [] hs hee hd (fun j hj=>absurd hj (by simp))
  | @sl _ b oo _ _ es _ _ us hn hcc hf hes h1 hm hr =>
   subst hxs
   have hfl:=bytes_flat l
   simp only [List.length_map] at hn
   subst hn
   refine run_convert_bytes_back w s d e ⟨b,oo,none⟩ cap l hs hee hd fun j hj=>?_
   have hj' : j < ((l.map byteV).flatMap V.cells).length:=by rw [hfl];simpa using hj
   rw [Addr.add_lit,hsim.mem _ _ (hm j hj')]
   have:=hr j hj'
   simp only [hfl,List.getElem_map,byteV] at this
   rw [this.int]
 | @b2sO x i off full cs frz l h hi hcs =>
  cases hc with
  | @b2s _ s d e _ hs hee hd =>
  have h0:=h ▸ hfr.ev x
  refine op_val (S:=convert s d (a.eval x)) (c:=.string ⟨l.toArray⟩) (by simp [execOp,he]) ?_ hsim (.lit rfl) hK
  cases hce:a.eval x <;> rw [hce] at h0 <;> try (cases h0;done)
  cases h0 with
  | @osl _ _ b sz _ _ cap _ _ hb hcc hf hsz =>
  obtain ⟨arr,t,lo,hi',hl,hrep⟩:=sim_live hsim hi hb
  refine run_convert_bytes_back w s d e ⟨b,off,none⟩ _ l hs hee hd fun j hj=>?_
  have e1:((cs.drop off).take l.length)[j]?=some (byteV l[j]):=by rw [hcs];simp [hj]
  rw [List.getElem?_take,if_pos hj,List.getElem?_drop] at e1
  obtain ⟨hlt,e2⟩:=List.getElem?_eq_some_iff.1 e1
  obtain ⟨u,g1,g2⟩:=hl.rep (off + j) hlt
  rw [e2] at g2
  rw [Addr.add_lit]
  simp only [World.cell?,hl.heap,g1,byteV] at g2 ⊢
  rw [g2.int];rfl
 | apZ=>exact absurd rfl (hap _ _ _ _)
 | clL=>cases hnc
 | cvL=>cases hnc
 | s2b=>exact absurd rfl (hsb _)
 | @mn mx _ _ k k' p q hx hy =>
  cases hc
  have hx0:=(hx ▸ hfr.ev _).int
  have hy0:=(hy ▸ hfr.ev _).int
  refine wp_val (c:=.int k (if mx then (if q > p then q else p) else (if q < p then q else p))) (w':=w) ?_ (hK _ _ (Aft.same hsim (.lit rfl)))
  cases mx
  ·simp [execOp,he,resolve,invoke,builtin,hx0,hy0,Builtin.min_,Builtin.min2]
  ·simp [execOp,he,resolve,invoke,builtin,hx0,hy0,Builtin.max_,Builtin.max2]
 | _=>simp [AOp.late] at hlate
theorem enter_cl {f:Nat} {args:Array Operand} {tys:Array TypeId} {fn:Func} (he:o.op=.call ⟨.value (.func f),args,tys⟩) (hf:P.funcs[f]?=some fn) (hb:fn.body.isSome=true) (hn:(fn.name == "runtime.NumGoroutine")=false) :
  (execOp a.eval o).run P w=.ok (.enter f (args.toList.map a.eval).toArray) w:=by
 have e:(args.toList.map a.eval).toArray=args.map a.eval:=by rw [← Array.toList_map]
 rw [e]
 have ef:a.eval (.func f)=.func (.func f) #[] #[]:=rfl
 simp only [execOp,he,resolve,ef,Deferred.ofValue,invoke,Sem.run_bind,Sem.run_pure,Result.andThen_ok,Array.empty_append,Array.append_empty,run_callFunc ⟨fn,hf,hb,hn⟩]
theorem enter_cv {g:Nat} {f:Operand} {args:Array Operand} {tys:Array TypeId} {cs:Array Value} (he:o.op=.call ⟨.value f,args,tys⟩) (hce:a.eval f=.func (.func g) #[] cs) (hgc:Callable P g) :
  (execOp a.eval o).run P w=.ok (.enter g (args.toList.map a.eval++cs.toList).toArray) w:=by
 have e:(args.toList.map a.eval++cs.toList).toArray=args.map a.eval++cs:=by apply Array.ext';simp
 rw [e]
 simp only [execOp,he,resolve,hce,Deferred.ofValue,invoke,Sem.run_bind,Sem.run_pure,Result.andThen_ok,Array.empty_append,run_callFunc hgc]
theorem enter_cvb {g:Nat} {f:Operand} {args:Array Operand} {tys:Array TypeId} {cs:Array Value} (he:o.op=.call ⟨.value f,args,tys⟩) (hce:a.eval f=.func (.func g) cs #[]) (hgc:Callable P g) :
  (execOp a.eval o).run P w=.ok (.enter g (cs.toList++args.toList.map a.eval).toArray) w:=by
 have e:(cs.toList++args.toList.map a.eval).toArray=cs++args.map a.eval:=by apply Array.ext';simp
 rw [e]
 simp only [execOp,he,resolve,hce,Deferred.ofValue,invoke,Sem.run_bind,Sem.run_pure,Result.andThen_ok,Array.append_empty,run_callFunc hgc]
theorem enter_clo {g:Nat} {f:Operand} {args:Array Operand} {tys:Array TypeId} {l:List V} (he:o.op=.call ⟨.value f,args,tys⟩) (hfr:FrRep m bk a.tmps fr) (hf:cloA (evO fr f) (args.toList.map (evO fr))=some (g,l)) (hgc:Callable P g) :
  ∃ cl:List Value,(execOp a.eval o).run P w=.ok (.enter g cl.toArray) w∧RepL m bk cl l:=by
 have h:=hfr.ev f
 unfold cloA at hf
 split at hf
 ·rename_i g' caps hv
  cases hf
  rw [hv] at h
  cases hce:a.eval f <;> rw [hce] at h <;> try (cases h;done)
  cases h with
  | @clo _ _ cs _ _ hl hr=>exact ⟨_,enter_cv he hce hgc,(args_rep hfr _).append ⟨by simpa using hl,fun j g1 g2=>by simpa using hr j (by simpa using g1) g2⟩⟩
 ·rename_i g' bs hv
  cases hf
  rw [hv] at h
  cases hce:a.eval f <;> rw [hce] at h <;> try (cases h;done)
  cases h with
  | @clo _ _ cs _ hy hl hr=>cases hy
  | @bnd _ _ cs _ hl hr=>exact ⟨_,enter_cvb he hce hgc,RepL.append ⟨by simpa using hl,fun j g1 g2=>by simpa using hr j (by simpa using g1) g2⟩ (args_rep hfr _)⟩
 ·cases hf
theorem call_sound {ty:TypeId} {op:Op} {ao:AOp} {v:V} {rd:List Nat} {ef:List (Nat × Slot)} {id:Nat} (he:o.op=op) (hc:Cop P op ty ao) (hs:AStep P (evO fr) st id ao v rd ef) (hsim:Sim B m0 m bk w st) (hg:GM m) (hfr:FrRep m bk a.tmps fr) (hcall:ao.isCall=true)
  (hK:∀ c w',Aft B m0 m bk w (AStep.eff st ef) v c w'→K (a.put o.dst c) w'):o.wp P a w K Q:=by
 cases hs with
 | @cl f args vs _ _ ha h =>
  cases hc with
  | @cl _ _ fn args tys hf hb hn=>exact wp_call (enter_cl he hf hb hn) hsim hg (ha.rep hsim (args_rep hfr _)).toA h hK
 | @cv f args g l vs _ _ hf hgc ha h =>
  cases hc with
  | @cv _ _ args tys =>
  obtain ⟨cl,hce,hcl⟩:=enter_clo (w:=w) he hfr hf hgc
  exact wp_call hce hsim hg (ha.rep hsim hcl).toA h hK
 | @clS f args _ st' _ h hl hef =>
  subst hef
  cases hc with
  | @cl _ _ fn args tys hf hb hn =>
  rw [eff_all hl] at hK
  unfold Oper.wp
  rw [enter_cl he hf hb hn,Oper.upon_enter]
  refine (h B m0 m bk w _ hg hsim (args_rep hfr _).toA).mono ?_
  rintro e w' ⟨c,rfl,hA⟩
  exact hK _ _ hA
 | clL h =>
  cases hc with
  | @cl _ _ fn args tys hf hb hn =>
  unfold Oper.wp
  rw [enter_cl he hf hb hn,Oper.upon_enter]
  refine (h st rfl (fun _ _=>rfl) B m0 m bk w _ hg hsim (args_rep hfr _).toA).mono ?_
  rintro e w' ⟨c,rfl,hA⟩
  exact hK _ _ hA
 | @cvL f args g l _ _ _ hf hgc h =>
  cases hc with
  | @cv _ _ args tys =>
  obtain ⟨cl,hce,hcl⟩:=enter_clo (w:=w) he hfr hf hgc
  unfold Oper.wp
  rw [hce,Oper.upon_enter]
  refine (h st rfl (fun _ _=>rfl) B m0 m bk w _ hg hsim hcl.toA).mono ?_
  rintro e w' ⟨c,rfl,hA⟩
  exact hK _ _ hA
 | @cvS f args g l _ st' _ hf hgc h hl hef =>
  subst hef
  cases hc with
  | @cv _ _ args tys =>
  rw [eff_all hl] at hK
  obtain ⟨cl,hce,hcl⟩:=enter_clo (w:=w) he hfr hf hgc
  unfold Oper.wp
  rw [hce,Oper.upon_enter]
  refine (h B m0 m bk w _ hg hsim hcl.toA).mono ?_
  rintro e w' ⟨c,rfl,hA⟩
  exact hK _ _ hA
 | _=>simp [AOp.isCall] at hcall
end
end Go.Proofs.YtmmmcpeickfolaaGreat

