/- A part of the proof: 4 texts joined. -/
import Derived.Test.YtpkodpcfafipdaaGreatDoorSuA10
import Derived.Scope
import Derived.RangeFuncLeaves
import Derived.RangeFuncRecord
set_option linter.all false
namespace Go.Proofs.YtpkodpcfafipdaaGreatDoor
open Go.RowKit
inductive ACode where
 | skip
 | reg (nc:Nat) (ops:List AOper) (bef:Option (List (List Nat)))
 | seq (a b:ACode)
 | cond (c:Operand) (a b:ACode)
 | block (id:Nat) (a:ACode)
 | loop (a:ACode)
 | exit (id:Nat)
 | ret
 | raw (c:Code)
 deriving Inhabited
inductive AExit where
 | normal
 | exit (id:Nat)
 | ret
inductive Frz:List Slot→List Slot→Prop
 | refl {st}:Frz st st
 | step {st st' i cs frz f} (h:Frz st st') (hi:st'[i]?=some (.live cs frz)) (h1:frz≤f) (h2:f≤cs.length):Frz st (st'.set i (.live cs f))
def sgm (sg:List Nat) (i:Nat):Nat:=sg.getD i i
def V.ren (sg:List Nat):V→V
 | .lit v=>.lit v
 | .agg cs=>.agg (renL sg cs)
 | .tup cs=>.tup (renL sg cs)
 | .sl xs f=>.sl xs f
 | .osl id off n es f=>.osl (sgm sg id) off n es f
 | .ptr id off=>.ptr (sgm sg id) off
 | .eptr cs=>.eptr cs
 | .clo fn caps=>.clo fn (renL sg caps)
 | .any=>.any
where renL (sg:List Nat):List V→List V
 | []=>[]
 | v :: vs=>v.ren sg :: renL sg vs
theorem renL_len (sg:List Nat):∀ l:List V,(V.ren.renL sg l).length=l.length
 | []=>rfl
 | v :: l=>by simp [V.ren.renL,renL_len sg l]
theorem renL_get (sg:List Nat):∀ (l:List V) (j:Nat) (h:j < l.length) (h2:j < (V.ren.renL sg l).length),(V.ren.renL sg l)[j]=l[j].ren sg
 | v :: l,0,_,_=>rfl
 | v :: l,j + 1,h,h2=>by simpa [V.ren.renL] using renL_get sg l j (by simpa using h) (by simpa [V.ren.renL] using h2)
theorem ren_one (sg:List Nat) (v:V):(v.ren sg).one=v.one:=by cases v <;> rfl
theorem renL_mem {sg:List Nat} {l:List V} {v:V} (h:v ∈ l):v.ren sg ∈ V.ren.renL sg l:=by
 obtain ⟨j,hj,rfl⟩:=List.getElem_of_mem h
 rw [← renL_get sg l j hj (by rw [renL_len];exact hj)]
 exact List.getElem_mem _
theorem Rep.ren {m:Mem} {bk:Bks} {sg:List Nat} {c:Value} {u:V} (h:Rep m bk c u):∀ v:V,v.ren sg=u→Rep m (fun i=>bk (sgm sg i)) c v:=by
 have lists:∀ {bk:Bks} {cs:Array Value} {vs l:List V} (hl:cs.size=vs.length) (ih:∀ j (h1:j < cs.size) (h2:j < vs.length),∀ v:V,v.ren sg=vs[j]→Rep m (fun i=>bk (sgm sg i)) cs[j] v),V.ren.renL sg l=vs →
   cs.size=l.length∧∀ j (h1:j < cs.size) (h2:j < l.length),Rep m (fun i=>bk (sgm sg i)) cs[j] l[j]:=by
  intro bk cs vs l hl ih e
  subst e
  rw [renL_len] at hl
  exact ⟨hl,fun j h1 h2=>ih j h1 (by rw [renL_len];exact h2) l[j] (renL_get sg l j h2 _).symm⟩
 induction h with
 | lit h=>intro v e;cases v <;> simp only [V.ren,reduceCtorEq,V.lit.injEq] at e;subst e;exact .lit h
 | agg hl h1 _ ih =>
  intro v e
  cases v <;> simp only [V.ren,reduceCtorEq,V.agg.injEq] at e
  obtain ⟨g1,g2⟩:=lists hl ih e
  exact .agg g1 (fun v hv=>by have:=h1 _ (e ▸ renL_mem (sg:=sg) hv);rwa [ren_one] at this) g2
 | tup hl _ ih =>
  intro v e
  cases v <;> simp only [V.ren,reduceCtorEq,V.tup.injEq] at e
  obtain ⟨g1,g2⟩:=lists hl ih e
  exact .tup g1 g2
 | sl hn hc hf hes h1 hm h _=>intro v e;cases v <;> simp only [V.ren,reduceCtorEq,V.sl.injEq] at e;obtain ⟨rfl,rfl⟩:=e;exact .sl hn hc hf hes h1 hm h
 | slnil hf=>intro v e;cases v <;> simp only [V.ren,reduceCtorEq,V.sl.injEq] at e;obtain ⟨rfl,rfl⟩:=e;exact .slnil hf
 | osl hb hc hf hs=>intro v e;cases v <;> simp only [V.ren,reduceCtorEq,V.osl.injEq] at e;obtain ⟨rfl,rfl,rfl,rfl,rfl⟩:=e;exact .osl hb hc hf hs
 | oslnil=>intro v e;cases v <;> simp only [V.ren,reduceCtorEq,V.osl.injEq] at e;obtain ⟨_,rfl,rfl,rfl,rfl⟩:=e;exact .oslnil
 | ptr hb=>intro v e;cases v <;> simp only [V.ren,reduceCtorEq,V.ptr.injEq] at e;obtain ⟨rfl,rfl⟩:=e;exact .ptr hb
 | eptr h1 hm h _=>intro v e;cases v <;> simp only [V.ren,reduceCtorEq,V.eptr.injEq] at e;subst e;exact .eptr h1 hm h
 | clo hv hl _ ih =>
  intro v e
  cases v <;> simp only [V.ren,reduceCtorEq,V.clo.injEq] at e
  obtain ⟨rfl,e⟩:=e
  obtain ⟨g1,g2⟩:=lists hl ih e
  exact .clo hv g1 g2
 | bnd hl _ ih =>
  intro v e
  cases v <;> simp only [V.ren,reduceCtorEq,V.clo.injEq] at e
  obtain ⟨rfl,e⟩:=e
  obtain ⟨g1,g2⟩:=lists hl ih e
  exact .bnd g1 g2
 | any=>intro v e;cases v <;> simp only [V.ren,reduceCtorEq] at e;exact .any
structure Wk (n0 n:Nat) (sg:List Nat) (fr fr' : List V) (st st' : List Slot):Prop where
 le:n0≤n
 fix:∀ i,i < n0→sgm sg i=i
 len:fr'.length=fr.length
 fr:∀ t (h1:t < fr'.length) (h2:t < fr.length),fr'[t]=.any∨(fr'[t].ren sg=fr[t]∧fr'[t].idlt n=true)
 size:st'.length=n
 live:∀ (i:Nat) (cs:List V) (frz:Nat),st'[i]?=some (Slot.live cs frz)→st[sgm sg i]?=some (Slot.live (V.ren.renL sg cs) frz)∧V.idlt.belowL n cs=true
 fresh:∀ i:Nat,st'[i]?=some Slot.fresh→st[sgm sg i]?=some Slot.fresh
 inj:∀ (i j:Nat) (ci:List V) (fi:Nat) (cj:List V) (fj:Nat),st'[i]?=some (Slot.live ci fi)→st'[j]?=some (Slot.live cj fj)→sgm sg i=sgm sg j→i=j
def AOps (P:Program) (base:Nat):List AOper→List (List Nat × List Nat)→List V→List Slot→(List (List Nat × List Nat)→List V→List Slot→Prop)→Prop
 | [],fp,fr,st,K=>K fp fr st
 | o :: os,fp,fr,st,K =>
  (gval o.guard fr=some false∧AOps P base os (([],[]) :: fp) (putF fr o.dst (.tup [])) st K) ∨
  (gval o.guard fr=some true∧∃ v rd ef,AStep P (evO fr) st (base + o.c) o.op v rd ef∧AOps P base os ((rd,ef.map Prod.fst) :: fp) (putF fr o.dst v) (AStep.eff st ef) K)
def confl (a b:List Nat × List Nat):Bool:=a.2.any (fun k=>b.1.contains k || b.2.contains k) || a.1.any (fun k=>b.2.contains k)
def footB (bef:List (List Nat)) (fps:List (List Nat × List Nat)):Bool :=
 (List.range fps.length).all fun j=>(List.range j).all fun i=>(bef.getD j []).contains i || !confl (fps.getD i ([],[])) (fps.getD j ([],[]))
def unr (n0:Nat) (R:(AExit→List V→List Slot→Prop)→List V→List Slot→Prop) (Q:AExit→List V→List Slot→Prop):Nat→List V→List Slot→Prop
 | 0,fr,st=>∃ (I:Nat→List V→List Slot→Prop) (n1 k0:Nat) (sg0:List Nat) (fr0:List V) (st0:List Slot),Wk n0 k0 sg0 fr fr0 st st0∧I n1 fr0 st0 ∧
   ∀ n fr st,I n fr st→R (fun e fr' st'=>match e with | .normal=>∃ n' k sg fr'' st'',n' < n∧Wk n0 k sg fr' fr'' st' st''∧I n' fr'' st'' | e=>Q e fr' st') fr st
 | j + 1,fr,st=>R (fun e fr' st'=>match e with | .normal=>unr n0 R Q j fr' st' | e=>Q e fr' st') fr st
def exitOf:Exit→Option AExit
 | .normal=>some .normal
 | .exit id=>some (.exit id)
 | .ret=>some .ret
 | _=>none
def PostC (B:Kp) (m0:Mem) (bk0:Bks) (w0:Org) (Q:AExit→List V→List Slot→Prop):Exit→Act→World→Prop:=fun e a w=>∃ ae fr st,exitOf e=some ae∧Cn B m0 bk0 w0 a w fr st∧Q ae fr st
theorem PostC.mono {B:Kp} {m0:Mem} {bk0:Bks} {w0:Org} {Q Q' : AExit→List V→List Slot→Prop} (h:∀ e fr st,Q e fr st→Q' e fr st):∀ e a w,PostC B m0 bk0 w0 Q e a w→PostC B m0 bk0 w0 Q' e a w:=by
 rintro e a w ⟨ae,fr,st,h1,h2,h3⟩
 exact ⟨ae,fr,st,h1,h2,h _ _ _ h3⟩
def AW (P:Program) (n0:Nat):ACode→(AExit→List V→List Slot→Prop)→List V→List Slot→Prop
 | .skip,Q,fr,st=>Q .normal fr st
 | .reg nc ops none,Q,fr,st=>∃ st0 x,Frz st st0∧AOps P st0.length ops [] fr (st0++List.replicate (nc + x) .fresh) fun _ fr st=>Q .normal fr st
 | .reg nc ops (some bef),Q,fr,st=>∃ st0 x,Frz st st0∧AOps P st0.length ops [] fr (st0++List.replicate (nc + x) .fresh) fun fp fr st=>footB bef fp.reverse=true∧Q .normal fr st
 | .seq a b,Q,fr,st=>AW P n0 a (fun e fr st=>match e with | .normal=>AW P n0 b Q fr st∨∃ k sg fr' st',Wk n0 k sg fr fr' st st'∧AW P n0 b Q fr' st' | e=>Q e fr st) fr st
 | .cond c a b,Q,fr,st=>∃ t,evO fr c=.lit (.bool t)∧(t=true→AW P n0 a Q fr st)∧(t=false→AW P n0 b Q fr st)
 | .block id a,Q,fr,st=>AW P n0 a (fun e fr st=>match e with | .exit j=>if j=id then Q .normal fr st else Q (.exit j) fr st | e=>Q e fr st) fr st
 | .loop a,Q,fr,st=>∃ j,unr n0 (fun Q fr st=>AW P n0 a Q fr st) Q j fr st
 | .exit id,Q,fr,st=>Q (.exit id) fr st
 | .ret,Q,fr,st=>Q .ret fr st
 | .raw c,Q,fr,st=>∀ (B:Kp) (m0:Mem) (bk0:Bks) (w0:Org) (a:Act) (w:World),GM m0→w0.mark=true→(∀ i x,bk0 i=some x→i < n0)→Cn B m0 bk0 w0 a w fr st→c.wp P (PostC B m0 bk0 w0 Q) a w
inductive MatchC (P:Program):Code→ACode→Prop
 | skip:MatchC P .skip .skip
 | label {l}:MatchC P (.label l) .skip
 | regT {id ops aos nc} (hn:ops.size=aos.length) (hm:∀ j (h:j < aos.length) (o:Oper),ops[j]?=some o→MatchOp P ops o aos[j]):MatchC P (.region id ops false) (.reg nc aos none)
 | regD {id ops aos nc bef} (hn:ops.size=aos.length) (hm:∀ j (h:j < aos.length) (o:Oper),ops[j]?=some o→MatchOp P ops o aos[j]) (hr:RegOK ops aos bef):MatchC P (.region id ops true) (.reg nc aos (some bef))
 | seq {a b x y} (h1:MatchC P a x) (h2:MatchC P b y):MatchC P (.seq a b) (.seq x y)
 | cond {c a b x y} (h1:MatchC P a x) (h2:MatchC P b y):MatchC P (.cond c a b) (.cond c x y)
 | block {id a x} (h:MatchC P a x):MatchC P (.block id a) (.block id x)
 | loop {a x} (h:MatchC P a x):MatchC P (.loop a) (.loop x)
 | scope {a x} (h:MatchC P a x):MatchC P (.scope a) x
 | exit {id}:MatchC P (.exit id) (.exit id)
 | ret:MatchC P .ret .ret
 | raw {c}:MatchC P c (.raw c)
theorem footB_ok {bef:List (List Nat)} {fps:List (List Nat × List Nat)} (h:footB bef fps=true):FootOK bef fps:=by
 intro i j hi hj hij
 simp only [footB,List.all_eq_true,List.mem_range,Bool.or_eq_true,Bool.not_eq_true'] at h
 have:=h j hj i hij
 rw [getD_pos _ _ _ hi,getD_pos _ _ _ hj] at this
 rcases this with g | g
 ·exact .inl (by simpa using g)
 ·refine .inr fun k=>?_
  simp only [confl,Bool.or_eq_false_iff,List.any_eq_false,Bool.or_eq_true,List.contains_eq_mem,decide_eq_true_eq,not_or] at g
  exact ⟨fun ⟨h1,h2⟩=>by have:=g.1 k h1;rcases h2 with h2 | h2;exact this.1 h2;exact this.2 h2,fun ⟨h1,h2⟩=>g.2 k h1 h2⟩
theorem aops_run {P:Program} {base:Nat}:∀ {os:List AOper} {fp:List (List Nat × List Nat)} {fr:List V} {st:List Slot} {K:List (List Nat × List Nat)→List V→List Slot→Prop},AOps P base os fp fr st K →
  ∃ fps fr' st',Run P base os fr st fps fr' st'∧K (fps.reverse++fp) fr' st'
 | [],fp,fr,st,K,h=>⟨[],fr,st,.nil,h⟩
 | o :: os,fp,fr,st,K,h=>by
  rcases h with ⟨hg,h⟩ | ⟨hg,v,rd,ef,hs,h⟩
  ·obtain ⟨fps,fr',st',hr,hk⟩:=aops_run h
   exact ⟨_,fr',st',.off hg hr,by simpa using hk⟩
  ·obtain ⟨fps,fr',st',hr,hk⟩:=aops_run h
   exact ⟨_,fr',st',.on hg hs hr,by simpa using hk⟩
section
variable {P : Program} {w0 : Org} {B : Kp} {m0 : Mem} {bk0 : Bks} {a : Act} {w : World} {fr : List V} {st : List Slot}
theorem Cn.frz (h:Cn B m0 bk0 w0 a w fr st) {st0:List Slot} (hf:Frz st st0):Cn B m0 bk0 w0 a w fr st0:=by
 induction hf with
 | refl=>exact h
 | step hf hi h1 h2 ih =>
  obtain ⟨m,bk,hsim,hfr,hd,hb,hbk⟩:=ih
  obtain ⟨m',g1,g2⟩:=hsim.freeze hi h1 h2
  exact ⟨m',bk,g1,hfr.mono g2 (fun _ _ h=>h),hd,hb,hbk⟩
theorem Cn.room (h:Cn B m0 bk0 w0 a w fr st) (n:Nat):Cn B m0 bk0 w0 a w fr (st++List.replicate n .fresh):=by
 obtain ⟨m,bk,hsim,hfr,hd,hb,hbk⟩:=h
 have get:∀ (k:Nat) (c:List V) (f:Nat),(st++List.replicate n Slot.fresh)[k]?=some (Slot.live c f)→st[k]?=some (Slot.live c f):=by
  intro k c f hk
  by_cases hlt:k < st.length
  ·rw [List.getElem?_append_left hlt] at hk;exact hk
  ·rw [List.getElem?_append_right (by omega),List.getElem?_replicate] at hk
   split at hk <;> simp at hk
 refine ⟨m,bk,⟨hsim.base,hsim.mem,hsim.ext,hsim.old,fun id cs f hid=>hsim.blk id cs f (get _ _ _ hid),fun i j ci fi cj fj x y hi hj=>hsim.inj i j ci fi cj fj x y (get _ _ _ hi) (get _ _ _ hj),fun id hid=>?_⟩,hfr,hd,hb,hbk⟩
 refine hsim.nb id ?_
 by_cases hlt:id < st.length
 ·rw [List.getElem?_append_left hlt] at hid;exact hid
 ·exact .inl (List.getElem?_eq_none (by omega))
theorem Cn.wk {n0:Nat} (hk0:∀ id x,bk0 id=some x→id < n0) (h:Cn B m0 bk0 w0 a w fr st) {n:Nat} {sg:List Nat} {fr' : List V} {st' : List Slot} (hw:Wk n0 n sg fr fr' st st'):Cn B m0 bk0 w0 a w fr' st':=by
 obtain ⟨m,bk,hsim,hfr,hd,hb,hbk⟩:=h
 have lt:∀ (i:Nat) (s:Slot),st'[i]?=some s→i < n:=by
  intro i s hi;have:=(List.getElem?_eq_some_iff.1 hi).1;rw [hw.size] at this;exact this
 refine ⟨m,cutBk n (fun i=>bk (sgm sg i)),⟨hsim.base,hsim.mem,hsim.ext,hsim.old,fun id cs f hid=>?_,fun i j ci fi cj fj x y hi hj hx hy e=>?_,fun id hid=>?_⟩,⟨hfr.1.trans hw.len.symm,fun j h1 h2=>?_⟩,hd,hb,fun id x h=>?_⟩
 ·have hlt:=lt _ _ hid
  obtain ⟨h0,hc⟩:=hw.live id cs f hid
  rcases hsim.blk _ _ f h0 with ⟨n1,n2,n3⟩ | ⟨b,sz,arr,t,lo,hi,hl⟩
  ·refine .inl ⟨?_,n2,by unfold cutBk;rw [if_pos hlt];exact n3⟩
   have:=congrArg List.length n1
   rw [renL_len] at this
   exact List.length_eq_zero_iff.1 this
  refine .inr ⟨b,sz,arr,t,lo,hi,⟨by unfold cutBk;rw [if_pos hlt];exact hl.at_,hl.own,hl.heap,hl.size,hl.free,by have:=hl.fit;rwa [renL_len] at this,fun u hu=>by have:=hl.one _ (renL_mem (sg:=sg) hu);rwa [ren_one] at this,fun k hk=>?_,hl.mu,hl.fz⟩⟩
  obtain ⟨u,g1,g2⟩:=hl.rep k (by rw [renL_len];exact hk)
  exact ⟨u,g1,(Rep.ren g2 cs[k] (renL_get sg cs k hk _).symm).cut (belowL_get hc k hk)⟩
 ·unfold cutBk at hx hy
  rw [if_pos (lt _ _ hi)] at hx
  rw [if_pos (lt _ _ hj)] at hy
  exact hw.inj i j ci fi cj fj hi hj (hsim.inj _ _ _ _ _ _ x y (hw.live i ci fi hi).1 (hw.live j cj fj hj).1 hx hy e)
 ·unfold cutBk
  by_cases hlt:id < n
  ·rw [if_pos hlt]
   rcases hid with h | h
   ·rw [List.getElem?_eq_none_iff,hw.size] at h;omega
   ·exact hsim.nb _ (.inr (hw.fresh id h))
  ·rw [if_neg hlt]
 ·have hl:j < fr.length:=by rw [← hw.len];exact h2
  rcases hw.fr j h2 hl with e | ⟨e,hid⟩
  ·rw [e];exact .any
  ·exact (Rep.ren (hfr.2 j h1 hl) _ e).cut hid
 ·have hi:=hk0 _ _ h
  unfold cutBk
  rw [if_pos (Nat.lt_of_lt_of_le hi hw.le)]
  show bk (sgm sg id)=some x
  rw [hw.fix _ hi]
  exact hbk _ _ h
def LoopAt (P:Program) (c:Code) (Q:Exit→Act→World→Prop) (a:Act) (w:World):Prop :=
 ∀ (b:Frame) (k:List Item) (cs:List Frame),∃ e a' w',Q e a' w'∧Arrives P (lone (b.at a (.code c :: .inLoop c :: k)) cs w) b k cs e a' w'
theorem wp_of_loopAt {c:Code} {Q:Exit→Act→World→Prop} (h:LoopAt P c Q a w):(Code.loop c).wp P Q a w:=fun b k cs=>by
 obtain ⟨e,a',w',hq,harr⟩:=h b k cs
 exact ⟨e,a',w',hq,.of_steps (.one step_loop) harr⟩
theorem loopAt_unr {c:Code} {Q:Exit→Act→World→Prop} (h:c.wp P (Exit.then (fun a' w'=>LoopAt P c Q a' w') Q) a w):LoopAt P c Q a w:=fun b k cs=>by
 obtain ⟨e,a₁,w₁,hq,harr⟩:=h b (.inLoop c :: k) cs
 cases e with
 | normal =>
  obtain ⟨e₂,a₂,w₂,hq₂,harr₂⟩:=hq b k cs
  exact ⟨e₂,a₂,w₂,hq₂,.of_steps (Steps.trans harr (.one step_inLoop)) harr₂⟩
 | _=>exact ⟨_,a₁,w₁,hq,.pass (x:=.inLoop c) rfl (fun _ _=>.inl (by simp)) harr⟩
theorem loopAt_inv {c:Code} {Q:Exit→Act→World→Prop} {I:Nat→Act→World→Prop} (round:∀ n a w,I n a w→c.wp P (Exit.then (fun a' w'=>∃ n',n' < n∧I n' a' w') Q) a w):∀ (n:Nat) (a:Act) (w:World),I n a w→LoopAt P c Q a w:=by
 intro n
 induction n using Nat.strongRecOn with
 | _ n ih =>
  intro a w hI
  refine loopAt_unr (wp_mono (round n a w hI) ?_)
  intro e a' w' h
  cases e with
  | normal=>obtain ⟨n',hlt,h'⟩:=h;exact ih n' hlt a' w' h'
  | _=>exact h
def shutAll (Ds:List Nat) (w:World):World:=Ds.foldl (fun w D=>w.putObj D (.deferred none)) w
def Shut (B:Kp) (w0 w' w'' : World):Prop:=∃ Ds:List Nat,Ds.Nodup∧(∀ D ∈ Ds,w0.heap.size≤D∧B.ok D∧w'.heap[D]?=some (.deferred (some [])))∧w''=shutAll Ds w'
theorem shut_rest {D:Nat} {Ds:List Nat} {w:World} (hn:(D :: Ds).Nodup) (h:∀ E ∈ D :: Ds,w.heap[E]?=some (.deferred (some []))):∀ E ∈ Ds,(w.putObj D (.deferred none)).heap[E]?=some (.deferred (some [])):=fun E hE=>by
 have hne:E≠D:=by
  rintro rfl
  exact (List.nodup_cons.1 hn).1 hE
 exact (World.putObj_heap_other hne).trans (h E (List.mem_cons_of_mem _ hE))
theorem Cn.shut1 (h:Cn B m0 bk0 w0 a w fr st) {D:Nat} (h1:w0.world.heap.size≤D) (h2:B.ok D) (h3:w.heap[D]?=some (.deferred (some []))):Cn B m0 bk0 w0 { a with defers:=[] } (w.putObj D (.deferred none)) fr st:=by
 obtain ⟨m,bk,hsim,hfr,hd,hb,hbk⟩:=h
 refine ⟨m,bk,hsim.put h3 _,hfr,.nil,⟨⟨hb.os,hb.tape,hb.output,by have:=hb.size;simpa using this,fun k hk=>?_⟩,fun k hk hl=>?_,fun k c t lo hi hk=>?_,fun k o hk ho=>?_⟩,hbk⟩
 ·rw [World.putObj_heap_other (by have:=h2.1;omega)];exact hb.block k hk
 ·rw [World.putObj_heap_other (by omega)];exact hb.kep k hk hl
 ·obtain ⟨c',g1,g2⟩:=hb.shp k c t lo hi hk
  refine ⟨c',?_,g2⟩
  rw [World.putObj_heap_other]
  ·exact g1
  ·rintro rfl;rw [h3] at g1;cases g1
 ·have:=(Array.getElem?_eq_some_iff.1 hk).1
  rw [World.putObj_heap_other (by omega)];exact hb.oth k o hk ho
theorem Cn.shutL {a:Act}:∀ (Ds:List Nat) (w:World),Cn B m0 bk0 w0 { a with defers:=[] } w fr st→Ds.Nodup→(∀ D ∈ Ds,w0.world.heap.size≤D∧B.ok D∧w.heap[D]?=some (.deferred (some [])))→Cn B m0 bk0 w0 { a with defers:=[] } (shutAll Ds w) fr st
 | [],w,h,_,_=>h
 | D :: Ds,w,h,hn,hd=>by
  obtain ⟨h1,h2,h3⟩:=hd D List.mem_cons_self
  exact Cn.shutL Ds _ (h.shut1 h1 h2 h3) (List.nodup_cons.1 hn).2 fun E hE=>⟨(hd E (List.mem_cons_of_mem _ hE)).1,(hd E (List.mem_cons_of_mem _ hE)).2.1,shut_rest hn (fun E hE=>(hd E hE).2.2) E hE⟩
theorem Cn.shut {w'' : World} (h:Cn B m0 bk0 w0 a w fr st) (hs:Shut B w0.world w w''):Cn B m0 bk0 w0 { a with defers:=[] } w'' fr st:=by
 obtain ⟨Ds,h1,h2,rfl⟩:=hs
 refine Cn.shutL Ds w ?_ h1 h2
 obtain ⟨m,bk,hsim,hfr,hd,hb,hbk⟩:=h
 exact ⟨m,bk,hsim,hfr,.nil,hb,hbk⟩
theorem leavesM {fn:Func} {tmps:Array Value} {R:Ending→World→Prop}:∀ (Ds:List Nat) (w:World),Ds.Nodup→(∀ D ∈ Ds,w.heap[D]?=some (.deferred (some [])))→LeavesIn Fence.wide 0 P fn tmps R [] .returning (shutAll Ds w)→LeavesInM Fence.wide 0 P fn tmps R (Ds.map recD) .returning w
 | [],w,_,_,h=>h
 | D :: Ds,w,hn,hd,h=>⟨by simp,.inl ⟨D,_,rfl,run_takeDeferred (hd D List.mem_cons_self),leavesM Ds _ (List.nodup_cons.1 hn).2 (shut_rest hn hd) h⟩⟩
theorem Cn.defers (h:Cn B m0 bk0 w0 a w fr st):DefOk B w0 a.defers w:=by
 obtain ⟨m,bk,hsim,hfr,hd,hb,hbk⟩:=h
 exact hd
theorem calls_of_wpD {f:FuncId} {fn:Func} {c:Code} {args:Array Value} {w:World} {R:Ending→World→Prop} (hf:P.funcs[f]?=some fn) (hb:fn.body=some c)
  (h:c.wp P (fun e a w'=>(e=.normal∨e=.ret)∧DefOk B ⟨w,true⟩ a.defers w'∧∀ w'',Shut B w w' w''→∃ v,(results fn a.tmps).run P w''=.ok v w''∧R (.returned v) w'') { tmps:=args++Array.replicate (fn.ntmps - args.size) undef,defers:=[] } w):Calls P f args w R:=by
 refine (callsIn_wide (n:=0)).1 (callsIn_of_wp_marks hf hb trivial (wpIn_wide.2 (wp_mono h ?_)) rfl)
 rintro e a w' ⟨he,hd,hr⟩
 have main:LeavesInM Fence.wide 0 P fn a.tmps R a.defers .returning w':=by
  obtain ⟨Ds,h1,_,h3,h4⟩:=hd
  rw [h1]
  exact leavesM Ds w' h3 (fun D hD=>(h4 D hD).1) (hr _ ⟨Ds,h3,fun D hD=>⟨(h4 D hD).2.1,(h4 D hD).2.2,(h4 D hD).1⟩,rfl⟩)
 rcases he with rfl | rfl <;> exact main
theorem exit_of {e:Exit} {ae:AExit} (h1:exitOf e=some ae) (h3:ae=.normal∨ae=.ret):e=.normal∨e=.ret:=by
 rcases h3 with rfl | rfl
 ·cases e <;> simp only [exitOf,Option.some.injEq,reduceCtorEq] at h1 <;> first | exact .inl rfl | (injection h1)
 ·cases e <;> simp only [exitOf,Option.some.injEq,reduceCtorEq] at h1 <;> first | exact .inr rfl | (injection h1)
theorem aw_sound {n0:Nat} (hk0:∀ id x,bk0 id=some x→id < n0) (hmix:P.follows .mixedOrders=true) (hg:GM m0) (hmk:w0.mark=true) {c:Code} {ac:ACode} (hm:MatchC P c ac):∀ (Q:AExit→List V→List Slot→Prop) (fr:List V) (st:List Slot) (a:Act) (w:World),Cn B m0 bk0 w0 a w fr st→AW P n0 ac Q fr st→c.wp P (PostC B m0 bk0 w0 Q) a w:=by
 induction hm with
 | skip=>intro Q fr st a w hc h;exact wp_skip ⟨.normal,fr,st,rfl,hc,h⟩
 | label=>intro Q fr st a w hc h;exact wp_label ⟨.normal,fr,st,rfl,hc,h⟩
 | @regT id ops aos nc hn hm =>
  intro Q fr st a w hc h
  obtain ⟨st0,xr,hf,h⟩:=h
  obtain ⟨fps,fr',st',hr,hk⟩:=aops_run h
  refine wp_region ?_
  have:=run_text (ops:=ops) (Q:=PostC B m0 bk0 w0 Q) hg aos 0 _ _ _ _ _ a w hr (by omega) (fun j h o ho=>hm j h o (by simpa using ho)) ((hc.frz hf).room (nc + xr)) fun a w hc'=>⟨.normal,fr',st',rfl,hc',hk⟩
  rw [← hn] at this
  rw [List.range_eq_range']
  exact this
 | @regD id ops aos nc bef hn hm hr =>
  intro Q fr st a w hc h
  obtain ⟨st0,xr,hf,h⟩:=h
  obtain ⟨fps,fr',st',hrun,hk1,hk⟩:=aops_run h
  simp only [List.append_nil,List.reverse_reverse] at hk1
  exact reg_draw hmix hr (footB_ok hk1) hg hn hm hrun ((hc.frz hf).room (nc + xr)) fun a w hc'=>⟨.normal,fr',st',rfl,hc',hk⟩
 | seq _ _ ih1 ih2 =>
  intro Q fr st a w hc h
  refine wp_seq (wp_mono (ih1 _ fr st a w hc h) ?_)
  rintro e a w ⟨ae,fr,st,h1,h2,h3⟩
  cases e <;> simp only [exitOf,Option.some.injEq,reduceCtorEq] at h1 <;> subst h1
  ·rcases h3 with h3 | ⟨k,sg,fr',st',hw,h3⟩
   ·exact ih2 Q fr st a w h2 h3
   ·exact ih2 Q fr' st' a w (Cn.wk hk0 h2 hw) h3
  ·exact ⟨_,fr,st,rfl,h2,h3⟩
  ·exact ⟨_,fr,st,rfl,h2,h3⟩
 | @cond c x y _ _ _ _ ih1 ih2 =>
  intro Q fr st a w hc h
  obtain ⟨t,he,h1,h2⟩:=h
  have hv:a.eval c=.bool t:=by
   obtain ⟨m,bk,_,hfr,_,_⟩:=hc
   exact (he ▸ hfr.ev c).int
  exact wp_cond_split hv (fun e=>ih1 Q fr st a w hc (h1 e)) (fun e=>ih2 Q fr st a w hc (h2 e))
 | @block id x y _ ih =>
  intro Q fr st a w hc h
  refine wp_block (wp_mono (ih _ fr st a w hc h) ?_)
  rintro e a w ⟨ae,fr,st,h1,h2,h3⟩
  cases e <;> simp only [exitOf,Option.some.injEq,reduceCtorEq] at h1 <;> subst h1
  ·exact ⟨_,fr,st,rfl,h2,h3⟩
  ·rename_i j
   by_cases e:j=id
   ·simp only [e,if_true,Exit.inBlock] at h3 ⊢
    exact ⟨_,fr,st,rfl,h2,h3⟩
   ·simp only [e,if_false,Exit.inBlock] at h3 ⊢
    exact ⟨_,fr,st,rfl,h2,h3⟩
  ·exact ⟨_,fr,st,rfl,h2,h3⟩
 | @loop x y _ ih =>
  intro Q fr st a w hc h
  obtain ⟨j,h⟩:=h
  refine wp_of_loopAt ?_
  induction j generalizing fr st a w with
  | zero =>
   obtain ⟨I,n1,k0,sg0,fr0,st0,hw,hI,hround⟩:=h
   refine loopAt_inv (I:=fun n a w=>∃ fr st,Cn B m0 bk0 w0 a w fr st∧I n fr st) ?_ n1 a w ⟨fr0,st0,Cn.wk hk0 hc hw,hI⟩
   rintro n a w ⟨fr1,st1,hc1,hI1⟩
   refine wp_mono (ih _ fr1 st1 a w hc1 (hround n fr1 st1 hI1)) ?_
   rintro e a w ⟨ae,fr,st,h1,h2,h3⟩
   cases e <;> simp only [exitOf,Option.some.injEq,reduceCtorEq] at h1 <;> subst h1
   ·obtain ⟨n',k,sg,fr'',st'',hlt,hw',hI'⟩:=h3
    exact ⟨n',hlt,fr'',st'',Cn.wk hk0 h2 hw',hI'⟩
   ·exact ⟨_,fr,st,rfl,h2,h3⟩
   ·exact ⟨_,fr,st,rfl,h2,h3⟩
  | succ j ihj =>
   refine loopAt_unr (wp_mono (ih _ fr st a w hc h) ?_)
   rintro e a w ⟨ae,fr,st,h1,h2,h3⟩
   cases e <;> simp only [exitOf,Option.some.injEq,reduceCtorEq] at h1 <;> subst h1
   ·exact ihj fr st a w h2 h3
   ·exact ⟨_,fr,st,rfl,h2,h3⟩
   ·exact ⟨_,fr,st,rfl,h2,h3⟩
 | scope _ ih =>
  intro Q fr st a w hc h
  refine wp_scope_straight (wp_mono (ih Q fr st a w hc h) ?_)
  rintro e a w ⟨ae,fr,st,h1,h2,h3⟩
  cases e <;> simp only [exitOf,Option.some.injEq,reduceCtorEq] at h1 <;> subst h1 <;> exact ⟨_,fr,st,rfl,h2,h3⟩
 | exit=>intro Q fr st a w hc h;exact wp_exit ⟨_,fr,st,rfl,hc,h⟩
 | ret=>intro Q fr st a w hc h;exact wp_ret ⟨_,fr,st,rfl,hc,h⟩
 | raw=>intro Q fr st a w hc h;exact h _ _ _ _ a w hg hmk hk0 hc
end
section
variable {P : Program} {n0 : Nat}
theorem AOps_mono {base:Nat}:∀ {os:List AOper} {fp:List (List Nat × List Nat)} {fr:List V} {st:List Slot} {K K' : List (List Nat × List Nat)→List V→List Slot→Prop},(∀ fp fr st,K fp fr st→K' fp fr st)→AOps P base os fp fr st K→AOps P base os fp fr st K'
 | [],fp,fr,st,K,K',hk,h=>hk _ _ _ h
 | o :: os,fp,fr,st,K,K',hk,h=>by
  rcases h with ⟨hg,h⟩ | ⟨hg,v,rd,ef,hs,h⟩
  ·exact .inl ⟨hg,AOps_mono hk h⟩
  ·exact .inr ⟨hg,v,rd,ef,hs,AOps_mono hk h⟩
theorem AW_mono:∀ {c:ACode} {Q Q' : AExit→List V→List Slot→Prop} {fr:List V} {st:List Slot},(∀ e fr st,Q e fr st→Q' e fr st)→AW P n0 c Q fr st→AW P n0 c Q' fr st
 | .skip,Q,Q',fr,st,hq,h=>hq _ _ _ h
 | .reg nc ops none,Q,Q',fr,st,hq,h=>by
  obtain ⟨st0,x,hf,h⟩:=h
  exact ⟨st0,x,hf,AOps_mono (fun _ _ _ h=>hq _ _ _ h) h⟩
 | .reg nc ops (some bef),Q,Q',fr,st,hq,h=>by
  obtain ⟨st0,x,hf,h⟩:=h
  exact ⟨st0,x,hf,AOps_mono (fun _ _ _ h=>⟨h.1,hq _ _ _ h.2⟩) h⟩
 | .raw c,Q,Q',fr,st,hq,h=>fun B m0 bk0 w0 a w g1 g2 g3 g4=>wp_mono (h B m0 bk0 w0 a w g1 g2 g3 g4) (PostC.mono hq)
 | .seq a b,Q,Q',fr,st,hq,h=>by
  refine AW_mono (c:=a) (fun e fr st h=>?_) h
  cases e with
  | normal =>
   rcases h with h | ⟨k,sg,fr',st',hw,h⟩
   ·exact .inl (AW_mono (c:=b) hq h)
   ·exact .inr ⟨k,sg,fr',st',hw,AW_mono (c:=b) hq h⟩
  | _=>exact hq _ _ _ h
 | .cond c a b,Q,Q',fr,st,hq,h=>by
  obtain ⟨t,hc,h1,h2⟩:=h
  exact ⟨t,hc,fun e=>AW_mono hq (h1 e),fun e=>AW_mono hq (h2 e)⟩
 | .block id a,Q,Q',fr,st,hq,h=>by
  refine AW_mono (c:=a) (fun e fr st h=>?_) h
  cases e with
  | exit j =>
   by_cases hj:j=id
   ·simp only [hj,if_true] at h ⊢;exact hq _ _ _ h
   ·simp only [hj,if_false] at h ⊢;exact hq _ _ _ h
  | _=>exact hq _ _ _ h
 | .loop a,Q,Q',fr,st,hq,h=>by
  obtain ⟨j,h⟩:=h
  refine ⟨j,?_⟩
  revert fr st
  induction j with
  | zero =>
   intro fr st h
   obtain ⟨I,n1,k0,sg0,fr0,st0,hw,hI,hr⟩:=h
   refine ⟨I,n1,k0,sg0,fr0,st0,hw,hI,fun n fr st hn=>?_⟩
   refine AW_mono (c:=a) (fun e fr st h=>?_) (hr n fr st hn)
   cases e with
   | normal=>exact h
   | _=>exact hq _ _ _ h
  | succ j ih =>
   intro fr st h
   refine AW_mono (c:=a) (fun e fr st h=>?_) h
   cases e with
   | normal=>exact ih _ _ h
   | _=>exact hq _ _ _ h
 | .exit id,Q,Q',fr,st,hq,h=>hq _ _ _ h
 | .ret,Q,Q',fr,st,hq,h=>hq _ _ _ h
end
end Go.Proofs.YtpkodpcfafipdaaGreatDoor

namespace Go.Proofs.YtpkodpcfafipdaaGreatDoor
open Go.RowKit
inductive ARes where
 | tmp (t:Nat)
 | cell (t sz:Nat) (ag:Bool)
 deriving Inhabited
inductive ResOne (fr:List V) (st:List Slot):ARes→V→Prop
 | tmp {t v} (h:fr.getD t .any=v):ResOne fr st (.tmp t) v
 | cell {t sz ag i off cs frz} (h:fr.getD t .any=.ptr i off) (hi:st[i]?=some (.live cs frz)) (hs:off + (if ag then sz else 1)≤cs.length):ResOne fr st (.cell t sz ag) (partV ag sz (cs.drop off))
inductive ResL (fr:List V) (st:List Slot):List ARes→List V→Prop
 | nil:ResL fr st [] []
 | cons {r v rs vs} (h:ResOne fr st r v) (t:ResL fr st rs vs):ResL fr st (r :: rs) (v :: vs)
inductive MatchR (P:Program):ResultVar→ARes→Prop
 | tmp {t}:MatchR P (.tmp t) (.tmp t)
 | cell {a t d i} (hd:P.underlying t=some d) (hi:P.info? t=some i):MatchR P (.cell a t) (.cell a i.size (isAggD d))
inductive MatchRL (P:Program):List ResultVar→List ARes→Prop
 | nil:MatchRL P [] []
 | cons {r s rs ss} (h:MatchR P r s) (t:MatchRL P rs ss):MatchRL P (r :: rs) (s :: ss)
def mkR:List V→V
 | [v]=>v
 | vs=>.tup vs
def resM (tmps:Array Value):ResultVar→Sem Value
 | .tmp t=>pure (tmps.getD t undef)
 | .cell a t=>do loadVar t (← asAddr (tmps.getD a undef))
theorem fr_get {m:Mem} {bk:Bks} {tmps:Array Value} {fr:List V} (h:FrRep m bk tmps fr) (t:Nat):Rep m bk (tmps.getD t undef) (fr.getD t .any):=by
 have:=FrRep.ev (a:={ tmps:=tmps,defers:=[] }) h (.tmp t)
 exact this
theorem res_run {P:Program} {B:Kp} {m0 m:Mem} {bk:Bks} {w:World} {st:List Slot} {fr:List V} {tmps:Array Value} (hsim:Sim B m0 m bk w st) (hfr:FrRep m bk tmps fr) {rl:List ResultVar} {rs:List ARes} (hm:MatchRL P rl rs) :
  ∀ {vs:List V},ResL fr st rs vs→∃ cs,(rl.mapM (resM tmps)).run P w=.ok cs w∧RepL m bk cs vs:=by
 induction hm with
 | nil=>intro vs h;cases h;exact ⟨[],by simp,rfl,fun j h1 _=>absurd h1 (Nat.not_lt_zero _)⟩
 | @cons r s rl rs h1 _ ih =>
  intro vs h
  cases h with
  | @cons _ v _ vs h2 h3 =>
  obtain ⟨cs,g1,g2⟩:=ih h3
  have one:∃ c,(resM tmps r).run P w=.ok c w∧Rep m bk c v:=by
   cases h1 with
   | tmp =>
    cases h2 with
    | tmp h=>exact ⟨_,rfl,h ▸ fr_get hfr _⟩
   | @cell a t d i hd hi =>
    cases h2 with
    | @cell _ _ _ id off cs frz h hid hs =>
    have hx:=fr_get hfr a
    rw [h] at hx
    cases hce:tmps.getD a undef <;> rw [hce] at hx <;> try (cases hx;done)
    cases hx with
    | @ptr _ _ b sz _ hb =>
    obtain ⟨arr,tt,lo,hi',hlv,hrep⟩:=sim_live hsim hid hb
    have hcell:∀ k,k < cs.length→w.cell? ⟨b,k,none⟩=some (arr.getD k undef):=fun k hk=>by
     obtain ⟨u,hu,_⟩:=hlv.rep k hk
     simp [World.cell?,hlv.heap,hu,Array.getD_eq_getD_getElem?]
    refine ⟨_,by simp only [resM,Sem.run_bind,hce,asAddr,Sem.run_pure,Result.andThen_ok];exact run_loadVar hd hi w b off (fun k=>arr.getD (off + k) undef) fun k hk=>hcell _ (by omega),rep_part (by simp;omega) (fun u hu=>hlv.one u (List.mem_of_mem_drop hu)) fun k hk _=>?_⟩
    obtain ⟨u,hu,hr⟩:=hlv.rep (off + k) (by simp at hk;omega)
    simp only [List.getElem_drop]
    simpa [Array.getD_eq_getD_getElem?,hu] using hr
  obtain ⟨c,c1,c2⟩:=one
  refine ⟨c :: cs,by simp [List.mapM_cons,c1,g1],by simp [g2.1],fun j h1 h2=>?_⟩
  cases j with
  | zero=>exact c2
  | succ j=>exact g2.2 j (Nat.lt_of_succ_lt_succ h1) (Nat.lt_of_succ_lt_succ h2)
def mkC:List Value→Value
 | [c]=>c
 | cs=>.tuple cs.toArray
theorem mkC_arr (cs:List Value):(if h:cs.toArray.size=1 then cs.toArray[0] else Value.tuple cs.toArray)=mkC cs:=by
 match cs with
 | []=>rfl
 | [c]=>rfl
 | c :: d :: cs=>simp [mkC]
theorem results_run {P:Program} {fn:Func} {tmps:Array Value} {w:World} {cs:List Value} (h:(fn.results.toList.mapM (resM tmps)).run P w=.ok cs w):(results fn tmps).run P w=.ok (mkC cs) w:=by
 unfold results
 have e:(fun x:ResultVar=>(match x with | .tmp t=>pure (tmps.getD t undef) | .cell a t=>do loadVar t (← asAddr (tmps.getD a undef)):Sem Value))=resM tmps:=by
  funext x;cases x <;> rfl
 rw [Sem.run_bind,Array.mapM_eq_mapM_toList]
 have hm:(Functor.map List.toArray (fn.results.toList.mapM (resM tmps))).run P w=.ok cs.toArray w:=by
  rw [Sem.run_map,h];rfl
 have hm2:(Functor.map List.toArray (fn.results.toList.mapM (fun x:ResultVar=>(match x with | .tmp t=>pure (tmps.getD t undef) | .cell a t=>do loadVar t (← asAddr (tmps.getD a undef)):Sem Value)))).run P w=.ok cs.toArray w:=by
  rw [e];exact hm
 refine Eq.trans (congrArg (fun r=>Result.andThen r _) hm2) ?_
 simp only [Result.andThen_ok,Sem.run_pure]
 rw [mkC_arr]
def Fin (rs:List ARes) (v:V):AExit→List V→List Slot→Prop:=fun e fr st=>(e=.normal∨e=.ret)∧∃ st0,Frz st st0∧∃ vs rd,ResL fr st0 rs vs∧FzR st0 (mkR vs) v rd
theorem callsV_of {P:Program} {f:FuncId} {fn:Func} {c:Code} {ac:ACode} {n:Nat} {rs:List ARes} {args:List V} {v:V} (hmix:P.follows .mixedOrders=true) (hf:P.funcs[f]?=some fn) (hb:fn.body=some c) (hm:MatchC P c ac) (hnt:fn.ntmps=n) (hres:MatchRL P fn.results.toList rs)
  (h:AW P 0 ac (Fin rs v) (args++List.replicate (n - args.length) (.tup [])) []):CallsV P f args v:=by
 intro m w cargs hg hmem hargs
 subst hnt
 refine calls_of_wpD (B:=kp w.heap.size hmem.tab.tb) hf hb (wp_mono (aw_sound (B:=kp w.heap.size hmem.tab.tb) (w0:=⟨w,true⟩) (m0:=m) (bk0:=noBk) (n0:=0) (fun _ _ h=>by cases h) hmix hg rfl hm (Fin rs v) _ [] _ w ?_ h) ?_)
 ·refine ⟨m,noBk,⟨kp_fits (Nat.le_refl _),hmem,fun _ _ h=>h,fun _ _ h=>.inl h,fun id cs f hid=>by simp at hid,fun i j ci fi cj fj x y hi=>by simp at hi,fun _ _=>rfl⟩,⟨?_,fun j h1 h2=>?_⟩,.nil,Bel.refl _ _,fun _ _ h=>h⟩
  ·simp only [Array.size_append,Array.size_replicate,List.length_append,List.length_replicate,hargs.1]
  ·have hsz:=hargs.1
   by_cases hj:j < cargs.size
   ·rw [Array.getElem_append_left hj,List.getElem_append_left (by omega)]
    exact hargs.2 j hj _
   ·rw [Array.getElem_append_right (by omega),List.getElem_append_right (by omega),Array.getElem_replicate,List.getElem_replicate]
    exact .tup rfl fun j h1 _=>absurd h1 (Nat.not_lt_zero _)
 ·rintro e a w' ⟨ae,fr,st,h1,h2,h3,st0,hfz,vs,rd,hrl,hfr⟩
  refine ⟨exit_of h1 h3,h2.defers,fun w' hsh=>?_⟩
  obtain ⟨m',bk,hsim,hfrr,hd,hbl,_⟩:=(h2.shut hsh).frz hfz
  obtain ⟨cs,c1,c2⟩:=res_run hsim hfrr hres hrl
  have hrun:=results_run c1
  have hrep:Rep m' bk (mkC cs) (mkR vs):=by
   have hl:=c2.1
   match cs,vs,hl with
   | [],[],_=>exact .tup rfl fun j h1 _=>absurd h1 (Nat.not_lt_zero _)
   | [c],[v],_=>exact c2.2 0 (by simp) (by simp)
   | c :: d :: cs,v :: u :: vs,hl=>exact .tup (by simpa using hl) fun j g1 g2=>by have:=c2.2 j (by simpa using g1) g2;rw [List.getElem_toArray];exact this
  have hfin:=FzR.rep hsim hrep hfr
  have hpost:∃ v',(results fn a.tmps).run P w'=.ok v' w'∧(∃ c m',Ending.returned v'=.returned c∧Below w.heap.size w w'∧(∀ a u,m' a=some u→w'.cell? a=some u)∧(∀ a u,m a=some u→m' a=some u)∧(∀ a u,m' a=some u→m a=some u∨w.heap.size≤a.block)∧Rep m' noBk c v) :=
   ⟨_,hrun,_,m',rfl,hbl.toBelow,hsim.mem,hsim.ext,fun a u h=>(hsim.old a u h).imp id And.left,hfin⟩
  exact hpost
end Go.Proofs.YtpkodpcfafipdaaGreatDoor

namespace Go.Proofs.YtpkodpcfafipdaaGreatDoor
open Go.RowKit
def kindsOf (P:Program):Nat→TypeId→Option (List Nat)
 | 0,_=>none
 | d + 1,t=>match P.underlying t with
  | some .bool=>some [0]
  | some (.int _)=>some [1]
  | some .string=>some [2]
  | some (.struct fs)=>(fs.toList.mapM fun f=>kindsOf P d f.type).map List.flatten
  | some (.array n e)=>(kindsOf P d e).map fun ks=>(List.replicate n ks).flatten
  | _=>none
def placesOf (P:Program) (t:TypeId):Option (Nat→Option (Nat × Nat)) :=
 match P.underlying t with
 | some (.array _ e)=>(P.info? e).map fun ie=>fun i=>some (i * ie.size,ie.size)
 | some (.struct fields)=>(fields.toList.mapM fun f=>(P.info? f.type).map fun i=>(f.offset,i.size)).map fun places=>(places.toArray[·]?)
 | _=>none
def strOrSl (P:Program) (t:TypeId):Bool:=match P.underlying t with
 | some (.slice _)=>true
 | some .string=>true
 | _=>false
theorem strOrSl_ok {P:Program} {t:TypeId} (h:strOrSl P t=true):(∃ e',P.underlying t=some (.slice e'))∨P.underlying t=some .string:=by
 unfold strOrSl at h
 split at h
 ·exact .inl ⟨_,‹_›⟩
 ·exact .inr ‹_›
 ·cases h
def compOp (P:Program):Op→Option AOp
 | .move x | .assign x=>some (.mv x)
 | .pick c a b=>some (.pick c a b)
 | .load t x=>match P.underlying t,P.info? t with
  | some d,some i=>some (.ld i.size (isAggD d) x)
  | _,_=>none
 | .store t a x=>match P.info? t with
  | some i=>some (.st i.size a x)
  | none=>none
 | .alloc t=>match P.info? t with
  | some i=>match i.zero with
   | some z=>some (.al (V.ofValue z))
   | none=>none
  | none=>none
 | .box _ x=>some (.bx x)
 | .nilCheck x=>some (.nc x)
 | .binOp .eql t x y _=>match P.underlying t with
  | some .bool=>some (.binb false x y)
  | some (.pointer e)=>if e=P.pointee t then (match P.info? (P.pointee t) with | some j=>if j.size≠0 then some (.eqp false x y) else none | none=>none) else none
  | some (.struct _)=>match kindsOf P 10 t with
   | some ks=>if eqTy P 10 t ks=true∧isAggT P t=true∧P.eqGuardType P.depth t=false∧P.cellsOf t=ks.length then some (.eqa false ks x y) else none
   | none=>none
  | some (.array _ _)=>match kindsOf P 10 t with
   | some ks=>if eqTy P 10 t ks=true∧isAggT P t=true∧P.eqGuardType P.depth t=false∧P.cellsOf t=ks.length then some (.eqa false ks x y) else none
   | none=>none
  | _=>some (.bin .eql x y)
 | .binOp .neq t x y _=>match P.underlying t with
  | some .bool=>some (.binb true x y)
  | some (.pointer e)=>if e=P.pointee t then (match P.info? (P.pointee t) with | some j=>if j.size≠0 then some (.eqp true x y) else none | none=>none) else none
  | some (.struct _)=>match kindsOf P 10 t with
   | some ks=>if eqTy P 10 t ks=true∧isAggT P t=true∧P.eqGuardType P.depth t=false∧P.cellsOf t=ks.length then some (.eqa true ks x y) else none
   | none=>none
  | some (.array _ _)=>match kindsOf P 10 t with
   | some ks=>if eqTy P 10 t ks=true∧isAggT P t=true∧P.eqGuardType P.depth t=false∧P.cellsOf t=ks.length then some (.eqa true ks x y) else none
   | none=>none
  | _=>some (.bin .neq x y)
 | .binOp op _ x y _=>some (.bin op x y)
 | .unOp op _ x=>some (.un op x)
 | .convert s d x=>match P.underlying s,P.underlying d with
  | some (.int _),some (.int k)=>some (.cvi k x)
  | some .string,some .string=>some (.cvs x)
  | some .string,some (.slice e)=>match P.underlying e with
   | some (.int .u8)=>some (.s2b x)
   | _=>none
  | some (.slice e),some .string=>match P.underlying e with
   | some (.int .u8)=>some (.b2s x)
   | _=>none
  | _,_=>none
 | .fieldAddr t x n=>match P.underlying t with
  | some (.struct fs)=>match fs[n]? with
   | some f=>match P.info? f.type with
    | some i=>if i.size≠0 then some (.fa f.offset x) else none
    | none=>none
   | none=>none
  | _=>none
 | .field t x n=>match P.underlying t with
  | some (.struct fs)=>match fs[n]? with
   | some f=>match P.info? f.type,P.underlying f.type with
    | some i,some d=>some (.fd f.offset i.size (isAggD d) x)
    | _,_=>none
   | none=>none
  | _=>none
 | .indexAddr t x ix=>match P.underlying t with
  | some (.slice e)=>match P.info? e with
   | some i=>some (.ixs i.size x ix)
   | none=>none
  | some (.array len e)=>match P.info? e with
   | some i=>some (.ixa len i.size x ix)
   | none=>none
  | _=>none
 | .index t x ix=>match P.underlying t with
  | some .string=>some (.ixt x ix)
  | some (.array len e)=>match P.info? e,P.underlying e with
   | some i,some d=>some (.ixg len i.size (isAggD d) x ix)
   | _,_=>none
  | _=>none
 | .slice t x lo hi mx=>match P.underlying t with
  | some .string=>match mx with
   | none=>some (.slt x lo hi)
   | some _=>none
  | some (.slice e)=>match P.info? e with
   | some i=>some (.sls i.size x lo hi mx)
   | none=>none
  | _=>none
 | .extract x i=>some (.ex x i)
 | .build t parts=>match placesOf P t,P.info? t with
  | some pl,some i=>match i.zero with
   | some z=>match V.ofValue z,parts.toList.mapM (fun p=>(pl p.1).map fun q=>(q.1,q.2,p.2)) with
    | .agg zs,some ps=>some (.bd zs ps)
    | _,_=>none
   | none=>none
  | _,_=>none
 | .buildSlice t len parts=>match P.underlying t with
  | some (.slice e)=>match P.info? e with
   | some i=>match i.zero with
    | some z=>if len * i.size≠0∧z.cells.size=i.size∧len * i.size≤1000∧(V.ofValue z).stb=true then some (.bs i.size len ((List.range (len * i.size)).map fun k=>(V.ofValue z).cells.getD (k % i.size) .any) parts.toList) else if len=0∧parts.size=0 then some (.mv (.const (.slice none 0 0))) else none
    | none=>none
   | none=>none
  | _=>none
 | .makeSlice t n c=>match P.underlying t with
  | some (.slice e)=>match P.info? e with
   | some i=>match i.zero with
    | some z=>if i.size≠0∧z.cells.size=i.size∧(V.ofValue z).stb=true then some (.mks i.size i.bytes (V.ofValue z).cells n c) else none
    | none=>none
   | none=>none
  | _=>none
 | .makeFunc fn first caps=>match first.toList with
  | []=>if yldF fn=false then some (.mf fn caps.toList) else none
  | _=>match fn with
   | .func g=>match caps.toList with
    | []=>some (.mf (.yield g) first.toList)
    | _=>none
   | _=>none
 | .call c=>match c.callee with
  | .value (.func f)=>match P.funcs[f]? with
   | some fn=>if fn.body.isSome=true∧(fn.name == "runtime.NumGoroutine")=false then some (.cl f c.args.toList) else none
   | none=>none
  | .value f=>some (.cv f c.args.toList)
  | .builtin .len=>match c.args.toList,c.argTypes.toList with
   | [x],[t]=>match P.underlying t with
    | some .string=>some (.lent x)
    | some (.slice _)=>some (.lens x)
    | _=>none
   | _,_=>none
  | .builtin .clear=>match c.args.toList,c.argTypes.toList with
   | [x],[t]=>match P.underlying t with
    | some (.slice e)=>match P.info? e with
     | some i=>match i.zero with
      | some z=>if z.cells.size=i.size∧z.cells.toList.all (·.oneCell')=true then some (.clr i.size x) else none
      | none=>none
     | none=>none
    | _=>none
   | _,_=>none
  | .builtin .min=>match c.args.toList with
   | [x,y]=>some (.mn false x y)
   | _=>none
  | .builtin .max=>match c.args.toList with
   | [x,y]=>some (.mn true x y)
   | _=>none
  | .builtin .append=>match c.args.toList,c.argTypes.toList with
   | [s,x],[t,t']=>if strOrSl P t'=true then match P.underlying t with
    | some (.slice e)=>match P.info? e with
     | some i=>match i.zero with
      | some z=>if z.cells.size=i.size∧i.size≠0 then some (.ap i.size i.bytes s x) else none
      | none=>none
     | none=>none
    | _=>none
    else none
   | _,_=>none
  | _=>none
 | _=>none
theorem toList_nil {α:Type} {a:Array α} (h:a.toList=[]):a=#[]:=by apply Array.ext';rw [h]
theorem toList_one {α:Type} {a:Array α} {x:α} (h:a.toList=[x]):a=#[x]:=by apply Array.ext';rw [h]
theorem toList_two {α:Type} {a:Array α} {x y:α} (h:a.toList=[x,y]):a=#[x,y]:=by apply Array.ext';rw [h]
theorem placesOf_ok {P:Program} {t:TypeId} {pl:Nat→Option (Nat × Nat)} {i:TypeInfo} {z:Value} (h:placesOf P t=some pl) (hi:P.info? t=some i) (hz:i.zero=some z) (l:List (Nat × Value)):P.built t l=Instr.fill pl z.cells l:=by
 unfold placesOf at h
 unfold Program.built
 rw [hi]
 split at h
 ·rename_i n e hu
  simp only [Option.map_eq_some_iff] at h
  obtain ⟨ie,h1,rfl⟩:=h
  simp only [hu,hz,h1]
 ·rename_i fields hu
  simp only [Option.map_eq_some_iff] at h
  obtain ⟨ps,h1,rfl⟩:=h
  simp only [hu,hz,h1]
 ·cases h
theorem compOp_ok {P:Program} {op:Op} {ao:AOp} (ty:TypeId) (h:compOp P op=some ao):Cop P op ty ao:=by
 unfold compOp at h
 split at h <;> (try simp only [reduceCtorEq] at h)
 all_goals (repeat' (split at h)) <;> (try simp only [reduceCtorEq,Option.some.injEq] at h) <;> (try subst h)
 all_goals first
  | exact .mv _
  | exact .as _
  | exact .pick _ _ _
  | exact .ld ‹_› ‹_›
  | exact .st ‹_›
  | exact .al ‹_› ‹_›
  | exact .bx
  | exact .nc
  | exact .binb (neg:=false) ‹_›
  | exact .binb (neg:=true) ‹_›
  | (rename_i hd hh _ _ hj hs;subst hh;exact .eqp (neg:=false) hd hj hs)
  | (rename_i hd hh _ _ hj hs;subst hh;exact .eqp (neg:=true) hd hj hs)
  | (rename_i hh;exact .eqa (neg:=false) hh.1 (by decide) hh.2.1 hh.2.2.1 hh.2.2.2)
  | (rename_i hh;exact .eqa (neg:=true) hh.1 (by decide) hh.2.1 hh.2.2.1 hh.2.2.2)
  | exact .bin
  | exact .un
  | exact .cvi ‹_› ‹_›
  | exact .cvs ‹_› ‹_›
  | exact .s2b ‹_› ‹_› ‹_›
  | exact .b2s ‹_› ‹_› ‹_›
  | exact .fa ‹_› ‹_› ‹_› ‹_›
  | exact .fd ‹_› ‹_› ‹_› ‹_›
  | exact .ixs ‹_› ‹_›
  | exact .ixa ‹_› ‹_›
  | exact .ixg ‹_› ‹_› ‹_›
  | exact .ixt ‹_›
  | exact .slt ‹_›
  | exact .sls ‹_› ‹_›
  | exact .ex
  | exact .bd _ (placesOf_ok ‹_› ‹_› ‹_›) ‹_› ‹_› ‹_› ‹_›
  | (rename_i hh;exact .bs ‹_› ‹_› ‹_› hh.1 hh.2.1 hh.2.2.1 hh.2.2.2)
  | (rename_i hh;obtain ⟨h1,h2⟩:=hh;subst h1;rw [Array.eq_empty_of_size_eq_zero h2];exact .bs0 ‹_› ‹_›)
  | (rename_i hh hv;rw [toList_nil hh];exact .mf hv)
  | (rename_i hh;rw [toList_nil hh];exact .mfb)
  | (rename_i c _ f hc _ fn hfn hh;obtain ⟨cal,args,tys⟩:=c;simp only at hc;subst hc;exact .cl hfn hh.1 hh.2)
  | (rename_i c _ f _ hc;obtain ⟨cal,args,tys⟩:=c;simp only at hc;subst hc;exact .cv)
  | (rename_i c _ hc _ _ x t h1 h2 _ hd;obtain ⟨cal,args,tys⟩:=c;simp only at hc h1 h2;subst hc;rw [toList_one h1,toList_one h2];exact .lenT hd)
  | (rename_i c _ hc _ _ x t h1 h2 _ e hd;obtain ⟨cal,args,tys⟩:=c;simp only at hc h1 h2;subst hc;rw [toList_one h1,toList_one h2];exact .lenS hd)
  | (rename_i c _ hc _ _ x t h1 h2 _ e hd _ i hi _ z hz hh;obtain ⟨cal,args,tys⟩:=c;simp only at hc h1 h2;subst hc;rw [toList_one h1,toList_one h2];exact .clr hd hi hz hh.1 hh.2)
  | (rename_i hh;exact .mks ‹_› ‹_› ‹_› hh.1 hh.2.1 hh.2.2)
  | (rename_i c _ hc _ x y h1;obtain ⟨cal,args,tys⟩:=c;simp only at hc h1;subst hc;rw [toList_two h1];exact .mn (mx:=false))
  | (rename_i c _ hc _ x y h1;obtain ⟨cal,args,tys⟩:=c;simp only at hc h1;subst hc;rw [toList_two h1];exact .mn (mx:=true))
  | (rename_i c _ hc _ _ s x t t' h1 h2 htt _ e hd _ i hi _ z hz hh;obtain ⟨cal,args,tys⟩:=c;simp only at hc h1 h2;subst hc;rw [toList_two h1,toList_two h2];exact .ap hd hi hz hh.1 hh.2 (strOrSl_ok htt))
def compG (ops:Array Oper):Option (Nat × Bool)→Option (Option (Nat × Bool))
 | none=>some none
 | some (j,w)=>match (ops[j]?).bind (·.dst) with
  | some d=>some (some (d,w))
  | none=>none
def AOp.makes:AOp→Bool
 | .al .. | .bx .. | .bs .. | .s2b .. | .ap .. | .mks ..=>true
 | _=>false
def compOps (P:Program) (ops:Array Oper):List Oper→Nat→Option (List AOper × Nat)
 | [],c=>some ([],c)
 | o :: os,c=>match compOp P o.op,compG ops o.guard with
  | some ao,some g=>match compOps P ops os (if ao.makes then c + 1 else c) with
   | some (l,n)=>some (⟨o.dst,ao,g,c⟩ :: l,n)
   | none=>none
  | _,_=>none
theorem compOps_ok {P:Program} {ops:Array Oper}:∀ {os:List Oper} {c n:Nat} {l:List AOper},compOps P ops os c=some (l,n)→os.length=l.length∧∀ j (h:j < l.length) (o:Oper),os[j]?=some o→MatchOp P ops o l[j]
 | [],c,n,l,h=>by
  simp only [compOps,Option.some.injEq,Prod.mk.injEq] at h
  obtain ⟨rfl,_⟩:=h
  exact ⟨rfl,fun j h=>absurd h (Nat.not_lt_zero _)⟩
 | o :: os,c,n,l,h=>by
  simp only [compOps] at h
  split at h
  ·rename_i ao g h1 h2
   split at h
   ·rename_i l' n' h3
    simp only [Option.some.injEq,Prod.mk.injEq] at h
    obtain ⟨rfl,rfl⟩:=h
    obtain ⟨g1,g2⟩:=compOps_ok h3
    refine ⟨by simp [g1],fun j hj o' ho'=>?_⟩
    cases j with
    | zero =>
     simp only [List.getElem?_cons_zero,Option.some.injEq] at ho'
     subst ho'
     refine ⟨compOp_ok _ h1,rfl,?_⟩
     simp only [List.getElem_cons_zero]
     unfold compG at h2
     split at h2
     ·simp only [Option.some.injEq] at h2
      subst h2
      rename_i e
      rw [e];trivial
     ·rename_i j w e
      split at h2
      ·rename_i d hd
       simp only [Option.some.injEq] at h2
       subst h2
       rw [e]
       exact ⟨rfl,hd⟩
      ·cases h2
    | succ j=>exact g2 j (by simpa using hj) o' (by simpa using ho')
   ·cases h
  ·cases h
def uni (a b:List Nat):List Nat:=b.foldl (fun r x=>if r.contains x then r else x :: r) a
def befOf:List Oper→List (List Nat)→List (List Nat)
 | [],acc=>acc
 | o :: os,acc=>befOf os (acc++[o.after.toList.foldl (fun s e=>if Region.binds .any e then uni s (e.on :: acc.getD e.on []) else s) []])
def apartB (x y:AOper):Bool :=
 (match x.dst with | some d=>!y.names.contains d && y.dst != some d | none=>true) && (match y.dst with | some d=>!x.names.contains d | none=>true)
def dstB (x y:AOper):Bool:=match x.dst with | some d=>y.dst != some d | none=>true
def regB (ops:List Oper) (aos:List AOper) (bef:List (List Nat)):Bool :=
 (ops.zipIdx.all fun x=>x.1.after.toList.all fun e=>!Region.binds .any e || decide (e.on < x.2)) &&
 (ops.zipIdx.all fun x=>(bef.getD x.2 []).all fun i=>x.1.after.toList.any fun e=>Region.binds .any e && (e.on == i || (bef.getD e.on []).contains i)) &&
 (aos.zipIdx.all fun y=>aos.zipIdx.all fun x=>!decide (x.2 < y.2) || ((bef.getD y.2 []).contains x.2 || apartB x.1 y.1)) &&
 (aos.zipIdx.all fun y=>aos.zipIdx.all fun x=>x.2 == y.2 || dstB x.1 y.1)
theorem mem_zip {α:Type} {l:List α} {i:Nat} (h:i < l.length):(l[i],i) ∈ l.zipIdx:=by
 rw [List.mem_zipIdx_iff_getElem?];simp [h]
theorem regB_ok {ops:Array Oper} {aos:List AOper} {bef:List (List Nat)} (h:regB ops.toList aos bef=true):RegOK ops aos bef:=by
 simp only [regB,Bool.and_eq_true,List.all_eq_true] at h
 obtain ⟨⟨⟨h1,h2⟩,h3⟩,h4⟩:=h
 have hmem:∀ j o,ops[j]?=some o→(o,j) ∈ ops.toList.zipIdx:=by
  intro j o ho
  rw [List.mem_zipIdx_iff_getElem?]
  simpa using ho
 refine ⟨fun j o ho e he hb=>?_,fun j o ho i hi=>?_,fun i j hi hj hij=>?_,fun i j hi hj hij d hd=>?_⟩
 ·have:=h1 _ (hmem j o ho) e (Array.mem_toList_iff.2 he)
  simpa [hb] using this
 ·have:=h2 _ (hmem j o ho) i hi
  simp only [List.any_eq_true,Bool.and_eq_true,Bool.or_eq_true,beq_iff_eq,List.contains_eq_mem,decide_eq_true_eq] at this
  obtain ⟨e,he,hb,hc⟩:=this
  exact ⟨e,Array.mem_toList_iff.1 he,hb,hc⟩
 ·have:=h3 _ (mem_zip hj) _ (mem_zip hi)
  simp only [hij,decide_true,Bool.not_true,Bool.false_or,Bool.or_eq_true,List.contains_eq_mem,decide_eq_true_eq] at this
  rcases this with g | g
  ·exact .inl g
  ·refine .inr ⟨fun d hd=>?_,fun d hd=>?_⟩
   ·simp only [apartB,hd,Bool.and_eq_true,Bool.not_eq_true',List.contains_eq_mem,decide_eq_false_iff_not] at g
    exact g.1.1
   ·simp only [apartB,hd,Bool.and_eq_true,Bool.not_eq_true',List.contains_eq_mem,decide_eq_false_iff_not] at g
    exact g.2
 ·have:=h4 _ (mem_zip hj) _ (mem_zip hi)
  simp only [Bool.or_eq_true,beq_iff_eq] at this
  rcases this with g | g
  ·exact absurd g hij
  ·simp only [dstB,hd,bne_iff_ne,ne_eq] at g
   exact g
def comp (P:Program):Code→Option ACode
 | .skip | .label _=>some .skip
 | .region id ops draw=>match compOps P ops ops.toList 0 with
  | some (aos,nc)=>if draw=true then (let bef:=befOf ops.toList [];if regB ops.toList aos bef=true then some (.reg nc aos (some bef)) else some (.raw (.region id ops draw))) else some (.reg nc aos none)
  | none=>some (.raw (.region id ops draw))
 | .seq a b=>match comp P a,comp P b with
  | some x,some y=>some (.seq x y)
  | _,_=>none
 | .cond c a b=>match comp P a,comp P b with
  | some x,some y=>some (.cond c x y)
  | _,_=>none
 | .block id a=>match comp P a with
  | some x=>some (.block id x)
  | none=>none
 | .loop a=>match comp P a with
  | some x=>some (.loop x)
  | none=>none
 | .scope a=>comp P a
 | .exit id=>some (.exit id)
 | .ret=>some .ret
 | .rangeFunc f ps a b=>some (.raw (.rangeFunc f ps a b))
 | _=>none
theorem comp_ok {P:Program}:∀ {c:Code} {ac:ACode},comp P c=some ac→MatchC P c ac:=by
 intro c
 induction c with
 | skip=>intro ac h;simp only [comp,Option.some.injEq] at h;subst h;exact .skip
 | label=>intro ac h;simp only [comp,Option.some.injEq] at h;subst h;exact .label
 | region id ops draw =>
  intro ac h
  simp only [comp] at h
  split at h
  ·rename_i aos nc h1
   obtain ⟨g1,g2⟩:=compOps_ok h1
   have g2' : ∀ j (h:j < aos.length) (o:Oper),ops[j]?=some o→MatchOp P ops o aos[j]:=fun j h o ho=>g2 j h o (by simpa using ho)
   have g1' : ops.size=aos.length:=by simpa using g1
   cases draw with
   | true =>
    simp only [if_true] at h
    split at h
    ·rename_i hr
     simp only [Option.some.injEq] at h
     subst h
     exact .regD g1' g2' (regB_ok hr)
    ·simp only [Option.some.injEq] at h
     subst h
     exact .raw
   | false =>
    simp only [Bool.false_eq_true,if_false,Option.some.injEq] at h
    subst h
    exact .regT g1' g2'
  ·simp only [Option.some.injEq] at h
   subst h
   exact .raw
 | seq a b ih1 ih2 =>
  intro ac h
  simp only [comp] at h
  split at h
  ·simp only [Option.some.injEq] at h;subst h;exact .seq (ih1 ‹_›) (ih2 ‹_›)
  ·cases h
 | cond c a b ih1 ih2 =>
  intro ac h
  simp only [comp] at h
  split at h
  ·simp only [Option.some.injEq] at h;subst h;exact .cond (ih1 ‹_›) (ih2 ‹_›)
  ·cases h
 | block id a ih =>
  intro ac h
  simp only [comp] at h
  split at h
  ·simp only [Option.some.injEq] at h;subst h;exact .block (ih ‹_›)
  ·cases h
 | loop a ih =>
  intro ac h
  simp only [comp] at h
  split at h
  ·simp only [Option.some.injEq] at h;subst h;exact .loop (ih ‹_›)
  ·cases h
 | scope a ih=>intro ac h;exact .scope (ih h)
 | exit=>intro ac h;simp only [comp,Option.some.injEq] at h;subst h;exact .exit
 | ret=>intro ac h;simp only [comp,Option.some.injEq] at h;subst h;exact .ret
 | rangeFunc=>intro ac h;simp only [comp,Option.some.injEq] at h;subst h;exact .raw
 | _=>intro ac h;simp [comp] at h
def compR (P:Program):List ResultVar→Option (List ARes)
 | []=>some []
 | .tmp t :: rs=>match compR P rs with
  | some l=>some (.tmp t :: l)
  | none=>none
 | .cell a t :: rs=>match compR P rs,P.underlying t,P.info? t with
  | some l,some d,some i=>some (.cell a i.size (isAggD d) :: l)
  | _,_,_=>none
theorem compR_ok {P:Program}:∀ {rs:List ResultVar} {l:List ARes},compR P rs=some l→MatchRL P rs l
 | [],l,h=>by simp only [compR,Option.some.injEq] at h;subst h;exact .nil
 | .tmp t :: rs,l,h=>by
  simp only [compR] at h
  split at h
  ·simp only [Option.some.injEq] at h;subst h;exact .cons .tmp (compR_ok ‹_›)
  ·cases h
 | .cell a t :: rs,l,h=>by
  simp only [compR] at h
  split at h
  ·simp only [Option.some.injEq] at h;subst h;exact .cons (.cell ‹_› ‹_›) (compR_ok ‹_›)
  ·cases h
def compF (P:Program) (fn:Func):Option (ACode × Nat × List ARes) :=
 match fn.body with
 | some c=>match comp P c,compR P fn.results.toList with
  | some ac,some rs=>some (ac,fn.ntmps,rs)
  | _,_=>none
 | none=>none
theorem callsV_comp {P:Program} {f:FuncId} {fn:Func} {ac:ACode} {n:Nat} {rs:List ARes} {args:List V} {v:V} (hmix:P.follows .mixedOrders=true) (hf:P.funcs[f]?=some fn) (hc:compF P fn=some (ac,n,rs))
  (h:AW P 0 ac (Fin rs v) (args++List.replicate (n - args.length) (.tup [])) []):CallsV P f args v:=by
 unfold compF at hc
 split at hc
 ·rename_i c hb
  split at hc
  ·simp only [Option.some.injEq,Prod.mk.injEq] at hc
   obtain ⟨rfl,rfl,rfl⟩:=hc
   exact callsV_of hmix hf hb (comp_ok ‹_›) rfl (compR_ok ‹_›) h
  ·cases hc
 ·cases hc
theorem callable_comp {P:Program} {f:FuncId} {fn:Func} {x:ACode × Nat × List ARes} (hf:P.funcs[f]?=some fn) (hc:compF P fn=some x) (hn:(fn.name == "runtime.NumGoroutine")=false):Callable P f:=by
 unfold compF at hc
 split at hc
 ·rename_i c hb
  exact ⟨fn,hf,by rw [hb];rfl,hn⟩
 ·cases hc
end Go.Proofs.YtpkodpcfafipdaaGreatDoor

namespace Go.Proofs.YtpkodpcfafipdaaGreatDoor
open Go.RowKit
section
variable {P : Program} {n0 : Nat} {base c : Nat} {os : List AOper} {fp : List (List Nat × List Nat)} {fr : List V} {st : List Slot} {K : List (List Nat × List Nat) → List V → List Slot → Prop} {Q : AExit → List V → List Slot → Prop} {d : Option Nat} {g : Option (Nat × Bool)} {x y z : Operand}
theorem x_on {o:AOp} {v:V} {rd:List Nat} {ef:List (Nat × Slot)} (hg:gval g fr=some true) (hs:AStep P (evO fr) st (base + c) o v rd ef) (h:AOps P base os ((rd,ef.map Prod.fst) :: fp) (putF fr d v) (AStep.eff st ef) K):AOps P base (⟨d,o,g,c⟩ :: os) fp fr st K :=
 .inr ⟨hg,v,rd,ef,hs,h⟩
theorem x_off {o:AOp} (hg:gval g fr=some false) (h:AOps P base os (([],[]) :: fp) (putF fr d (.tup [])) st K):AOps P base (⟨d,o,g,c⟩ :: os) fp fr st K:=.inl ⟨hg,h⟩
theorem set_getD {fr:List V} {t:Nat} {v:V} (h:fr.getD t .any=v):fr.set t v=fr:=by
 apply List.ext_getElem?
 intro i
 rw [List.getElem?_set]
 split
 ·rename_i e
  subst e
  split
  ·rename_i hl
   have:fr.getD t .any=fr[t]:=by simp [List.getD,hl]
   rw [List.getElem?_eq_getElem hl,← h,this]
  ·rename_i hl;rw [List.getElem?_eq_none (by omega)]
 ·rfl
theorem x_case {o:AOp} {t:Nat} {w b:Bool} (hv:fr.getD t .any=.lit (.bool b)) (h1:b=true→AOps P base (⟨d,o,some (t,w),c⟩ :: os) fp (fr.set t (.lit (.bool true))) st K)
  (h2:b=false→AOps P base (⟨d,o,some (t,w),c⟩ :: os) fp (fr.set t (.lit (.bool false))) st K):AOps P base (⟨d,o,some (t,w),c⟩ :: os) fp fr st K:=by
 cases b with
 | true=>have:=h1 rfl;rw [set_getD hv] at this;exact this
 | false=>have:=h2 rfl;rw [set_getD hv] at this;exact this
theorem x_end {fps:List (List Nat × List Nat)} (h:K fps fr st):AOps P base [] fps fr st K:=h
theorem x_mv (hg:gval g fr=some true) (h:AOps P base os (([],[]) :: fp) (putF fr d (evO fr x)) st K):AOps P base (⟨d,.mv x,g,c⟩ :: os) fp fr st K:=x_on hg (.mv x) h
theorem x_pick {t:Bool} (hg:gval g fr=some true) (hc:evO fr x=.lit (.bool t)) (h:AOps P base os (([],[]) :: fp) (putF fr d (if t then evO fr y else evO fr z)) st K):AOps P base (⟨d,.pick x y z,g,c⟩ :: os) fp fr st K:=x_on hg (.pick _ _ _ hc) h
theorem x_ldP {i off sz frz:Nat} {ag:Bool} {cs:List V} (hg:gval g fr=some true) (hx:evO fr x=.ptr i off) (hi:st[i]?=some (.live cs frz)) (hs:off + (if ag then sz else 1)≤cs.length) (h:AOps P base os (([i],[]) :: fp) (putF fr d (partV ag sz (cs.drop off))) st K) :
  AOps P base (⟨d,.ld sz ag x,g,c⟩ :: os) fp fr st K:=x_on hg (.ldP hx hi hs) h
theorem x_ldE {sz:Nat} {ag:Bool} {cs:List V} (hg:gval g fr=some true) (hx:evO fr x=.eptr cs) (hs:(if ag then sz else 1)≤cs.length) (h:AOps P base os (([],[]) :: fp) (putF fr d (partV ag sz cs)) st K) :
  AOps P base (⟨d,.ld sz ag x,g,c⟩ :: os) fp fr st K:=x_on hg (.ldE hx hs) h
theorem x_st {i off sz frz:Nat} {cs:List V} (hg:gval g fr=some true) (hx:evO fr x=.ptr i off) (h1:(evO fr y).stb=true) (hl:(evO fr y).cells.length=sz) (hi:st[i]?=some (.live cs frz)) (hf:frz≤off) (hs:off + sz≤cs.length)
  (h:AOps P base os (([i],[i]) :: fp) (putF fr d .any) (st.set i (.live (cs.take off++(evO fr y).cells++cs.drop (off + sz)) frz)) K):AOps P base (⟨d,.st sz x y,g,c⟩ :: os) fp fr st K:=x_on hg (.stP hx rfl h1 hl hi hf hs) h
theorem x_al {z:V} (hg:gval g fr=some true) (h1:z.stb=true) (hf:st[base + c]?=some .fresh) (h:AOps P base os (([],[base + c]) :: fp) (putF fr d (.ptr (base + c) 0)) (st.set (base + c) (.live z.cells 0)) K):AOps P base (⟨d,.al z,g,c⟩ :: os) fp fr st K :=
 x_on hg (.al h1 hf) h
theorem x_bx (hg:gval g fr=some true) (h1:(evO fr x).stb=true) (hf:st[base + c]?=some .fresh) (h:AOps P base os (([],[base + c]) :: fp) (putF fr d (.ptr (base + c) 0)) (st.set (base + c) (.live (evO fr x).cells 0)) K):AOps P base (⟨d,.bx x,g,c⟩ :: os) fp fr st K :=
 x_on hg (.bx rfl h1 hf) h
theorem x_ncP {i off:Nat} (hg:gval g fr=some true) (hx:evO fr x=.ptr i off) (h:AOps P base os (([],[]) :: fp) (putF fr d (.ptr i off)) st K):AOps P base (⟨d,.nc x,g,c⟩ :: os) fp fr st K:=x_on hg (.ncP hx) h
theorem x_ncE {cs:List V} (hg:gval g fr=some true) (hx:evO fr x=.eptr cs) (h:AOps P base os (([],[]) :: fp) (putF fr d (.eptr cs)) st K):AOps P base (⟨d,.nc x,g,c⟩ :: os) fp fr st K:=x_on hg (.ncE hx) h
theorem x_ncC {f:Nat} {cs:List V} (hg:gval g fr=some true) (hx:evO fr x=.clo (.func f) cs) (h:AOps P base os (([],[]) :: fp) (putF fr d (.clo (.func f) cs)) st K):AOps P base (⟨d,.nc x,g,c⟩ :: os) fp fr st K:=x_on hg (.ncC hx) h
theorem x_binI {op:BinOp} {k:IntKind} {a b:Int} {r:Value} (hg:gval g fr=some true) (hx:evO fr x=.lit (.int k a)) (hy:evO fr y=.lit (.int k b)) (hr:intB op k a b=some r) (h:AOps P base os (([],[]) :: fp) (putF fr d (.lit r)) st K):AOps P base (⟨d,.bin op x y,g,c⟩ :: os) fp fr st K :=
 x_on hg (.binI hx hy hr) h
theorem wrap_ok {a:Int} (h:-9223372036854775808≤a∧a≤9223372036854775807):IntKind.i64.wrap a=a:=IntWalk.i64_in _ (by omega)
theorem x_add {a b:Int} (hg:gval g fr=some true) (hx:evO fr x=.lit (.int .i64 a)) (hy:evO fr y=.lit (.int .i64 b)) (hr:-9223372036854775808≤a + b∧a + b≤9223372036854775807) (h:AOps P base os (([],[]) :: fp) (putF fr d (.lit (.int .i64 (a + b)))) st K) :
  AOps P base (⟨d,.bin .add x y,g,c⟩ :: os) fp fr st K:=x_on hg (.binI hx hy (by simp only [intB,wrap_ok hr])) h
theorem x_sub {a b:Int} (hg:gval g fr=some true) (hx:evO fr x=.lit (.int .i64 a)) (hy:evO fr y=.lit (.int .i64 b)) (hr:-9223372036854775808≤a - b∧a - b≤9223372036854775807) (h:AOps P base os (([],[]) :: fp) (putF fr d (.lit (.int .i64 (a - b)))) st K) :
  AOps P base (⟨d,.bin .sub x y,g,c⟩ :: os) fp fr st K:=x_on hg (.binI hx hy (by simp only [intB,wrap_ok hr])) h
theorem x_binS {op:BinOp} {a b:ByteArray} {r:Value} (hg:gval g fr=some true) (hx:evO fr x=.lit (.string a)) (hy:evO fr y=.lit (.string b)) (hr:strB op a b=some r) (h:AOps P base os (([],[]) :: fp) (putF fr d (.lit r)) st K):AOps P base (⟨d,.bin op x y,g,c⟩ :: os) fp fr st K :=
 x_on hg (.binS hx hy hr) h
theorem x_cat {a b:ByteArray} (hg:gval g fr=some true) (hx:evO fr x=.lit (.string a)) (hy:evO fr y=.lit (.string b)) (hr:a.size + b.size≤4611686018427387904) (h:AOps P base os (([],[]) :: fp) (putF fr d (.lit (.string (a++b)))) st K):AOps P base (⟨d,.bin .add x y,g,c⟩ :: os) fp fr st K :=
 x_on hg (.binS hx hy (by simp only [strB,if_pos hr])) h
theorem x_binb {neg a b:Bool} (hg:gval g fr=some true) (hx:evO fr x=.lit (.bool a)) (hy:evO fr y=.lit (.bool b)) (h:AOps P base os (([],[]) :: fp) (putF fr d (.lit (.bool (if neg then a != b else a == b)))) st K):AOps P base (⟨d,.binb neg x y,g,c⟩ :: os) fp fr st K:=x_on hg (.binb hx hy) h
theorem x_eqpP {neg:Bool} {i off:Nat} (hg:gval g fr=some true) (hx:evO fr x=.ptr i off) (hy:evO fr y=.lit (.pointer none)) (h:AOps P base os (([],[]) :: fp) (putF fr d (.lit (.bool neg))) st K):AOps P base (⟨d,.eqp neg x y,g,c⟩ :: os) fp fr st K:=x_on hg (.eqpP hx hy) h
theorem x_eqpN {neg:Bool} (hg:gval g fr=some true) (hx:evO fr x=.lit (.pointer none)) (hy:evO fr y=.lit (.pointer none)) (h:AOps P base os (([],[]) :: fp) (putF fr d (.lit (.bool (!neg)))) st K):AOps P base (⟨d,.eqp neg x y,g,c⟩ :: os) fp fr st K:=x_on hg (.eqpN hx hy) h
theorem x_s2b {s:ByteArray} (hg:gval g fr=some true) (hx:evO fr x=.lit (.string s)) (h:AOps P base os (([],[]) :: fp) (putF fr d (.sl (s.data.toList.map byteV) false)) st K):AOps P base (⟨d,.s2b x,g,c⟩ :: os) fp fr st K:=x_on hg (.s2b hx) h
theorem x_eqa {neg:Bool} {ks:List Nat} {l m:List V} {r:Bool} (hg:gval g fr=some true) (hx:evO fr x=.agg l) (hy:evO fr y=.agg m) (hr:eqL ks l m=some r) (hl:l.length=ks.length) (hm:m.length=ks.length) (h:AOps P base os (([],[]) :: fp) (putF fr d (.lit (.bool (if neg then !r else r)))) st K) :
  AOps P base (⟨d,.eqa neg ks x y,g,c⟩ :: os) fp fr st K:=x_on hg (.eqa hx hy hr hl hm) h
theorem x_un {op:UnOp} {a r:Value} (hg:gval g fr=some true) (hx:evO fr x=.lit a) (hr:unV op a=some r) (h:AOps P base os (([],[]) :: fp) (putF fr d (.lit r)) st K):AOps P base (⟨d,.un op x,g,c⟩ :: os) fp fr st K:=x_on hg (.un hx hr) h
theorem x_cvi0 {n:Int} (hg:gval g fr=some true) (hx:evO fr x=.lit (.int .i64 n)) (hr:-9223372036854775808≤n∧n≤9223372036854775807) (h:AOps P base os (([],[]) :: fp) (putF fr d (.lit (.int .i64 n))) st K):AOps P base (⟨d,.cvi .i64 x,g,c⟩ :: os) fp fr st K:=x_on hg (.cvi hx) (by rw [wrap_ok hr];exact h)
theorem x_cvs {s:ByteArray} (hg:gval g fr=some true) (hx:evO fr x=.lit (.string s)) (h:AOps P base os (([],[]) :: fp) (putF fr d (.lit (.string s))) st K):AOps P base (⟨d,.cvs x,g,c⟩ :: os) fp fr st K:=x_on hg (.cvs hx) h
theorem x_faP {o i off:Nat} (hg:gval g fr=some true) (hx:evO fr x=.ptr i off) (h:AOps P base os (([],[]) :: fp) (putF fr d (.ptr i (off + o))) st K):AOps P base (⟨d,.fa o x,g,c⟩ :: os) fp fr st K:=x_on hg (.faP hx) h
theorem x_faE {o:Nat} {cs:List V} (hg:gval g fr=some true) (hx:evO fr x=.eptr cs) (hs:o≤cs.length) (h:AOps P base os (([],[]) :: fp) (putF fr d (.eptr (cs.drop o))) st K):AOps P base (⟨d,.fa o x,g,c⟩ :: os) fp fr st K:=x_on hg (.faE hx hs) h
theorem x_fd {o sz:Nat} {ag:Bool} {cs:List V} (hg:gval g fr=some true) (hx:evO fr x=.agg cs) (hs:o + (if ag then sz else 1)≤cs.length) (h:AOps P base os (([],[]) :: fp) (putF fr d (partV ag sz (cs.drop o))) st K):AOps P base (⟨d,.fd o sz ag x,g,c⟩ :: os) fp fr st K:=x_on hg (.fd hx hs) h
theorem x_ixt {n:Nat} {j:Int} {s:ByteArray} {k:IntKind} (hg:gval g fr=some true) (hx:evO fr x=.lit (.string s)) (hy:evO fr y=.lit (.int k j)) (hj:j=n) (hn:n < s.size) (h:AOps P base os (([],[]) :: fp) (putF fr d (.lit (.int .u8 s[n].toNat))) st K) :
  AOps P base (⟨d,.ixt x y,g,c⟩ :: os) fp fr st K:=x_on hg (.ixt hx hy hj hn) h
theorem x_ex {vs:List V} {i:Nat} {v:V} (hg:gval g fr=some true) (hx:evO fr x=.tup vs) (hv:vs[i]?=some v) (h:AOps P base os (([],[]) :: fp) (putF fr d v) st K):AOps P base (⟨d,.ex x i,g,c⟩ :: os) fp fr st K:=x_on hg (.ex hx hv) h
theorem x_bd {zs cs:List V} {ps:List (Nat × Nat × Operand)} (hg:gval g fr=some true) (hx:fillV zs (ps.map fun p=>(p.1,p.2.1,evO fr p.2.2))=some cs) (h:AOps P base os (([],[]) :: fp) (putF fr d (.agg cs)) st K):AOps P base (⟨d,.bd zs ps,g,c⟩ :: os) fp fr st K:=x_on hg (.bd hx) h
theorem x_bs {es len:Nat} {zs cs:List V} {ps:List (Nat × Operand)} (hg:gval g fr=some true) (hx:fillV zs (ps.map fun p=>(p.1 * es,es,evO fr p.2))=some cs) (hz:zs.length=len * es) (hf:st[base + c]?=some .fresh) (h:AOps P base os (([],[base + c]) :: fp) (putF fr d (.osl (base + c) 0 len es true)) (st.set (base + c) (.live cs cs.length)) K) :
  AOps P base (⟨d,.bs es len zs ps,g,c⟩ :: os) fp fr st K:=x_on hg (.bs hx hz hf (Nat.le_refl _)) h
theorem x_mf {fn:Fn} {caps:List Operand} (hg:gval g fr=some true) (h:AOps P base os (([],[]) :: fp) (putF fr d (.clo fn (caps.map (evO fr)))) st K):AOps P base (⟨d,.mf fn caps,g,c⟩ :: os) fp fr st K:=x_on hg .mf h
theorem fza_id {st:List Slot}:∀ {vs:List V},V.idlt.belowL 0 vs=true→FzA st vs vs []
 | [],_=>.nil
 | v :: vs,h=>by
  simp only [V.idlt.belowL,Bool.and_eq_true] at h
  exact .cons (r:=[]) (.c (.id h.1)) (fza_id h.2)
theorem x_cl0 {f:Nat} {args:List Operand} {vs:List V} {v:V} (hg:gval g fr=some true) (hc:CallsV P f vs v) (ha:args.map (evO fr)=vs) (h0:V.idlt.belowL 0 vs=true) (h:AOps P base os (([],[]) :: fp) (putF fr d v) st K):AOps P base (⟨d,.cl f args,g,c⟩ :: os) fp fr st K :=
 x_on hg (.cl (by subst ha;exact fza_id h0) hc) h
theorem x_clS {f:Nat} {args:List Operand} {v:V} {st' : List Slot} (hg:gval g fr=some true) (hc:CallsS P f (args.map (evO fr)) st v st') (hl:st'.length=st.length) (h:AOps P base os (([],(allEff st').map Prod.fst) :: fp) (putF fr d v) st' K):AOps P base (⟨d,.cl f args,g,c⟩ :: os) fp fr st K :=
 x_on hg (.clS hc hl rfl) (by rw [eff_all hl];exact h)
theorem x_lent {s:ByteArray} (hg:gval g fr=some true) (hx:evO fr x=.lit (.string s)) (h:AOps P base os (([],[]) :: fp) (putF fr d (.lit (.int .i64 s.size))) st K):AOps P base (⟨d,.lent x,g,c⟩ :: os) fp fr st K:=x_on hg (.lenT hx) h
theorem x_lenS {xs:List V} {full:Bool} (hg:gval g fr=some true) (hx:evO fr x=.sl xs full) (h:AOps P base os (([],[]) :: fp) (putF fr d (.lit (.int .i64 xs.length))) st K):AOps P base (⟨d,.lens x,g,c⟩ :: os) fp fr st K:=x_on hg (.lenS hx) h
theorem x_lenM {α:Type} {f:α→V} {l:List α} {full:Bool} (hg:gval g fr=some true) (hx:evO fr x=.sl (l.map f) full) (h:AOps P base os (([],[]) :: fp) (putF fr d (.lit (.int .i64 l.length))) st K):AOps P base (⟨d,.lens x,g,c⟩ :: os) fp fr st K:=x_on hg (.lenS hx) (by rw [List.length_map];exact h)
theorem x_lenO {i off n es:Nat} {full:Bool} (hg:gval g fr=some true) (hx:evO fr x=.osl i off n es full) (h:AOps P base os (([],[]) :: fp) (putF fr d (.lit (.int .i64 n))) st K):AOps P base (⟨d,.lens x,g,c⟩ :: os) fp fr st K:=x_on hg (.lenO hx) h
def seqQ (P:Program) (n0:Nat) (b:ACode) (Q:AExit→List V→List Slot→Prop):AExit→List V→List Slot→Prop:=fun e fr st=>match e with | .normal=>AW P n0 b Q fr st | e=>Q e fr st
def blkQ (id:Nat) (Q:AExit→List V→List Slot→Prop):AExit→List V→List Slot→Prop:=fun e fr st=>match e with | .exit j=>if j=id then Q .normal fr st else Q (.exit j) fr st | e=>Q e fr st
theorem w_seq {a b:ACode} (h:AW P n0 a (seqQ P n0 b Q) fr st):AW P n0 (.seq a b) Q fr st:=AW_mono (c:=a) (fun e fr st h=>by
 cases e with
 | normal=>exact .inl h
 | _=>exact h) h
theorem w_blk {a:ACode} {id:Nat} (h:AW P n0 a (blkQ id Q) fr st):AW P n0 (.block id a) Q fr st:=h
theorem w_skip (h:Q .normal fr st):AW P n0 .skip Q fr st:=h
theorem w_ret (h:Q .ret fr st):AW P n0 .ret Q fr st:=h
theorem w_exit {id:Nat} (h:Q (.exit id) fr st):AW P n0 (.exit id) Q fr st:=h
theorem w_condT {a b:ACode} (hc:evO fr x=.lit (.bool true)) (h:AW P n0 a Q fr st):AW P n0 (.cond x a b) Q fr st:=⟨true,hc,fun _=>h,fun e=>(by cases e)⟩
theorem w_condF {a b:ACode} (hc:evO fr x=.lit (.bool false)) (h:AW P n0 b Q fr st):AW P n0 (.cond x a b) Q fr st:=⟨false,hc,fun e=>(by cases e),fun _=>h⟩
def regQ (bef:Option (List (List Nat))) (Q:AExit→List V→List Slot→Prop):List (List Nat × List Nat)→List V→List Slot→Prop:=fun fp fr st=>(∀ b,bef=some b→footB b fp.reverse=true)∧Q .normal fr st
theorem w_regX0 {nc:Nat} (x:Nat) {ops:List AOper} {bef:Option (List (List Nat))} {st0 st' : List Slot} {n:Nat} (hf:Frz st st0) (hn:st0.length=n) (hs:st0++List.replicate (nc + x) .fresh=st') (h:AOps P n ops [] fr st' (regQ bef Q)):AW P n0 (.reg nc ops bef) Q fr st:=by
 subst hn hs
 have mono:∀ {base:Nat} (os:List AOper) (fp:List (List Nat × List Nat)) (fr:List V) (st:List Slot) {K K' : List (List Nat × List Nat)→List V→List Slot→Prop},(∀ a b c,K a b c→K' a b c)→AOps P base os fp fr st K→AOps P base os fp fr st K':=by
  intro base os
  induction os with
  | nil=>intro fp fr st K K' hk h;exact hk _ _ _ h
  | cons o os ih =>
   intro fp fr st K K' hk h
   rcases h with ⟨h1,h2⟩ | ⟨h1,v,rd,ef,h2,h3⟩
   ·exact .inl ⟨h1,ih _ _ _ hk h2⟩
   ·exact .inr ⟨h1,v,rd,ef,h2,ih _ _ _ hk h3⟩
 cases bef with
 | none=>exact ⟨st0,x,hf,mono _ _ _ _ (fun _ _ _ h=>h.2) h⟩
 | some b=>exact ⟨st0,x,hf,mono _ _ _ _ (fun _ _ _ h=>⟨h.1 b rfl,h.2⟩) h⟩
theorem w_reg0 {nc:Nat} {ops:List AOper} {bef:Option (List (List Nat))} {st' : List Slot} {n:Nat} (hn:st.length=n) (hs:st++List.replicate nc .fresh=st') (h:AOps P n ops [] fr st' (regQ bef Q)):AW P n0 (.reg nc ops bef) Q fr st:=w_regX0 0 .refl hn hs h
theorem w_regX {nc:Nat} (x:Nat) {ops:List AOper} {bef:Option (List (List Nat))} {st0 st' : List Slot} {n:Nat} (hf:Frz st st0) (hn:st0.length=n) (hs:st0++List.replicate (nc + x) .fresh=st') (h:∀ K' : List (List Nat × List Nat)→List V→List Slot→Prop,(∀ fp fr st,regQ bef Q fp fr st→K' fp fr st)→AOps P n ops [] fr st' K'):AW P n0 (.reg nc ops bef) Q fr st:=w_regX0 x hf hn hs (h _ fun _ _ _ h=>h)
theorem w_reg {nc:Nat} {ops:List AOper} {bef:Option (List (List Nat))} {st' : List Slot} {n:Nat} (hn:st.length=n) (hs:st++List.replicate nc .fresh=st') (h:∀ K' : List (List Nat × List Nat)→List V→List Slot→Prop,(∀ fp fr st,regQ bef Q fp fr st→K' fp fr st)→AOps P n ops [] fr st' K'):AW P n0 (.reg nc ops bef) Q fr st:=w_reg0 hn hs (h _ fun _ _ _ h=>h)
theorem q_seqN {b:ACode} (h:AW P n0 b Q fr st):seqQ P n0 b Q .normal fr st:=h
theorem q_seqR {b:ACode} (h:Q .ret fr st):seqQ P n0 b Q .ret fr st:=h
theorem q_seqE {b:ACode} {j:Nat} (h:Q (.exit j) fr st):seqQ P n0 b Q (.exit j) fr st:=h
theorem q_blkN {id:Nat} (h:Q .normal fr st):blkQ id Q .normal fr st:=h
theorem q_blkR {id:Nat} (h:Q .ret fr st):blkQ id Q .ret fr st:=h
theorem q_blkH {id:Nat} (h:Q .normal fr st):blkQ id Q (.exit id) fr st:=by show (if id=id then _ else _);rw [if_pos rfl];exact h
theorem q_blkE {id j:Nat} (hj:(j == id)=false) (h:Q (.exit j) fr st):blkQ id Q (.exit j) fr st:=by show (if j=id then _ else _);rw [if_neg (by simpa using hj)];exact h
theorem q_regT (h:Q .normal fr st) {fp:List (List Nat × List Nat)}:regQ none Q fp fr st:=⟨fun _ e=>by (cases e),h⟩
theorem q_regD {b:List (List Nat)} {fp:List (List Nat × List Nat)} (hf:footB b fp.reverse=true) (h:Q .normal fr st):regQ (some b) Q fp fr st:=⟨fun _ e=>by (injection e with e;subst e;exact hf),h⟩
def cellsM {α:Type} (f:α→V) (l:List α):List V:=l.flatMap fun a=>(f a).cells
theorem cellsM_len {α:Type} {f:α→V} {es:Nat} (h:∀ a,(f a).cells.length=es) (l:List α):(cellsM f l).length=l.length * es:=by
 unfold cellsM
 rw [List.length_flatMap]
 simp only [h,List.map_const']
 simp
theorem cellsM_map {α:Type} (f:α→V) (l:List α):(l.map f).flatMap V.cells=cellsM f l:=by
 unfold cellsM;rw [List.flatMap_map]
theorem belowL_mem {n:Nat}:∀ {l:List V},(∀ v ∈ l,v.idlt n=true)→V.idlt.belowL n l=true
 | [],_=>rfl
 | v :: l,h=>by simp only [V.idlt.belowL,Bool.and_eq_true];exact ⟨h v (by simp),belowL_mem fun u hu=>h u (by simp [hu])⟩
theorem mem_belowL {n:Nat}:∀ {l:List V},V.idlt.belowL n l=true→∀ v ∈ l,v.idlt n=true
 | v :: l,h,u,hu=>by
  simp only [V.idlt.belowL,Bool.and_eq_true] at h
  rcases List.mem_cons.1 hu with rfl | hu
  ·exact h.1
  ·exact mem_belowL h.2 u hu
theorem cellsM_idlt {α:Type} {f:α→V} {n:Nat} (h:∀ a,V.idlt.belowL n (f a).cells=true) (l:List α):V.idlt.belowL n (cellsM f l)=true :=
 belowL_mem fun v hv=>by
  obtain ⟨a,_,ha⟩:=List.mem_flatMap.1 hv
  exact mem_belowL (h a) v ha
theorem fzc_made {α:Type} {f:α→V} {l:List α} {i n es frz:Nat} {full:Bool} {cs:List V} (hi:st[i]?=some (.live cs frz)) (hc:cs=cellsM f l) (hf:frz=cs.length) (hn:n=l.length) (hes:∀ a,(f a).cells.length=es) (h0:∀ a,V.idlt.belowL 0 (f a).cells=true):FzC st (.osl i 0 n es full) (.sl (l.map f) false) [i]:=by
 subst hc hf hn
 have hl:=cellsM_len hes l
 refine .osl (fun e=>by cases e) hi (by omega) (by omega) (by simp) (fun x hx=>?_) ?_ ?_
 ·obtain ⟨a,_,rfl⟩:=List.mem_map.1 hx;exact hes a
 ·rw [List.drop_zero,← hl,List.take_length,cellsM_map]
 ·rw [cellsM_map];exact cellsM_idlt h0 l
theorem f_lit {t:Nat} {e:AExit} {r r' : Value} (he:e=.normal∨e=.ret) (hv:fr.getD t .any=.lit r) (h:r=r'):Fin [.tmp t] (.lit r') e fr st :=
 ⟨he,st,.refl,[.lit r],[],.cons (.tmp hv) .nil,h ▸ .v (.c (.id rfl))⟩
theorem f_res {rs:List ARes} {e:AExit} {vs:List V} {v:V} (he:e=.normal∨e=.ret) (hr:ResL fr st rs vs) (h0:(mkR vs).idlt 0=true) (h:mkR vs=v):Fin rs v e fr st :=
 ⟨he,st,.refl,vs,[],hr,h ▸ .v (.c (.id h0))⟩
def loopQ (n0:Nat) (I:Nat→List V→List Slot→Prop) (n:Nat) (Q:AExit→List V→List Slot→Prop):AExit→List V→List Slot→Prop :=
 fun e fr' st'=>match e with | .normal=>∃ n' k sg fr'' st'',n' < n∧Wk n0 k sg fr' fr'' st' st''∧I n' fr'' st'' | e=>Q e fr' st'
def maskF:List Nat→List V→List V
 | [],fr=>fr
 | t :: ts,fr=>maskF ts (fr.set t .any)
def setF:List V→List Nat→List V→List V
 | fr,t :: ts,v :: vs=>setF (fr.set t v) ts vs
 | fr,_,_=>fr
def wkL (n:Nat) (sg:List Nat):List V→List V→Prop
 | a :: l,b :: m=>(b=.any∨(b=a∧a.ren sg=a∧a.idlt n=true)∨(b.ren sg=a∧b.idlt n=true))∧wkL n sg l m
 | [],[]=>True
 | _,_=>False
def wkS (n:Nat):List Slot→Prop
 | []=>True
 | .live cs _ :: r=>V.idlt.belowL n cs=true∧wkS n r
 | _ :: r=>wkS n r
def wkB (n:Nat) (sg:List Nat) (st:List Slot):Nat→List Slot→Prop
 | _,[]=>True
 | i,.live cs f :: r=>(st[sgm sg i]?=some (Slot.live (V.ren.renL sg cs) f)∧V.idlt.belowL n cs=true∧((List.range r.length).all fun k=>sgm sg i != sgm sg (i + 1 + k))=true)∧wkB n sg st (i + 1) r
 | i,.fresh :: r=>st[sgm sg i]?=some Slot.fresh∧wkB n sg st (i + 1) r
 | i,.dead :: r=>wkB n sg st (i + 1) r
theorem wkL_ok {n:Nat} {sg:List Nat}:∀ {l m:List V},wkL n sg l m→m.length=l.length∧∀ t (h1:t < m.length) (h2:t < l.length),m[t]=.any∨(m[t].ren sg=l[t]∧m[t].idlt n=true)
 | [],[],_=>⟨rfl,fun t h=>absurd h (Nat.not_lt_zero _)⟩
 | a :: l,b :: m,⟨h,t⟩=>by
  obtain ⟨h1,h2⟩:=wkL_ok t
  refine ⟨by simp [h1],fun t g1 g2=>?_⟩
  cases t with
  | zero =>
   rcases h with h | ⟨rfl,h3,h4⟩ | h
   ·exact .inl h
   ·exact .inr ⟨h3,h4⟩
   ·exact .inr h
  | succ t=>exact h2 t (Nat.lt_of_succ_lt_succ g1) (Nat.lt_of_succ_lt_succ g2)
 | [],_ :: _,h=>h.elim
 | _ :: _,[],h=>h.elim
theorem wkS_ok {n:Nat}:∀ {l:List Slot},wkS n l→∀ (i:Nat) (cs:List V) (frz:Nat),l[i]?=some (Slot.live cs frz)→V.idlt.belowL n cs=true
 | [],_,i,cs,f,h=>by simp at h
 | .live c g :: r,⟨h0,h1⟩,0,cs,f,h=>by simp at h;rw [← h.1];exact h0
 | .live c g :: r,⟨h0,h1⟩,i + 1,cs,f,h=>wkS_ok h1 i cs f (by simpa using h)
 | .fresh :: r,h1,0,cs,f,h=>by simp at h
 | .fresh :: r,h1,i + 1,cs,f,h=>wkS_ok (l:=r) h1 i cs f (by simpa using h)
 | .dead :: r,h1,0,cs,f,h=>by simp at h
 | .dead :: r,h1,i + 1,cs,f,h=>wkS_ok (l:=r) h1 i cs f (by simpa using h)
theorem wkB_ok {n:Nat} {sg:List Nat} {st:List Slot}:∀ {l:List Slot} {i:Nat},wkB n sg st i l →
  (∀ (j:Nat) (cs:List V) (f:Nat),l[j]?=some (Slot.live cs f)→st[sgm sg (i + j)]?=some (Slot.live (V.ren.renL sg cs) f)∧V.idlt.belowL n cs=true∧∀ k,j < k→k < l.length→sgm sg (i + j)≠sgm sg (i + k))∧(∀ j:Nat,l[j]?=some Slot.fresh→st[sgm sg (i + j)]?=some Slot.fresh)
 | [],i,_=>⟨fun j cs f h=>by simp at h,fun j h=>by simp at h⟩
 | .live c g :: r,i,⟨⟨h0,h1,h2⟩,h3⟩=>by
  obtain ⟨g1,g2⟩:=wkB_ok h3
  refine ⟨fun j cs f h=>?_,fun j h=>?_⟩
  ·cases j with
   | zero =>
    simp only [List.getElem?_cons_zero,Option.some.injEq,Slot.live.injEq] at h
    obtain ⟨rfl,rfl⟩:=h
    refine ⟨h0,h1,fun k hk hkl e=>?_⟩
    simp only [List.all_eq_true,List.mem_range,bne_iff_ne,ne_eq] at h2
    refine h2 (k - 1) (by simp at hkl;omega) ?_
    rw [show i + 1 + (k - 1)=i + k by omega];exact e
   | succ j =>
    obtain ⟨q1,q2,q3⟩:=g1 j cs f (by simpa using h)
    refine ⟨by rw [show i + (j + 1)=i + 1 + j by omega];exact q1,q2,fun k hk hkl e=>?_⟩
    refine q3 (k - 1) (by omega) (by simp at hkl;omega) ?_
    rw [show i + 1 + j=i + (j + 1) by omega,show i + 1 + (k - 1)=i + k by omega];exact e
  ·cases j with
   | zero=>simp at h
   | succ j=>rw [show i + (j + 1)=i + 1 + j by omega];exact g2 j (by simpa using h)
 | .fresh :: r,i,⟨h0,h3⟩=>by
  obtain ⟨g1,g2⟩:=wkB_ok h3
  refine ⟨fun j cs f h=>?_,fun j h=>?_⟩
  ·cases j with
   | zero=>simp at h
   | succ j =>
    obtain ⟨q1,q2,q3⟩:=g1 j cs f (by simpa using h)
    refine ⟨by rw [show i + (j + 1)=i + 1 + j by omega];exact q1,q2,fun k hk hkl e=>?_⟩
    refine q3 (k - 1) (by omega) (by simp at hkl;omega) ?_
    rw [show i + 1 + j=i + (j + 1) by omega,show i + 1 + (k - 1)=i + k by omega];exact e
  ·cases j with
   | zero=>exact h0
   | succ j=>rw [show i + (j + 1)=i + 1 + j by omega];exact g2 j (by simpa using h)
 | .dead :: r,i,h3=>by
  obtain ⟨g1,g2⟩:=wkB_ok (l:=r) h3
  refine ⟨fun j cs f h=>?_,fun j h=>?_⟩
  ·cases j with
   | zero=>simp at h
   | succ j =>
    obtain ⟨q1,q2,q3⟩:=g1 j cs f (by simpa using h)
    refine ⟨by rw [show i + (j + 1)=i + 1 + j by omega];exact q1,q2,fun k hk hkl e=>?_⟩
    refine q3 (k - 1) (by omega) (by simp at hkl;omega) ?_
    rw [show i + 1 + j=i + (j + 1) by omega,show i + 1 + (k - 1)=i + k by omega];exact e
  ·cases j with
   | zero=>simp at h
   | succ j=>rw [show i + (j + 1)=i + 1 + j by omega];exact g2 j (by simpa using h)
mutual
theorem idlt_up {n:Nat}:∀ v:V,v.idlt 0=true→v.idlt n=true
 | .lit _,_=>rfl
 | .agg cs,h=>idltL_up cs h
 | .tup cs,h=>idltL_up cs h
 | .sl _ _,_=>rfl
 | .osl _ _ _ _ _,h=>by simp [V.idlt] at h
 | .ptr _ _,h=>by simp [V.idlt] at h
 | .eptr _,_=>rfl
 | .clo _ cs,h=>idltL_up cs h
 | .any,_=>rfl
theorem idltL_up {n:Nat}:∀ l:List V,V.idlt.belowL 0 l=true→V.idlt.belowL n l=true
 | [],_=>rfl
 | v :: l,h=>by
  simp only [V.idlt.belowL,Bool.and_eq_true] at h ⊢
  exact ⟨idlt_up v h.1,idltL_up l h.2⟩
end
mutual
theorem ren_id {sg:List Nat}:∀ v:V,v.idlt 0=true→v.ren sg=v
 | .lit _,_=>rfl
 | .agg cs,h=>by rw [V.ren,renL_id cs h]
 | .tup cs,h=>by rw [V.ren,renL_id cs h]
 | .sl _ _,_=>rfl
 | .osl _ _ _ _ _,h=>by simp [V.idlt] at h
 | .ptr _ _,h=>by simp [V.idlt] at h
 | .eptr _,_=>rfl
 | .clo _ cs,h=>by rw [V.ren,renL_id cs h]
 | .any,_=>rfl
theorem renL_id {sg:List Nat}:∀ l:List V,V.idlt.belowL 0 l=true→V.ren.renL sg l=l
 | [],_=>rfl
 | v :: l,h=>by
  simp only [V.idlt.belowL,Bool.and_eq_true] at h
  rw [V.ren.renL,ren_id v h.1,renL_id l h.2]
end
theorem wkB_live0 {n i f:Nat} {sg:List Nat} {st r:List Slot} {cs:List V} (h0:st[sgm sg i]?=some (Slot.live cs f)) (h:V.idlt.belowL 0 cs=true) (hd:((List.range r.length).all fun k=>sgm sg i != sgm sg (i + 1 + k))=true) (t:wkB n sg st (i + 1) r):wkB n sg st i (.live cs f :: r) :=
 ⟨⟨by rw [renL_id _ h];exact h0,idltL_up _ h,hd⟩,t⟩
theorem wkS_live0 {n f:Nat} {r:List Slot} {cs:List V} (h:V.idlt.belowL 0 cs=true) (t:wkS n r):wkS n (.live cs f :: r):=⟨idltL_up _ h,t⟩
theorem wk_intro {n:Nat} {sg:List Nat} {fr fr' : List V} {st st' : List Slot} (h0:n0≤n) (hfx:((List.range n0).all fun i=>sgm sg i == i)=true) (h1:wkL n sg fr fr') (h2:st'.length=n) (h3:wkB n sg st 0 st'):Wk n0 n sg fr fr' st st':=by
 obtain ⟨g1,g2⟩:=wkB_ok h3
 simp only [Nat.zero_add] at g1 g2
 refine ⟨h0,fun i hi=>?_,(wkL_ok h1).1,(wkL_ok h1).2,h2,fun i cs f h=>⟨(g1 i cs f h).1,(g1 i cs f h).2.1⟩,g2,fun i j ci fi cj fj hi hj e=>?_⟩
 ·simp only [List.all_eq_true,List.mem_range,beq_iff_eq] at hfx
  exact hfx i hi
 ·have li:=(List.getElem?_eq_some_iff.1 hi).1
  have lj:=(List.getElem?_eq_some_iff.1 hj).1
  rcases Nat.lt_trichotomy i j with h | h | h
  ·exact absurd e ((g1 i ci fi hi).2.2 j h lj)
  ·exact h
  ·exact absurd e.symm ((g1 j cj fj hj).2.2 i h li)
mutual
theorem ren_nil:∀ v:V,v.ren []=v
 | .lit _=>rfl
 | .agg cs=>by rw [V.ren,renL_nil cs]
 | .tup cs=>by rw [V.ren,renL_nil cs]
 | .sl _ _=>rfl
 | .osl _ _ _ _ _=>rfl
 | .ptr _ _=>rfl
 | .eptr _=>rfl
 | .clo _ cs=>by rw [V.ren,renL_nil cs]
 | .any=>rfl
theorem renL_nil:∀ l:List V,V.ren.renL [] l=l
 | []=>rfl
 | v :: l=>by rw [V.ren.renL,ren_nil v,renL_nil l]
end
theorem wk0_intro {n:Nat} {fr fr' : List V} {st st' : List Slot} (h0:n0≤n) (h1:wkL n [] fr fr') (h2:st.take n=st') (hl:st'.length=n) (h3:wkS n st'):Wk n0 n [] fr fr' st st':=by
 have get:∀ (i:Nat) (s:Slot),st'[i]?=some s→st[i]?=some s:=by
  intro i s h
  rw [← h2,List.getElem?_take] at h
  split at h
  ·exact h
  ·cases h
 have e:∀ i,sgm [] i=i:=fun i=>rfl
 exact ⟨h0,fun i _=>rfl,(wkL_ok h1).1,(wkL_ok h1).2,hl,fun i cs f h=>⟨by rw [renL_nil];exact get _ _ h,wkS_ok h3 i cs f h⟩,fun i h=>get _ _ h,fun i j _ _ _ _ _ _ h=>h⟩
theorem w_loop {a:ACode} (car junk:List Nat) (J:Nat→List V→List Slot→Prop) (n1 k0:Nat) (sg0:List Nat) (vals0:List V) {st0:List Slot} (hwk:Wk n0 k0 sg0 fr (setF (maskF junk fr) car vals0) st st0) (h0:J n1 vals0 st0)
  (hr:∀ n vals st,J n vals st→AW P n0 a (loopQ n0 (fun n fr' st=>∃ vals,J n vals st∧fr'=setF (maskF junk fr) car vals) n Q) (setF (maskF junk fr) car vals) st):AW P n0 (.loop a) Q fr st :=
 ⟨0,fun n fr' st=>∃ vals,J n vals st∧fr'=setF (maskF junk fr) car vals,n1,k0,sg0,_,st0,hwk,⟨vals0,h0,rfl⟩,fun n fr' st ⟨vals,hJ,e⟩=>e ▸ hr n vals st hJ⟩
theorem w_unr {a:ACode} {j:Nat} (h:AW P n0 a (fun e fr' st'=>match e with | .normal=>unr n0 (fun Q fr st=>AW P n0 a Q fr st) Q j fr' st' | e=>Q e fr' st') fr st):AW P n0 (.loop a) Q fr st:=⟨j + 1,h⟩
theorem q_loop {J:Nat→List V→List Slot→Prop} {n:Nat} {base:List V} {car:List Nat} (n' k:Nat) (sg:List Nat) (vals' : List V) {st'' : List Slot} (hlt:n' < n) (hwk:Wk n0 k sg fr (setF base car vals') st st'') (hJ:J n' vals' st'') :
  loopQ n0 (fun n fr' st=>∃ vals,J n vals st∧fr'=setF base car vals) n Q .normal fr st:=⟨n',k,sg,_,st'',hlt,hwk,vals',hJ,rfl⟩
theorem q_loopR {I:Nat→List V→List Slot→Prop} {n:Nat} (h:Q .ret fr st):loopQ n0 I n Q .ret fr st:=h
theorem q_loopE {I:Nat→List V→List Slot→Prop} {n j:Nat} (h:Q (.exit j) fr st):loopQ n0 I n Q (.exit j) fr st:=h
end
end Go.Proofs.YtpkodpcfafipdaaGreatDoor

