/- A part of the proof: 5 texts joined. -/
import Derived.Test.YtpkodpcfafipdaaGreatDoorSuA8
import Derived.Great.BuildSlice
import Derived.Laws.StructEq
import Derived.ChangeKeysEq
set_option linter.all false
namespace Go.Proofs.YtpkodpcfafipdaaGreatDoor
open Go.RowKit
theorem setCells_heap (b:Nat) (t:TypeId) (fr:Nat × Nat):∀ (vs:List Value) (o:Nat) (w:World) (arr:Array Value),w.heap[b]?=some (.cells arr t fr)→o + vs.length≤arr.size →
  (∃ arr' : Array Value,(w.setCells b o vs).heap[b]?=some (.cells arr' t fr)∧arr'.size=arr.size∧∀ k,arr'[k]?=if o≤k∧k < o + vs.length then vs[k - o]? else arr[k]?) ∧
  (w.setCells b o vs).heap.size=w.heap.size∧(∀ k,k≠b→(w.setCells b o vs).heap[k]?=w.heap[k]?)∧(w.setCells b o vs).os=w.os∧(w.setCells b o vs).tape=w.tape∧(w.setCells b o vs).output=w.output
 | [],o,w,arr,h,_=>⟨⟨arr,h,rfl,fun k=>by rw [if_neg (fun h=>by simp at h;omega)]⟩,rfl,fun _ _=>rfl,rfl,rfl,rfl⟩
 | v :: vs,o,w,arr,h,hl=>by
  have h1:(w.setCell ⟨b,o,none⟩ v).heap[b]?=some (.cells (arr.setIfInBounds o v) t fr):=by
   simp [World.setCell,Array.getElem?_modify,h]
  have h2:(w.setCell ⟨b,o,none⟩ v).heap.size=w.heap.size:=by simp [World.setCell]
  have h3:∀ k,k≠b→(w.setCell ⟨b,o,none⟩ v).heap[k]?=w.heap[k]?:=fun k hk=>Below.heap_setCell w _ v k hk
  obtain ⟨⟨arr',g1,g2,g3⟩,g4,g5,g6,g7,g8⟩:=setCells_heap b t fr vs (o + 1) (w.setCell ⟨b,o,none⟩ v) _ h1 (by simp at hl ⊢;omega)
  rw [World.setCells]
  refine ⟨⟨arr',g1,by simpa using g2,fun k=>?_⟩,g4.trans h2,fun k hk=>(g5 k hk).trans (h3 k hk),g6,g7,g8⟩
  rw [g3 k]
  simp only [List.length_cons] at hl ⊢
  by_cases ho:k=o
  ·subst ho
   rw [if_neg (by omega),if_pos (by omega)]
   simp [Array.getElem?_setIfInBounds]
   omega
  ·by_cases hk:o + 1≤k∧k < o + 1 + vs.length
   ·rw [if_pos hk,if_pos (by omega)]
    obtain ⟨j,rfl⟩ : ∃ j,k=o + 1 + j:=⟨k - (o + 1),by omega⟩
    rw [show o + 1 + j - o=j + 1 by omega,show o + 1 + j - (o + 1)=j by omega]
    rfl
   ·rw [if_neg hk,if_neg (by omega)]
    rw [Array.getElem?_setIfInBounds_ne (by omega)]
section
variable {P : Program} {B : Kp} {m0 m : Mem} {bk : Bks} {w : World} {st : List Slot}
theorem live_lt {id b sz:Nat} {cs:List V} {frz:Nat} {arr:Array Value} {t:TypeId} {lo hi:Nat} (h:LiveAt B m bk w id cs frz b sz arr t lo hi):b < w.heap.size:=by
 rcases Nat.lt_or_ge b w.heap.size with g | g
 ·exact g
 ·have:=h.heap;rw [Array.getElem?_eq_none g] at this;cases this
theorem Sim.write (hsim:Sim B m0 m bk w st) {i:Nat} {cs cs' : List V} {frz:Nat} (hi:st[i]?=some (.live cs frz)) {b sz:Nat} {arr:Array Value} {t:TypeId} {lo hi' : Nat} (hl:LiveAt B m bk w i cs frz b sz arr t lo hi')
  {w' : World} {arr' : Array Value} (g1:w'.heap[b]?=some (.cells arr' t (lo,hi'))) (g2:arr'.size=arr.size) (g4:w'.heap.size=w.heap.size) (g5:∀ k,k≠b→w'.heap[k]?=w.heap[k]?)
  (hfz:∀ k,k < frz→arr'[k]?=arr[k]?) (hlen:cs'.length≤sz) (hone:∀ u ∈ cs',u.one=true) (hrep:∀ k (hk:k < cs'.length),∃ u,arr'[k]?=some u∧Rep m bk u cs'[k]):Sim B m0 m bk w' (st.set i (.live cs' frz)) where
 base:=by rw [g4];exact hsim.base
 mem:=⟨fun a u hu=>by
  have h0:=hsim.mem a u hu
  by_cases hb:a.block=b
  ·obtain ⟨ab,ao,sp⟩:=a
   simp only at hb
   subst hb
   have has:sp=none:=by
    cases sp with
    | none=>rfl
    | some s =>
     simp only [World.cell?,hl.heap] at h0
     simp at h0
   subst has
   have hlt:ao < frz:=by
    rcases Nat.lt_or_ge ao frz with h | h
    ·exact h
    ·have:=hl.mu ao h;rw [this] at hu;cases hu
   simp only [World.cell?,hl.heap] at h0
   simp only [World.cell?,g1]
   simpa [hfz ao hlt] using h0
  ·rw [World.cell?_of_block (w:=w) (g5 _ hb)];exact h0,hsim.mem.tab.keep B.tb fun k hk=>g5 k (by have:=hl.own.1;omega)⟩
 ext:=hsim.ext
 old:=hsim.old
 blk id c f hid:=by
  rw [List.getElem?_set] at hid
  by_cases hii:i=id
  ·subst hii
   rw [if_pos rfl] at hid
   split at hid
   ·simp only [Option.some.injEq,Slot.live.injEq] at hid
    obtain ⟨rfl,rfl⟩:=hid
    exact .inr ⟨b,sz,arr',t,lo,hi',⟨hl.at_,hl.own,g1,by rw [g2];exact hl.size,hl.free,hlen,hone,hrep,hl.mu,fun k hk=>by rw [hfz k hk];exact hl.fz k hk⟩⟩
   ·cases hid
  ·rw [if_neg hii] at hid
   rcases hsim.blk id c f hid with hn | ⟨b2,sz2,arr2,t2,lo2,hi2,h2⟩
   ·exact .inl hn
   have hne:b2≠b:=fun e=>hii (hsim.inj i id _ _ _ _ _ _ hi hid hl.at_ h2.at_ e.symm)
   exact .inr ⟨b2,sz2,arr2,t2,lo2,hi2,⟨h2.at_,h2.own,by rw [g5 _ hne];exact h2.heap,h2.size,h2.free,h2.fit,h2.one,h2.rep,h2.mu,h2.fz⟩⟩
 inj a c ci fi cj fj x y ha hc hx hy e:=by
  have aux:∀ (a:Nat) (ci:List V) (fi:Nat),(st.set i (Slot.live cs' frz))[a]?=some (Slot.live ci fi)→∃ ci fi,st[a]?=some (Slot.live ci fi):=by
   intro a ci fi h
   rw [List.getElem?_set] at h
   by_cases hia:i=a
   ·subst hia;exact ⟨_,_,hi⟩
   ·rw [if_neg hia] at h;exact ⟨_,_,h⟩
  obtain ⟨c1,f1,h1⟩:=aux _ _ _ ha
  obtain ⟨c2,f2,h2⟩:=aux _ _ _ hc
  exact hsim.inj a c _ _ _ _ x y h1 h2 hx hy e
 nb id hid:=by
  refine hsim.nb id ?_
  rw [List.getElem?_set] at hid
  by_cases hii:i=id
  ·subst hii
   rw [if_pos rfl] at hid
   split at hid
   ·rcases hid with h | h <;> cases h
   ·rename_i h;have:=(List.getElem?_eq_some_iff.1 hi).1;exact absurd this h
  ·rw [if_neg hii] at hid;exact hid
def newBk (bk:Bks) (id:Nat) (x:Nat × Nat):Bks:=fun k=>if k=id then some x else bk k
theorem newBk_ge {bk:Bks} {id:Nat} {x:Nat × Nat} (h:bk id=none):∀ k y,bk k=some y→newBk bk id x k=some y:=by
 intro k y hy
 unfold newBk
 split
 ·rename_i e;subst e;rw [h] at hy;cases hy
 ·exact hy
theorem Sim.make (hsim:Sim B m0 m bk w st) {id:Nat} (hf:st[id]?=some .fresh) {w' : World} {cs:List V} {arr:Array Value} {t:TypeId} {lo hi:Nat} (hs:w.heap.size < w'.heap.size) (hk:∀ k,k < w.heap.size→w'.heap[k]?=w.heap[k]?)
  (hh:w'.heap[w.heap.size]?=some (.cells arr t (lo,hi))) (hfree:hi≤lo) (hlen:cs.length≤arr.size) (hone:∀ u ∈ cs,u.one=true) (hrep:∀ k (hk:k < cs.length),∃ u,arr[k]?=some u∧Rep m bk u cs[k]) :
  Sim B m0 m (newBk bk id (w.heap.size,arr.size)) w' (st.set id (.live cs 0)):=by
 generalize hfrz:(0:Nat)=frz
 have hn:=hsim.nb id (.inr hf)
 have hge:=newBk_ge (x:=(w.heap.size,arr.size)) hn
 have hw:=hsim.world (Nat.le_of_lt hs) hk
 have hidl:=(List.getElem?_eq_some_iff.1 hf).1
 refine ⟨hw.base,hw.mem,hw.ext,hw.old,fun k c f hkk=>?_,fun i j ci fi cj fj x y h1 h2 hx hy e=>?_,fun k hkk=>?_⟩
 ·rw [List.getElem?_set] at hkk
  by_cases e:id=k
  ·subst e
   rw [if_pos rfl,if_pos hidl] at hkk
   simp only [Option.some.injEq,Slot.live.injEq] at hkk
   obtain ⟨rfl,rfl⟩:=hkk
   refine .inr ⟨w.heap.size,arr.size,arr,t,lo,hi,⟨by simp [newBk],hsim.base.ok (Nat.le_refl _),hh,rfl,hfree,hlen,hone,fun k hk=>?_,fun k _=>?_,fun k hk=>by omega⟩⟩
   ·obtain ⟨u,h1,h2⟩:=hrep k hk
    exact ⟨u,h1,h2.mono (fun _ _ h=>h) hge⟩
   ·cases h:m ⟨w.heap.size,k,none⟩ with
    | none=>rfl
    | some u=>exact absurd (cell_lt (hsim.mem _ _ h)) (Nat.lt_irrefl _)
  ·rw [if_neg e] at hkk
   rcases hw.blk k c f hkk with ⟨n1,n2,n3⟩ | ⟨b2,sz2,arr2,t2,lo2,hi2,h2⟩
   ·exact .inl ⟨n1,n2,by unfold newBk;rw [if_neg (fun q=>e q.symm)];exact n3⟩
   exact .inr ⟨b2,sz2,arr2,t2,lo2,hi2,⟨hge _ _ h2.at_,h2.own,h2.heap,h2.size,h2.free,h2.fit,h2.one,fun k hk=>by obtain ⟨u,g1,g2⟩:=h2.rep k hk;exact ⟨u,g1,g2.mono (fun _ _ h=>h) hge⟩,h2.mu,h2.fz⟩⟩
 ·have aux:∀ (i:Nat) (ci:List V) (fi:Nat) (x:Nat × Nat),i≠id→(st.set id (Slot.live cs frz))[i]?=some (Slot.live ci fi)→newBk bk id (w.heap.size,arr.size) i=some x→st[i]?=some (Slot.live ci fi)∧bk i=some x∧x.1 < w.heap.size:=by
   intro i ci fi x hi h hx
   rw [List.getElem?_set,if_neg (fun e=>hi e.symm)] at h
   unfold newBk at hx
   rw [if_neg hi] at hx
   rcases hsim.blk i ci fi h with ⟨_,_,n3⟩ | ⟨b2,sz2,arr2,t2,lo2,hi2,h2⟩
   ·rw [n3] at hx;cases hx
   have:=live_lt h2
   have e2:=h2.at_
   rw [hx] at e2
   injection e2 with e2
   subst e2
   exact ⟨h,hx,this⟩
  have self:∀ x,newBk bk id (w.heap.size,arr.size) id=some x→x.1=w.heap.size:=by
   intro x hx;simp [newBk] at hx;subst hx;rfl
  by_cases hi:i=id
  ·by_cases hj:j=id
   ·rw [hi,hj]
   ·subst hi
    obtain ⟨_,_,g⟩:=aux j cj fj y hj h2 hy
    have:=self x hx
    omega
  ·by_cases hj:j=id
   ·subst hj
    obtain ⟨_,_,g⟩:=aux i ci fi x hi h1 hx
    have:=self y hy
    omega
   ·obtain ⟨a1,a2,_⟩:=aux i ci fi x hi h1 hx
    obtain ⟨b1,b2,_⟩:=aux j cj fj y hj h2 hy
    exact hsim.inj i j _ _ _ _ x y a1 b1 a2 b2 e
 ·have hne:k≠id:=by
   intro e
   subst e
   rw [List.getElem?_set,if_pos rfl,if_pos hidl] at hkk
   rcases hkk with h | h <;> cases h
  rw [List.getElem?_set,if_neg (fun e=>hne e.symm)] at hkk
  unfold newBk
  rw [if_neg hne]
  exact hsim.nb k hkk
theorem Sim.call (hsim:Sim B m0 m bk w st) {w' : World} {m' : Mem} (hb:Below w.heap.size w w') (h1:∀ a u,m' a=some u→w'.cell? a=some u) (h2:∀ a u,m a=some u→m' a=some u)
  (h3:∀ a u,m' a=some u→m a=some u∨w.heap.size≤a.block):Sim B m0 m' bk w' st where
 base:=hsim.base.le hb.size
 mem:=⟨h1,hsim.mem.tab.mono hb.block⟩
 ext a u h:=h2 _ _ (hsim.ext a u h)
 old a u h:=by
  rcases h3 a u h with h | h
  ·exact hsim.old a u h
  ·exact .inr (hsim.base.ok h)
 blk id cs frz hid:=by
  rcases hsim.blk id cs frz hid with hn | ⟨b,sz,arr,t,lo,hi,h⟩
  ·exact .inl hn
  refine .inr ⟨b,sz,arr,t,lo,hi,⟨h.at_,h.own,by rw [hb.block b (live_lt h)];exact h.heap,h.size,h.free,h.fit,h.one,fun k hk=>?_,fun k hk=>?_,fun k hk=>?_⟩⟩
  ·obtain ⟨u,g1,g2⟩:=h.rep k hk
   exact ⟨u,g1,g2.mono h2 (fun _ _ h=>h)⟩
  ·cases hm:m' ⟨b,k,none⟩ with
   | none=>rfl
   | some u =>
    rcases h3 _ _ hm with g | g
    ·rw [h.mu k hk] at g;cases g
    ·have:=live_lt h;simp at g;omega
  ·rw [← h.fz k hk]
   cases hm:m' ⟨b,k,none⟩ with
   | none =>
    cases hm2:m ⟨b,k,none⟩ with
    | none=>rfl
    | some u=>rw [h2 _ _ hm2] at hm;cases hm
   | some u =>
    rcases h3 _ _ hm with g | g
    ·exact g.symm
    ·have:=live_lt h;simp at g;omega
 inj:=hsim.inj
 nb:=hsim.nb
theorem Sim.freeze (hsim:Sim B m0 m bk w st) {i:Nat} {cs:List V} {frz:Nat} (hi:st[i]?=some (.live cs frz)) {f:Nat} (hf1:frz≤f) (hf2:f≤cs.length) :
  ∃ m',Sim B m0 m' bk w (st.set i (.live cs f))∧∀ a u,m a=some u→m' a=some u:=by
 have hil:=(List.getElem?_eq_some_iff.1 hi).1
 rcases hsim.blk _ _ _ hi with ⟨n1,n2,n3⟩ | ⟨b,sz,arr,t,lo,hi',hl⟩
 ·subst n1
  have hf0:f=frz:=by simp at hf2;omega
  subst hf0
  refine ⟨m,?_,fun _ _ h=>h⟩
  have:st.set i (Slot.live [] f)=st:=by
   apply List.ext_getElem?
   intro k
   rw [List.getElem?_set]
   by_cases e:i=k
   ·subst e;rw [if_pos rfl,if_pos hil,hi]
   ·rw [if_neg e]
  rw [this];exact hsim
 have hfit:=hl.fit
 have hsize:=hl.size
 let m' : Mem:=fun a=>if a.block=b∧a.off < f∧a.spot=none then arr[a.off]? else m a
 have hge:∀ a u,m a=some u→m' a=some u:=by
  intro a u h
  show (if a.block=b∧a.off < f∧a.spot=none then arr[a.off]? else m a)=some u
  by_cases hc:a.block=b∧a.off < f∧a.spot=none
  ·rw [if_pos hc]
   have:=hsim.mem a u h
   obtain ⟨ab,ao,sp⟩:=a
   obtain ⟨h1,h2,h3⟩:=hc
   simp only at h1 h2 h3
   subst h1 h3
   simpa [World.cell?,hl.heap] using this
  ·rw [if_neg hc];exact h
 refine ⟨m',⟨hsim.base,⟨fun a u h=>?_,hsim.mem.tab⟩,fun a u h=>hge _ _ (hsim.ext a u h),fun a u h=>?_,fun id c g hid=>?_,fun p q cp fp cq fq x y hp hq hx hy e=>?_,fun id hid=>?_⟩,hge⟩
 ·change (if a.block=b∧a.off < f∧a.spot=none then arr[a.off]? else m a)=some u at h
  by_cases hc:a.block=b∧a.off < f∧a.spot=none
  ·rw [if_pos hc] at h
   obtain ⟨ab,ao,sp⟩:=a
   obtain ⟨h1,h2,h3⟩:=hc
   simp only at h1 h2 h3 h
   subst h1 h3
   simpa [World.cell?,hl.heap] using h
  ·rw [if_neg hc] at h;exact hsim.mem a u h
 ·change (if a.block=b∧a.off < f∧a.spot=none then arr[a.off]? else m a)=some u at h
  by_cases hc:a.block=b∧a.off < f∧a.spot=none
  ·exact .inr (by rw [hc.1];exact hl.own)
  ·rw [if_neg hc] at h;exact hsim.old a u h
 ·rw [List.getElem?_set] at hid
  by_cases e:i=id
  ·subst e
   rw [if_pos rfl,if_pos hil] at hid
   simp only [Option.some.injEq,Slot.live.injEq] at hid
   obtain ⟨rfl,rfl⟩:=hid
   refine .inr ⟨b,sz,arr,t,lo,hi',⟨hl.at_,hl.own,hl.heap,hl.size,hl.free,hl.fit,hl.one,fun k hk=>?_,fun k hk=>?_,fun k hk=>?_⟩⟩
   ·obtain ⟨u,g1,g2⟩:=hl.rep k hk
    exact ⟨u,g1,g2.mono hge (fun _ _ h=>h)⟩
   ·show (if b=b∧k < f∧none=none then arr[k]? else m ⟨b,k,none⟩)=none
    rw [if_neg (by omega)]
    exact hl.mu k (by omega)
   ·show (if b=b∧k < f∧none=none then arr[k]? else m ⟨b,k,none⟩)=arr[k]?
    rw [if_pos ⟨rfl,hk,rfl⟩]
  ·rw [if_neg e] at hid
   rcases hsim.blk id c g hid with hn | ⟨b2,sz2,arr2,t2,lo2,hi2,h2⟩
   ·exact .inl hn
   have hne:b2≠b:=fun q=>e (hsim.inj i id _ _ _ _ _ _ hi hid hl.at_ h2.at_ q.symm)
   refine .inr ⟨b2,sz2,arr2,t2,lo2,hi2,⟨h2.at_,h2.own,h2.heap,h2.size,h2.free,h2.fit,h2.one,fun k hk=>?_,fun k hk=>?_,fun k hk=>?_⟩⟩
   ·obtain ⟨u,g1,g2⟩:=h2.rep k hk
    exact ⟨u,g1,g2.mono hge (fun _ _ h=>h)⟩
   ·show (if b2=b∧k < f∧none=none then arr[k]? else m ⟨b2,k,none⟩)=none
    rw [if_neg (fun q=>hne q.1)];exact h2.mu k hk
   ·show (if b2=b∧k < f∧none=none then arr[k]? else m ⟨b2,k,none⟩)=arr2[k]?
    rw [if_neg (fun q=>hne q.1)];exact h2.fz k hk
 ·have aux:∀ (a:Nat) (ci:List V) (fi:Nat),(st.set i (Slot.live cs f))[a]?=some (Slot.live ci fi)→∃ ci fi,st[a]?=some (Slot.live ci fi):=by
   intro a ci fi h
   rw [List.getElem?_set] at h
   by_cases hia:i=a
   ·subst hia;exact ⟨_,_,hi⟩
   ·rw [if_neg hia] at h;exact ⟨_,_,h⟩
  obtain ⟨c1,f1,h1⟩:=aux _ _ _ hp
  obtain ⟨c2,f2,h2⟩:=aux _ _ _ hq
  exact hsim.inj p q _ _ _ _ x y h1 h2 hx hy e
 ·refine hsim.nb id ?_
  rw [List.getElem?_set] at hid
  by_cases e:i=id
  ·subst e
   rw [if_pos rfl,if_pos hil] at hid
   rcases hid with h | h <;> cases h
  ·rw [if_neg e] at hid;exact hid
theorem Sim.dead (hsim:Sim B m0 m bk w st) (i:Nat) (hi:st[i]?≠some .fresh):Sim B m0 m bk w (st.set i .dead) where
 base:=hsim.base
 mem:=hsim.mem
 ext:=hsim.ext
 old:=hsim.old
 blk id cs frz hid:=by
  rw [List.getElem?_set] at hid
  by_cases e:i=id
  ·subst e;rw [if_pos rfl] at hid;split at hid <;> cases hid
  ·rw [if_neg e] at hid;exact hsim.blk id cs frz hid
 inj a c ci fi cj fj x y ha hc hx hy e:=by
  have aux:∀ (a:Nat) (ci:List V) (fi:Nat),(st.set i Slot.dead)[a]?=some (Slot.live ci fi)→st[a]?=some (Slot.live ci fi):=by
   intro a ci fi h
   rw [List.getElem?_set] at h
   by_cases hia:i=a
   ·subst hia;rw [if_pos rfl] at h;split at h <;> cases h
   ·rw [if_neg hia] at h;exact h
  exact hsim.inj a c _ _ _ _ x y (aux _ _ _ ha) (aux _ _ _ hc) hx hy e
 nb id hid:=by
  refine hsim.nb id ?_
  rw [List.getElem?_set] at hid
  by_cases e:i=id
  ·subst e
   rw [if_pos rfl] at hid
   split at hid
   ·rcases hid with h | h <;> cases h
   ·rename_i h;exact .inl (List.getElem?_eq_none (by omega))
  ·rw [if_neg e] at hid;exact hid
end
end Go.Proofs.YtpkodpcfafipdaaGreatDoor

namespace Go.Proofs.YtpkodpcfafipdaaGreatDoor
open Go.RowKit
def eqVals:List Nat→List Value→List Value→Option Bool
 | [],[],[]=>some true
 | k :: ks,a :: l,b :: m=>(cellEq k a b).bind fun r=>(eqVals ks l m).map (r && ·)
 | _,_,_=>none
theorem eqVals_split:∀ (n:Nat) (ks:List Nat) (l m:List Value) (r:Bool),eqVals ks l m=some r→∃ r1 r2,eqVals (ks.take n) (l.take n) (m.take n)=some r1∧eqVals (ks.drop n) (l.drop n) (m.drop n)=some r2∧r=(r1 && r2)
 | 0,ks,l,m,r,h=>⟨true,r,by simp [eqVals],by simpa using h,by simp⟩
 | n + 1,[],[],[],r,h=>⟨true,r,by simp [eqVals],by simpa using h,by simp⟩
 | n + 1,k :: ks,a :: l,b :: m,r,h=>by
  simp only [eqVals,Option.bind_eq_some_iff,Option.map_eq_some_iff] at h
  obtain ⟨x,hx,y,hy,rfl⟩:=h
  obtain ⟨r1,r2,h1,h2,rfl⟩:=eqVals_split n ks l m y hy
  exact ⟨x && r1,r2,by simp [eqVals,hx,h1],by simpa using h2,by rw [Bool.and_assoc]⟩
 | n + 1,[],_ :: _,_,r,h=>by simp [eqVals] at h
 | n + 1,[],[],_ :: _,r,h=>by simp [eqVals] at h
 | n + 1,_ :: _,[],_,r,h=>by simp [eqVals] at h
 | n + 1,_ :: _,_ :: _,[],r,h=>by simp [eqVals] at h
theorem run_part_mk {P:Program} {t:TypeId} {i:TypeInfo} (hd:(P.underlying t).isSome=true) (hi:P.info? t=some i) (w:World) (cs:Array Value) (off:Nat) (h:off + i.size≤cs.size) (h1:isAggT P t=false→i.size=1) :
  (part t cs off).run P w=.ok (mkV (isAggT P t) ((cs.toList.drop off).take i.size)) w:=by
 obtain ⟨d,hd⟩:=Option.isSome_iff_exists.1 hd
 have e:isAggT P t=isAggD d:=by simp [isAggT,hd]
 rw [e] at h1 ⊢
 simp only [part,Sem.run_bind,run_isAgg hd,Result.andThen_ok]
 cases hb:isAggD d with
 | true =>
  simp only [if_true,Sem.run_bind,run_sizeOf hi,Result.andThen_ok,Sem.run_pure,mkV]
  congr 2
  apply Array.ext'
  simp [Array.toList_extract,List.extract_eq_take_drop]
 | false =>
  have hs:=h1 hb
  have hlt:off < cs.size:=by omega
  have h1:cs[off]?=some cs[off]:=by simp [hlt]
  simp only [Bool.false_eq_true,if_false,h1,Sem.run_pure,mkV,hs]
  congr 1
  simp [List.getD,hlt]
theorem eqTy_struct {P:Program} {d:Nat} {t:TypeId} {ks:List Nat} {fs:Array Field} (h:eqTy P (d + 1) t ks=true) (hu:P.underlying t=some (.struct fs)):P.stoodInHeld t=false∧tilesF P (eqTy P d) 0 fs.toList (P.cellsOf t) ks=true:=by
 unfold eqTy at h
 rw [hu] at h
 simpa using h
theorem eqTy_und {P:Program} {d:Nat} {t:TypeId} {ks:List Nat} (h:eqTy P d t ks=true):(P.underlying t).isSome=true∧(isAggT P t=false→(P.info? t).map (·.size)=some 1):=by
 cases d with
 | zero=>simp [eqTy] at h
 | succ d =>
  unfold eqTy at h
  cases hu:P.underlying t with
  | none=>rw [hu] at h;cases h
  | some x =>
   refine ⟨rfl,fun ha=>?_⟩
   rw [hu] at h
   cases x <;> first | (simp at h;exact Option.map_eq_some_iff.2 h.1) | (simp [isAggT,hu,isAggD] at ha;done) | (simp at h;done)
theorem run_eqFields_tiles {P : Program} (d e : Nat) (ih : ∀ (t : TypeId) (ks : List Nat) (cs ds : List Value) (r : Bool) (w : World), eqTy P d t ks = true → cs.length = P.cellsOf t → ds.length = P.cellsOf t → eqVals ks cs ds = some r →
      (Op.equalIn (e + d) t (mkV (isAggT P t) cs) (mkV (isAggT P t) ds)).run P w = .ok r w) (xs ys : Array Value) (w : World) : ∀ (fs : List Field) (off n : Nat) (ks : List Nat) (r : Bool), tilesF P (eqTy P d) off fs n ks = true → xs.size = n → ys.size = n →
      eqVals ks (xs.toList.drop off) (ys.toList.drop off) = some r → (Op.eqFields (e + d) xs ys fs).run P w = .ok r w
  | [], off, n, ks, r, h, hx, hy, hr => by
    simp only [tilesF, beq_iff_eq] at h
    subst h
    rw [List.drop_of_length_le (by simp [hx]), List.drop_of_length_le (by simp [hy])] at hr
    cases ks <;> simp only [eqVals, Option.some.injEq, reduceCtorEq] at hr
    subst hr
    simp [Op.eqFields]
  | f :: fs, off, n, ks, r, h, hx, hy, hr => by
    simp only [tilesF, Bool.and_eq_true, bne_iff_ne, ne_eq, beq_iff_eq] at h
    obtain ⟨⟨⟨⟨h1, h2⟩, h3⟩, h4⟩, h5⟩ := h
    obtain ⟨i, hi⟩ := Option.isSome_iff_exists.1 h3
    have hc : P.cellsOf f.type = i.size := by simp [Program.cellsOf, hi]
    have hle : ∀ (fs : List Field) (off : Nat) (ks : List Nat), tilesF P (eqTy P d) off fs n ks = true → off ≤ n := by
      intro fs
      induction fs with
      | nil => intro off ks h; simp only [tilesF, beq_iff_eq] at h; omega
      | cons g gs ihg => intro off ks h; simp only [tilesF, Bool.and_eq_true] at h; have := ihg _ _ h.2; omega
    have hbound := hle _ _ _ h5
    rw [hc] at h4 h5 hbound
    obtain ⟨r1, r2, g1, g2, rfl⟩ := eqVals_split i.size _ _ _ _ hr
    obtain ⟨u1, u2⟩ := eqTy_und h4
    have hs1 : isAggT P f.type = false → i.size = 1 := fun ha => by have := u2 ha; simpa [hi] using this
    have p1 := run_part_mk (P := P) u1 hi w xs off (by omega) hs1
    have p2 := run_part_mk (P := P) u1 hi w ys off (by omega) hs1
    have p3 := ih f.type _ _ _ r1 w h4 (by simp; omega) (by simp; omega) g1
    have p4 := run_eqFields_tiles d e ih xs ys w fs (off + i.size) n _ r2 h5 hx hy (by simpa [List.drop_drop] using g2)
    subst h2
    simp only [Op.eqFields, h1, ne_eq, not_false_eq_true, if_true, Sem.run_bind, p1, p2, p3, Result.andThen_ok, Sem.run_ite]
    cases r1
    · simp
    · simpa using p4
theorem run_eqItems_tiles {P : Program} (d e : Nat) (ih : ∀ (t : TypeId) (ks : List Nat) (cs ds : List Value) (r : Bool) (w : World), eqTy P d t ks = true → cs.length = P.cellsOf t → ds.length = P.cellsOf t → eqVals ks cs ds = some r →
      (Op.equalIn (e + d) t (mkV (isAggT P t) cs) (mkV (isAggT P t) ds)).run P w = .ok r w) (xs ys : Array Value) (w : World) {t : TypeId} {i : TypeInfo} (hi : P.info? t = some i) : ∀ (n off : Nat) (ks : List Nat) (r : Bool), tilesA (eqTy P d t) i.size n ks = true → (off + n) * i.size = xs.size → (off + n) * i.size = ys.size →
      eqVals ks (xs.toList.drop (off * i.size)) (ys.toList.drop (off * i.size)) = some r → (Op.eqItems (e + d) t i.size xs ys (List.range' off n)).run P w = .ok r w
  | 0, off, ks, r, h, hx, hy, hr => by
    simp only [tilesA, beq_iff_eq] at h
    subst h
    rw [Nat.add_zero] at hx hy
    rw [List.drop_of_length_le (by simp [hx]), List.drop_of_length_le (by simp [hy])] at hr
    simp only [eqVals, Option.some.injEq] at hr
    subst hr
    simp [Op.eqItems]
  | n + 1, off, ks, r, h, hx, hy, hr => by
    simp only [tilesA, Bool.and_eq_true] at h
    obtain ⟨h4, h5⟩ := h
    have hm : (off + (n + 1)) * i.size = off * i.size + i.size + n * i.size := by rw [Nat.add_mul, Nat.add_mul, Nat.one_mul]; omega
    have hc : P.cellsOf t = i.size := by simp [Program.cellsOf, hi]
    obtain ⟨r1, r2, g1, g2, rfl⟩ := eqVals_split i.size _ _ _ _ hr
    obtain ⟨u1, u2⟩ := eqTy_und h4
    have hs1 : isAggT P t = false → i.size = 1 := fun ha => by have := u2 ha; simpa [hi] using this
    have p1 := run_part_mk (P := P) u1 hi w xs (off * i.size) (by omega) hs1
    have p2 := run_part_mk (P := P) u1 hi w ys (off * i.size) (by omega) hs1
    have p3 := ih t _ _ _ r1 w h4 (by simp; omega) (by simp; omega) g1
    have p4 := run_eqItems_tiles d e ih xs ys w hi n (off + 1) _ r2 h5 (by rw [← hx]; congr 1; omega) (by rw [← hy]; congr 1; omega) (by rw [Nat.add_mul, Nat.one_mul]; simpa [List.drop_drop] using g2)
    rw [List.range'_succ]
    simp only [Op.eqItems, Sem.run_bind, p1, p2, p3, Result.andThen_ok]
    cases r1
    · simp
    · simpa using p4
theorem eqIn {P : Program} (e : Nat) : ∀ (d : Nat) (t : TypeId) (ks : List Nat) (cs ds : List Value) (r : Bool) (w : World), eqTy P d t ks = true → cs.length = P.cellsOf t → ds.length = P.cellsOf t → eqVals ks cs ds = some r →
      (Op.equalIn (e + d) t (mkV (isAggT P t) cs) (mkV (isAggT P t) ds)).run P w = .ok r w
  | 0, t, ks, cs, ds, r, w, h, _, _, _ => by simp [eqTy] at h
  | d + 1, t, ks, cs, ds, r, w, h, hc, hd, hr => by
    cases hu : P.underlying t with
    | none => have := (eqTy_und h).1; rw [hu] at this; cases this
    | some x =>
      by_cases hx : ∃ fs, x = .struct fs
      · obtain ⟨fs, rfl⟩ := hx
        obtain ⟨g1, g2⟩ := eqTy_struct h hu
        have hf : P.fieldsOf t = fs := by simp [Program.fieldsOf, hu]
        have ha : isAggT P t = true := by simp [isAggT, hu, isAggD]
        simp only [ha, mkV, if_true]
        rw [← Nat.add_assoc, run_equalIn_struct w (e + d) t _ _ (by rw [hf]; exact hu) g1, hf]
        exact run_eqFields_tiles d e (eqIn e d) _ _ w _ 0 _ ks r g2 (by simpa using hc) (by simpa using hd) (by simpa using hr)
      by_cases hx2 : ∃ n e', x = .array n e'
      · obtain ⟨n, e', rfl⟩ := hx2
        have h2 := h
        unfold eqTy at h2
        rw [hu] at h2
        simp only [Bool.and_eq_true, beq_iff_eq] at h2
        obtain ⟨⟨q1, q2⟩, q3⟩ := h2
        obtain ⟨i, hi⟩ := Option.isSome_iff_exists.1 q1
        have hci : P.cellsOf e' = i.size := by simp [Program.cellsOf, hi]
        have ha : isAggT P t = true := by simp [isAggT, hu, isAggD]
        simp only [ha, mkV, if_true]
        rw [← Nat.add_assoc, run_equalIn_array w (e + d) _ _ hu hi, hci, List.range_eq_range']
        rw [hci] at q2 q3
        exact run_eqItems_tiles d e (eqIn e d) _ _ w hi n 0 ks r q3 (by rw [Nat.zero_add, q2, ← hc]; simp) (by rw [Nat.zero_add, q2, ← hd]; simp) (by simpa using hr)
      · have ha : isAggT P t = false := by
          unfold eqTy at h
          rw [hu] at h
          cases x <;> first | (simp [isAggT, hu, isAggD]; done) | (exact absurd ⟨_, rfl⟩ hx) | (exact absurd ⟨_, _, rfl⟩ hx2) | (simp at h; done)
        have hs := (eqTy_und h).2 ha
        have hcl : P.cellsOf t = 1 := by unfold Program.cellsOf; rw [hs]; rfl
        rw [hcl] at hc hd
        obtain ⟨a, rfl⟩ := List.length_eq_one_iff.1 hc
        obtain ⟨b, rfl⟩ := List.length_eq_one_iff.1 hd
        simp only [ha, mkV, Bool.false_eq_true, if_false, List.getD_cons_zero]
        unfold eqTy at h
        rw [hu] at h
        rw [← Nat.add_assoc]
        cases x with
        | bool =>
          simp only [Bool.and_eq_true, beq_iff_eq] at h
          obtain ⟨_, rfl⟩ := h
          cases a <;> cases b <;> simp [eqVals, cellEq] at hr
          subst hr
          exact run_equalIn_bool' w _ t _ _ hu
        | int k0 =>
          simp only [Bool.and_eq_true, beq_iff_eq] at h
          obtain ⟨_, rfl⟩ := h
          cases a <;> cases b <;> simp [eqVals, cellEq] at hr
          rename_i k1 n1 k2 n2
          by_cases hk : k1 = k2
          · subst hk
            simp at hr
            subst hr
            exact run_equalIn_int w _ t _ _ _ _ hu
          · simp [hk] at hr
        | string =>
          simp only [Bool.and_eq_true, beq_iff_eq] at h
          obtain ⟨_, rfl⟩ := h
          cases a <;> cases b <;> simp [eqVals, cellEq] at hr
          subst hr
          exact run_equalIn_string w _ t _ _ hu
        | struct fs => exact absurd ⟨_, rfl⟩ hx
        | array n e' => exact absurd ⟨_, _, rfl⟩ hx2
        | _ => simp at h
end Go.Proofs.YtpkodpcfafipdaaGreatDoor

namespace Go.Proofs.YtpkodpcfafipdaaGreatDoor
open Go.RowKit
theorem wp_of_run {P:Program} {o:Oper} {a:Act} {w w' : World} {c:Value} {K:Act→World→Prop} {Q:Exit→Act→World→Prop} {S:Sem Value} (he:execOp a.eval o=(do pure (.value (← S)))) (hr:S.run P w=.ok c w') (hk:K (a.put o.dst c) w'):o.wp P a w K Q :=
 wp_val (by rw [he];simp [hr]) hk
theorem eqL_vals {m:Mem} {bk:Bks}:∀ (ks:List Nat) (l r:List V) (ds es:List Value) (b:Bool),eqL ks l r=some b→l.length=ds.length→r.length=es.length→(∀ j (h1:j < ds.length) (h2:j < l.length),Rep m bk ds[j] l[j])→(∀ j (h1:j < es.length) (h2:j < r.length),Rep m bk es[j] r[j])→eqVals ks ds es=some b
 | [],[],[],[],[],b,h,_,_,_,_=>by simpa [eqL,eqVals] using h
 | k :: ks,.lit x :: l,.lit y :: r,d :: ds,e :: es,b,h,h1,h2,g1,g2=>by
  have e1:=(g1 0 (by simp) (by simp)).int
  have e2:=(g2 0 (by simp) (by simp)).int
  simp only [List.getElem_cons_zero] at e1 e2
  subst e1 e2
  simp only [eqL,Option.bind_eq_some_iff,Option.map_eq_some_iff] at h
  obtain ⟨x',hx,y',hy,rfl⟩:=h
  have:=eqL_vals ks l r ds es y' hy (by simpa using h1) (by simpa using h2) (fun j a b=>g1 (j + 1) (by simpa using a) (by simpa using b)) (fun j a b=>g2 (j + 1) (by simpa using a) (by simpa using b))
  simp [eqVals,hx,this]
 | [],_ :: _,_,_,_,b,h,_,_,_,_=>by simp [eqL] at h
 | [],[],_ :: _,_,_,b,h,_,_,_,_=>by simp [eqL] at h
 | [],[],[],_ :: _,_,b,h,h1,_,_,_=>by simp at h1
 | [],[],[],[],_ :: _,b,h,_,h2,_,_=>by simp at h2
 | _ :: _,[],_,_,_,b,h,_,_,_,_=>by simp [eqL] at h
 | _ :: _,_ :: _,[],_,_,b,h,_,_,_,_=>by simp [eqL] at h
 | _ :: _,_ :: _,_ :: _,[],_,b,h,h1,_,_,_=>by simp at h1
 | _ :: _,_ :: _,_ :: _,_ :: _,[],b,h,_,h2,_,_=>by simp at h2
theorem foldl_put:∀ (l:List Value) (k off:Nat) (cs:Array Value),off + k + l.length≤cs.size →
  ((l.zipIdx k).foldl (fun cs (x:Value × Nat)=>cs.setIfInBounds (off + x.2) x.1) cs).toList=cs.toList.take (off + k)++l++cs.toList.drop (off + k + l.length)
 | [],k,off,cs,h=>by simp
 | v :: l,k,off,cs,h=>by
  simp only [List.length_cons] at h
  rw [List.zipIdx_cons,List.foldl_cons,foldl_put l (k + 1) off _ (by simp;omega)]
  have e:(cs.setIfInBounds (off + k) v).toList=cs.toList.take (off + k)++v :: cs.toList.drop (off + k + 1):=by
   rw [Array.toList_setIfInBounds]
   rw [List.set_eq_take_append_cons_drop,if_pos (by simp;omega)]
  rw [e]
  have hl:(cs.toList.take (off + k)).length=off + k:=by simp;omega
  rw [show off + (k + 1)=(cs.toList.take (off + k)).length + 1 by omega]
  rw [List.take_append,List.drop_append]
  simp only [Nat.add_sub_cancel_left,List.take_succ_cons,List.take_zero,List.length_cons,hl]
  rw [show off + k + 1 + l.length - (off + k)=l.length + 1 by omega,List.drop_succ_cons,List.drop_drop]
  have h2:(cs.toList.take (off + k)).take (off + k + 1)=cs.toList.take (off + k):=List.take_of_length_le (by omega)
  have h3:(cs.toList.take (off + k)).drop (off + k + 1 + l.length)=[]:=List.drop_of_length_le (by omega)
  rw [h2,h3]
  simp only [List.nil_append,List.append_assoc,List.cons_append]
  rw [show off + k + 1 + l.length=off + k + (l.length + 1) by omega]
def RepL (m:Mem) (bk:Bks) (ds:List Value) (l:List V):Prop:=ds.length=l.length∧∀ j (h1:j < ds.length) (h2:j < l.length),Rep m bk ds[j] l[j]
theorem RepL.append {m:Mem} {bk:Bks} {a b:List Value} {l r:List V} (h1:RepL m bk a l) (h2:RepL m bk b r):RepL m bk (a++b) (l++r):=by
 refine ⟨by simp [h1.1,h2.1],fun j g1 g2=>?_⟩
 by_cases hj:j < a.length
 ·rw [List.getElem_append_left hj,List.getElem_append_left (by rw [← h1.1];exact hj)]
  exact h1.2 _ _ _
 ·rw [List.getElem_append_right (by omega),List.getElem_append_right (by have:=h1.1;omega)]
  have e:j - a.length=j - l.length:=by rw [h1.1]
  simp only [e]
  exact h2.2 _ _ _
theorem RepL.take {m:Mem} {bk:Bks} {a:List Value} {l:List V} (h:RepL m bk a l) (n:Nat):RepL m bk (a.take n) (l.take n) :=
 ⟨by simp [h.1],fun j g1 g2=>by simp only [List.getElem_take];exact h.2 _ _ _⟩
theorem RepL.drop {m:Mem} {bk:Bks} {a:List Value} {l:List V} (h:RepL m bk a l) (n:Nat):RepL m bk (a.drop n) (l.drop n) :=
 ⟨by simp [h.1],fun j g1 g2=>by simp only [List.getElem_drop];exact h.2 _ _ _⟩
theorem Rep.cellsL {m:Mem} {bk:Bks} {c:Value} {v:V} (h:Rep m bk c v) (hv:v.stb=true):RepL m bk c.cells.toList v.cells∧∀ u ∈ v.cells,u.one=true:=by
 obtain ⟨h1,h2,h3⟩:=h.cells (V.stb_or hv)
 exact ⟨⟨by simpa using h1,fun j a b=>by simpa using h3 j (by simpa using a) b⟩,h2⟩
theorem fill_rep {m:Mem} {bk:Bks} (pl:Nat→Option (Nat × Nat)):∀ (parts:List (Nat × Value)) (ps:List (Nat × Nat × V)) (z:Array Value) (zs:List V) (cs:List V),RepL m bk z.toList zs→(∀ u ∈ zs,u.one=true) →
  parts.length=ps.length→(∀ j (h1:j < parts.length) (h2:j < ps.length),pl parts[j].1=some (ps[j].1,ps[j].2.1)∧Rep m bk parts[j].2 ps[j].2.2)→fillV zs ps=some cs →
  ∃ c:Array Value,Instr.fill pl z parts=some c∧RepL m bk c.toList cs∧∀ u ∈ cs,u.one=true
 | [],[],z,zs,cs,hz,h1,_,_,h=>by
  simp only [fillV,Option.some.injEq] at h
  subst h
  exact ⟨z,rfl,hz,h1⟩
 | [],_ :: _,_,_,_,_,_,h,_,_=>by simp at h
 | _ :: _,[],_,_,_,_,_,h,_,_=>by simp at h
 | (i,v) :: parts,(off,sz,u) :: ps,z,zs,cs,hz,h1,hl,hp,h=>by
  obtain ⟨p1,p2⟩:=hp 0 (by simp) (by simp)
  simp only [List.getElem_cons_zero] at p1 p2
  simp only [fillV] at h
  split at h
  ·rename_i hc
   obtain ⟨c1,c2,c3⟩:=hc
   obtain ⟨q1,q2⟩:=p2.cellsL c3
   have hsz:v.cells.size=sz:=by have:=q1.1;simp at this;omega
   have hzl:z.size=zs.length:=by simpa using hz.1
   have hbig:¬ (v.cells.size≠sz || off + v.cells.size > z.size)=true:=by simp [hsz];omega
   have hfold:(v.cells.zipIdx.foldl (fun cs (c,j)=>cs.setIfInBounds (off + j) c) z).toList=z.toList.take off++v.cells.toList++z.toList.drop (off + sz):=by
    rw [← Array.foldl_toList,Array.toList_zipIdx]
    have:=foldl_put v.cells.toList 0 off z (by simp;omega)
    simp only [Nat.add_zero,Array.length_toList,hsz] at this
    exact this
   have hrep:RepL m bk (v.cells.zipIdx.foldl (fun cs (c,j)=>cs.setIfInBounds (off + j) c) z).toList (zs.take off++u.cells++zs.drop (off + sz)):=by
    rw [hfold]
    exact ((hz.take off).append q1).append (hz.drop _)
   obtain ⟨c,g1,g2,g3⟩:=fill_rep pl parts ps _ _ cs hrep (fun x hx=>by
    simp only [List.mem_append] at hx
    rcases hx with (hx | hx) | hx
    ·exact h1 x (List.mem_of_mem_take hx)
    ·exact q2 x hx
    ·exact h1 x (List.mem_of_mem_drop hx)) (by simpa using hl) (fun j a b=>hp (j + 1) (by simpa using a) (by simpa using b)) h
   refine ⟨c,?_,g2,g3⟩
   simp only [Instr.fill,p1]
   rw [if_neg hbig]
   exact g1
  ·cases h
end Go.Proofs.YtpkodpcfafipdaaGreatDoor

namespace Go.Proofs.YtpkodpcfafipdaaGreatDoor
open Go.RowKit
section
variable {P : Program} {o : Oper} {a : Act} {w : World} {K : Act → World → Prop} {Q : Exit → Act → World → Prop} {B : Kp} {m0 m : Mem} {bk : Bks} {st : List Slot} {fr : List V}
theorem mapM_places {pl:Nat→Option (Nat × Nat)}:∀ {parts:List (Nat × Operand)} {ps:List (Nat × Nat × Operand)},parts.mapM (fun p=>(pl p.1).map fun q=>(q.1,q.2,p.2))=some ps →
  parts.length=ps.length∧∀ j (h1:j < parts.length) (h2:j < ps.length),pl parts[j].1=some (ps[j].1,ps[j].2.1)∧parts[j].2=ps[j].2.2
 | [],ps,h=>by simp at h;subst h;simp
 | p :: parts,ps,h=>by
  rw [List.mapM_cons] at h
  simp only [bind,Option.bind_eq_some_iff,pure,Option.some.injEq,Option.map_eq_some_iff] at h
  obtain ⟨x,⟨q,hq,rfl⟩,l,hl,rfl⟩:=h
  obtain ⟨g1,g2⟩:=mapM_places hl
  refine ⟨by simp [g1],fun j h1 h2=>?_⟩
  cases j with
  | zero=>simpa using hq
  | succ j=>simpa using g2 j (by simpa using h1) (by simpa using h2)
theorem agg_list {m:Mem} {bk:Bks} {z:Value} {zs:List V} (h:V.ofValue z=.agg zs):RepL m bk z.cells.toList zs∧∀ u ∈ zs,u.one=true:=by
 have:=Rep.ofValue (m:=m) (bk:=bk) z
 rw [h] at this
 exact this.cellsL rfl
theorem ofValue_stb {m:Mem} {bk:Bks} {z:Value} (h:(V.ofValue z).stb=true):RepL m bk z.cells.toList (V.ofValue z).cells∧∀ u ∈ (V.ofValue z).cells,u.one=true:=(Rep.ofValue (m:=m) (bk:=bk) z).cellsL h
theorem rep_agg {m:Mem} {bk:Bks} {c:Array Value} {cs:List V} (h:RepL m bk c.toList cs) (h1:∀ u ∈ cs,u.one=true):Rep m bk (.agg c) (.agg cs) :=
 .agg (by simpa using h.1) h1 fun j a b=>by have:=h.2 j (by simpa using a) b;rw [Array.getElem_toList] at this;exact this
theorem args_rep (hfr:FrRep m bk a.tmps fr) (args:List Operand):RepL m bk (args.map a.eval) (args.map (evO fr)) :=
 ⟨by simp,fun j h1 h2=>by simp only [List.getElem_map];exact hfr.ev _⟩
theorem RepL.toA {l:List Value} {vs:List V} (h:RepL m bk l vs):RepA m bk l.toArray vs :=
 ⟨by simpa using h.1,fun j a b=>by have:=h.2 j (by simpa using a) b;rw [List.getElem_toArray];exact this⟩
theorem RepL.noBk {l:List Value} {vs:List V} (h:RepL m bk l vs) (hv:V.idlt.belowL 0 vs=true):RepA m noBk l.toArray vs :=
 ⟨by simpa using h.1,fun j a b=>(by have:=h.2 j (by simpa using a) b;rw [List.getElem_toArray];exact this:Rep m bk l.toArray[j] vs[j]).zero (belowL_get hv j b)⟩
theorem run_callFunc {f:FuncId} (h:Callable P f) (args:Array Value) (w:World):(callFunc f args).run P w=.ok (.enter f args) w:=by
 obtain ⟨fn,h1,h2,h3⟩:=h
 have h4:fn.body.isNone=false:=by cases hb:fn.body <;> simp_all
 simp only [callFunc,Sem.run_bind,run_program,Result.andThen_ok,h1,h3,h4,Bool.false_eq_true,if_false,Sem.run_pure]
theorem wp_call {f:FuncId} {args:Array Value} {vs:List V} {v:V} (he:(execOp a.eval o).run P w=.ok (.enter f args) w) (hsim:Sim B m0 m bk w st) (hg:GM m) (hargs:RepA m noBk args vs) (hc:CallsV P f vs v)
  (hK:∀ c w',Aft B m0 m bk w st v c w'→K (a.put o.dst c) w'):o.wp P a w K Q:=by
 unfold Oper.wp
 rw [he,Oper.upon_enter]
 refine (hc m w args hg hsim.mem hargs).mono ?_
 rintro e w' ⟨c,m',rfl,hb,g1,g2,g3,hr⟩
 exact hK _ _ ⟨m',bk,hsim.call hb g1 g2 g3,hr.mono (fun _ _ h=>h) (fun _ _ h=>by cases h),g2,fun _ _ h=>h,Bel.of hb hsim.base⟩
theorem make_aft {id:Nat} {v:V} {cs:List V} {arr:Array Value} {t:TypeId} {c:Value} {w' : World} {lo hi:Nat} (hsim:Sim B m0 m bk w st) (hf:st[id]?=some .fresh) (hw:w'=w.alloc (.cells arr t (lo,hi))∨w'=w.drew.alloc (.cells arr t (lo,hi))) (hfree:hi≤lo)
  (hr:RepL m bk (arr.toList.take cs.length) cs) (hone:∀ u ∈ cs,u.one=true) (hv:Rep m (newBk bk id (w.heap.size,arr.size)) c v):Aft B m0 m bk w (st.set id (.live cs 0)) v c w':=by
 have hlen:cs.length≤arr.size:=by have:=hr.1;simp at this;omega
 have hh:w'.heap=w.heap.push (.cells arr t (lo,hi)):=by rcases hw with rfl | rfl <;> rfl
 refine ⟨m,newBk bk id (w.heap.size,arr.size),hsim.make hf (arr:=arr) (t:=t) (lo:=lo) (hi:=hi) (by rw [hh];simp) (fun k hk=>by rw [hh,Array.getElem?_push,if_neg (by omega)]) (by rw [hh];simp) hfree hlen hone (fun k hk=>?_),hv,fun _ _ h=>h,newBk_ge (hsim.nb id (.inr hf)),?_⟩
 ·have hk' : k < arr.size:=by omega
  refine ⟨arr[k],by simp [hk'],?_⟩
  have:=hr.2 k (by simp;omega) hk
  simpa using this
 ·have:=(Bel.refl B w).alloc hsim.base (.cells arr t (lo,hi))
  have h2:=((Bel.refl B w).drew).alloc hsim.base (.cells arr t (lo,hi))
  rcases hw with rfl | rfl
  ·exact this
  ·exact h2
theorem row_aft {w' : World} {arr:Array Value} {t:TypeId} {lo hi:Nat} {xs:List V} {full:Bool} {cap es:Nat} (hsim:Sim B m0 m bk w st) (hb:Below w.heap.size w w') (hh:w'.heap[w.heap.size]?=some (.cells arr t (lo,hi))) (hc:xs.length≤cap) (hf:full=true→cap=xs.length)
  (hes:∀ x ∈ xs,x.cells.length=es) (h1:∀ u ∈ xs.flatMap V.cells,u.one=true) (hlen:(xs.flatMap V.cells).length≤arr.size) (hr:∀ k (hk:k < (xs.flatMap V.cells).length),∃ u,arr[k]?=some u∧Rep m noBk u (xs.flatMap V.cells)[k]) :
  Aft B m0 m bk w st (.sl xs full) (.slice (some ⟨w.heap.size,0,none⟩) xs.length cap) w':=by
 let m' : Mem:=fun a=>if a.block=w.heap.size∧a.off < (xs.flatMap V.cells).length∧a.spot=none then arr[a.off]? else m a
 have hge:∀ a u,m a=some u→m' a=some u:=by
  intro a u h
  show (if a.block=w.heap.size∧a.off < (xs.flatMap V.cells).length∧a.spot=none then arr[a.off]? else m a)=some u
  have:=cell_lt (hsim.mem a u h)
  rw [if_neg (by omega)]
  exact h
 have hmem:∀ a u,m' a=some u→w'.cell? a=some u:=by
  intro a u h
  change (if a.block=w.heap.size∧a.off < (xs.flatMap V.cells).length∧a.spot=none then arr[a.off]? else m a)=some u at h
  by_cases hc:a.block=w.heap.size∧a.off < (xs.flatMap V.cells).length∧a.spot=none
  ·rw [if_pos hc] at h
   obtain ⟨ab,ao,sp⟩:=a
   obtain ⟨h1,h2,h3⟩:=hc
   simp only at h1 h2 h3 h
   subst h1 h3
   simpa [World.cell?,hh] using h
  ·rw [if_neg hc] at h
   have g:=hsim.mem a u h
   rw [← g]
   exact World.cell?_of_block (w:=w) (hb.block _ (cell_lt g))
 have hold:∀ a u,m' a=some u→m a=some u∨w.heap.size≤a.block:=by
  intro a u h
  change (if a.block=w.heap.size∧a.off < (xs.flatMap V.cells).length∧a.spot=none then arr[a.off]? else m a)=some u at h
  by_cases hc:a.block=w.heap.size∧a.off < (xs.flatMap V.cells).length∧a.spot=none
  ·exact .inr (by omega)
  ·rw [if_neg hc] at h;exact .inl h
 refine ⟨m',bk,hsim.call hb hmem hge hold,?_,hge,fun _ _ h=>h,Bel.of hb hsim.base⟩
 refine .sl (b:=w.heap.size) (o:=0) (es:=es) (us:=fun k=>arr.getD k undef) rfl hc hf hes h1 (fun k hk=>?_) (fun k hk=>?_)
 ·show (if w.heap.size=w.heap.size∧0 + k < (xs.flatMap V.cells).length∧none=none then arr[0 + k]? else m ⟨w.heap.size,0 + k,none⟩)=some (arr.getD k undef)
  rw [Nat.zero_add,if_pos ⟨rfl,hk,rfl⟩]
  have:k < arr.size:=by omega
  simp [Array.getD,this]
 ·obtain ⟨u,g1,g2⟩:=hr k hk
  have:arr.getD k undef=u:=by
   rw [Array.getD_eq_getD_getElem?,g1];rfl
  rw [this]
  exact g2.mono hge (fun _ _ h=>h)
theorem Aft.freeze {id:Nat} {v:V} {cs:List V} {c:Value} {w' : World} {st' : List Slot} {frz:Nat} (h:Aft B m0 m bk w st' v c w') (hi:st'[id]?=some (.live cs frz)) {f:Nat} (hf0:frz≤f) (hf:f≤cs.length):Aft B m0 m bk w (st'.set id (.live cs f)) v c w':=by
 obtain ⟨m',bk',h1,h2,h3,h4,h5⟩:=h
 obtain ⟨m2,g1,g2⟩:=h1.freeze hi hf0 hf
 exact ⟨m2,bk',g1,h2.mono g2 (fun _ _ h=>h),fun a u h=>g2 _ _ (h3 a u h),h4,h5⟩
theorem set_freeze {l:List Slot} {id:Nat} {s:Slot} (h:id < l.length):(l.set id s)[id]?=some s:=by rw [List.getElem?_set,if_pos rfl,if_pos h]
theorem rep_one_cells {m:Mem} {bk:Bks} {l:List Value} {vs:List V} (h:RepL m bk l vs) (h1:∀ u ∈ vs,u.one=true):∀ u ∈ l,u.oneCell'=true:=by
 intro u hu
 obtain ⟨j,hj,rfl⟩:=List.getElem_of_mem hu
 have hj' : j < vs.length:=by rw [← h.1];exact hj
 exact (h.2 j hj hj').one (h1 _ (List.getElem_mem hj'))
theorem sim_live (hsim:Sim B m0 m bk w st) {i:Nat} {cs:List V} {frz:Nat} (hi:st[i]?=some (.live cs frz)) {b sz:Nat} (hb:bk i=some (b,sz)) :
  ∃ arr t lo hi',LiveAt B m bk w i cs frz b sz arr t lo hi'∧RepL m bk (arr.toList.take cs.length) cs:=by
 rcases hsim.blk _ _ _ hi with ⟨_,_,n3⟩ | ⟨b',sz',arr,t,lo,hi',hl⟩
 ·rw [n3] at hb;cases hb
 have e:=hl.at_
 rw [hb] at e
 injection e with e
 injection e with e1 e2
 subst e1 e2
 refine ⟨arr,t,lo,hi',hl,?_,fun j h1 h2=>?_⟩
 ·have:=hl.fit;have:=hl.size;simp;omega
 ·obtain ⟨u,g1,g2⟩:=hl.rep j h2
  have hj:j < arr.size:=(Array.getElem?_eq_some_iff.1 g1).1
  have:=(Array.getElem?_eq_some_iff.1 g1).2
  simp only [List.getElem_take,Array.getElem_toList,this]
  exact g2
theorem SlW.one {v v' : V} (h:SlW v v') (h1:v.one=true):v'.one=true:=by
 cases h with
 | id=>exact h1
 | slw=>rfl
theorem SlW.rep {m:Mem} {bk:Bks} {c:Value} {v v' : V} (h:Rep m bk c v) (hf:SlW v v'):Rep m noBk c v':=by
 cases hf with
 | id h0=>exact h.zero h0
 | slw =>
  cases h with
  | sl hn hc hf hes h1 hm h=>exact .sl hn hc (fun e=>by cases e) hes h1 hm h
  | slnil=>exact .slnil fun e=>by cases e
theorem SlWL.at {l l' : List V} (h:SlWL l l'):l'.length=l.length∧∀ k (h1:k < l.length) (h2:k < l'.length),SlW l[k] l'[k]:=by
 induction h with
 | nil=>exact ⟨rfl,fun k h1=>absurd h1 (by simp)⟩
 | cons h t ih =>
  refine ⟨by simp [ih.1],fun k h1 h2=>?_⟩
  cases k with
  | zero=>exact h
  | succ k=>exact ih.2 k (Nat.lt_of_succ_lt_succ h1) (Nat.lt_of_succ_lt_succ h2)
theorem FzP.rep (hsim:Sim B m0 m bk w st) {c:Value} {v v' : V} {r:List Nat} (h:Rep m bk c v) (hf:FzP st v v' r):Rep m noBk c v':=by
 cases hf with
 | id h0=>exact h.zero h0
 | @ptr i cs us frz hi hfz hw =>
  cases h with
  | @ptr _ _ b sz _ hb =>
  obtain ⟨arr,t,lo,hi',hlv,hrep⟩:=sim_live hsim hi hb
  obtain ⟨hl,hat⟩:=hw.at
  refine .eptr (us:=fun k=>arr.getD k undef) (fun u hu=>?_) (fun k hk=>?_) (fun k hk=>?_)
  ·obtain ⟨k,hk,rfl⟩:=List.getElem_of_mem hu
   exact (hat k (by omega) hk).one (hlv.one _ (List.getElem_mem _))
  ·obtain ⟨u,g1,g2⟩:=hlv.rep k (by omega)
   rw [Nat.zero_add,hlv.fz k (by omega),Array.getD_eq_getD_getElem?,g1];rfl
  ·obtain ⟨u,g1,g2⟩:=hlv.rep k (by omega)
   have e:arr.getD k undef=u:=by simp [Array.getD_eq_getD_getElem?,g1]
   rw [e]
   exact (hat k (by omega) hk).rep g2
theorem FzPL.rep (hsim:Sim B m0 m bk w st) {l l' : List V} {r:List Nat} (hf:FzPL st l l' r):∀ {cs:List Value},RepL m bk cs l→RepL m noBk cs l':=by
 induction hf with
 | nil=>intro cs h;exact ⟨h.1,fun j _ h2=>absurd h2 (by simp)⟩
 | @cons v v' r l l' r' h t ih =>
  intro cs hr
  cases cs with
  | nil=>have:=hr.1;simp at this
  | cons c cs =>
   have h0:=hr.2 0 (by simp) (by simp)
   have ih':=@ih cs ⟨by simpa using hr.1,fun j h1 h2=>hr.2 (j + 1) (Nat.succ_lt_succ h1) (Nat.succ_lt_succ h2)⟩
   refine ⟨by simpa using ih'.1,fun j h1 h2=>?_⟩
   cases j with
   | zero=>exact h.rep hsim h0
   | succ j=>exact ih'.2 j (Nat.lt_of_succ_lt_succ h1) (Nat.lt_of_succ_lt_succ h2)
theorem FzC.rep (hsim:Sim B m0 m bk w st) {c:Value} {v v' : V} {r:List Nat} (h:Rep m bk c v) (hf:FzC st v v' r):Rep m noBk c v':=by
 cases hf with
 | p hp=>exact hp.rep hsim h
 | clo hp =>
  cases h with
  | @bnd _ _ cs _ hl hr =>
   have g:=FzPL.rep hsim hp (cs:=cs.toList) ⟨by simpa using hl,fun j a b=>by simpa using hr j (by simpa using a) b⟩
   exact .bnd (by simpa using g.1) fun j a b=>by have:=g.2 j (by simpa using a) b;rw [Array.getElem_toList] at this;exact this
  | @clo _ _ cs _ hv hl hr =>
   have g:=FzPL.rep hsim hp (cs:=cs.toList) ⟨by simpa using hl,fun j a b=>by simpa using hr j (by simpa using a) b⟩
   exact .clo hv (by simpa using g.1) fun j a b=>by have:=g.2 j (by simpa using a) b;rw [Array.getElem_toList] at this;exact this
 | id h0=>exact h.zero h0
 | slw =>
  cases h with
  | sl hn hc hf hes h1 hm h=>exact .sl hn hc (fun e=>by cases e) hes h1 hm h
  | slnil=>exact .slnil fun e=>by cases e
 | @osl i off n es f f' cs frz xs hff hi hfz hl hlen hes hc h0 =>
  cases h with
  | oslnil=>rw [List.length_eq_zero_iff.1 hlen];exact .slnil fun _=>rfl
  | @osl _ _ b sz _ _ cap _ _ hb hcap hful hsz =>
  obtain ⟨arr,t,lo,hi',hlv,hrep⟩:=sim_live hsim hi hb
  have hfit:=hlv.fit
  have hsize:=hlv.size
  have hfl:(xs.flatMap V.cells).length=n * es:=by rw [← hc];simp;omega
  have hget:∀ k (hk:k < (xs.flatMap V.cells).length),(xs.flatMap V.cells)[k]=cs[off + k]'(by omega):=by
   intro k hk
   have:((cs.drop off).take (n * es))[k]?=some (xs.flatMap V.cells)[k]:=by rw [hc];simp [hk]
   rw [List.getElem?_take,if_pos (by omega),List.getElem?_drop,List.getElem?_eq_getElem (by omega)] at this
   injection this with this
   exact this.symm
  refine .sl (us:=fun k=>arr.getD (off + k) undef) hlen.symm hcap (fun e=>hful (hff e)) hes (fun u hu=>?_) (fun k hk=>?_) (fun k hk=>?_)
  ·rw [← hc] at hu
   exact hlv.one u (List.mem_of_mem_drop (List.mem_of_mem_take hu))
  ·rw [hlv.fz _ (by omega)]
   simp [Array.getD,show off + k < arr.size by omega]
  ·obtain ⟨u,g1,g2⟩:=hlv.rep (off + k) (by omega)
   rw [hget k hk]
   have e:arr.getD (off + k) undef=u:=by simp [Array.getD_eq_getD_getElem?,g1]
   rw [e]
   exact g2.zero (by rw [← hget k hk];exact belowL_get h0 k hk)
theorem FzL.rep (hsim:Sim B m0 m bk w st) {l l' : List V} {r:List Nat} (hf:FzL st l l' r):∀ {cs:List Value},RepL m bk cs l→RepL m noBk cs l':=by
 induction hf with
 | nil=>intro cs h;exact ⟨h.1,fun j _ h2=>absurd h2 (by simp)⟩
 | @cons v v' r l l' r' h t ih =>
  intro cs hr
  cases cs with
  | nil=>have:=hr.1;simp at this
  | cons c cs =>
   have h0:=hr.2 0 (by simp) (by simp)
   have ih':=@ih cs ⟨by simpa using hr.1,fun j h1 h2=>hr.2 (j + 1) (Nat.succ_lt_succ h1) (Nat.succ_lt_succ h2)⟩
   refine ⟨by simpa using ih'.1,fun j h1 h2=>?_⟩
   cases j with
   | zero=>exact h.rep hsim h0
   | succ j=>exact ih'.2 j (Nat.lt_of_succ_lt_succ h1) (Nat.lt_of_succ_lt_succ h2)
theorem FzV.rep (hsim:Sim B m0 m bk w st) {c:Value} {v v' : V} {r:List Nat} (h:Rep m bk c v) (hf:FzV st v v' r):Rep m noBk c v':=by
 cases hf with
 | c h'=>exact h'.rep hsim h
 | agg hl h1 =>
  obtain ⟨ds,rfl,g1,g2,g3⟩:=agg_inv h
  exact rep_agg (FzL.rep hsim hl ⟨by simpa using g1,fun j a b=>by simpa using g3 j (by simpa using a) b⟩) h1
 | @osl i off n es f cs frz xs r hi hfz hl hlen hes hL h1 =>
  cases h with
  | oslnil=>rw [List.length_eq_zero_iff.1 hlen];exact .slnil fun _=>rfl
  | @osl _ _ b sz _ _ cap _ _ hb hcap hful hsz =>
  obtain ⟨arr,t,lo,hi',hlv,hrep⟩:=sim_live hsim hi hb
  have hfit:=hlv.fit
  have hsize:=hlv.size
  have htl:((cs.drop off).take (n * es)).length=n * es:=by rw [List.length_take,List.length_drop];omega
  have g:=FzL.rep hsim hL (cs:=(List.range (n * es)).map fun k=>arr.getD (off + k) undef) ⟨by rw [htl];simp,fun j a b=>by
   have hj:j < n * es:=by simpa using a
   obtain ⟨u,g1,g2⟩:=hlv.rep (off + j) (by omega)
   have e:arr.getD (off + j) undef=u:=by simp [Array.getD_eq_getD_getElem?,g1]
   have e2:((cs.drop off).take (n * es))[j]=cs[off + j]'(by omega):=by rw [List.getElem_take,List.getElem_drop]
   rw [List.getElem_map,List.getElem_range,e,e2];exact g2⟩
  have hxl:(xs.flatMap V.cells).length=n * es:=by have:=g.1;simpa using this.symm
  refine .sl (us:=fun k=>arr.getD (off + k) undef) hlen.symm hcap (fun e=>by cases e) hes h1 (fun k hk=>?_) (fun k hk=>?_)
  ·rw [hlv.fz _ (by omega)]
   simp [Array.getD,show off + k < arr.size by omega]
  ·have:=g.2 k (by simp;omega) hk
   simpa using this
theorem FzA.rep (hsim:Sim B m0 m bk w st) {l l' : List V} {r:List Nat} (hf:FzA st l l' r):∀ {cs:List Value},RepL m bk cs l→RepL m noBk cs l':=by
 induction hf with
 | nil=>intro cs h;exact ⟨h.1,fun j _ h2=>absurd h2 (by simp)⟩
 | @cons v v' r l l' r' h t ih =>
  intro cs hr
  cases cs with
  | nil=>have:=hr.1;simp at this
  | cons c cs =>
   have h0:=hr.2 0 (by simp) (by simp)
   have ih':=@ih cs ⟨by simpa using hr.1,fun j h1 h2=>hr.2 (j + 1) (Nat.succ_lt_succ h1) (Nat.succ_lt_succ h2)⟩
   refine ⟨by simpa using ih'.1,fun j h1 h2=>?_⟩
   cases j with
   | zero=>exact h.rep hsim h0
   | succ j=>exact ih'.2 j (Nat.lt_of_succ_lt_succ h1) (Nat.lt_of_succ_lt_succ h2)
theorem FzR.rep (hsim:Sim B m0 m bk w st) {c:Value} {v v' : V} {r:List Nat} (h:Rep m bk c v) (hf:FzR st v v' r):Rep m noBk c v':=by
 cases hf with
 | v h'=>exact h'.rep hsim h
 | @tup l l' r ha =>
  cases h with
  | @tup _ cs _ hl hr =>
   have:=FzA.rep hsim ha (cs:=cs.toList) ⟨by simpa using hl,fun j a b=>by simpa using hr j (by simpa using a) b⟩
   exact .tup (by simpa using this.1) fun j a b=>by have:=this.2 j (by simpa using a) b;rw [Array.getElem_toList] at this;exact this
theorem FzP.congr {st st2:List Slot} {v v' : V} {r:List Nat} (h:FzP st v v' r) (hst:∀ k,k ∈ r→st2[k]?=st[k]?):FzP st2 v v' r:=by
 cases h with
 | id h=>exact .id h
 | ptr hi hf h=>exact .ptr (by rw [hst _ (by simp)];exact hi) hf h
theorem FzPL.congr {st st2:List Slot} {l l' : List V} {r:List Nat} (h:FzPL st l l' r):(∀ k,k ∈ r→st2[k]?=st[k]?)→FzPL st2 l l' r:=by
 induction h with
 | nil=>exact fun _=>.nil
 | cons h _ ih=>exact fun hst=>.cons (h.congr fun k hk=>hst k (List.mem_append_left _ hk)) (ih fun k hk=>hst k (List.mem_append_right _ hk))
theorem FzC.congr {st st2:List Slot} {v v' : V} {r:List Nat} (h:FzC st v v' r) (hst:∀ k,k ∈ r→st2[k]?=st[k]?):FzC st2 v v' r:=by
 cases h with
 | p h=>exact .p (h.congr hst)
 | clo h=>exact .clo (h.congr hst)
 | id h=>exact .id h
 | slw=>exact .slw
 | osl hff hi hf hl hlen hes hc h0=>exact .osl hff (by rw [hst _ (by simp)];exact hi) hf hl hlen hes hc h0
theorem FzL.congr {st st2:List Slot} {l l' : List V} {r:List Nat} (h:FzL st l l' r):(∀ k,k ∈ r→st2[k]?=st[k]?)→FzL st2 l l' r:=by
 induction h with
 | nil=>intro _;exact .nil
 | cons h t ih=>intro hst;exact .cons (h.congr fun k hk=>hst k (by simp [hk])) (ih fun k hk=>hst k (by simp [hk]))
theorem FzV.congr {st st2:List Slot} {v v' : V} {r:List Nat} (h:FzV st v v' r) (hst:∀ k,k ∈ r→st2[k]?=st[k]?):FzV st2 v v' r:=by
 cases h with
 | c h=>exact .c (h.congr hst)
 | agg h h1=>exact .agg (h.congr hst) h1
 | osl hi hf hl hlen hes h h1=>exact .osl (by rw [hst _ (by simp)];exact hi) hf hl hlen hes (h.congr fun k hk=>hst k (by simp [hk])) h1
theorem FzA.congr {st st2:List Slot} {l l' : List V} {r:List Nat} (h:FzA st l l' r):(∀ k,k ∈ r→st2[k]?=st[k]?)→FzA st2 l l' r:=by
 induction h with
 | nil=>intro _;exact .nil
 | cons h t ih=>intro hst;exact .cons (h.congr fun k hk=>hst k (by simp [hk])) (ih fun k hk=>hst k (by simp [hk]))
end
end Go.Proofs.YtpkodpcfafipdaaGreatDoor

namespace Go.Proofs.YtpkodpcfafipdaaGreatDoor
open Go.RowKit
theorem bytes_flat (l:List UInt8):(l.map byteV).flatMap V.cells=l.map byteV:=by
 induction l with
 | nil=>rfl
 | cons b l ih=>simp [List.flatMap_cons,ih,byteV,V.cells]
def AOp.isCall:AOp→Bool
 | .cl .. | .cv ..=>true
 | _=>false
theorem eff_get:∀ (l:List (Slot × Nat)) (st:List Slot) (k:Nat),(∀ x ∈ l,x.2≠k)→(AStep.eff st (l.map fun x=>(x.2,x.1)))[k]?=st[k]?
 | [],_,_,_=>rfl
 | x :: l,st,k,h=>by
  rw [List.map_cons,AStep.eff,eff_get l _ k fun y hy=>h y (List.mem_cons_of_mem _ hy),List.getElem?_set,if_neg (h x (by simp))]
theorem eff_zip:∀ (l:List Slot) (n:Nat) (st:List Slot) (k:Nat),n + l.length≤st.length→n≤k→k < n + l.length→(AStep.eff st ((l.zipIdx n).map fun x=>(x.2,x.1)))[k]?=l[k - n]?
 | [],n,st,k,_,h1,h2=>by simp at h2;omega
 | x :: l,n,st,k,hl,h1,h2=>by
  rw [List.zipIdx_cons,List.map_cons,AStep.eff]
  simp only [List.length_cons] at hl h2
  by_cases e:k=n
  ·subst e
   rw [eff_get (l.zipIdx (k + 1)) _ k fun y hy=>by have:=List.le_snd_of_mem_zipIdx hy;omega]
   rw [List.getElem?_set,if_pos rfl,if_pos (by omega)];simp
  ·rw [eff_zip l (n + 1) _ k (by simp;omega) (by omega) (by omega)]
   rw [show k - n=k - (n + 1) + 1 by omega];rfl
theorem eff_all {st st' : List Slot} (h:st'.length=st.length):AStep.eff st (allEff st')=st':=by
 apply List.ext_getElem?
 intro k
 by_cases hk:k < st'.length
 ·have:=eff_zip st' 0 st k (by omega) (Nat.zero_le _) (by omega)
  simpa [allEff] using this
 ·have hl:(AStep.eff st (allEff st')).length=st.length:=by
   have:∀ (ef:List (Nat × Slot)) (st:List Slot),(AStep.eff st ef).length=st.length:=by
    intro ef
    induction ef with
    | nil=>intro st;rfl
    | cons x ef ih=>intro st;rw [AStep.eff,ih];simp
   exact this _ _
  rw [List.getElem?_eq_none (by omega),List.getElem?_eq_none (by omega)]
section
variable {P : Program} {o : Oper} {a : Act} {w : World} {K : Act → World → Prop} {Q : Exit → Act → World → Prop} {B : Kp} {m0 m : Mem} {bk : Bks} {st : List Slot} {fr : List V}
theorem late_sound {ty:TypeId} {op:Op} {ao:AOp} {v:V} {rd:List Nat} {id:Nat} (he:o.op=op) (hc:Cop P op ty ao) (hs:AStep P (evO fr) st id ao v rd []) (hsim:Sim B m0 m bk w st) (hg:GM m) (hfr:FrRep m bk a.tmps fr) (hlate:ao.late=true)
  (hnc:ao.isCall=false) (hap:∀ es bytes s x,ao≠.ap es bytes s x) (hsb:∀ x,ao≠.s2b x) (hK:∀ c w',Aft B m0 m bk w st v c w'→K (a.put o.dst c) w'):o.wp P a w K Q:=by
 cases hs with
 | @eqa neg ks x y l r b hx hy hr hl hm =>
  cases hc with
  | @eqa _ neg t _ _ t' _ d hte hd ha hgt hcl =>
  obtain ⟨ds,h1,q1,q2,q3⟩:=agg_inv (hx ▸ hfr.ev x)
  obtain ⟨es,h2,p1,p2,p3⟩:=agg_inv (hy ▸ hfr.ev y)
  have hv:=eqL_vals ks l r ds.toList es.toList b hr (by simpa using q1.symm) (by simpa using p1.symm) (fun j a b=>by simpa using q3 j (by simpa using a) b) (fun j a b=>by simpa using p3 j (by simpa using a) b)
  have heq:=eqIn (P:=P) (10000 - d) d t ks ds.toList es.toList b w hte (by rw [hcl,← hl,← q1];simp) (by rw [hcl,← hm,← p1];simp) hv
  rw [ha,show 10000 - d + d=10000 by omega] at heq
  simp only [mkV,if_true] at heq
  refine wp_val (c:=.bool (if neg then !b else b)) (w':=w) ?_ (hK _ _ (Aft.same hsim (.lit rfl)))
  cases neg
  ·simp only [execOp,he,h1,h2,Sem.run_bind,run_eqGuard_agg w _ t x y ds es hgt,Result.andThen_ok,Bool.false_eq_true,if_false,run_eql_struct,heq,Sem.run_pure]
  ·simp only [execOp,he,h1,h2,Sem.run_bind,run_eqGuard_agg w _ t x y ds es hgt,Result.andThen_ok,if_true,run_neq_struct,heq,Sem.run_pure]
 | @bd z ps cs h =>
  cases hc with
  | @bd _ t i z0 _ parts _ pl hb hi hz hzs hp =>
  obtain ⟨g1,g2⟩:=agg_list (m:=m) (bk:=bk) hzs
  obtain ⟨m1,m2⟩:=mapM_places hp
  obtain ⟨c,c1,c2,c3⟩:=fill_rep pl (parts.toList.map fun p=>(p.1,a.eval p.2)) (ps.map fun p=>(p.1,p.2.1,evO fr p.2.2)) z0.cells z cs g1 g2 (by simpa using m1) (fun j h1 h2=>by
   have q:=m2 j (by simpa using h1) (by simpa using h2)
   simp only [List.getElem_map]
   refine ⟨q.1,?_⟩
   rw [q.2]
   exact hfr.ev _) h
  refine op_val (S:=Instr.build t (parts.map fun (i,x)=>(i,a.eval x))) (by simp [execOp,he]) (run_build w t _ c (by rw [hb];simpa using c1)) hsim (rep_agg c2 c3) hK
 | @mf fn caps =>
  cases hc with
  | @mf _ _ caps hv =>
   have h1:=args_rep hfr caps.toList
   refine op_val (S:=Instr.makeFunc fn #[] (caps.map a.eval)) (c:=.func fn #[] (caps.map a.eval)) (by simp [execOp,he]) (by simp [Instr.makeFunc]) hsim (.clo hv (by simpa using h1.1) fun j g1 g2=>?_) hK
   have:=h1.2 j (by simpa using g1) g2
   simpa using this
  | @mfb _ g bs =>
   have h1:=args_rep hfr bs.toList
   refine op_val (S:=Instr.makeFunc (.func g) (bs.map a.eval) #[]) (c:=.func (.func g) (bs.map a.eval) #[]) (by simp [execOp,he]) (by simp [Instr.makeFunc]) hsim (.bnd (by simpa using h1.1) fun j g1 g2=>?_) hK
   have:=h1.2 j (by simpa using g1) g2
   simpa using this
 | cl | cv | clS | cvS=>simp [AOp.isCall] at hnc
 | @lenT x s h =>
  have h0:=(h ▸ hfr.ev x).int
  cases hc with
  | @lenT _ _ t hd=>exact wp_val (c:=.int .i64 s.size) (w':=w) (by simp [execOp,he,resolve,invoke,builtin,Builtin.len_,h0,run_underlying hd,goInt]) (hK _ _ (Aft.same hsim (.lit rfl)))
 | @lenS x xs full h =>
  have h0:=h ▸ hfr.ev x
  cases hce:a.eval x <;> rw [hce] at h0 <;> try (cases h0;done)
  rename_i A n cap
  have hn:n=xs.length:=by
   cases h0 with
   | slnil=>rfl
   | sl hn=>exact hn
  subst hn
  cases hc with
  | @lenS _ _ t e hd=>exact wp_val (c:=.int .i64 xs.length) (w':=w) (by simp [execOp,he,resolve,invoke,builtin,Builtin.len_,hce,run_underlying hd,goInt]) (hK _ _ (Aft.same hsim (.lit rfl)))
 | @lenO x i off n es full h =>
  have h0:=h ▸ hfr.ev x
  cases hce:a.eval x <;> rw [hce] at h0 <;> try (cases h0;done)
  cases h0 with
  | oslnil =>
   cases hc with
   | @lenS _ _ t e hd=>exact wp_val (c:=.int .i64 (0:Nat)) (w':=w) (by simp [execOp,he,resolve,invoke,builtin,Builtin.len_,hce,run_underlying hd,goInt]) (hK _ _ (Aft.same hsim (.lit rfl)))
  | osl =>
  cases hc with
  | @lenS _ _ t e hd=>exact wp_val (c:=.int .i64 n) (w':=w) (by simp [execOp,he,resolve,invoke,builtin,Builtin.len_,hce,run_underlying hd,goInt]) (hK _ _ (Aft.same hsim (.lit rfl)))
 | @b2sI x full l h =>
  cases hc with
  | @b2s _ s d e _ hs hee hd =>
  have h0:=h ▸ hfr.ev x
  refine op_val (S:=convert s d (a.eval x)) (c:=.string ⟨l.toArray⟩) (by simp [execOp,he]) ?_ hsim (.lit rfl) hK
  cases hce:a.eval x <;> rw [hce] at h0 <;> try (cases h0;done)
  rename_i A n cap
  generalize hxs:l.map byteV=xs at h0
  cases h0 with
  | slnil =>
   have:l=[]:=by simpa using hxs
   subst this
   cases A with
   | none=>simp [convert,run_underlying hs,run_underlying hee,run_underlying hd,Conv.bytesToString];rfl
   | some A=>exact run_convert_bytes_back w s d e A cap [] hs hee hd (fun j hj=>absurd hj (by simp))
  | @sl _ b oo _ _ es _ _ us hn hcc hf hes h1 hm hr =>
   subst hxs
   have hfl:=bytes_flat l
   simp only [List.length_map] at hn
   subst hn
   refine run_convert_bytes_back w s d e ⟨b,oo,none⟩ cap l hs hee hd fun j hj=>?_
   have hj' : j < ((l.map byteV).flatMap V.cells).length:=by rw [hfl];simpa using hj
   rw [Addr.add_lit,hsim.mem _ _ (hm j hj')]
   have:=hr j hj'
   simp only [hfl,List.getElem_map,byteV] at this
   rw [this.int]
 | @b2sO x i off full cs frz l h hi hcs =>
  cases hc with
  | @b2s _ s d e _ hs hee hd =>
  have h0:=h ▸ hfr.ev x
  refine op_val (S:=convert s d (a.eval x)) (c:=.string ⟨l.toArray⟩) (by simp [execOp,he]) ?_ hsim (.lit rfl) hK
  cases hce:a.eval x <;> rw [hce] at h0 <;> try (cases h0;done)
  generalize hln:l.length=ln at h0
  cases h0 with
  | oslnil =>
   rename_i A
   have e:l=[]:=List.length_eq_zero_iff.1 hln
   subst e
   cases A with
   | none=>simp [convert,run_underlying hs,run_underlying hee,run_underlying hd,Conv.bytesToString];rfl
   | some A=>exact run_convert_bytes_back w s d e A 0 [] hs hee hd (fun j hj=>absurd hj (by simp))
  | @osl _ _ b sz _ _ cap _ _ hb hcc hf hsz =>
  subst hln
  obtain ⟨arr,t,lo,hi',hl,hrep⟩:=sim_live hsim hi hb
  refine run_convert_bytes_back w s d e ⟨b,off,none⟩ _ l hs hee hd fun j hj=>?_
  have e1:((cs.drop off).take l.length)[j]?=some (byteV l[j]):=by rw [hcs];simp [hj]
  rw [List.getElem?_take,if_pos hj,List.getElem?_drop] at e1
  obtain ⟨hlt,e2⟩:=List.getElem?_eq_some_iff.1 e1
  obtain ⟨u,g1,g2⟩:=hl.rep (off + j) hlt
  rw [e2] at g2
  rw [Addr.add_lit]
  simp only [World.cell?,hl.heap,g1,byteV] at g2 ⊢
  rw [g2.int];rfl
 | apZ=>exact absurd rfl (hap _ _ _ _)
 | clL=>cases hnc
 | cvL=>cases hnc
 | s2b=>exact absurd rfl (hsb _)
 | @mn mx _ _ k k' p q hx hy =>
  cases hc
  have hx0:=(hx ▸ hfr.ev _).int
  have hy0:=(hy ▸ hfr.ev _).int
  refine wp_val (c:=.int k (if mx then (if q > p then q else p) else (if q < p then q else p))) (w':=w) ?_ (hK _ _ (Aft.same hsim (.lit rfl)))
  cases mx
  ·simp [execOp,he,resolve,invoke,builtin,hx0,hy0,Builtin.min_,Builtin.min2]
  ·simp [execOp,he,resolve,invoke,builtin,hx0,hy0,Builtin.max_,Builtin.max2]
 | _=>simp [AOp.late] at hlate
theorem enter_cl {f:Nat} {args:Array Operand} {tys:Array TypeId} {fn:Func} (he:o.op=.call ⟨.value (.func f),args,tys⟩) (hf:P.funcs[f]?=some fn) (hb:fn.body.isSome=true) (hn:(fn.name == "runtime.NumGoroutine")=false) :
  (execOp a.eval o).run P w=.ok (.enter f (args.toList.map a.eval).toArray) w:=by
 have e:(args.toList.map a.eval).toArray=args.map a.eval:=by rw [← Array.toList_map]
 rw [e]
 have ef:a.eval (.func f)=.func (.func f) #[] #[]:=rfl
 simp only [execOp,he,resolve,ef,Deferred.ofValue,invoke,Sem.run_bind,Sem.run_pure,Result.andThen_ok,Array.empty_append,Array.append_empty,run_callFunc ⟨fn,hf,hb,hn⟩]
theorem enter_cv {g:Nat} {f:Operand} {args:Array Operand} {tys:Array TypeId} {cs:Array Value} (he:o.op=.call ⟨.value f,args,tys⟩) (hce:a.eval f=.func (.func g) #[] cs) (hgc:Callable P g) :
  (execOp a.eval o).run P w=.ok (.enter g (args.toList.map a.eval++cs.toList).toArray) w:=by
 have e:(args.toList.map a.eval++cs.toList).toArray=args.map a.eval++cs:=by apply Array.ext';simp
 rw [e]
 simp only [execOp,he,resolve,hce,Deferred.ofValue,invoke,Sem.run_bind,Sem.run_pure,Result.andThen_ok,Array.empty_append,run_callFunc hgc]
theorem enter_cvb {g:Nat} {f:Operand} {args:Array Operand} {tys:Array TypeId} {cs:Array Value} (he:o.op=.call ⟨.value f,args,tys⟩) (hce:a.eval f=.func (.func g) cs #[]) (hgc:Callable P g) :
  (execOp a.eval o).run P w=.ok (.enter g (cs.toList++args.toList.map a.eval).toArray) w:=by
 have e:(cs.toList++args.toList.map a.eval).toArray=cs++args.map a.eval:=by apply Array.ext';simp
 rw [e]
 simp only [execOp,he,resolve,hce,Deferred.ofValue,invoke,Sem.run_bind,Sem.run_pure,Result.andThen_ok,Array.append_empty,run_callFunc hgc]
theorem enter_clo {g:Nat} {f:Operand} {args:Array Operand} {tys:Array TypeId} {l:List V} (he:o.op=.call ⟨.value f,args,tys⟩) (hfr:FrRep m bk a.tmps fr) (hf:cloA (evO fr f) (args.toList.map (evO fr))=some (g,l)) (hgc:Callable P g) :
  ∃ cl:List Value,(execOp a.eval o).run P w=.ok (.enter g cl.toArray) w∧RepL m bk cl l:=by
 have h:=hfr.ev f
 unfold cloA at hf
 split at hf
 ·rename_i g' caps hv
  cases hf
  rw [hv] at h
  cases hce:a.eval f <;> rw [hce] at h <;> try (cases h;done)
  cases h with
  | @clo _ _ cs _ _ hl hr=>exact ⟨_,enter_cv he hce hgc,(args_rep hfr _).append ⟨by simpa using hl,fun j g1 g2=>by simpa using hr j (by simpa using g1) g2⟩⟩
 ·rename_i g' bs hv
  cases hf
  rw [hv] at h
  cases hce:a.eval f <;> rw [hce] at h <;> try (cases h;done)
  cases h with
  | @clo _ _ cs _ hy hl hr=>cases hy
  | @bnd _ _ cs _ hl hr=>exact ⟨_,enter_cvb he hce hgc,RepL.append ⟨by simpa using hl,fun j g1 g2=>by simpa using hr j (by simpa using g1) g2⟩ (args_rep hfr _)⟩
 ·cases hf
theorem call_sound {ty:TypeId} {op:Op} {ao:AOp} {v:V} {rd:List Nat} {ef:List (Nat × Slot)} {id:Nat} (he:o.op=op) (hc:Cop P op ty ao) (hs:AStep P (evO fr) st id ao v rd ef) (hsim:Sim B m0 m bk w st) (hg:GM m) (hfr:FrRep m bk a.tmps fr) (hcall:ao.isCall=true)
  (hK:∀ c w',Aft B m0 m bk w (AStep.eff st ef) v c w'→K (a.put o.dst c) w'):o.wp P a w K Q:=by
 cases hs with
 | @cl f args vs _ _ ha h =>
  cases hc with
  | @cl _ _ fn args tys hf hb hn=>exact wp_call (enter_cl he hf hb hn) hsim hg (ha.rep hsim (args_rep hfr _)).toA h hK
 | @cv f args g l vs _ _ hf hgc ha h =>
  cases hc with
  | @cv _ _ args tys =>
  obtain ⟨cl,hce,hcl⟩:=enter_clo (w:=w) he hfr hf hgc
  exact wp_call hce hsim hg (ha.rep hsim hcl).toA h hK
 | @clS f args _ st' _ h hl hef =>
  subst hef
  cases hc with
  | @cl _ _ fn args tys hf hb hn =>
  rw [eff_all hl] at hK
  unfold Oper.wp
  rw [enter_cl he hf hb hn,Oper.upon_enter]
  refine (h B m0 m bk w _ hg hsim (args_rep hfr _).toA).mono ?_
  rintro e w' ⟨c,rfl,hA⟩
  exact hK _ _ hA
 | clL h =>
  cases hc with
  | @cl _ _ fn args tys hf hb hn =>
  unfold Oper.wp
  rw [enter_cl he hf hb hn,Oper.upon_enter]
  refine (h st rfl (fun _ _=>rfl) B m0 m bk w _ hg hsim (args_rep hfr _).toA).mono ?_
  rintro e w' ⟨c,rfl,hA⟩
  exact hK _ _ hA
 | @cvL f args g l _ _ _ hf hgc h =>
  cases hc with
  | @cv _ _ args tys =>
  obtain ⟨cl,hce,hcl⟩:=enter_clo (w:=w) he hfr hf hgc
  unfold Oper.wp
  rw [hce,Oper.upon_enter]
  refine (h st rfl (fun _ _=>rfl) B m0 m bk w _ hg hsim hcl.toA).mono ?_
  rintro e w' ⟨c,rfl,hA⟩
  exact hK _ _ hA
 | @cvS f args g l _ st' _ hf hgc h hl hef =>
  subst hef
  cases hc with
  | @cv _ _ args tys =>
  rw [eff_all hl] at hK
  obtain ⟨cl,hce,hcl⟩:=enter_clo (w:=w) he hfr hf hgc
  unfold Oper.wp
  rw [hce,Oper.upon_enter]
  refine (h B m0 m bk w _ hg hsim hcl.toA).mono ?_
  rintro e w' ⟨c,rfl,hA⟩
  exact hK _ _ hA
 | _=>simp [AOp.isCall] at hcall
end
end Go.Proofs.YtpkodpcfafipdaaGreatDoor

