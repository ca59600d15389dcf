/- A part of the proof: 14 texts joined. -/
import Derived.Test.YtdbigmjlhkgeoaaGreatZhA5
import Derived.Test.YtdbigmjlhkgeoaaGreatZhA1
import Derived.KernelRfl
import Derived.Test.YtdbigmjlhkgeoaaGreatZeA11
import Derived.Test.YtdbigmjlhkgeoaaGreatZhA4
import Derived.Test.YtdbigmjlhkgeoaaGreatZhA2
import Derived.Test.YtdbigmjlhkgeoaaGreatZhA3
set_option linter.all false
namespace Go.Proofs.YtdbigmjlhkgeoaaGreat
open Go.RowKit
def ArgsAt (st:List Slot) (id:Nat) (args args0:List V):Prop :=
 ∀ (B:Nat) (m0 m mb:Mem) (bk:Bks) (w:World) (cargs:Array Value),Sim B m0 m bk w st→RepA m bk cargs args→(∀ a u,m a=some u→mb a=some u) →
  (∀ (j:Nat) (c:List V) (g:Nat) (x:Nat × Nat),j≠id→st[j]?=some (.live c g)→bk j=some x→∀ a:Addr,a.block=x.1→mb a=w.cell? a)→RepA mb (cutBk 1 fun i=>bk (sgm [id] i)) cargs args0
open Classical in
theorem callsS_frameG {P:Program} {f:FuncId} {args args0:List V} {v0 v:V} {cs cs' : List V} {fz fz' : Nat} {st:List Slot} {id:Nat} (h:CallsS P f args0 [.live cs fz] v0 [.live cs' fz']) (ha:ArgsAt st id args args0) (hi:st[id]?=some (.live cs fz)) (h0:V.idlt.belowL 0 cs=true) (h0' : V.litD.litL cs'=true)
  (hv:(∃ off n es fu,v0=.osl 0 off n es fu∧v=.osl id off n es fu)∨v0.litD=true∧v=v0):CallsS P f args st v (st.set id (.live cs' fz')):=by
 intro B m0 m bk w cargs hg hsim hargs
 have hidl:=(List.getElem?_eq_some_iff.1 hi).1
 obtain ⟨b,sz,arr,t,lo,hi',hl⟩:=hsim.blk id cs fz hi
 let oth:Nat→Prop:=fun k=>∃ (j:Nat) (c:List V) (g:Nat) (x:Nat × Nat),j≠id∧st[j]?=some (.live c g)∧bk j=some x∧x.1=k
 let mb:Mem:=fun a=>if oth a.block then w.cell? a else m a
 have nob:¬ oth b:=by
  rintro ⟨j,c,g,x,h1,h2,h3,h4⟩
  exact h1 (hsim.inj j id c g cs fz x (b,sz) h2 hi h3 hl.at_ h4)
 have mbo:∀ a,oth a.block→mb a=w.cell? a:=fun a h=>if_pos h
 have mbn:∀ a,¬ oth a.block→mb a=m a:=fun a h=>if_neg h
 have mle:∀ a u,m a=some u→mb a=some u:=fun a u hu=>by
  by_cases ho:oth a.block
  ·rw [mbo a ho];exact hsim.mem a u hu
  ·rw [mbn a ho];exact hu
 have hb1:(cutBk 1 fun i=>bk (sgm [id] i)) 0=some (b,sz):=by
  have:sgm [id] 0=id:=rfl
  simp only [cutBk,this,hl.at_];rfl
 have sim1:Sim B mb mb (cutBk 1 fun i=>bk (sgm [id] i)) w [.live cs fz]:=by
  refine ⟨hsim.base,fun a u hu=>?_,fun _ _ h=>h,fun _ _ h=>.inl h,fun k c g hk=>?_,fun i j ci fi cj fj x y h1 h2 _ _ _=>?_,fun k hk=>?_⟩
  ·by_cases ho:oth a.block
   ·rw [mbo a ho] at hu;exact hu
   ·rw [mbn a ho] at hu;exact hsim.mem a u hu
  ·have hk0:k=0:=by have:=(List.getElem?_eq_some_iff.1 hk).1;simpa using this
   subst hk0
   simp only [List.getElem?_cons_zero,Option.some.injEq,Slot.live.injEq] at hk
   obtain ⟨rfl,rfl⟩:=hk
   refine ⟨b,sz,arr,t,lo,hi',⟨hb1,hl.own,hl.heap,hl.size,hl.free,hl.fit,hl.one,fun k hk=>?_,fun k hk=>?_,fun k hk=>?_⟩⟩
   ·obtain ⟨u,q1,q2⟩:=hl.rep k hk
    exact ⟨u,q1,(q2.zero (belowL_get h0 k hk)).mono mle fun _ _ h=>h⟩
   ·rw [mbn _ nob];exact hl.mu k hk
   ·rw [mbn _ nob];exact hl.fz k hk
  ·have e1:i=0:=by have:=(List.getElem?_eq_some_iff.1 h1).1;simpa using this
   have e2:j=0:=by have:=(List.getElem?_eq_some_iff.1 h2).1;simpa using this
   rw [e1,e2]
  ·unfold cutBk
   rw [if_neg]
   intro hlt
   have:k=0:=by omega
   subst this
   rcases hk with hk | hk <;> simp at hk
 have args1:RepA mb (cutBk 1 fun i=>bk (sgm [id] i)) cargs args0 :=
  ha B m0 m mb bk w cargs hsim hargs mle fun j c g x h1 h2 h3 a h4=>mbo a ⟨j,c,g,x,h1,h2,h3,h4.symm⟩
 have hg1:GM mb:=by obtain ⟨n,hn⟩:=hg;exact ⟨n,mle _ _ hn⟩
 refine (h B mb mb _ w cargs hg1 sim1 args1).mono ?_
 rintro e w' ⟨c,rfl,m',bk',g1,g2,g3,g4,g5⟩
 let m2:Mem:=fun a=>if oth a.block then m a else m' a
 have m2o:∀ a,oth a.block→m2 a=m a:=fun a h=>if_pos h
 have m2n:∀ a,¬ oth a.block→m2 a=m' a:=fun a h=>if_neg h
 have m_2:∀ a u,m a=some u→m2 a=some u:=fun a u hu=>by
  by_cases ho:oth a.block
  ·rw [m2o a ho];exact hu
  ·rw [m2n a ho];exact g3 _ _ (mle _ _ hu)
 have m2_:∀ a u,m2 a=some u→m' a=some u:=fun a u hu=>by
  by_cases ho:oth a.block
  ·rw [m2o a ho] at hu;exact g3 _ _ (mle _ _ hu)
  ·rw [m2n a ho] at hu;exact hu
 obtain ⟨b',sz',arr',t',lo',hi2,hl'⟩:=g1.blk 0 cs' fz' rfl
 have hbe:some (b',sz')=some (b,sz):=by rw [← hl'.at_,g4 0 _ hb1]
 simp only [Option.some.injEq,Prod.mk.injEq] at hbe
 obtain ⟨rfl,rfl⟩:=hbe
 have back:∀ (k:Nat) (c:List V) (g:Nat),k≠id→(st.set id (.live cs' fz'))[k]?=some (.live c g)→st[k]?=some (.live c g):=fun k c g hk h=>by
  rwa [List.getElem?_set,if_neg (fun e=>hk e.symm)] at h
 refine ⟨c,rfl,m2,bk,⟨Nat.le_trans hsim.base g5.size,fun a u hu=>g1.mem a u (m2_ a u hu),fun a u hu=>m_2 _ _ (hsim.ext a u hu),fun a u hu=>?_,fun k c g hk=>?_,fun i j ci fi cj fj x y h1 h2 hx hy he=>?_,fun k hk=>?_⟩,?_,m_2,fun _ _ h=>h,g5⟩
 ·by_cases ho:oth a.block
  ·rw [m2o a ho] at hu;exact hsim.old a u hu
  ·rw [m2n a ho] at hu
   rcases g1.old a u hu with q | q
   ·rw [mbn a ho] at q;exact hsim.old a u q
   ·exact .inr q
 ·by_cases hk0:k=id
  ·subst hk0
   rw [List.getElem?_set,if_pos rfl,if_pos hidl] at hk
   simp only [Option.some.injEq,Slot.live.injEq] at hk
   obtain ⟨rfl,rfl⟩:=hk
   refine ⟨b',sz',arr',t',lo',hi2,⟨hl.at_,hl.own,hl'.heap,hl'.size,hl'.free,hl'.fit,hl'.one,fun j hj=>?_,fun j hj=>?_,fun j hj=>?_⟩⟩
   ·obtain ⟨u,q1,q2⟩:=hl'.rep j hj
    exact ⟨u,q1,q2.litD (litL_get h0' j hj) m2 bk⟩
   ·rw [m2n _ nob];exact hl'.mu j hj
   ·rw [m2n _ nob];exact hl'.fz j hj
  ·have hks:=back k c g hk0 hk
   obtain ⟨b2,sz2,arr2,t2,lo2,hi3,h2⟩:=hsim.blk k c g hks
   have ho:oth b2:=⟨k,c,g,(b2,sz2),hk0,hks,h2.at_,rfl⟩
   obtain ⟨arr3,q1,q2⟩:=g5.shp b2 arr2 t2 lo2 hi3 h2.heap
   have e3:arr3=arr2:=by
    apply Array.ext q2
    intro i i1 i2
    have c1:w.cell? ⟨b2,i,none⟩=some arr2[i]:=by simp [World.cell?,h2.heap,i2]
    have c2:mb ⟨b2,i,none⟩=some arr2[i]:=by rw [mbo _ ho];exact c1
    have c3:=g1.mem _ _ (g3 _ _ c2)
    simp only [World.cell?,q1] at c3
    simpa [i1] using c3
   subst e3
   refine ⟨b2,sz2,arr3,t2,lo2,hi3,⟨h2.at_,h2.own,q1,h2.size,h2.free,h2.fit,h2.one,fun j hj=>?_,fun j hj=>?_,fun j hj=>?_⟩⟩
   ·obtain ⟨u,r1,r2⟩:=h2.rep j hj
    exact ⟨u,r1,r2.mono m_2 fun _ _ h=>h⟩
   ·rw [m2o _ ho];exact h2.mu j hj
   ·rw [m2o _ ho];exact h2.fz j hj
 ·have aux:∀ (a:Nat) (ci:List V) (fi:Nat),(st.set id (.live cs' fz'))[a]?=some (.live ci fi)→∃ ci fi,st[a]?=some (.live ci fi):=fun a ci fi ha=>by
   by_cases hae:a=id
   ·subst hae;exact ⟨_,_,hi⟩
   ·exact ⟨_,_,back a ci fi hae ha⟩
  obtain ⟨_,_,p1⟩:=aux _ _ _ h1
  obtain ⟨_,_,p2⟩:=aux _ _ _ h2
  exact hsim.inj i j _ _ _ _ x y p1 p2 hx hy he
 ·refine hsim.nb k ?_
  by_cases hk0:k=id
  ·subst hk0
   rw [List.getElem?_set,if_pos rfl,if_pos hidl] at hk
   rcases hk with hk | hk <;> cases hk
  ·rwa [List.getElem?_set,if_neg (fun e=>hk0 e.symm)] at hk
 ·rcases hv with ⟨off,n,es,fu,rfl,rfl⟩ | ⟨hv,rfl⟩
  ·cases g2 with
   | @osl _ _ b3 sz3 _ _ cap _ _ hb hc hf hs =>
    have:some (b3,sz3)=some (b',sz'):=by rw [← hb,g4 0 _ hb1]
    simp only [Option.some.injEq,Prod.mk.injEq] at this
    obtain ⟨rfl,rfl⟩:=this
    exact .osl hl.at_ hc hf hs
  ·exact g2.litD hv m2 bk
theorem callsS_frame {P:Program} {f:FuncId} {args0:List V} {v0 v:V} {cs cs' : List V} {fz fz' : Nat} {st:List Slot} {id:Nat} (h:CallsS P f args0 [.live cs fz] v0 [.live cs' fz']) (ha:V.idlt.belowL 1 args0=true) (hi:st[id]?=some (.live cs fz)) (h0:V.idlt.belowL 0 cs=true) (h0' : V.litD.litL cs'=true)
  (hv:(∃ off n es fu,v0=.osl 0 off n es fu∧v=.osl id off n es fu)∨v0.litD=true∧v=v0):CallsS P f (V.ren.renL [id] args0) st v (st.set id (.live cs' fz')) :=
 callsS_frameG h (fun B m0 m mb bk w cargs hsim hargs mle _=>⟨by rw [hargs.1,renL_len],fun j h1 h2=>by
  have hr:=hargs.2 j h1 (by rw [renL_len];exact h2)
  have hr2:=Rep.ren hr _ (renL_at (sg:=[id]) args0 j h2).symm
  exact (hr2.cut (belowL_get ha j h2)).mono mle fun _ _ h=>h⟩) hi h0 h0' hv
inductive FzT (st:List Slot) (i:Nat):List V→List V→List Nat→Prop
 | nil:FzT st i [] [] []
 | id {v l l' r} (h:v.idlt 0=true) (t:FzT st i l l' r):FzT st i (v :: l) (v :: l') r
 | ptr {j cs us frz l l' r} (hj:st[j]?=some (.live cs frz)) (hne:j≠i) (h:SlWL cs us) (t:FzT st i l l' r):FzT st i (.ptr j 0 :: l) (.eptr us :: l') (j :: r)
theorem FzT.congr {st st2:List Slot} {i:Nat} {l l' : List V} {r:List Nat} (h:FzT st i l l' r):(∀ k,k ∈ r→st2[k]?=st[k]?)→FzT st2 i l l' r:=by
 induction h with
 | nil=>exact fun _=>.nil
 | id h _ ih=>exact fun hst=>.id h (ih hst)
 | ptr hj hne h _ ih=>exact fun hst=>.ptr ((hst _ (by simp)).trans hj) hne h (ih fun k hk=>hst k (by simp [hk]))
theorem FzT.rep {B:Nat} {m0 m mb:Mem} {bk bk' : Bks} {w:World} {st:List Slot} {i:Nat} {l l' : List V} {r:List Nat} (h:FzT st i l l' r) (hsim:Sim B m0 m bk w st) (mle:∀ a u,m a=some u→mb a=some u)
  (hmb:∀ (j:Nat) (c:List V) (g:Nat) (x:Nat × Nat),j≠i→st[j]?=some (.live c g)→bk j=some x→∀ a:Addr,a.block=x.1→mb a=w.cell? a):∀ {cs:List Value},RepL m bk cs l→RepL mb bk' cs l':=by
 induction h with
 | nil=>intro cs h;exact ⟨h.1,fun j _ h2=>absurd h2 (by simp)⟩
 | @id v l l' r h0 t ih =>
  intro cs hr
  cases cs with
  | nil=>have:=hr.1;simp at this
  | cons c cs =>
   have g0:=hr.2 0 (by simp) (by simp)
   have ih':=@ih cs ⟨by simpa using hr.1,fun j h1 h2=>hr.2 (j + 1) (Nat.succ_lt_succ h1) (Nat.succ_lt_succ h2)⟩
   refine ⟨by simpa using ih'.1,fun j h1 h2=>?_⟩
   cases j with
   | zero=>exact (Rep.zero g0 h0).mono mle fun _ _ h=>h
   | succ j=>exact ih'.2 j (Nat.lt_of_succ_lt_succ h1) (Nat.lt_of_succ_lt_succ h2)
 | @ptr j csj us frz l l' r hj hne hw t ih =>
  intro cs hr
  cases cs with
  | nil=>have:=hr.1;simp at this
  | cons c cs =>
   have g0:=hr.2 0 (by simp) (by simp)
   have ih':=@ih cs ⟨by simpa using hr.1,fun j h1 h2=>hr.2 (j + 1) (Nat.succ_lt_succ h1) (Nat.succ_lt_succ h2)⟩
   refine ⟨by simpa using ih'.1,fun k h1 h2=>?_⟩
   cases k with
   | succ k=>exact ih'.2 k (Nat.lt_of_succ_lt_succ h1) (Nat.lt_of_succ_lt_succ h2)
   | zero =>
    have gg:∀ c,Rep m bk c (.ptr j 0)→Rep mb bk' c (.eptr us):=fun c g0=>by
     cases g0 with
     | @ptr _ _ b sz _ hb =>
     obtain ⟨arr,t,lo,hi',hlv,hrep⟩:=sim_live hsim hj hb
     obtain ⟨hl,hat⟩:=hw.at
     refine .eptr (us:=fun k=>arr.getD k undef) (fun u hu=>?_) (fun k hk=>?_) (fun k hk=>?_)
     ·obtain ⟨k,hk,rfl⟩:=List.getElem_of_mem hu
      exact (hat k (by omega) hk).one (hlv.one _ (List.getElem_mem _))
     ·obtain ⟨u,g1,g2⟩:=hlv.rep k (by omega)
      rw [hmb j _ _ _ hne hj hb _ rfl,Nat.zero_add]
      simp only [World.cell?,hlv.heap,Array.getD_eq_getD_getElem?,g1];rfl
     ·obtain ⟨u,g1,g2⟩:=hlv.rep k (by omega)
      have e:arr.getD k undef=u:=by simp [Array.getD_eq_getD_getElem?,g1]
      rw [e]
      exact ((hat k (by omega) hk).rep g2).mono mle fun _ _ h=>h
    exact gg _ g0
end Go.Proofs.YtdbigmjlhkgeoaaGreat

namespace Go.Proofs.YtdbigmjlhkgeoaaGreat
open Go.RowKit
structure DelRoads (P:Program) (k:FuncId) (es:Nat):Prop where
 main:∀ (b n c i j:Nat) (cs:List Value) (w:World),i < j→j≤n→n≤c→n≤1000000→cs.length=n * es→(∀ t v,cs[t]?=some v→w.cell? ⟨b,t,none⟩=some v)→(∀ t,t < n * es→w.frozen? ⟨b,t,none⟩=false)→(∀ v ∈ cs,v.oneCell'=true) →
  Calls P k #[.slice (some ⟨b,0,none⟩) n c,.int .i64 i,.int .i64 j] w fun e w'=>∃ zs:List Value,zs.length=(j - i) * es∧(∀ v ∈ zs,v.oneCell'=true)∧e=.returned (.slice (some ⟨b,0,none⟩) (n - (j - i)) c)∧w'=(w.drew.setCells b (i * es) (cs.drop (j * es))).setCells b ((n - (j - i)) * es) zs
end Go.Proofs.YtdbigmjlhkgeoaaGreat

namespace Go.Proofs.YtdbigmjlhkgeoaaGreat
open Go.RowKit
def delF? {α:Type} (fn:α→Option Bool) (l:List α):Option (List α):=if l.length≤1000000∧(l.all fun x=>(fn x).isSome)=true then some (l.filter fun x=>!((fn x).getD false)) else none
theorem callsR_c {P:Program} {f:FuncId} {fn:Func} {ac:BCode} {n n0:Nat} {rs:List ARes} {args:List V} {v:V} {st st' : List Slot} (hmix:P.follows .mixedOrders=true) (hf:P.funcs[f]?=some fn) (hc:compF P fn=some (ac.er,n,rs)) (hn0:st.length=n0)
  (h:initK args n fun fr=>wpC P n0 ac (FinQ (FinR st rs v st')) fr st):CallsS P f args st v st' :=
 callsR_comp hmix hf hc hn0 (wpC_ok (fun _ _ _ h=>h.out) (initK_ok h))
theorem sloT_c {i off n es:Nat} {lo:Int} {k:V→Prop} (a:Nat) (ha:lo=a) (h1:a < n) (h:k (.osl i (off + a * es) (n - a) es false)):SlO i off n es (some lo) none k:=by
 subst ha
 exact ⟨by simp,by simp;omega,by simp,.inl ⟨.inl (by simp;omega),by simpa using h⟩⟩
theorem sloP_c {i off n es:Nat} {hi:Int} {k:V→Prop} (a:Nat) (ha:hi=a) (h1:a≤n) (h:k (.osl i off a es false)):SlO i off n es none (some hi) k:=by
 subst ha
 exact ⟨by simp,by simp,by simp;omega,.inl ⟨.inr rfl,by simpa using h⟩⟩
theorem clr_c {cs cs' : List V} {off n frz:Nat} {k:List V→Prop} (h1:frz≤off) (h2:off≤cs.length) (h3:0 < n) (h4:cs.take off=cs') (h:k cs'):ClrQ cs off n frz k:=⟨h1,h2,h3,h4 ▸ h⟩
theorem df_start {α:Type} {p:α→Bool} {l:List α} (h:l.findIdx p < l.length):l.take (l.findIdx p)=(l.take (l.findIdx p + 1)).filter fun x=>!p x:=by
 rw [List.take_succ_eq_append_getElem h,List.filter_append]
 have h1:p l[l.findIdx p]=true:=List.findIdx_getElem (w:=h)
 have h2:[l[l.findIdx p]].filter (fun x=>!p x)=[]:=by rw [List.filter_cons,h1];rfl
 rw [h2,List.append_nil]
 refine (List.filter_eq_self.2 fun x hx=>?_).symm
 obtain ⟨i,hi,rfl⟩:=List.getElem_of_mem hx
 rw [List.length_take] at hi
 rw [List.getElem_take]
 have:=List.not_of_lt_findIdx (show i < l.findIdx p by omega)
 simpa using this
theorem df_keep {α:Type} {p:α→Bool} {l y:List α} {i j:Nat} (hy:y.length=l.length) (hij:i < j) (hj:j < l.length) (hd:y.drop j=l.drop j) (ht:y.take i=(l.take j).filter fun x=>!p x) (hp:p l[j]=false) :
  (y.set i l[j]).drop (j + 1)=l.drop (j + 1)∧(y.set i l[j]).take (i + 1)=(l.take (j + 1)).filter fun x=>!p x:=by
 constructor
 ·rw [List.drop_set_of_lt (by omega)]
  have h1:(y.drop j).drop 1=(l.drop j).drop 1:=by rw [hd]
  simpa [List.drop_drop] using h1
 ·rw [List.take_succ_eq_append_getElem (show i < (y.set i l[j]).length by simp;omega),List.take_set_of_le (Nat.le_refl i),ht,List.take_succ_eq_append_getElem hj,List.filter_append]
  congr 1
  rw [List.filter_cons,hp]
  simp
theorem df_skip {α:Type} {p:α→Bool} {l y:List α} {i j:Nat} (hj:j < l.length) (hd:y.drop j=l.drop j) (ht:y.take i=(l.take j).filter fun x=>!p x) (hp:p l[j]=true) :
  y.drop (j + 1)=l.drop (j + 1)∧y.take i=(l.take (j + 1)).filter fun x=>!p x:=by
 constructor
 ·have h1:(y.drop j).drop 1=(l.drop j).drop 1:=by rw [hd]
  simpa [List.drop_drop] using h1
 ·rw [ht,List.take_succ_eq_append_getElem hj,List.filter_append,List.filter_cons,hp]
  simp
theorem callsS_fz2 {P:Program} {st:List Slot} {f:FuncId} {a0 a1 a1' v:V} {st' : List Slot} {rd:List Nat} (hf:FzC st a1 a1' rd) (h:CallsS P f [a0,a1'] st v st'):CallsS P f [a0,a1] st v st':=by
 intro B m0 m bk w cargs hg hsim hargs
 refine h B m0 m bk w cargs hg hsim ⟨hargs.1,fun j h1 h2=>?_⟩
 rcases j with _ | _ | j
 ·exact hargs.2 0 h1 (by simp)
 ·exact (hf.rep hsim (hargs.2 1 h1 (by simp))).mono (fun _ _ h=>h) fun _ _ h=>by cases h
 ·exact absurd h2 (by simp)
theorem callsS_fu {P:Program} {st:List Slot} {f:FuncId} {i off n es:Nat} {fu:Bool} {a1 v:V} {st' : List Slot} (h:CallsS P f [.osl i off n es false,a1] st v st'):CallsS P f [.osl i off n es fu,a1] st v st':=by
 intro B m0 m bk w cargs hg hsim hargs
 refine h B m0 m bk w cargs hg hsim ⟨hargs.1,fun j h1 h2=>?_⟩
 rcases j with _ | _ | j
 ·have hr:Rep m bk cargs[0] (.osl i off n es fu):=hargs.2 0 h1 (by simp)
  have go:∀ c,Rep m bk c (.osl i off n es fu)→Rep m bk c (.osl i off n es false):=fun c hr=>by
   cases hr with
   | osl hb hc hf hs=>exact .osl hb hc (fun e=>by cases e) hs
  exact go _ hr
 ·exact hargs.2 1 h1 (by simp)
 ·exact absurd h2 (by simp)
def DelFSaid (P:Program) (k:FuncId) {α:Type} (f:α→V) (es:Nat):Prop :=
 ∀ (l:List α) {g:Nat} {caps:List V} {fn:α→Option Bool},Clo1 P g caps f V.b fn→∀ p:α→Bool,l.length≤1000000→(∀ x ∈ l,fn x=some (p x)) →
  CallsS P k [.osl 0 0 l.length es false,.clo (.func g) caps] [.live (cellsM f l) 0] (.osl 0 0 (l.filter fun x=>!p x).length es false) [.live (cellsM f (l.filter fun x=>!p x)) 0]
def DelFNil (P:Program) (k:FuncId) {α:Type} (f:α→V):Prop :=
 ∀ {g:Nat} {caps:List V} {fn:α→Option Bool},Clo1 P g caps f V.b fn→CallsO P k [.sl [] true,.clo (.func g) caps] (fun _:Unit=>V.sl [] true) (some ())
theorem litL_mem:∀ {l:List V},(∀ v ∈ l,v.litD=true)→V.litD.litL l=true
 | [],_=>rfl
 | v :: l,h=>by
  simp only [V.litD.litL,Bool.and_eq_true]
  exact ⟨h v (by simp),litL_mem fun u hu=>h u (by simp [hu])⟩
theorem mem_litL:∀ {l:List V},V.litD.litL l=true→∀ v ∈ l,v.litD=true
 | u :: l,h,v,hv=>by
  simp only [V.litD.litL,Bool.and_eq_true] at h
  rcases List.mem_cons.1 hv with rfl | hv
  ·exact h.1
  ·exact mem_litL h.2 v hv
section
variable {β : Type} {r : β} {P : Program} {st : List Slot}
theorem delF_of {α:Type} {fn:α→Option Bool} {l L:List α} (h:delF? fn l=some L):∃ p:α→Bool,l.length≤1000000∧(∀ x ∈ l,fn x=some (p x))∧L=l.filter fun x=>!p x:=by
 unfold delF? at h
 split at h
 ·rename_i hb
  refine ⟨fun x=>(fn x).getD false,hb.1,fun x hx=>?_,(Option.some.inj h).symm⟩
  have:=List.all_eq_true.1 hb.2 x hx
  obtain ⟨b,hb⟩:=Option.isSome_iff_exists.1 this
  show fn x=some ((fn x).getD false)
  rw [hb];rfl
 ·cases h
theorem dfO_c {k:FuncId} {es:Nat} {α:Type} {f:α→V} (hS:DelFSaid P k f es) {l:List α} {fn:α→Option Bool} {X:List α→Option β} {K:V→List Nat→List Nat→List Slot→Prop} {i n g:Nat} {fu:Bool} {caps caps' : List V} {rd:List Nat} (H:(delF? fn l).bind X=some r) (hc:Clo1 P g caps' f V.b fn)
  (hz:FzC st (.clo (.func g) caps) (.clo (.func g) caps') rd) (hlit:∀ a,V.litD.litL (f a).cells=true) (h0:∀ a,V.idlt.belowL 0 (f a).cells=true)
  (hi:st[i]?=some (.live (cellsM f l) 0)) (hn:n=l.length) (h:∀ L,X L=some r→ssetK st i (.live (cellsM f L) 0) fun st'=>K (.osl i 0 L.length es false) rd [i] st'):Ask P k [.osl i 0 n es fu,.clo (.func g) caps] st K:=by
 subst hn
 obtain ⟨L,hL,H⟩:=bind_c H
 have:=h L H
 rw [ssetK_eq] at this
 obtain ⟨p,h1,h2,rfl⟩:=delF_of hL
 refine Ask_L (rd:=rd) (ef:=[(i,.live (cellsM f (l.filter fun x=>!p x)) 0)]) (fun st2 _ hk=>?_) this
 refine callsS_fz2 (hz.congr fun t ht=>hk t (.inl ht)) (callsS_fu ?_)
 have hfr:=callsS_frame (st:=st2) (id:=i) (v:=.osl i 0 (l.filter fun x=>!p x).length es false) (hS l hc p h1 h2) (by simp [V.idlt.belowL,V.idlt,idltL_up _ hc.own]) ((hk i (.inr (by simp))).trans hi) (cellsM_idlt h0 _) (litL_mem fun v hv=>by
  obtain ⟨a,_,ha⟩:=List.mem_flatMap.1 hv
  exact mem_litL (hlit a) v ha) (.inl ⟨_,_,_,_,rfl,rfl⟩)
 have hfr2:CallsS P k [.osl i 0 l.length es false,.clo (.func g) caps'] st2 (.osl i 0 (l.filter fun x=>!p x).length es false) (st2.set i (.live (cellsM f (l.filter fun x=>!p x)) 0)):=by simpa [V.ren.renL,V.ren,renL_id _ hc.own,sgm] using hfr
 exact hfr2
theorem dfN_c {k:FuncId} {α:Type} {f:α→V} (hS:DelFNil P k f) {fn:α→Option Bool} {X:List α→Option β} {K:V→List Nat→List Nat→List Slot→Prop} {g:Nat} {caps caps' : List V} {rd:List Nat} (H:(delF? fn ([]:List α)).bind X=some r) (hc:Clo1 P g caps' f V.b fn) (hz:FzC st (.clo (.func g) caps) (.clo (.func g) caps') rd) (h:X []=some r→K (.sl [] true) rd [] st):Ask P k [.sl [] true,.clo (.func g) caps] st K:=by
 have:delF? fn ([]:List α)=some []:=rfl
 rw [this] at H
 exact askF_c (X:=some) (r:=()) (hS hc) rfl (.cons (.c (.id rfl)) (.cons (.c hz) .nil)) fun _ _=>by rw [List.nil_append,List.append_nil];exact h H
end
end Go.Proofs.YtdbigmjlhkgeoaaGreat

namespace Go.Proofs.YtdbigmjlhkgeoaaGreat
open Go.RowKit
def p_slices_IndexFunc_conns_State_conns_Conn__l1 (a1:ConnsConn→Option Bool) (z5:List ConnsConn) (z6:Int):Nat→Int→Option (Int ⊕ Int)
 | 0,_=>none
 | n + 1,y7 =>
  bif (decide (y7 < z6)) then
   (at? z5 y7).bind fun x9 =>
   (a1 x9).bind fun v10 =>
   bif v10 then
    some (.inl y7)
   else
   p_slices_IndexFunc_conns_State_conns_Conn__l1 a1 z5 z6 n (w64 (y7 + (1:Int)))
  else
  some (.inr y7)
def p_slices_IndexFunc_conns_State_conns_Conn_ (a0:List ConnsConn) (a1:ConnsConn→Option Bool):Option (Int) :=
 (p_slices_IndexFunc_conns_State_conns_Conn__l1 a1 a0 (a0.length:Int) fuel (0:Int)).bind fun o12=>match o12 with
 | .inl q13 =>
  some q13
 | .inr q14 =>
  some (-1:Int)
def p_slices_ContainsFunc_conns_State_conns_Conn_ (a0:List ConnsConn) (a1:ConnsConn→Option Bool):Option (Bool) :=
 (p_slices_IndexFunc_conns_State_conns_Conn_ a0 a1).bind fun v1 =>
 some (decide ((0:Int)≤v1))
end Go.Proofs.YtdbigmjlhkgeoaaGreat

namespace Go.Proofs.YtdbigmjlhkgeoaaGreat
open Go.RowKit
set_option maxRecDepth 100000
set_option maxHeartbeats 4000000
def gc66:BCode:=(.seq (R_ 0 [O_ 4 (.mv (i_ 0)) 0]) (.seq (.seq (R_ 0 [O_ 6 (.mv (t_ 0)) 0,O_ 7 (.lens (t_ 6)) 0,O_ 8 (.mv (i_ 0)) 0]) (.block 0 (.loop (.seq (R_ 0 [O_ 9 (.bin .lss (t_ 8) (t_ 7)) 0]) (.seq (.cond (t_ 9) .skip (.exit 0)) (.seq (.block 1 (.seq (R_ 0 [O_ 10 (.mv (t_ 8)) 0,O_ 5 (.mv (t_ 10)) 0]) (.seq (R_ 0 [O_ 11 (.mv (t_ 1)) 0,O_ 12 (.mv (t_ 0)) 0,O_ 13 (.mv (t_ 5)) 0,O_ 14 (.ixs 8 (t_ 12) (t_ 13)) 0,O_ 15 (.ld 8 true (t_ 14)) 0,O_ 16 (.cv (t_ 11) [(t_ 15)]) 0]) (.cond (t_ 16) (.seq (R_ 0 [O_ 17 (.mv (t_ 5)) 0,O_ 4 (.mv (t_ 17)) 0]) .ret) .skip)))) (R_ 0 [O_ 18 (.bin .add (t_ 8) (i_ 1)) 0,O_ 8 (.mv (t_ 18)) 0]))))))) (.seq (R_ 0 [O_ 4 (.mv (.const (.int .i64 (-1)))) 0]) .ret)))
theorem gc66_ok:compF Tryz.prog Tryz.f66=some (gc66.er,19,[.tmp 4]):=by unfold gc66;kernel_rfl
theorem p_slices_IndexFunc_conns_State_conns_Conn__v {u1:Bool} (a0:List ConnsConn) (a1:ConnsConn→Option Bool) {a1_g:Nat} {a1_k:List V} (a1_h:Clo1 Tryz.prog a1_g a1_k ConnsConn.v V.b a1):CallsO Tryz.prog 66 [.sl (List.map ConnsConn.v a0) u1,.clo (.func a1_g) a1_k] V.i (p_slices_IndexFunc_conns_State_conns_Conn_ a0 a1):=by
 refine callsO_comp mix Tryz.func66 gc66_ok fun r H=>?_
 rw [p_slices_IndexFunc_conns_State_conns_Conn_] at H
 conv=>whnf
 refine LenQ.M ?_;conv=>whnf
 obtain ⟨o2,HL3,HQ4⟩:=bind_c H
 refine loop_c [4,8] [5,9,10,11,12,13,14,15,16,17,18] [5,9,10,11,12,13,14,15,16,17,18] (fun n vals st=>(∃ y6,p_slices_IndexFunc_conns_State_conns_Conn__l1  a1 a0 (a0.length:Int) n y6=some o2∧vals=[.i (0:Int),.i y6]∧st=[])) fuel 0 [] (⟨_,HL3,rfl,rfl⟩) (Nat.zero_le _) rfl (by simp only [maskF,setF,List.set_cons_zero,List.set_cons_succ,V.ren.renL,V.ren,renL_id _ a1_h.own] <;> rfl) (by simp only [maskF,setF,List.set_cons_zero,List.set_cons_succ,V.idlt.belowL,V.idlt,fun n=>idltL_up (n:=n) _ a1_h.own] <;> rfl) rfl trivial ?_
 rintro (_ | n5) _ _ (⟨y6,H,rfl,rfl⟩)
 ·rw [p_slices_IndexFunc_conns_State_conns_Conn__l1] at H;cases H
 rw [p_slices_IndexFunc_conns_State_conns_Conn__l1] at H
 conv=>whnf
 refine tst_d H (fun b7 H=>?_) (fun b7 H=>?_)
 ·conv=>whnf
  obtain rfl:=Option.some.inj H
  have H:=HQ4
  try dsimp only at H
  exact fi_ H
 conv=>whnf
 refine ixs_c (f:=ConnsConn.v) H (fun _=>rfl) (fun x8 H=>?_);conv=>whnf
 refine askC_c a1_h H (.cons (fzagg (.cons (.id rfl) (.cons (.id rfl) (.cons (.id rfl) (.cons (.id rfl) (.cons (.id rfl) (.cons (.id rfl) (.cons (.id rfl) (.cons (.id rfl) (.nil))))))))) rfl) (.nil)) (fun v9 H=>?_);conv=>whnf
 refine tst_c H (fun b10 H=>?_) (fun b10 H=>?_)
 ·conv=>whnf
  obtain rfl:=Option.some.inj H
  have H:=HQ4
  try dsimp only at H
  exact fi_ H
 conv=>whnf
 refine Ari.w ?_;conv=>whnf
 exact again_c [5,9,10,11,12,13,14,15,16,17,18] n5 0 [] (⟨_,H,rfl,rfl⟩) (Nat.lt_succ_self _) (Nat.zero_le _) rfl (by simp only [maskF,setF,List.set_cons_zero,List.set_cons_succ,V.ren.renL,V.ren,renL_id _ a1_h.own] <;> rfl) (by simp only [maskF,setF,List.set_cons_zero,List.set_cons_succ,V.idlt.belowL,V.idlt,fun n=>idltL_up (n:=n) _ a1_h.own] <;> rfl) rfl trivial
def gc55:BCode:=(.seq (R_ 0 [O_ 4 (.mv (b_ false)) 0]) (.seq (R_ 0 [O_ 5 (.mv (t_ 0)) 0,O_ 6 (.mv (t_ 1)) 0,O_ 7 (.cl 66 [(t_ 5),(t_ 6)]) 0,O_ 8 (.bin .geq (t_ 7) (i_ 0)) 0,O_ 4 (.mv (t_ 8)) 0]) .ret))
theorem gc55_ok:compF Tryz.prog Tryz.f55=some (gc55.er,9,[.tmp 4]):=by unfold gc55;kernel_rfl
theorem p_slices_ContainsFunc_conns_State_conns_Conn__v {u1:Bool} (a0:List ConnsConn) (a1:ConnsConn→Option Bool) {a1_g:Nat} {a1_k:List V} (a1_h:Clo1 Tryz.prog a1_g a1_k ConnsConn.v V.b a1):CallsO Tryz.prog 55 [.sl (List.map ConnsConn.v a0) u1,.clo (.func a1_g) a1_k] V.b (p_slices_ContainsFunc_conns_State_conns_Conn_ a0 a1):=by
 refine callsO_comp mix Tryz.func55 gc55_ok fun r H=>?_
 rw [p_slices_ContainsFunc_conns_State_conns_Conn_] at H
 conv=>whnf
 refine askF_c (p_slices_IndexFunc_conns_State_conns_Conn__v _ _ a1_h) H (.cons (.c (.slw)) (.cons (.c (.id a1_h.own)) (.nil))) (fun v1 H=>?_);conv=>whnf
 exact fb_ H
end Go.Proofs.YtdbigmjlhkgeoaaGreat

namespace Go.Proofs.YtdbigmjlhkgeoaaGreat
open Go.RowKit
theorem at_nat {α:Type} (l:List α) (k:Nat):at? l (k:Int)=l[k]?:=by
 unfold at?;rw [if_pos (Int.natCast_nonneg k)];rfl
theorem at_lt {α:Type} {l:List α} {k:Nat} (h:k < l.length):at? l (k:Int)=some l[k]:=by rw [at_nat,List.getElem?_eq_getElem h]
theorem w64_id {r:Int} (h:-9223372036854775808≤r∧r≤9223372036854775807):w64 r=r:=wrap_ok h
theorem w64_succ {k:Nat} (h:k≤1000000):w64 ((k:Int) + 1)=((k + 1:Nat):Int):=by rw [w64_id (by omega)];rfl
theorem lt_tt {a b:Nat} (h:a < b):decide ((a:Int) < (b:Int))=true:=by simpa using h
theorem lt_ff {a b:Nat} (h:b≤a):decide ((a:Int) < (b:Int))=false:=by simpa using h
theorem drop_at {α:Type} {l:List α} {k:Nat} (h:k < l.length):l.drop k=l[k] :: l.drop (k + 1):=List.drop_eq_getElem_cons h
theorem fuel_pos:(1000000:Nat) < fuel:=by decide
theorem cutTo {α:Type} {l:List α} {k:Nat} (h:k≤l.length):cut? l none (some (k:Int))=some (l.take k):=by
 unfold cut?
 simp only [Option.getD_none,Option.getD_some]
 rw [if_pos (by omega)]
 simp
theorem cutFrom {α:Type} {l:List α} {k:Nat} (h:k≤l.length):cut? l (some (k:Int)) none=some (l.drop k):=by
 unfold cut?
 simp only [Option.getD_none,Option.getD_some]
 rw [if_pos (by omega)]
 rw [List.take_of_length_le (by simp)];rfl
theorem app_ok {α:Type} {a b:List α} (h:a.length + b.length≤1000000):app? a b=some (a++b):=if_pos h
theorem byte_at {s:ByteArray} {k:Nat} (h:k < s.size):byte? s (k:Int)=some (s[k].toNat:Int):=by
 unfold byte?
 rw [dif_pos ⟨Int.natCast_nonneg k,h⟩];rfl
theorem tl_data (s:ByteArray):s.toList=s.data.toList:=by rw [ByteArray.toList_eq]
def eqT (a b:ByteArray):Bool:=a.toList == b.toList
theorem eqT_refl (a:ByteArray):(a.toList == a.toList)=true:=by simp
theorem eqT_iff {a b:ByteArray}:(a.toList == b.toList)=true ↔ a=b:=by
 rw [beq_iff_eq,tl_data,tl_data]
 exact ⟨fun h=>by cases a;cases b;congr 1;exact Array.ext' h,fun h=>by rw [h]⟩
end Go.Proofs.YtdbigmjlhkgeoaaGreat

namespace Go.Proofs.YtdbigmjlhkgeoaaGreat
open Go.RowKit
set_option maxRecDepth 100000
set_option maxHeartbeats 4000000
def dc45:BCode:=(.seq (R_ 0 [O_ 4 (.mv (.const (.slice none 0 0))) 0]) (.seq (R_ 0 [O_ 8 (.mv (t_ 0)) 0,O_ 9 (.mv (t_ 1)) 0,O_ 10 (.cl 66 [(t_ 8),(t_ 9)]) 0,O_ 5 (.mv (t_ 10)) 0]) (.seq (.seq (R_ 0 [O_ 11 (.mv (t_ 5)) 0,O_ 12 (.bin .eql (t_ 11) (.const (.int .i64 (-1)))) 0]) (.cond (t_ 12) (.seq (R_ 0 [O_ 13 (.mv (t_ 0)) 0,O_ 4 (.mv (t_ 13)) 0]) .ret) .skip)) (.seq (.seq (R_ 0 [O_ 14 (.mv (t_ 5)) 0,O_ 15 (.bin .add (t_ 14) (i_ 1)) 0,O_ 6 (.mv (t_ 15)) 0]) (.block 0 (.loop (.seq (.seq (R_ 0 [O_ 16 (.mv (t_ 6)) 0,O_ 17 (.mv (t_ 0)) 0,O_ 18 (.lens (t_ 17)) 0,O_ 19 (.bin .lss (t_ 16) (t_ 18)) 0]) (.cond (t_ 19) .skip (.exit 0))) (.seq (.block 1 (.seq (R_ 1 [O_ 22 (.mv (t_ 0)) 0,O_ 23 (.mv (t_ 6)) 0,O_ 24 (.ixs 8 (t_ 22) (t_ 23)) 0,O_ 25 (.ld 8 true (t_ 24)) 0,O_ 7 (.al (.agg [(.lit (.int .i64 0)),(.lit (.int .i64 0)),(.lit (.string ⟨#[]⟩)),(.lit (.string ⟨#[]⟩)),(.lit (.int .i64 0)),(.lit (.string ⟨#[]⟩)),(.lit (.int .i64 0)),(.lit (.int .i64 0))])) 0,U_ (.st 8 (t_ 7) (t_ 25)) 1]) (.seq (R_ 0 [O_ 26 (.mv (t_ 1)) 0,O_ 27 (.ld 8 true (t_ 7)) 0,O_ 28 (.cv (t_ 26) [(t_ 27)]) 0,O_ 29 (.un .not (t_ 28)) 0]) (.cond (t_ 29) (.seq (R_ 0 [O_ 30 (.mv (t_ 0)) 0,O_ 31 (.mv (t_ 5)) 0,O_ 32 (.ld 8 true (t_ 7)) 0,O_ 33 (.ixs 8 (t_ 30) (t_ 31)) 0,U_ (.st 8 (t_ 33) (t_ 32)) 0]) (R_ 0 [O_ 34 (.mv (t_ 5)) 0,O_ 35 (.bin .add (t_ 34) (i_ 1)) 0,O_ 5 (.mv (t_ 35)) 0])) .skip)))) (R_ 0 [O_ 20 (.mv (t_ 6)) 0,O_ 21 (.bin .add (t_ 20) (i_ 1)) 0,O_ 6 (.mv (t_ 21)) 0])))))) (.seq (R_ 0 [O_ 36 (.mv (t_ 0)) 0,O_ 37 (.mv (t_ 5)) 0,O_ 38 (.sls 8 (t_ 36) (some (t_ 37)) none none) 0,U_ (.clr 8 (t_ 38)) 0]) (.seq (R_ 0 [O_ 39 (.mv (t_ 0)) 0,O_ 40 (.mv (t_ 5)) 0,O_ 41 (.sls 8 (t_ 39) none (some (t_ 40)) none) 0,O_ 4 (.mv (t_ 41)) 0]) .ret))))))
theorem dc45_ok:compF Tryz.prog Tryz.f45=some (dc45.er,42,[.tmp 4]):=by unfold dc45;kernel_rfl
theorem dfi45 (fn:ConnsConn→Option Bool) (p:ConnsConn→Bool) (rows:List ConnsConn) (hn:rows.length≤1000000) (hf:∀ x ∈ rows,fn x=some (p x)):∀ (n k F:Nat),k + n=rows.length→n < F →
  p_slices_IndexFunc_conns_State_conns_Conn__l1 fn rows rows.length F k=some (if (rows.drop k).any p=true then .inl ((k + (rows.drop k).findIdx p:Nat):Int) else .inr (rows.length:Int))
 | 0,k,F + 1,hk,hF=>by
  have e:rows.drop k=[]:=List.drop_of_length_le (by omega)
  have:k=rows.length:=by omega
  rw [p_slices_IndexFunc_conns_State_conns_Conn__l1,lt_ff (by omega),e,this];rfl
 | n + 1,k,F + 1,hk,hF=>by
  have hlt:k < rows.length:=by omega
  rw [p_slices_IndexFunc_conns_State_conns_Conn__l1,lt_tt hlt,at_lt hlt,drop_at hlt]
  simp only [cond_true,Option.bind_some,hf _ (List.getElem_mem hlt)]
  cases hp:p rows[k] with
  | true=>rw [List.any_cons,hp,List.findIdx_cons,hp];rfl
  | false =>
   simp only [cond_false]
   rw [w64_succ (by omega),dfi45 fn p rows hn hf n (k + 1) F (by omega) (by omega)]
   simp only [List.any_cons,hp,Bool.false_or,List.findIdx_cons,cond_false]
   split
   ·congr 3;omega
   ·rfl
theorem dfx45 {fn:ConnsConn→Option Bool} (p:ConnsConn→Bool) {rows:List ConnsConn} (hn:rows.length≤1000000) (hf:∀ x ∈ rows,fn x=some (p x)):p_slices_IndexFunc_conns_State_conns_Conn_ rows fn=some (if rows.any p=true then (rows.findIdx p:Int) else -1):=by
 unfold p_slices_IndexFunc_conns_State_conns_Conn_
 have:=dfi45 fn p rows hn hf rows.length 0 fuel (by omega) (by have:=fuel_pos;omega)
 rw [show ((0:Int))=((0:Nat):Int) from rfl,this,List.drop_zero]
 cases rows.any p <;> simp
theorem dfS45 (l:List ConnsConn) {g:Nat} {caps:List V} {fn:ConnsConn→Option Bool} (hc:Clo1 Tryz.prog g caps ConnsConn.v V.b fn) (p:ConnsConn→Bool) (hn:l.length≤1000000) (hf:∀ x ∈ l,fn x=some (p x)) :
  CallsS Tryz.prog 45 [.osl 0 0 l.length 8 false,.clo (.func g) caps] [.live (cellsM ConnsConn.v l) 0] (.osl 0 0 (l.filter fun x=>!p x).length 8 false) [.live (cellsM ConnsConn.v (l.filter fun x=>!p x)) 0]:=by
 refine callsR_c (n0:=1) mix Tryz.func45 dc45_ok rfl ?_
 conv=>whnf
 refine askT_c (X:=some) (r:=if l.any p=true then (l.findIdx p:Int) else -1) [0] (p_slices_IndexFunc_conns_State_conns_Conn__v l fn hc) (by rw [dfx45 p hn hf];rfl) (.cons (.c (fzown (f:=ConnsConn.v) (l:=l) rfl rfl (fun _=>rfl) (fun _=>rfl))) (.cons (.c (.id (by exact hc.own))) .nil)) (fun _=>rfl) (fun x H=>?_)
 obtain rfl:=Option.some.inj H
 conv=>whnf
 by_cases hany:l.any p=true
 ·rw [if_pos hany]
  have hk0:l.findIdx p < l.length:=List.findIdx_lt_length_of_exists (by simpa using hany)
  refine Tst.isF (beq_eq_false_iff_ne.2 (by omega)) ?_;conv=>whnf
  refine Ari.w ?_;conv=>whnf
  have hw:IntKind.i64.wrap ((l.findIdx p:Int) + 1)=((l.findIdx p + 1:Nat):Int):=w64_succ (by omega)
  rw [hw]
  refine loop_c [5,6] [7,16,17,18,19,20,21,22,23,24,25,26,27,28,29,30,31,32,33,34,35] [7,16,17,18,19,20,21,22,23,24,25,26,27,28,29,30,31,32,33,34,35] (fun n vals st=>∃ (i j:Nat) (y:List ConnsConn),vals=[.i i,.i j]∧st=[.live (cellsM ConnsConn.v y) 0]∧y.length=l.length∧i < j∧j≤l.length∧y.drop j=l.drop j∧y.take i=(l.take j).filter (fun x=>!p x)∧i≤l.length∧n=l.length - j) (l.length - (l.findIdx p + 1)) 1 [] ⟨l.findIdx p,l.findIdx p + 1,l,rfl,rfl,rfl,by omega,by omega,rfl,df_start hk0,by omega,rfl⟩ (Nat.le_refl _) rfl
   (by simp only [maskF,setF,List.set_cons_zero,List.set_cons_succ,V.ren.renL,V.ren,renL_id _ hc.own] <;> rfl) (by simp only [maskF,setF,List.set_cons_zero,List.set_cons_succ,V.idlt.belowL,V.idlt,fun n=>idltL_up (n:=n) _ hc.own] <;> rfl) rfl (wkB_live0 rfl (cellsM_idlt (f:=ConnsConn.v) (fun _=>rfl) _) rfl trivial) ?_
  rintro n _ _ ⟨i,j,y,rfl,rfl,hyl,hij,hjl,hyd,hyt,hil,rfl⟩
  conv=>whnf
  by_cases hj:j < l.length
  ·refine Tst.isT (lt_tt hj) ?_;conv=>whnf
   have hmem:l[j] ∈ l:=List.getElem_mem hj
   have hx:y[(j:Int).toNat]?=some l[j]:=by
    rw [Int.toNat_natCast]
    have h1:(y.drop j)[0]?=(l.drop j)[0]?:=by rw [hyd]
    rw [List.getElem?_drop,List.getElem?_drop,Nat.add_zero] at h1
    rw [h1,List.getElem?_eq_getElem hj]
   refine ⟨rfl,⟨Int.natCast_nonneg _,by rw [Int.toNat_natCast];exact hj,?_⟩⟩;conv=>whnf
   refine ldo_c (f:=ConnsConn.v) (es:=8) hx (fun _=>rfl) 0 (by omega) (by decide) ?_;conv=>whnf
   refine lq_ ?_;conv=>whnf
   refine askC_c (X:=some) (r:=p l[j]) (a:=l[j]) hc (by rw [hf _ hmem];rfl) (fza_ids rfl) (fun v H=>?_)
   obtain rfl:=Option.some.inj H
   conv=>whnf
   have hw1:IntKind.i64.wrap ((j:Int) + 1)=((j + 1:Nat):Int):=w64_succ (by omega)
   have hw2:IntKind.i64.wrap ((i:Int) + 1)=((i + 1:Nat):Int):=w64_succ (by omega)
   cases hp:p l[j] with
   | false =>
    refine Tst.isT rfl ?_;conv=>whnf
    refine ⟨rfl,⟨Int.natCast_nonneg _,by rw [Int.toNat_natCast];omega,?_⟩⟩;conv=>whnf
    refine ⟨Nat.zero_le _,sto_c (f:=ConnsConn.v) (l:=y) (n:=i) (es:=8) (x:=y[i]'(by omega)) (List.getElem?_eq_getElem (by omega)) (x':=l[j]) (fun _=>rfl) 0 (by rw [Int.toNat_natCast];omega) (Nat.le_of_ble_eq_true rfl) (by rfl) ?_⟩;conv=>whnf
    refine Ari.w ?_;conv=>whnf
    refine Ari.w ?_;conv=>whnf
    rw [hw1,hw2]
    have hd:=df_keep hyl hij hj hyd hyt hp
    exact again_c [7,16,17,18,19,20,21,22,23,24,25,26,27,28,29,30,31,32,33,34,35] (l.length - (j + 1)) 1 [] ⟨i + 1,j + 1,y.set i l[j],rfl,rfl,by rw [List.length_set];exact hyl,by omega,by omega,hd.1,hd.2,by omega,rfl⟩ (by omega) (Nat.le_refl _) rfl
     (by simp only [maskF,setF,List.set_cons_zero,List.set_cons_succ,V.ren.renL,V.ren,renL_id _ hc.own] <;> rfl) (by simp only [maskF,setF,List.set_cons_zero,List.set_cons_succ,V.idlt.belowL,V.idlt,fun n=>idltL_up (n:=n) _ hc.own] <;> rfl) rfl (wkB_live0 rfl (cellsM_idlt (f:=ConnsConn.v) (fun _=>rfl) _) rfl trivial)
   | true =>
    refine Tst.isF rfl ?_;conv=>whnf
    refine Ari.w ?_;conv=>whnf
    rw [hw1]
    have hd:=df_skip hj hyd hyt hp
    exact again_c [7,16,17,18,19,20,21,22,23,24,25,26,27,28,29,30,31,32,33,34,35] (l.length - (j + 1)) 1 [] ⟨i,j + 1,y,rfl,rfl,hyl,by omega,by omega,hd.1,hd.2,hil,rfl⟩ (by omega) (Nat.le_refl _) rfl
     (by simp only [maskF,setF,List.set_cons_zero,List.set_cons_succ,V.ren.renL,V.ren,renL_id _ hc.own] <;> rfl) (by simp only [maskF,setF,List.set_cons_zero,List.set_cons_succ,V.idlt.belowL,V.idlt,fun n=>idltL_up (n:=n) _ hc.own] <;> rfl) rfl (wkB_live0 rfl (cellsM_idlt (f:=ConnsConn.v) (fun _=>rfl) _) rfl trivial)
  ·refine Tst.isF (lt_ff (by omega)) ?_;conv=>whnf
   have hjl' : j=l.length:=by omega
   subst hjl'
   rw [List.take_length] at hyt
   have hfl:(l.filter fun x=>!p x).length=i:=by rw [← hyt,List.length_take];omega
   refine ⟨rfl,sloT_c i rfl (by omega) ?_⟩;conv=>whnf
   refine ⟨rfl,clr_c (cs':=cellsM ConnsConn.v (l.filter fun x=>!p x)) (Nat.zero_le _) (by rw [cellsM_len (f:=ConnsConn.v) (es:=8) (fun _=>rfl),hyl];exact (Nat.zero_add _).symm ▸ Nat.mul_le_mul_right _ (by omega)) (by omega) (by rw [Nat.zero_add,← hyt];exact (cellsM_take (f:=ConnsConn.v) (es:=8) (fun _=>rfl) y i (by omega)).1.symm) ?_⟩;conv=>whnf
   refine ⟨rfl,sloP_c i rfl (by omega) ?_⟩;conv=>whnf
   rw [hfl]
   exact ⟨f_R0 (.inr rfl) (.cons (.tmp rfl) .nil) rfl rfl rfl rfl ⟨idltL_up _ (cellsM_idlt (f:=ConnsConn.v) (fun _=>rfl) _),trivial⟩⟩
 ·rw [if_neg hany]
  refine Tst.isT rfl ?_;conv=>whnf
  have hfe:(l.filter fun x=>!p x)=l:=List.filter_eq_self.2 fun x hx=>by
   have:=fun h=>hany (List.any_eq_true.2 ⟨x,hx,h⟩)
   simpa using this
  rw [hfe]
  exact ⟨f_R0 (.inr rfl) (.cons (.tmp rfl) .nil) rfl rfl rfl rfl ⟨idltL_up _ (cellsM_idlt (f:=ConnsConn.v) (fun _=>rfl) _),trivial⟩⟩
theorem delF45_v:DelFSaid Tryz.prog 45 ConnsConn.v 8:=fun l _ _ _ hc p hn hf=>dfS45 l hc p hn hf
theorem delF45_n:DelFNil Tryz.prog 45 ConnsConn.v:=fun {g} {caps} {fn} hc=>by
 refine callsO_comp mix Tryz.func45 dc45_ok (fun r H0=>?_)
 conv=>whnf
 refine askF_c (X:=some) (r:=(-1:Int)) (p_slices_IndexFunc_conns_State_conns_Conn__v [] fn hc) (by rfl) (.cons (.c .slw) (.cons (.c (.id (by exact hc.own))) .nil)) (fun x H=>?_)
 obtain rfl:=Option.some.inj H
 conv=>whnf
 refine Tst.isT rfl ?_;conv=>whnf
 exact fin0_c (enc:=fun _:Unit=>V.sl [] true) H0 (.inr rfl) (.cons (.tmp rfl) .nil) rfl rfl
end Go.Proofs.YtdbigmjlhkgeoaaGreat

namespace Go.Proofs.YtdbigmjlhkgeoaaGreat
open Go.RowKit
end Go.Proofs.YtdbigmjlhkgeoaaGreat

namespace Go.Proofs.YtdbigmjlhkgeoaaGreat
open Go.RowKit
def p_conns_in (a0:Int) (a1:Int) (a2:Int):Option (Bool) :=
 bif (decide (a1≤a0)) then
  some (decide (a0≤a2))
 else
 some false
def p_conns_Conn_numbered (a0:ConnsConn):Option (Bool) :=
 (p_conns_in a0.ID (0:Int) (255:Int)).bind fun v1 =>
 bif v1 then
  (p_conns_in a0.Source (0:Int) (65535:Int)).bind fun v3 =>
  bif v3 then
   (p_conns_in a0.Credit (0:Int) (1048576:Int)).bind fun v5 =>
   some v5
  else
  some false
 else
 some false
def p_conns_Check_1 (a0:ConnsConn):Option (Bool) :=
 (p_conns_Conn_numbered a0).bind fun v1 =>
 some (!v1)
def p_pres_named (a0:ByteArray) (a1:ByteArray):Option (Bool) :=
 (p_addr_Resource a1).bind fun v1 =>
 bif (v1 == (0:Int)) then
  (p_addr_IsBare a0).bind fun v3 =>
  some v3
 else
 some false
def p_pres_Key (a0:ByteArray) (a1:ByteArray):Option (ByteArray) :=
 (p_pres_named a0 a1).bind fun v1 =>
 bif v1 then
  (cat? a0 (⟨#[32]⟩ : ByteArray)).bind fun s3 =>
  (cat? s3 a1).bind fun s4 =>
  some s4
 else
 some (⟨#[]⟩ : ByteArray)
def p_conns_Key (a0:ConnsConn):Option (ByteArray) :=
 bif (a0.User.toList == (⟨#[]⟩ : ByteArray).toList) then
  some (⟨#[]⟩ : ByteArray)
 else
 (p_pres_Key a0.User a0.Res).bind fun v2 =>
 some v2
def p_conns_Conn_named (a0:ConnsConn):Option (Bool) :=
 bif (a0.User.toList == (⟨#[]⟩ : ByteArray).toList) then
  some (a0.Res.toList == (⟨#[]⟩ : ByteArray).toList)
 else
 (p_conns_Key a0).bind fun v2 =>
 some (!(v2.toList == (⟨#[]⟩ : ByteArray).toList))
def p_conns_Check_2 (a0:ConnsConn):Option (Bool) :=
 (p_conns_Conn_named a0).bind fun v1 =>
 some (!v1)
def p_conns_State_keyed_l1 (z9:ByteArray) (z12:List ConnsConn) (z13:Int):Nat→Int→Bool→Int→Option ((Int × Bool × Int))
 | 0,_,_,_=>none
 | n + 1,y10,y11,y14 =>
  bif (decide (y14 < z13)) then
   (at? z12 y14).bind fun x16 =>
   bif (z9.toList == (⟨#[]⟩ : ByteArray).toList) then
    p_conns_State_keyed_l1 z9 z12 z13 n y10 y11 (w64 (y14 + (1:Int)))
   else
   (p_conns_Key x16).bind fun v18 =>
   bif (v18.toList == z9.toList) then
    some (y14,true,y14)
   else
   p_conns_State_keyed_l1 z9 z12 z13 n y10 y11 (w64 (y14 + (1:Int)))
  else
  some (y10,y11,y14)
def p_conns_State_keyed (a0:List ConnsConn) (a1:ByteArray):Option (Int × Bool) :=
 (p_conns_State_keyed_l1 a1 a0 (a0.length:Int) fuel (0:Int) false (0:Int)).bind fun q21 =>
 some (q21.1,q21.2.1)
def p_conns_Check_l1 (z12:List ConnsConn) (z13:Int):Nat→Int→Option (Int ⊕ Int)
 | 0,_=>none
 | n + 1,y14 =>
  bif (decide (y14 < z13)) then
   (at? z12 y14).bind fun x16 =>
   (p_deframe_Check x16.In).bind fun v17 =>
   bif (v17 != (0:Int)) then
    some (.inl v17)
   else
   p_conns_Check_l1 z12 z13 n (w64 (y14 + (1:Int)))
  else
  some (.inr y14)
def p_conns_Check_l2 (z25:List ConnsConn):Nat→Int→Option (Int ⊕ Int)
 | 0,_=>none
 | n + 1,y26 =>
  bif (decide (y26 < (z25.length:Int))) then
   (at? z25 y26).bind fun x28 =>
   (at? z25 (w64 (y26 - (1:Int)))).bind fun x29 =>
   bif (decide (x28.ID≤x29.ID)) then
    some (.inl (10:Int))
   else
   p_conns_Check_l2 z25 n (w64 (y26 + (1:Int)))
  else
  some (.inr y26)
def p_conns_Check_l3 (z39:List ConnsConn) (z40:List ConnsConn) (z41:Int):Nat→Int→Option (Int ⊕ Int)
 | 0,_=>none
 | n + 1,y42 =>
  bif (decide (y42 < z41)) then
   (at? z40 y42).bind fun x44 =>
   (cut? z39 none (some y42)).bind fun x45 =>
   (p_conns_Key x44).bind fun v46 =>
   (p_conns_State_keyed x45 v46).bind fun v47 =>
   bif v47.2 then
    some (.inl (13:Int))
   else
   p_conns_Check_l3 z39 z40 z41 n (w64 (y42 + (1:Int)))
  else
  some (.inr y42)
def p_conns_Check (a0:List ConnsConn):Option (Int) :=
 bif (decide ((16:Int) < (a0.length:Int))) then
  some (5:Int)
 else
 (p_slices_ContainsFunc_conns_State_conns_Conn_ a0 (fun x0=>p_conns_Check_1 x0)).bind fun v2 =>
 bif v2 then
  some (8:Int)
 else
 (p_slices_ContainsFunc_conns_State_conns_Conn_ a0 (fun x0=>p_conns_Check_2 x0)).bind fun v4 =>
 bif v4 then
  some (11:Int)
 else
 (p_conns_Check_l1 a0 (a0.length:Int) fuel (0:Int)).bind fun o19=>match o19 with
 | .inl q20 =>
  some q20
 | .inr q21 =>
  (p_conns_Check_l2 a0 fuel (1:Int)).bind fun o31=>match o31 with
  | .inl q32 =>
   some q32
  | .inr q33 =>
   (p_conns_Check_l3 a0 a0 (a0.length:Int) fuel (0:Int)).bind fun o49=>match o49 with
   | .inl q50 =>
    some q50
   | .inr q51 =>
    some (0:Int)
def p_conns_State_find_l1 (z6:List ConnsConn) (z7:Int):Nat→Int→Option (Int)
 | 0,_=>none
 | n + 1,y8 =>
  bif (decide (y8 < (z6.length:Int))) then
   (at? z6 y8).bind fun x10 =>
   bif (decide (x10.ID < z7)) then
    p_conns_State_find_l1 z6 z7 n (w64 (y8 + (1:Int)))
   else
   some y8
  else
  some y8
def p_conns_State_find (a0:List ConnsConn) (a1:Int):Option (Int × Bool) :=
 (p_conns_State_find_l1 a0 a1 fuel (0:Int)).bind fun q13 =>
 bif (decide (q13 < (a0.length:Int))) then
  (at? a0 q13).bind fun x15 =>
  some (q13,(x15.ID == a1))
 else
 some (q13,false)
def p_conns_Open (a0:List ConnsConn) (a1:Int) (a2:Int):Option ((List ConnsConn) × Int) :=
 (p_conns_Check a0).bind fun v1 =>
 bif (v1 != (0:Int)) then
  some (a0,v1)
 else
 (p_conns_State_find a0 a1).bind fun v3 =>
 (p_conns_Conn_numbered (ConnsConn.mk a1 a2 (⟨#[]⟩ : ByteArray) (⟨#[]⟩ : ByteArray) (0:Int) (DeframeState.mk (⟨#[]⟩ : ByteArray) (0:Int) (0:Int)))).bind fun v4 =>
 bif v4 then
  bif v3.2 then
   some (a0,(13:Int))
  else
  bif ((a0.length:Int) == (16:Int)) then
   some (a0,(7:Int))
  else
  (clone? a0).bind fun l8 =>
  (insAt? l8 v3.1 (ConnsConn.mk a1 a2 (⟨#[]⟩ : ByteArray) (⟨#[]⟩ : ByteArray) (0:Int) (DeframeState.mk (⟨#[]⟩ : ByteArray) (0:Int) (0:Int)))).bind fun v9 =>
  some (v9,(0:Int))
 else
 some (a0,(8:Int))
def p_conns_Find (a0:List ConnsConn) (a1:Int):Option (ConnsConn × Bool) :=
 (p_conns_Check a0).bind fun v1 =>
 bif (v1 != (0:Int)) then
  some ((ConnsConn.mk (0:Int) (0:Int) (⟨#[]⟩ : ByteArray) (⟨#[]⟩ : ByteArray) (0:Int) (DeframeState.mk (⟨#[]⟩ : ByteArray) (0:Int) (0:Int))),false)
 else
 (p_conns_State_find a0 a1).bind fun v3 =>
 bif v3.2 then
  (at? a0 v3.1).bind fun x5 =>
  some (x5,true)
 else
 some ((ConnsConn.mk (0:Int) (0:Int) (⟨#[]⟩ : ByteArray) (⟨#[]⟩ : ByteArray) (0:Int) (DeframeState.mk (⟨#[]⟩ : ByteArray) (0:Int) (0:Int))),false)
def p_conns_Close_1 (a0:ConnsConn) (c0:Int):Option (Bool) :=
 some (a0.ID == c0)
def p_conns_Close (a0:List ConnsConn) (a1:Int):Option ((List ConnsConn) × ConnsConn × Bool) :=
 (p_conns_Find a0 a1).bind fun v1 =>
 bif v1.2 then
  (clone? a0).bind fun l3 =>
  (delF? (fun x0=>p_conns_Close_1 x0 a1) l3).bind fun v4 =>
  some (v4,v1.1,true)
 else
 some (a0,v1.1,false)
def p_conns_State_with (a0:List ConnsConn) (a1:ConnsConn):Option ((List ConnsConn)) :=
 (clone? a0).bind fun l1 =>
 (p_conns_State_find l1 a1.ID).bind fun v2 =>
 (at? l1 v2.1).bind fun x3 =>
 some (List.set l1 (Int.toNat v2.1) a1)
def p_conns_Login (a0:List ConnsConn) (a1:Int) (a2:ByteArray) (a3:ByteArray):Option ((List ConnsConn) × Int) :=
 (p_conns_Check a0).bind fun v1 =>
 bif (v1 != (0:Int)) then
  some (a0,v1)
 else
 (p_conns_Find a0 a1).bind fun v3 =>
 bif v3.2 then
  bif (v3.1.User.toList == (⟨#[]⟩ : ByteArray).toList) then
   (p_pres_Key a2 a3).bind fun v6 =>
   bif (v6.toList == (⟨#[]⟩ : ByteArray).toList) then
    some (a0,(11:Int))
   else
   (p_conns_State_keyed a0 v6).bind fun v8 =>
   bif v8.2 then
    some (a0,(13:Int))
   else
   (p_conns_State_with a0 (ConnsConn.mk v3.1.ID v3.1.Source a2 a3 v3.1.Credit v3.1.In)).bind fun v10 =>
   some (v10,(0:Int))
  else
  some (a0,(9:Int))
 else
 some (a0,(6:Int))
def p_conns_Give (a0:List ConnsConn) (a1:Int) (a2:Int):Option ((List ConnsConn) × Bool) :=
 (p_conns_Find a0 a1).bind fun v1 =>
 bif v1.2 then
  bif (decide (a2 < (0:Int))) then
   some (a0,false)
  else
  (p_conns_State_with a0 (ConnsConn.mk v1.1.ID v1.1.Source v1.1.User v1.1.Res (w64 (v1.1.Credit + (if w64 ((1048576:Int) - v1.1.Credit) < a2 then w64 ((1048576:Int) - v1.1.Credit) else a2))) v1.1.In)).bind fun v4 =>
  some (v4,true)
 else
 some (a0,false)
def p_conns_Spend (a0:List ConnsConn) (a1:Int) (a2:Int):Option ((List ConnsConn) × Bool) :=
 (p_conns_Find a0 a1).bind fun v1 =>
 bif v1.2 then
  (p_conns_in a2 (0:Int) v1.1.Credit).bind fun v3 =>
  bif v3 then
   (p_conns_State_with a0 (ConnsConn.mk v1.1.ID v1.1.Source v1.1.User v1.1.Res (w64 (v1.1.Credit - a2)) v1.1.In)).bind fun v5 =>
   some (v5,true)
  else
  some (a0,false)
 else
 some (a0,false)
def p_conns_Feed (a0:List ConnsConn) (a1:Int) (a2:ByteArray):Option ((List ConnsConn) × (List DeframeItem) × Int) :=
 (p_conns_Check a0).bind fun v1 =>
 bif (v1 != (0:Int)) then
  some (a0,[],v1)
 else
 (p_conns_Find a0 a1).bind fun v3 =>
 bif v3.2 then
  (p_deframe_Feed v3.1.In a2).bind fun v5 =>
  (p_conns_State_with a0 (ConnsConn.mk v3.1.ID v3.1.Source v3.1.User v3.1.Res v3.1.Credit v5.1)).bind fun v6 =>
  some (v6,v5.2,v5.1.Bad)
 else
 some (a0,[],(6:Int))
def p_conns_ByKey (a0:List ConnsConn) (a1:ByteArray):Option (Int × Bool) :=
 (p_conns_Check a0).bind fun v1 =>
 bif (v1 != (0:Int)) then
  some ((0:Int),false)
 else
 (p_conns_State_keyed a0 a1).bind fun v3 =>
 bif v3.2 then
  (at? a0 v3.1).bind fun x5 =>
  some (x5.ID,true)
 else
 some ((0:Int),false)
def p_conns_Sessions_l1 (z10:ByteArray) (z12:List ConnsConn) (z13:Int):Nat→(List Int)→Int→Option (((List Int) × Int))
 | 0,_,_=>none
 | n + 1,y11,y14 =>
  bif (decide (y14 < z13)) then
   (at? z12 y14).bind fun x16 =>
   bif (x16.User.toList == z10.toList) then
    (app? y11 [x16.ID]).bind fun l18 =>
    p_conns_Sessions_l1 z10 z12 z13 n l18 (w64 (y14 + (1:Int)))
   else
   p_conns_Sessions_l1 z10 z12 z13 n y11 (w64 (y14 + (1:Int)))
  else
  some (y11,y14)
def p_conns_Sessions (a0:List ConnsConn) (a1:ByteArray):Option ((List Int)) :=
 bif (a1.toList == (⟨#[]⟩ : ByteArray).toList) then
  some []
 else
 (p_conns_Check a0).bind fun v2 =>
 bif (v2 != (0:Int)) then
  some []
 else
 (p_conns_Sessions_l1 a1 a0 (a0.length:Int) fuel [] (0:Int)).bind fun q20 =>
 some q20.1
def p_slices_Equal_conns_State_conns_Conn__l1 (z7:List ConnsConn) (z8:List ConnsConn) (z9:Int):Nat→Int→Option (Bool ⊕ Int)
 | 0,_=>none
 | n + 1,y10 =>
  bif (decide (y10 < z9)) then
   (at? z7 y10).bind fun x12 =>
   (at? z8 y10).bind fun x13 =>
   bif ((x12.ID == x13.ID) && ((x12.Source == x13.Source) && ((x12.User.toList == x13.User.toList) && ((x12.Res.toList == x13.Res.toList) && ((x12.Credit == x13.Credit) && ((x12.In.Buf.toList == x13.In.Buf.toList) && ((x12.In.Bad == x13.In.Bad) && ((x12.In.Seen == x13.In.Seen) && true)))))))) then
    p_slices_Equal_conns_State_conns_Conn__l1 z7 z8 z9 n (w64 (y10 + (1:Int)))
   else
   some (.inl false)
  else
  some (.inr y10)
def p_slices_Equal_conns_State_conns_Conn_ (a0:List ConnsConn) (a1:List ConnsConn):Option (Bool) :=
 bif ((a0.length:Int) != (a1.length:Int)) then
  some false
 else
 (p_slices_Equal_conns_State_conns_Conn__l1 a0 a1 (a0.length:Int) fuel (0:Int)).bind fun o15=>match o15 with
 | .inl q16 =>
  some q16
 | .inr q17 =>
  some true
def p_conns_Same (a0:List ConnsConn) (a1:List ConnsConn):Option (Bool) :=
 (p_slices_Equal_conns_State_conns_Conn_ a0 a1).bind fun v1 =>
 some v1
def p_ref31_in (a0:Int) (a1:Int) (a2:Int):Option (Bool) :=
 bif (decide (a1≤a0)) then
  some (decide (a0≤a2))
 else
 some false
def p_ref23_named (a0:ByteArray) (a1:ByteArray):Option (Bool) :=
 (p_ref09_IsBare a0).bind fun v1 =>
 bif v1 then
  (p_ref09_Resource a1).bind fun v3 =>
  some (v3 == (0:Int))
 else
 some false
def p_ref23_Key (a0:ByteArray) (a1:ByteArray):Option (ByteArray) :=
 (p_ref23_named a0 a1).bind fun v1 =>
 bif v1 then
  (cat? a0 (⟨#[32]⟩ : ByteArray)).bind fun s3 =>
  (cat? s3 a1).bind fun s4 =>
  some s4
 else
 some (⟨#[]⟩ : ByteArray)
def p_ref31_Key (a0:ConnsConn):Option (ByteArray) :=
 bif (a0.User.toList == (⟨#[]⟩ : ByteArray).toList) then
  some (⟨#[]⟩ : ByteArray)
 else
 (p_ref23_Key a0.User a0.Res).bind fun v2 =>
 some v2
def p_ref31_numbers_l1 (z4:List ConnsConn):Nat→Int→Option (Int ⊕ Int)
 | 0,_=>none
 | n + 1,y5 =>
  bif (decide (y5 < (z4.length:Int))) then
   (at? z4 y5).bind fun x7 =>
   (p_ref31_in x7.ID (0:Int) (255:Int)).bind fun v8 =>
   bif v8 then
    (at? z4 y5).bind fun x10 =>
    (p_ref31_in x10.Source (0:Int) (65535:Int)).bind fun v11 =>
    bif v11 then
     (at? z4 y5).bind fun x13 =>
     (p_ref31_in x13.Credit (0:Int) (1048576:Int)).bind fun v14 =>
     bif v14 then
      p_ref31_numbers_l1 z4 n (w64 (y5 + (1:Int)))
     else
     some (.inl (8:Int))
    else
    some (.inl (8:Int))
   else
   some (.inl (8:Int))
  else
  some (.inr y5)
def p_ref31_numbers_l2 (z22:List ConnsConn):Nat→Int→Option (Int ⊕ Int)
 | 0,_=>none
 | n + 1,y23 =>
  bif (decide (y23 < (z22.length:Int))) then
   (at? z22 y23).bind fun x25 =>
   bif (x25.User.toList == (⟨#[]⟩ : ByteArray).toList) then
    (at? z22 y23).bind fun x27 =>
    bif (x27.Res.toList == (⟨#[]⟩ : ByteArray).toList) then
     (at? z22 y23).bind fun x29 =>
     bif (x29.User.toList == (⟨#[]⟩ : ByteArray).toList) then
      p_ref31_numbers_l2 z22 n (w64 (y23 + (1:Int)))
     else
     (at? z22 y23).bind fun x31 =>
     (p_ref31_Key x31).bind fun v32 =>
     bif (v32.toList == (⟨#[]⟩ : ByteArray).toList) then
      some (.inl (11:Int))
     else
     p_ref31_numbers_l2 z22 n (w64 (y23 + (1:Int)))
    else
    some (.inl (11:Int))
   else
   (at? z22 y23).bind fun x34 =>
   bif (x34.User.toList == (⟨#[]⟩ : ByteArray).toList) then
    p_ref31_numbers_l2 z22 n (w64 (y23 + (1:Int)))
   else
   (at? z22 y23).bind fun x36 =>
   (p_ref31_Key x36).bind fun v37 =>
   bif (v37.toList == (⟨#[]⟩ : ByteArray).toList) then
    some (.inl (11:Int))
   else
   p_ref31_numbers_l2 z22 n (w64 (y23 + (1:Int)))
  else
  some (.inr y23)
def p_ref31_numbers (a0:List ConnsConn):Option (Int) :=
 (p_ref31_numbers_l1 a0 fuel (0:Int)).bind fun o16=>match o16 with
 | .inl q17 =>
  some q17
 | .inr q18 =>
  (p_ref31_numbers_l2 a0 fuel (0:Int)).bind fun o39=>match o39 with
  | .inl q40 =>
   some q40
  | .inr q41 =>
   some (0:Int)
def p_ref31_keyed_l1 (z5:List ConnsConn) (z6:ByteArray):Nat→Int→Option (Int ⊕ Int)
 | 0,_=>none
 | n + 1,y7 =>
  bif (decide (y7 < (z5.length:Int))) then
   bif (z6.toList == (⟨#[]⟩ : ByteArray).toList) then
    p_ref31_keyed_l1 z5 z6 n (w64 (y7 + (1:Int)))
   else
   (at? z5 y7).bind fun x10 =>
   (p_ref31_Key x10).bind fun v11 =>
   bif (v11.toList == z6.toList) then
    some (.inl y7)
   else
   p_ref31_keyed_l1 z5 z6 n (w64 (y7 + (1:Int)))
  else
  some (.inr y7)
def p_ref31_keyed (a0:List ConnsConn) (a1:ByteArray):Option (Int) :=
 (p_ref31_keyed_l1 a0 a1 fuel (0:Int)).bind fun o13=>match o13 with
 | .inl q14 =>
  some q14
 | .inr q15 =>
  some (-1:Int)
def p_ref31_Check_l1 (z8:List ConnsConn):Nat→Int→Option (Int ⊕ Int)
 | 0,_=>none
 | n + 1,y9 =>
  bif (decide (y9 < (z8.length:Int))) then
   (at? z8 y9).bind fun x11 =>
   (p_ref12_Check x11.In).bind fun v12 =>
   bif (v12 != (0:Int)) then
    (at? z8 y9).bind fun x14 =>
    (p_ref12_Check x14.In).bind fun v15 =>
    some (.inl v15)
   else
   p_ref31_Check_l1 z8 n (w64 (y9 + (1:Int)))
  else
  some (.inr y9)
def p_ref31_Check_l2 (z22:List ConnsConn):Nat→Int→Option (Int ⊕ Int)
 | 0,_=>none
 | n + 1,y23 =>
  bif (decide (y23 < (z22.length:Int))) then
   (at? z22 (w64 (y23 - (1:Int)))).bind fun x25 =>
   (at? z22 y23).bind fun x26 =>
   bif (decide (x26.ID≤x25.ID)) then
    some (.inl (10:Int))
   else
   p_ref31_Check_l2 z22 n (w64 (y23 + (1:Int)))
  else
  some (.inr y23)
def p_ref31_Check_l3 (z34:List ConnsConn):Nat→Int→Option (Int ⊕ Int)
 | 0,_=>none
 | n + 1,y35 =>
  bif (decide (y35 < (z34.length:Int))) then
   (at? z34 y35).bind fun x37 =>
   (p_ref31_Key x37).bind fun v38 =>
   bif (v38.toList == (⟨#[]⟩ : ByteArray).toList) then
    p_ref31_Check_l3 z34 n (w64 (y35 + (1:Int)))
   else
   (at? z34 y35).bind fun x40 =>
   (p_ref31_Key x40).bind fun v41 =>
   (p_ref31_keyed z34 v41).bind fun v42 =>
   bif (v42 != y35) then
    some (.inl (13:Int))
   else
   p_ref31_Check_l3 z34 n (w64 (y35 + (1:Int)))
  else
  some (.inr y35)
def p_ref31_Check (a0:List ConnsConn):Option (Int) :=
 bif (decide ((16:Int) < (a0.length:Int))) then
  some (5:Int)
 else
 (p_ref31_numbers a0).bind fun v2 =>
 bif (v2 != (0:Int)) then
  (p_ref31_numbers a0).bind fun v4 =>
  some v4
 else
 (p_ref31_Check_l1 a0 fuel (0:Int)).bind fun o16=>match o16 with
 | .inl q17 =>
  some q17
 | .inr q18 =>
  (p_ref31_Check_l2 a0 fuel (1:Int)).bind fun o28=>match o28 with
  | .inl q29 =>
   some q29
  | .inr q30 =>
   (p_ref31_Check_l3 a0 fuel (0:Int)).bind fun o44=>match o44 with
   | .inl q45 =>
    some q45
   | .inr q46 =>
    some (0:Int)
def p_ref31_place_l1 (z5:List ConnsConn) (z6:Int):Nat→Int→Option (Int ⊕ Int)
 | 0,_=>none
 | n + 1,y7 =>
  bif (decide (y7 < (z5.length:Int))) then
   (at? z5 y7).bind fun x9 =>
   bif (x9.ID == z6) then
    some (.inl y7)
   else
   p_ref31_place_l1 z5 z6 n (w64 (y7 + (1:Int)))
  else
  some (.inr y7)
def p_ref31_place (a0:List ConnsConn) (a1:Int):Option (Int) :=
 (p_ref31_place_l1 a0 a1 fuel (0:Int)).bind fun o11=>match o11 with
 | .inl q12 =>
  some q12
 | .inr q13 =>
  some (-1:Int)
def p_ref31_Open_l1 (z17:List ConnsConn) (z18:Int):Nat→Int→Option (Int)
 | 0,_=>none
 | n + 1,y20 =>
  bif (decide (y20 < (z17.length:Int))) then
   (at? z17 y20).bind fun x22 =>
   bif (decide (x22.ID < z18)) then
    p_ref31_Open_l1 z17 z18 n (w64 (y20 + (1:Int)))
   else
   some y20
  else
  some y20
def p_ref31_Open (a0:List ConnsConn) (a1:Int) (a2:Int):Option ((List ConnsConn) × Int) :=
 (p_ref31_Check a0).bind fun v1 =>
 bif (v1 != (0:Int)) then
  (p_ref31_Check a0).bind fun v3 =>
  some (a0,v3)
 else
 (p_ref31_in a1 (0:Int) (255:Int)).bind fun v4 =>
 bif v4 then
  (p_ref31_in a2 (0:Int) (65535:Int)).bind fun v6 =>
  bif v6 then
   (p_ref31_place a0 a1).bind fun v8 =>
   bif (decide ((0:Int)≤v8)) then
    some (a0,(13:Int))
   else
   bif (decide ((16:Int)≤(a0.length:Int))) then
    some (a0,(7:Int))
   else
   (p_ref31_Open_l1 a0 a1 fuel (0:Int)).bind fun q25 =>
   (cut? a0 none (some q25)).bind fun x26 =>
   (app? ([]:List ConnsConn) x26).bind fun l27 =>
   (app? l27 [(ConnsConn.mk a1 a2 (⟨#[]⟩ : ByteArray) (⟨#[]⟩ : ByteArray) (0:Int) (DeframeState.mk (⟨#[]⟩ : ByteArray) (0:Int) (0:Int)))]).bind fun l28 =>
   (cut? a0 (some q25) none).bind fun x29 =>
   (app? l28 x29).bind fun l30 =>
   some (l30,(0:Int))
  else
  some (a0,(8:Int))
 else
 some (a0,(8:Int))
def p_ref31_Find (a0:List ConnsConn) (a1:Int):Option (ConnsConn × Bool) :=
 (p_ref31_place a0 a1).bind fun v1 =>
 (p_ref31_Check a0).bind fun v2 =>
 bif (v2 != (0:Int)) then
  some ((ConnsConn.mk (0:Int) (0:Int) (⟨#[]⟩ : ByteArray) (⟨#[]⟩ : ByteArray) (0:Int) (DeframeState.mk (⟨#[]⟩ : ByteArray) (0:Int) (0:Int))),false)
 else
 bif (decide (v1 < (0:Int))) then
  some ((ConnsConn.mk (0:Int) (0:Int) (⟨#[]⟩ : ByteArray) (⟨#[]⟩ : ByteArray) (0:Int) (DeframeState.mk (⟨#[]⟩ : ByteArray) (0:Int) (0:Int))),false)
 else
 (at? a0 v1).bind fun x5 =>
 some (x5,true)
def p_ref31_Close (a0:List ConnsConn) (a1:Int):Option ((List ConnsConn) × ConnsConn × Bool) :=
 (p_ref31_Find a0 a1).bind fun v1 =>
 bif v1.2 then
  (p_ref31_place a0 a1).bind fun v3 =>
  (cut? a0 none (some v3)).bind fun x4 =>
  (app? ([]:List ConnsConn) x4).bind fun l5 =>
  (cut? a0 (some (w64 (v3 + (1:Int)))) none).bind fun x6 =>
  (app? l5 x6).bind fun l7 =>
  some (l7,v1.1,true)
 else
 some (a0,(ConnsConn.mk (0:Int) (0:Int) (⟨#[]⟩ : ByteArray) (⟨#[]⟩ : ByteArray) (0:Int) (DeframeState.mk (⟨#[]⟩ : ByteArray) (0:Int) (0:Int))),false)
def p_ref31_with (a0:List ConnsConn) (a1:Int) (a2:ConnsConn):Option ((List ConnsConn)) :=
 (app? ([]:List ConnsConn) a0).bind fun l1 =>
 (at? l1 a1).bind fun x2 =>
 some (List.set l1 (Int.toNat a1) a2)
def p_ref31_Login (a0:List ConnsConn) (a1:Int) (a2:ByteArray) (a3:ByteArray):Option ((List ConnsConn) × Int) :=
 (p_ref31_place a0 a1).bind fun v1 =>
 (p_ref31_Check a0).bind fun v2 =>
 bif (v2 != (0:Int)) then
  (p_ref31_Check a0).bind fun v4 =>
  some (a0,v4)
 else
 bif (decide (v1 < (0:Int))) then
  some (a0,(6:Int))
 else
 (at? a0 v1).bind fun x6 =>
 bif (x6.User.toList == (⟨#[]⟩ : ByteArray).toList) then
  (p_ref23_Key a2 a3).bind fun v8 =>
  bif (v8.toList == (⟨#[]⟩ : ByteArray).toList) then
   some (a0,(11:Int))
  else
  (p_ref23_Key a2 a3).bind fun v10 =>
  (p_ref31_keyed a0 v10).bind fun v11 =>
  bif (decide ((0:Int)≤v11)) then
   some (a0,(13:Int))
  else
  (at? a0 v1).bind fun x13 =>
  (p_ref31_with a0 v1 (ConnsConn.mk x13.ID x13.Source a2 a3 x13.Credit x13.In)).bind fun v14 =>
  some (v14,(0:Int))
 else
 some (a0,(9:Int))
def p_ref31_Give (a0:List ConnsConn) (a1:Int) (a2:Int):Option ((List ConnsConn) × Bool) :=
 (p_ref31_Find a0 a1).bind fun v1 =>
 bif v1.2 then
  bif (decide (a2 < (0:Int))) then
   some (a0,false)
  else
  (p_ref31_place a0 a1).bind fun v4 =>
  (p_ref31_with a0 v4 (ConnsConn.mk v1.1.ID v1.1.Source v1.1.User v1.1.Res (w64 (v1.1.Credit + (if w64 ((1048576:Int) - v1.1.Credit) < a2 then w64 ((1048576:Int) - v1.1.Credit) else a2))) v1.1.In)).bind fun v5 =>
  some (v5,true)
 else
 some (a0,false)
def p_ref31_Spend (a0:List ConnsConn) (a1:Int) (a2:Int):Option ((List ConnsConn) × Bool) :=
 (p_ref31_Find a0 a1).bind fun v1 =>
 bif v1.2 then
  bif (decide (a2 < (0:Int))) then
   some (a0,false)
  else
  bif (decide (v1.1.Credit < a2)) then
   some (a0,false)
  else
  (p_ref31_place a0 a1).bind fun v5 =>
  (p_ref31_with a0 v5 (ConnsConn.mk v1.1.ID v1.1.Source v1.1.User v1.1.Res (w64 (v1.1.Credit - a2)) v1.1.In)).bind fun v6 =>
  some (v6,true)
 else
 some (a0,false)
def p_ref31_Feed (a0:List ConnsConn) (a1:Int) (a2:ByteArray):Option ((List ConnsConn) × (List DeframeItem) × Int) :=
 (p_ref31_Find a0 a1).bind fun v1 =>
 (p_ref31_Check a0).bind fun v2 =>
 bif (v2 != (0:Int)) then
  (p_ref31_Check a0).bind fun v4 =>
  some (a0,[],v4)
 else
 bif v1.2 then
  (p_ref12_Feed v1.1.In a2).bind fun v6 =>
  (p_ref31_place a0 a1).bind fun v7 =>
  (p_ref31_with a0 v7 (ConnsConn.mk v1.1.ID v1.1.Source v1.1.User v1.1.Res v1.1.Credit v6.1)).bind fun v8 =>
  some (v8,v6.2,v6.1.Bad)
 else
 some (a0,[],(6:Int))
def p_ref31_Same_l1 (z6:List ConnsConn) (z7:List ConnsConn):Nat→Int→Option (Bool ⊕ Int)
 | 0,_=>none
 | n + 1,y8 =>
  bif (decide (y8 < (z6.length:Int))) then
   (at? z6 y8).bind fun x10 =>
   (at? z7 y8).bind fun x11 =>
   bif ((x10.ID == x11.ID) && ((x10.Source == x11.Source) && ((x10.User.toList == x11.User.toList) && ((x10.Res.toList == x11.Res.toList) && ((x10.Credit == x11.Credit) && ((x10.In.Buf.toList == x11.In.Buf.toList) && ((x10.In.Bad == x11.In.Bad) && ((x10.In.Seen == x11.In.Seen) && true)))))))) then
    p_ref31_Same_l1 z6 z7 n (w64 (y8 + (1:Int)))
   else
   some (.inl false)
  else
  some (.inr y8)
def p_ref31_Same (a0:List ConnsConn) (a1:List ConnsConn):Option (Bool) :=
 bif ((a0.length:Int) != (a1.length:Int)) then
  some false
 else
 (p_ref31_Same_l1 a0 a1 fuel (0:Int)).bind fun o13=>match o13 with
 | .inl q14 =>
  some q14
 | .inr q15 =>
  some true
def p_ref01_SameInts_l1 (z6:List Int) (z7:List Int):Nat→Int→Option (Bool ⊕ Int)
 | 0,_=>none
 | n + 1,y8 =>
  bif (decide (y8 < (z6.length:Int))) then
   (at? z6 y8).bind fun x10 =>
   (at? z7 y8).bind fun x11 =>
   bif (x10 != x11) then
    some (.inl false)
   else
   p_ref01_SameInts_l1 z6 z7 n (w64 (y8 + (1:Int)))
  else
  some (.inr y8)
def p_ref01_SameInts (a0:List Int) (a1:List Int):Option (Bool) :=
 bif ((a0.length:Int) != (a1.length:Int)) then
  some false
 else
 (p_ref01_SameInts_l1 a0 a1 fuel (0:Int)).bind fun o13=>match o13 with
 | .inl q14 =>
  some q14
 | .inr q15 =>
  some true
end Go.Proofs.YtdbigmjlhkgeoaaGreat

namespace Go.Proofs.YtdbigmjlhkgeoaaGreat
open Go.RowKit
def tru? (m:Option Bool):Option Bool:=if m=some true then some true else none
theorem tru_of {m:Option Bool} {r:Bool} (h:tru? m=some r):r=true∧m=some true:=by
 unfold tru? at h
 split at h
 ·exact ⟨(Option.some.inj h).symm,‹_›⟩
 ·cases h
theorem tru_ok {m:Option Bool} (h:m=some true):tru? m=some true:=if_pos h
theorem tru_closed {P:Program} {k:FuncId} {vs:List V} {m:Option Bool} (h:CallsO P k vs V.b (tru? m)) (hm:m=some true):CallsO P k vs V.b m:=fun v hv=>by
 rw [hm] at hv
 cases hv
 exact h true (tru_ok hm)
theorem tstT_c {b:Bool} {A B:Prop} {X:Option Bool} (H:(bif b then X else some false)=some true) (h:b=true→X=some true→A):Tst b A B :=
 tst_c H h fun _ h=>by cases h
theorem tstF_c {b:Bool} {A B:Prop} {X:Option Bool} (H:(bif b then some false else X)=some true) (h:b=false→X=some true→B):Tst b A B :=
 tst_c H (fun _ h=>by cases h) h
structure GrowRoads (P:Program) (k:FuncId) (es:Nat) (E:TypeId):Prop where
 some_:∀ (b:Option Addr) (n:Nat) (w:World),0 < n→n≤1000000→Calls P k #[.slice b 0 0,.int .i64 n] w fun e w'=>∃ (ZS:Array Value) (c:Nat),e=.returned (.slice (some ⟨w.heap.size,0,none⟩) 0 c)∧w'=w.drew.alloc (.cells ZS E)∧c * es≤ZS.size
 zero_:∀ (b:Option Addr) (w:World),Calls P k #[.slice b 0 0,.int .i64 0] w fun e w'=>e=.returned (.slice b 0 0)∧w'=w
end Go.Proofs.YtdbigmjlhkgeoaaGreat

namespace Go.Proofs.YtdbigmjlhkgeoaaGreat
open Go.RowKit
def p_law31_awake:Option (Bool) :=
 (p_conns_Open [] (3:Int) (9:Int)).bind fun v1 =>
 (p_conns_Open v1.1 (1:Int) (9:Int)).bind fun v2 =>
 (p_conns_Login v2.1 (3:Int) (⟨#[97,64,98]⟩ : ByteArray) (⟨#[120]⟩ : ByteArray)).bind fun v3 =>
 (p_conns_Login v3.1 (1:Int) (⟨#[97,64,98]⟩ : ByteArray) (⟨#[120]⟩ : ByteArray)).bind fun v4 =>
 (p_conns_Give v3.1 (1:Int) (50:Int)).bind fun v5 =>
 (p_conns_Spend v5.1 (1:Int) (20:Int)).bind fun v6 =>
 (p_conns_Spend v6.1 (1:Int) (31:Int)).bind fun v7 =>
 (p_conns_Feed v6.1 (1:Int) (⟨#[0,1,2,0,0]⟩ : ByteArray)).bind fun v8 =>
 (p_conns_Close v8.1 (3:Int)).bind fun v9 =>
 (p_conns_ByKey v8.1 (⟨#[97,64,98,32,120]⟩ : ByteArray)).bind fun v10 =>
 (p_conns_Find v6.1 (1:Int)).bind fun v11 =>
 bif (v1.2 == (0:Int)) then
  bif (v2.2 == (0:Int)) then
   bif (v3.2 == (0:Int)) then
    bif (v4.2 == (13:Int)) then
     bif v5.2 then
      bif v6.2 then
       bif v7.2 then
        some false
       else
       bif (v11.1.Credit == (30:Int)) then
        bif v11.2 then
         bif ((v8.2.1.length:Int) == (1:Int)) then
          bif (v8.2.2 == (4:Int)) then
           bif ((v9.1.length:Int) == (1:Int)) then
            bif v9.2.2 then
             (p_conns_Key v9.2.1).bind fun v25 =>
             bif (v25.toList == (⟨#[97,64,98,32,120]⟩ : ByteArray).toList) then
              bif (v10.1 == (3:Int)) then
               bif v10.2 then
                (p_conns_Sessions v8.1 (⟨#[97,64,98]⟩ : ByteArray)).bind fun v29 =>
                (p_ref01_SameInts v29 [(3:Int)]).bind fun v30 =>
                bif v30 then
                 (p_conns_Check v8.1).bind fun v32 =>
                 bif (v32 == (0:Int)) then
                  (p_conns_Check [(ConnsConn.mk (-1:Int) (0:Int) (⟨#[]⟩ : ByteArray) (⟨#[]⟩ : ByteArray) (0:Int) (DeframeState.mk (⟨#[]⟩ : ByteArray) (0:Int) (0:Int)))]).bind fun v34 =>
                  bif (v34 == (8:Int)) then
                   (p_conns_Same v9.1 v8.1).bind fun v36 =>
                   bif v36 then
                    some false
                   else
                   (p_conns_Same v8.1 v8.1).bind fun v38 =>
                   bif v38 then
                    some true
                   else
                   some false
                  else
                  some false
                 else
                 some false
                else
                some false
               else
               some false
              else
              some false
             else
             some false
            else
            some false
           else
           some false
          else
          some false
         else
         some false
        else
        some false
       else
       some false
      else
      some false
     else
     some false
    else
    some false
   else
   some false
  else
  some false
 else
 some false
end Go.Proofs.YtdbigmjlhkgeoaaGreat

namespace Go.Proofs.YtdbigmjlhkgeoaaGreat
open Go.RowKit
def p_law31_ConnsKeeps_l2 (z50:ByteArray) (z56:List Law31One):Nat→Bool→Int→Option ((Bool × Int))
 | 0,_,_=>none
 | n + 1,y53,y54 =>
  bif (decide (y54 < (20:Int))) then
   bif y53 then
    (arr? 20 z56 y54).bind fun x59 =>
    p_law31_ConnsKeeps_l2 z50 z56 n (!(x59.key.toList == z50.toList)) (w64 (y54 + (1:Int)))
   else
   p_law31_ConnsKeeps_l2 z50 z56 n false (w64 (y54 + (1:Int)))
  else
  some (y53,y54)
def p_law31_ConnsKeeps_l3 (z94:List ConnsConn) (z97:List Law31One):Nat→Int→Int→Option (Bool ⊕ (Int × Int))
 | 0,_,_=>none
 | n + 1,y95,y96 =>
  bif (decide (y96 < (20:Int))) then
   (p_conns_Find z94 y96).bind fun v99 =>
   (arr? 20 z97 y96).bind fun x100 =>
   bif (v99.2 != x100.open_) then
    some (.inl false)
   else
   bif v99.2 then
    (p_conns_Key v99.1).bind fun v104 =>
    (arr? 20 z97 y96).bind fun x105 =>
    bif (v104.toList == x105.key.toList) then
     (arr? 20 z97 y96).bind fun x108 =>
     bif (v99.1.Credit != x108.credit) then
      some (.inl false)
     else
     p_law31_ConnsKeeps_l3 z94 z97 n (w64 (y95 + (1:Int))) (w64 (y96 + (1:Int)))
    else
    some (.inl false)
   else
   p_law31_ConnsKeeps_l3 z94 z97 n y95 (w64 (y96 + (1:Int)))
  else
  some (.inr (y95,y96))
def p_law31_ConnsKeeps_l1 (z8:List Law31Deed):Nat→(List ConnsConn)→Int→(List Law31One)→Option (Bool ⊕ ((List ConnsConn) × Int × (List Law31One)))
 | 0,_,_,_=>none
 | n + 1,y9,y10,y11 =>
  bif (decide (y10 < (z8.length:Int))) then
   (at? z8 y10).bind fun x13 =>
   (at? z8 y10).bind fun x14 =>
   (text? [IntKind.wrap .u8 ((97:Int) + (Int.tmod x14.Who (3:Int)))]).bind fun s15 =>
   (cat? s15 (⟨#[64,120]⟩ : ByteArray)).bind fun s16 =>
   (at? z8 y10).bind fun x17 =>
   (text? [IntKind.wrap .u8 ((114:Int) + (Int.tmod (IntKind.wrap .u8 (Int.tdiv x17.Who (3:Int))) (3:Int)))]).bind fun s18 =>
   (p_pres_Key s16 s18).bind fun v19 =>
   (at? z8 y10).bind fun x20 =>
   (arr? 20 y11 (w64 (Int.tmod x13.ID (20:Int)))).bind fun x21 =>
   ((
    (at? z8 y10).bind fun x23 =>
    bif ((Int.tmod x23.Kind (5:Int)) == (0:Int)) then
     (p_conns_Open y9 (w64 (Int.tmod x13.ID (20:Int))) (w64 x20.N)).bind fun v25 =>
     bif x21.open_ then
      some (v25.1,(v25.2 == (0:Int)),false,(Law31One.mk true (⟨#[]⟩ : ByteArray) (0:Int)))
     else
     some (v25.1,(v25.2 == (0:Int)),(decide ((y9.length:Int) < (16:Int))),(Law31One.mk true (⟨#[]⟩ : ByteArray) (0:Int)))
    else
    bif ((Int.tmod x23.Kind (5:Int)) == (1:Int)) then
     (p_conns_Close y9 (w64 (Int.tmod x13.ID (20:Int)))).bind fun v28 =>
     some (v28.1,v28.2.2,x21.open_,(Law31One.mk false (⟨#[]⟩ : ByteArray) (0:Int)))
    else
    bif ((Int.tmod x23.Kind (5:Int)) == (2:Int)) then
     (p_conns_Login y9 (w64 (Int.tmod x13.ID (20:Int))) s16 s18).bind fun v30 =>
     ((
      bif x21.open_ then
       some (x21.key.toList == (⟨#[]⟩ : ByteArray).toList)
      else
      some false):Option (Bool)).bind fun q33 =>
     (p_law31_ConnsKeeps_l2 v19 y11 fuel q33 (0:Int)).bind fun q62 =>
     some (v30.1,(v30.2 == (0:Int)),q62.1,(Law31One.mk x21.open_ v19 x21.credit))
    else
    bif ((Int.tmod x23.Kind (5:Int)) == (3:Int)) then
     (p_conns_Give y9 (w64 (Int.tmod x13.ID (20:Int))) (w64 x20.N)).bind fun v64 =>
     some (v64.1,v64.2,x21.open_,(Law31One.mk x21.open_ x21.key (if w64 (x21.credit + w64 x20.N) < (1048576:Int) then w64 (x21.credit + w64 x20.N) else (1048576:Int))))
    else
    (p_conns_Spend y9 (w64 (Int.tmod x13.ID (20:Int))) (w64 x20.N)).bind fun v65 =>
    bif x21.open_ then
     some (v65.1,v65.2,(decide (w64 x20.N≤x21.credit)),(Law31One.mk x21.open_ x21.key (w64 (x21.credit - w64 x20.N))))
    else
    some (v65.1,v65.2,false,(Law31One.mk x21.open_ x21.key (w64 (x21.credit - w64 x20.N))))):Option (((List ConnsConn) × Bool × Bool × Law31One))).bind fun q68 =>
   ((
    bif (q68.2.1 != q68.2.2.1) then
     some (.inl false)
    else
    (p_conns_Check q68.1).bind fun v70 =>
    bif (v70 != (0:Int)) then
     some (.inl false)
    else
    bif q68.2.1 then
     some (.inr ())
    else
    (p_conns_Same q68.1 y9).bind fun v73 =>
    bif v73 then
     some (.inr ())
    else
    some (.inl false)):Option (Bool ⊕ Unit)).bind fun o75=>match o75 with
   | .inl q76 =>
    some (.inl q76)
   | .inr q77 =>
    ((
     bif q68.2.1 then
      (arr? 20 y11 (w64 (Int.tmod x13.ID (20:Int)))).bind fun x79 =>
      some (List.set y11 (Int.toNat (w64 (Int.tmod x13.ID (20:Int)))) q68.2.2.2)
     else
     some y11):Option ((List Law31One))).bind fun q82 =>
    (p_law31_ConnsKeeps_l3 q68.1 q82 fuel (0:Int) (0:Int)).bind fun o111=>match o111 with
    | .inl q112 =>
     some (.inl q112)
    | .inr q113 =>
     bif (q113.1 != (q68.1.length:Int)) then
      some (.inl false)
     else
     p_law31_ConnsKeeps_l1 z8 n q68.1 (w64 (y10 + (1:Int))) q82
  else
  some (.inr (y9,y10,y11))
def p_law31_ConnsKeeps (a0:List Law31Deed):Option (Bool) :=
 bif (decide ((100:Int) < (a0.length:Int))) then
  (p_law31_awake).bind fun v2 =>
  some v2
 else
 (p_law31_ConnsKeeps_l1 a0 fuel [] (0:Int) (List.replicate 20 (Law31One.mk false (⟨#[]⟩ : ByteArray) (0:Int)))).bind fun o115=>match o115 with
 | .inl q116 =>
  some q116
 | .inr q117 =>
  (p_law31_awake).bind fun v118 =>
  some v118
end Go.Proofs.YtdbigmjlhkgeoaaGreat

namespace Go.Proofs.YtdbigmjlhkgeoaaGreat
open Go.ChangeShapes Go.WideShapes Go.ChangeAt Go.RowKit Go.Joins Go.Deep
structure Law31Deed.Wf (x:Law31Deed):Prop where
 Kind:(Lit.int .u8 x.Kind).wf=true
 ID:(Lit.int .u8 x.ID).wf=true
 Who:(Lit.int .u8 x.Who).wf=true
 N:(Lit.int .u16 x.N).wf=true
set_option maxRecDepth 100000 in
theorem rd_T87 {H:Type} {enc:TypeId × Value→H} {W:World} {spare:Nat→Bool} {held:Bool} {fuel:Nat} {cs:List Value} {y:DataW H × List MemPlace} (h:DataW.trod enc Tryz.prog W 0 spare held fuel 87 cs=some y):∃ x:Law31Deed,Law31Deed.Wf x∧RepL (MW W) noBk cs [.y8 x.Kind,.y8 x.ID,.y8 x.Who,.lit (.int .u16 x.N)]:=by
 obtain ⟨xs,n,_,_,hl,hx,hall⟩:=DataW.trod_struct Tryz.underlying87 h
 have hce:Tryz.prog.cellsOf 87=4:=by kernel_rfl
 rw [hce] at hl
 match cs,hl,hall with
 | [c0,c1,c2,c3],_,hall =>
  obtain ⟨y0,hy0⟩:=get_some hx (show 0 < 4 by omega)
  have g0:DataW.trod enc Tryz.prog W 0 spare held n 5 [c0]=some y0:=by
   have hz:Tryz.prog.cellsOf 5=1:=by kernel_rfl
   have g:DataW.trod enc Tryz.prog W 0 spare held n 5 (([c0,c1,c2,c3].drop 0).take (Tryz.prog.cellsOf 5))=some y0:=(hall 0 _ rfl).trans hy0
   rw [hz] at g;exact g
  obtain ⟨x0,w0,r0⟩:=rd_int Tryz.underlying5 g0
  obtain ⟨y1,hy1⟩:=get_some hx (show 1 < 4 by omega)
  have g1:DataW.trod enc Tryz.prog W 0 spare held n 5 [c1]=some y1:=by
   have hz:Tryz.prog.cellsOf 5=1:=by kernel_rfl
   have g:DataW.trod enc Tryz.prog W 0 spare held n 5 (([c0,c1,c2,c3].drop 1).take (Tryz.prog.cellsOf 5))=some y1:=(hall 1 _ rfl).trans hy1
   rw [hz] at g;exact g
  obtain ⟨x1,w1,r1⟩:=rd_int Tryz.underlying5 g1
  obtain ⟨y2,hy2⟩:=get_some hx (show 2 < 4 by omega)
  have g2:DataW.trod enc Tryz.prog W 0 spare held n 5 [c2]=some y2:=by
   have hz:Tryz.prog.cellsOf 5=1:=by kernel_rfl
   have g:DataW.trod enc Tryz.prog W 0 spare held n 5 (([c0,c1,c2,c3].drop 2).take (Tryz.prog.cellsOf 5))=some y2:=(hall 2 _ rfl).trans hy2
   rw [hz] at g;exact g
  obtain ⟨x2,w2,r2⟩:=rd_int Tryz.underlying5 g2
  obtain ⟨y3,hy3⟩:=get_some hx (show 3 < 4 by omega)
  have g3:DataW.trod enc Tryz.prog W 0 spare held n 85 [c3]=some y3:=by
   have hz:Tryz.prog.cellsOf 85=1:=by kernel_rfl
   have g:DataW.trod enc Tryz.prog W 0 spare held n 85 (([c0,c1,c2,c3].drop 3).take (Tryz.prog.cellsOf 85))=some y3:=(hall 3 _ rfl).trans hy3
   rw [hz] at g;exact g
  obtain ⟨x3,w3,r3⟩:=rd_int Tryz.underlying85 g3
  exact ⟨⟨x0,x1,x2,x3⟩,⟨w0,w1,w2,w3⟩,repL_app r0 (repL_app r1 (repL_app r2 (repL_app r3 (repL_nil))))⟩
theorem rd_T81 {H:Type} {enc:TypeId × Value→H} {W:World} {spare:Nat→Bool} {held:Bool} {fuel:Nat} {cs:List Value} {y:DataW H × List MemPlace} (h:DataW.trod enc Tryz.prog W 0 spare held fuel 81 cs=some y):∃ x:List Law31Deed,(∀ z ∈ x,Law31Deed.Wf z)∧RepL (MW W) noBk cs [(fun l:List Law31Deed=>V.sl (l.map Law31Deed.v) false) x] :=
 rd_slice (f:=Law31Deed.v) (es:=4) (wf:=Law31Deed.Wf) Tryz.underlying81 (fun _=>rfl) (by intro a v hv;simp [V.cells] at hv;first | (subst hv;rfl) | (rcases hv with rfl | rfl | rfl | rfl <;> rfl)) (by omega) (by kernel_rfl) (fun n cs y h=>rd_T87 h) h
end Go.Proofs.YtdbigmjlhkgeoaaGreat

namespace Go.Proofs.YtdbigmjlhkgeoaaGreat
open Go.RowKit
inductive GR where
 | cut
 | bad (e:Int)
 | ok (t r:List UInt8)
def getR:List UInt8→GR
 | a :: b :: r=>if 256 * a.toNat + b.toNat=0 then .bad 4 else if 128 < 256 * a.toNat + b.toNat then .bad 5 else if r.length < 256 * a.toNat + b.toNat then .cut else .ok (r.take (256 * a.toNat + b.toNat)) (r.drop (256 * a.toNat + b.toNat))
 | _=>.cut
theorem or_n (a:Nat) (b:UInt8) (h:a < 256 ^ 6):orI .i64 ((a * 256:Nat):Int) (b.toNat:Int)=((a * 256 + b.toNat:Nat):Int):=by
 have:=or_step a b h
 simp only [intB,Option.some.injEq,Value.int.injEq,true_and] at this
 exact this
theorem shl_n (a:Nat) (h:a < 256 ^ 6):shlI .i64 (a:Int) (8:Int)=((a * 256:Nat):Int):=by
 have:=shl_step a h
 simp only [intSh] at this
 rw [if_neg (by decide)] at this
 simp only [Option.some.injEq,Value.int.injEq,true_and] at this
 exact this
theorem sub_p {s:ByteArray} {i j:Nat} (hi:i≤j) (hj:j≤s.size):sub? s (some (i:Int)) (some (j:Int))=some (ba ((s.data.toList.drop i).take (j - i))):=by
 unfold sub?
 rw [if_pos ⟨by show (0:Int)≤i;omega,by show (i:Int)≤j;omega,by show (j:Int)≤s.size;omega⟩]
 show some (s.extract (i:Int).toNat (j:Int).toNat)=_
 rw [Int.toNat_natCast,Int.toNat_natCast,← ext_list s i j hj,ba_of]
theorem sub_from {s:ByteArray} {i:Nat} (hi:i≤s.size):sub? s (some (i:Int)) none=some (ba (s.data.toList.drop i)):=by
 unfold sub?
 rw [if_pos ⟨by show (0:Int)≤i;omega,by show (i:Int)≤(s.size:Int);omega,Int.le_refl _⟩]
 show some (s.extract (i:Int).toNat (s.size:Int).toNat)=_
 rw [Int.toNat_natCast,Int.toNat_natCast]
 have:=ext_list s i s.size (Nat.le_refl _)
 rw [← ba_of (s.extract i s.size),this,List.take_of_length_le (by rw [List.length_drop,bl_len];omega)]
theorem num2 (a b:UInt8):p_octet_Num_l1 [(a.toNat:Int),(b.toNat:Int)] 2 fuel 0 0=some (((256 * a.toNat + b.toNat:Nat):Int),2):=by
 have ha:=a.toNat_lt
 have hb:=b.toNat_lt
 have key:∀ F,p_octet_Num_l1 [(a.toNat:Int),(b.toNat:Int)] 2 (F + 3) 0 0=some (((256 * a.toNat + b.toNat:Nat):Int),2):=fun F=>by
  have s0:shlI .i64 (0:Int) (8:Int)=((0 * 256:Nat):Int):=shl_n 0 (by decide)
  have o0:=or_n 0 a (by decide)
  have s1:=shl_n (0 * 256 + a.toNat) (by omega)
  have o1:=or_n (0 * 256 + a.toNat) b (by omega)
  rw [p_octet_Num_l1,show decide ((0:Int) < 2)=true from rfl,cond_true,show at? [(a.toNat:Int),(b.toNat:Int)] (0:Int)=some (a.toNat:Int) from rfl,Option.bind_some,show w64 ((0:Int) + 1)=1 from rfl,s0,w64_id (r:=(a.toNat:Int)) (by omega),o0]
  rw [p_octet_Num_l1,show decide ((1:Int) < 2)=true from rfl,cond_true,show at? [(a.toNat:Int),(b.toNat:Int)] (1:Int)=some (b.toNat:Int) from rfl,Option.bind_some,show w64 ((1:Int) + 1)=2 from rfl,s1,w64_id (r:=(b.toNat:Int)) (by omega),o1]
  rw [p_octet_Num_l1,show decide ((2:Int) < 2)=false from rfl,cond_false]
  rw [show (0 * 256 + a.toNat) * 256 + b.toNat=256 * a.toNat + b.toNat by omega]
 exact key (fuel - 3)
def outG:GR→ByteArray × Int × Int
 | .cut=>(⟨#[]⟩,0,3)
 | .bad e=>(⟨#[]⟩,0,e)
 | .ok t _=>(ba t,((2 + t.length:Nat):Int),0)
theorem get_p (s:ByteArray) (hs:s.size≤100000):p_frame_Get s=some (outG (getR s.data.toList)):=by
 have hl:=bl_len s
 have f0:p_octet_Read_fault (OctetRead.mk s 0 0)=some 0:=by
  unfold p_octet_Read_fault
  rw [show decide ((s.size:Int) < 0)=false by simp];rfl
 have left0:p_octet_Left (OctetRead.mk s 0 0)=some (s.size:Int):=by
  unfold p_octet_Left
  rw [f0]
  show some (w64 ((s.size:Int) - 0))=_
  rw [show w64 ((s.size:Int) - 0)=(s.size:Int) by rw [Int.sub_zero];exact w64_id (by omega)]
 have hw:p_octet_wide 2=some true:=rfl
 unfold p_frame_Get p_octet_Open p_octet_Num
 simp only [Option.bind_some,f0,hw,left0,bne_self_eq_false,cond_false,cond_true]
 match hL:s.data.toList with
 | [] =>
  rw [hL] at hl
  rw [show decide ((s.size:Int) < 2)=true by simp at hl ⊢;omega];rfl
 | [a] =>
  rw [hL] at hl
  rw [show decide ((s.size:Int) < 2)=true by simp at hl ⊢;omega];rfl
 | a :: b :: r =>
  rw [hL] at hl
  have hr:s.size=r.length + 2:=by simp at hl;omega
  have ha:=a.toNat_lt
  have hb:=b.toNat_lt
  rw [show decide ((s.size:Int) < 2)=false by simp;omega,show (w64 ((0:Int) + 2))=((2:Nat):Int) from rfl]
  have s1:sub? s (some (0:Int)) (some ((2:Nat):Int))=some (ba [a,b]):=by
   have:=sub_p (s:=s) (i:=0) (j:=2) (by omega) (by omega)
   rw [hL] at this;exact this
  have b1:bytesI (ba [a,b])=[(a.toNat:Int),(b.toNat:Int)]:=by unfold bytesI;rw [ba_list];rfl
  simp only [cond_false,s1,Option.bind_some,b1]
  have n2:p_octet_Num_l1 [(a.toNat:Int),(b.toNat:Int)] (([(a.toNat:Int),(b.toNat:Int)].length:Nat):Int) fuel 0 0=_:=num2 a b
  rw [n2]
  simp only [Option.bind_some,bne_self_eq_false,cond_false]
  rw [getR]
  generalize hn:256 * a.toNat + b.toNat=n at *
  by_cases h0:n=0
  ·rw [if_pos h0,h0];rfl
  rw [if_neg h0,show ((n:Int) == 0)=false by simpa using h0,cond_false]
  by_cases h1:128 < n
  ·rw [if_pos h1,show decide ((128:Int) < (n:Int))=true by simp;omega];rfl
  rw [if_neg h1,show decide ((128:Int) < (n:Int))=false by simp;omega,cond_false]
  have left1:p_octet_Left (OctetRead.mk s ((2:Nat):Int) 0)=some (r.length:Int):=by
   unfold p_octet_Left p_octet_Read_fault
   rw [show decide ((s.size:Int) < ((2:Nat):Int))=false by simp;omega]
   show some (w64 ((s.size:Int) - 2))=_
   rw [w64_id (by omega)];congr 1;omega
  rw [left1,Option.bind_some]
  by_cases h2:r.length < n
  ·rw [if_pos h2,show decide ((r.length:Int) < (n:Int))=true by simp;omega];rfl
  rw [if_neg h2,show decide ((r.length:Int) < (n:Int))=false by simp;omega,cond_false]
  have e2:w64 ((2:Int) + (n:Int))=((2 + n:Nat):Int):=by rw [w64_id (by omega)];omega
  have s2:sub? s (some (2:Int)) (some ((2 + n:Nat):Int))=some (ba (r.take n)):=by
   have:=sub_p (s:=s) (i:=2) (j:=2 + n) (by omega) (by omega)
   rw [hL,show 2 + n - 2=n by omega] at this;exact this
  rw [e2,s2]
  show some (ba (r.take n),((2 + n:Nat):Int),(0:Int))=some (ba (r.take n),((2 + (r.take n).length:Nat):Int),(0:Int))
  rw [List.length_take,Nat.min_eq_left (by omega)]
def runF:Nat→List UInt8→List (List UInt8) × List UInt8 × Int
 | 0,l=>([],l,0)
 | n + 1,l=>match getR l with
  | .cut=>([],l,0)
  | .bad e=>([],[],e)
  | .ok t r=>(t :: (runF n r).1,(runF n r).2)
theorem getR_ok {l t r:List UInt8} (h:getR l=.ok t r):∃ a b,l=a :: b :: (t++r)∧256 * a.toNat + b.toNat=t.length∧0 < t.length∧t.length≤128:=by
 unfold getR at h
 split at h
 ·rename_i a b q
  split at h
  ·cases h
  split at h
  ·cases h
  split at h
  ·cases h
  rename_i h1 h2 h3
  simp only [GR.ok.injEq] at h
  obtain ⟨rfl,rfl⟩:=h
  refine ⟨a,b,by rw [List.take_append_drop],?_⟩
  rw [List.length_take,Nat.min_eq_left (by omega)];omega
 ·cases h
theorem getR_lt {l t r:List UInt8} (h:getR l=.ok t r):r.length + 2 < l.length:=by
 obtain ⟨a,b,e,_,h1,_⟩:=getR_ok h
 rw [e];simp;omega
theorem getR_bad {l:List UInt8} {e:Int} (h:getR l=.bad e):e≠0:=by
 unfold getR at h
 split at h
 ·split at h
  ·simp only [GR.bad.injEq] at h;omega
  split at h
  ·simp only [GR.bad.injEq] at h;omega
  split at h <;> cases h
 ·cases h
theorem runF_enough:∀ (n m:Nat) (l:List UInt8),l.length < n→l.length < m→runF n l=runF m l
 | n + 1,m + 1,l,h1,h2=>by
  rw [runF,runF]
  cases hg:getR l with
  | cut=>rfl
  | bad e=>rfl
  | ok t r =>
   have:=getR_lt hg
   simp only
   rw [runF_enough n m r (by omega) (by omega)]
def run (l:List UInt8):List (List UInt8) × List UInt8 × Int:=runF (l.length + 1) l
theorem run_cut {l:List UInt8} (h:getR l=.cut):run l=([],l,0):=by unfold run;rw [runF,h]
theorem run_bad {l:List UInt8} {e:Int} (h:getR l=.bad e):run l=([],[],e):=by unfold run;rw [runF,h]
theorem run_ok {l t r:List UInt8} (h:getR l=.ok t r):run l=(t :: (run r).1,(run r).2):=by
 have:=getR_lt h
 unfold run
 rw [runF,h]
 simp only
 rw [runF_enough l.length (r.length + 1) r (by omega) (by omega)]
theorem run_end:∀ (n:Nat) (l:List UInt8),l.length < n→((run l).2.2=0∧getR (run l).2.1=.cut∨(run l).2.2≠0∧(run l).2.1=[])∧(run l).2.1.length≤l.length∧3 * (run l).1.length + (run l).2.1.length≤l.length∧∀ t ∈ (run l).1,t.length≤128
 | n + 1,l,h=>by
  cases hg:getR l with
  | cut=>rw [run_cut hg];exact ⟨.inl ⟨rfl,hg⟩,Nat.le_refl _,by simp,fun t ht=>by cases ht⟩
  | bad e=>rw [run_bad hg];exact ⟨.inr ⟨getR_bad hg,rfl⟩,Nat.zero_le _,by simp,fun t ht=>by cases ht⟩
  | ok t r =>
   have h1:=getR_lt hg
   obtain ⟨a,b,e,_,h4,h5⟩:=getR_ok hg
   obtain ⟨i1,i2,i3,i4⟩:=run_end n r (by omega)
   rw [run_ok hg]
   refine ⟨i1,by show (run r).2.1.length≤_;omega,by show 3 * ((run r).1.length + 1) + (run r).2.1.length≤_;omega,fun x hx=>?_⟩
   rcases List.mem_cons.1 hx with rfl | hx
   ·exact h5
   ·exact i4 x hx
end Go.Proofs.YtdbigmjlhkgeoaaGreat

