/- A part of the proof: 10 texts joined. -/
import Derived.Test.YtpmoioopjbfhkaaGreatWaA13
import Derived.Test.YtpmoioopjbfhkaaGreatWaA12
import Derived.KernelRfl
set_option linter.all false
/- A contract that speaks of one own list holds among others. -/
namespace Go.Proofs.YtpmoioopjbfhkaaGreat
open Go.RowKit
def ArgsAt (st:List Slot) (id:Nat) (args args0:List V):Prop :=
 ∀ (B:Nat) (m0 m mb:Mem) (bk:Bks) (w:World) (cargs:Array Value),Sim B m0 m bk w st→RepA m bk cargs args→(∀ a u,m a=some u→mb a=some u) →
  (∀ (j:Nat) (c:List V) (g:Nat) (x:Nat × Nat),j≠id→st[j]?=some (.live c g)→bk j=some x→∀ a:Addr,a.block=x.1→mb a=w.cell? a)→RepA mb (cutBk 1 fun i=>bk (sgm [id] i)) cargs args0
open Classical in
theorem callsS_frameG {P:Program} {f:FuncId} {args args0:List V} {v0 v:V} {cs cs' : List V} {fz fz' : Nat} {st:List Slot} {id:Nat} (h:CallsS P f args0 [.live cs fz] v0 [.live cs' fz']) (ha:ArgsAt st id args args0) (hi:st[id]?=some (.live cs fz)) (h0:V.idlt.belowL 0 cs=true) (h0' : V.litD.litL cs'=true)
  (hv:(∃ off n es fu,v0=.osl 0 off n es fu∧v=.osl id off n es fu)∨v0.litD=true∧v=v0):CallsS P f args st v (st.set id (.live cs' fz')):=by
 intro B m0 m bk w cargs hg hsim hargs
 have hidl:=(List.getElem?_eq_some_iff.1 hi).1
 obtain ⟨b,sz,arr,t,lo,hi',hl⟩:=hsim.blk id cs fz hi
 let oth:Nat→Prop:=fun k=>∃ (j:Nat) (c:List V) (g:Nat) (x:Nat × Nat),j≠id∧st[j]?=some (.live c g)∧bk j=some x∧x.1=k
 let mb:Mem:=fun a=>if oth a.block then w.cell? a else m a
 have nob:¬ oth b:=by
  rintro ⟨j,c,g,x,h1,h2,h3,h4⟩
  exact h1 (hsim.inj j id c g cs fz x (b,sz) h2 hi h3 hl.at_ h4)
 have mbo:∀ a,oth a.block→mb a=w.cell? a:=fun a h=>if_pos h
 have mbn:∀ a,¬ oth a.block→mb a=m a:=fun a h=>if_neg h
 have mle:∀ a u,m a=some u→mb a=some u:=fun a u hu=>by
  by_cases ho:oth a.block
  ·rw [mbo a ho];exact hsim.mem a u hu
  ·rw [mbn a ho];exact hu
 have hb1:(cutBk 1 fun i=>bk (sgm [id] i)) 0=some (b,sz):=by
  have:sgm [id] 0=id:=rfl
  simp only [cutBk,this,hl.at_];rfl
 have sim1:Sim B mb mb (cutBk 1 fun i=>bk (sgm [id] i)) w [.live cs fz]:=by
  refine ⟨hsim.base,fun a u hu=>?_,fun _ _ h=>h,fun _ _ h=>.inl h,fun k c g hk=>?_,fun i j ci fi cj fj x y h1 h2 _ _ _=>?_,fun k hk=>?_⟩
  ·by_cases ho:oth a.block
   ·rw [mbo a ho] at hu;exact hu
   ·rw [mbn a ho] at hu;exact hsim.mem a u hu
  ·have hk0:k=0:=by have:=(List.getElem?_eq_some_iff.1 hk).1;simpa using this
   subst hk0
   simp only [List.getElem?_cons_zero,Option.some.injEq,Slot.live.injEq] at hk
   obtain ⟨rfl,rfl⟩:=hk
   refine ⟨b,sz,arr,t,lo,hi',⟨hb1,hl.own,hl.heap,hl.size,hl.free,hl.fit,hl.one,fun k hk=>?_,fun k hk=>?_,fun k hk=>?_⟩⟩
   ·obtain ⟨u,q1,q2⟩:=hl.rep k hk
    exact ⟨u,q1,(q2.zero (belowL_get h0 k hk)).mono mle fun _ _ h=>h⟩
   ·rw [mbn _ nob];exact hl.mu k hk
   ·rw [mbn _ nob];exact hl.fz k hk
  ·have e1:i=0:=by have:=(List.getElem?_eq_some_iff.1 h1).1;simpa using this
   have e2:j=0:=by have:=(List.getElem?_eq_some_iff.1 h2).1;simpa using this
   rw [e1,e2]
  ·unfold cutBk
   rw [if_neg]
   intro hlt
   have:k=0:=by omega
   subst this
   rcases hk with hk | hk <;> simp at hk
 have args1:RepA mb (cutBk 1 fun i=>bk (sgm [id] i)) cargs args0 :=
  ha B m0 m mb bk w cargs hsim hargs mle fun j c g x h1 h2 h3 a h4=>mbo a ⟨j,c,g,x,h1,h2,h3,h4.symm⟩
 have hg1:GM mb:=by obtain ⟨n,hn⟩:=hg;exact ⟨n,mle _ _ hn⟩
 refine (h B mb mb _ w cargs hg1 sim1 args1).mono ?_
 rintro e w' ⟨c,rfl,m',bk',g1,g2,g3,g4,g5⟩
 let m2:Mem:=fun a=>if oth a.block then m a else m' a
 have m2o:∀ a,oth a.block→m2 a=m a:=fun a h=>if_pos h
 have m2n:∀ a,¬ oth a.block→m2 a=m' a:=fun a h=>if_neg h
 have m_2:∀ a u,m a=some u→m2 a=some u:=fun a u hu=>by
  by_cases ho:oth a.block
  ·rw [m2o a ho];exact hu
  ·rw [m2n a ho];exact g3 _ _ (mle _ _ hu)
 have m2_:∀ a u,m2 a=some u→m' a=some u:=fun a u hu=>by
  by_cases ho:oth a.block
  ·rw [m2o a ho] at hu;exact g3 _ _ (mle _ _ hu)
  ·rw [m2n a ho] at hu;exact hu
 obtain ⟨b',sz',arr',t',lo',hi2,hl'⟩:=g1.blk 0 cs' fz' rfl
 have hbe:some (b',sz')=some (b,sz):=by rw [← hl'.at_,g4 0 _ hb1]
 simp only [Option.some.injEq,Prod.mk.injEq] at hbe
 obtain ⟨rfl,rfl⟩:=hbe
 have back:∀ (k:Nat) (c:List V) (g:Nat),k≠id→(st.set id (.live cs' fz'))[k]?=some (.live c g)→st[k]?=some (.live c g):=fun k c g hk h=>by
  rwa [List.getElem?_set,if_neg (fun e=>hk e.symm)] at h
 refine ⟨c,rfl,m2,bk,⟨Nat.le_trans hsim.base g5.size,fun a u hu=>g1.mem a u (m2_ a u hu),fun a u hu=>m_2 _ _ (hsim.ext a u hu),fun a u hu=>?_,fun k c g hk=>?_,fun i j ci fi cj fj x y h1 h2 hx hy he=>?_,fun k hk=>?_⟩,?_,m_2,fun _ _ h=>h,g5⟩
 ·by_cases ho:oth a.block
  ·rw [m2o a ho] at hu;exact hsim.old a u hu
  ·rw [m2n a ho] at hu
   rcases g1.old a u hu with q | q
   ·rw [mbn a ho] at q;exact hsim.old a u q
   ·exact .inr q
 ·by_cases hk0:k=id
  ·subst hk0
   rw [List.getElem?_set,if_pos rfl,if_pos hidl] at hk
   simp only [Option.some.injEq,Slot.live.injEq] at hk
   obtain ⟨rfl,rfl⟩:=hk
   refine ⟨b',sz',arr',t',lo',hi2,⟨hl.at_,hl.own,hl'.heap,hl'.size,hl'.free,hl'.fit,hl'.one,fun j hj=>?_,fun j hj=>?_,fun j hj=>?_⟩⟩
   ·obtain ⟨u,q1,q2⟩:=hl'.rep j hj
    exact ⟨u,q1,q2.litD (litL_get h0' j hj) m2 bk⟩
   ·rw [m2n _ nob];exact hl'.mu j hj
   ·rw [m2n _ nob];exact hl'.fz j hj
  ·have hks:=back k c g hk0 hk
   obtain ⟨b2,sz2,arr2,t2,lo2,hi3,h2⟩:=hsim.blk k c g hks
   have ho:oth b2:=⟨k,c,g,(b2,sz2),hk0,hks,h2.at_,rfl⟩
   obtain ⟨arr3,q1,q2⟩:=g5.shp b2 arr2 t2 lo2 hi3 h2.heap
   have e3:arr3=arr2:=by
    apply Array.ext q2
    intro i i1 i2
    have c1:w.cell? ⟨b2,i,none⟩=some arr2[i]:=by simp [World.cell?,h2.heap,i2]
    have c2:mb ⟨b2,i,none⟩=some arr2[i]:=by rw [mbo _ ho];exact c1
    have c3:=g1.mem _ _ (g3 _ _ c2)
    simp only [World.cell?,q1] at c3
    simpa [i1] using c3
   subst e3
   refine ⟨b2,sz2,arr3,t2,lo2,hi3,⟨h2.at_,h2.own,q1,h2.size,h2.free,h2.fit,h2.one,fun j hj=>?_,fun j hj=>?_,fun j hj=>?_⟩⟩
   ·obtain ⟨u,r1,r2⟩:=h2.rep j hj
    exact ⟨u,r1,r2.mono m_2 fun _ _ h=>h⟩
   ·rw [m2o _ ho];exact h2.mu j hj
   ·rw [m2o _ ho];exact h2.fz j hj
 ·have aux:∀ (a:Nat) (ci:List V) (fi:Nat),(st.set id (.live cs' fz'))[a]?=some (.live ci fi)→∃ ci fi,st[a]?=some (.live ci fi):=fun a ci fi ha=>by
   by_cases hae:a=id
   ·subst hae;exact ⟨_,_,hi⟩
   ·exact ⟨_,_,back a ci fi hae ha⟩
  obtain ⟨_,_,p1⟩:=aux _ _ _ h1
  obtain ⟨_,_,p2⟩:=aux _ _ _ h2
  exact hsim.inj i j _ _ _ _ x y p1 p2 hx hy he
 ·refine hsim.nb k ?_
  by_cases hk0:k=id
  ·subst hk0
   rw [List.getElem?_set,if_pos rfl,if_pos hidl] at hk
   rcases hk with hk | hk <;> cases hk
  ·rwa [List.getElem?_set,if_neg (fun e=>hk0 e.symm)] at hk
 ·rcases hv with ⟨off,n,es,fu,rfl,rfl⟩ | ⟨hv,rfl⟩
  ·cases g2 with
   | @osl _ _ b3 sz3 _ _ cap _ _ hb hc hf hs =>
    have:some (b3,sz3)=some (b',sz'):=by rw [← hb,g4 0 _ hb1]
    simp only [Option.some.injEq,Prod.mk.injEq] at this
    obtain ⟨rfl,rfl⟩:=this
    exact .osl hl.at_ hc hf hs
  ·exact g2.litD hv m2 bk
theorem callsS_frame {P:Program} {f:FuncId} {args0:List V} {v0 v:V} {cs cs' : List V} {fz fz' : Nat} {st:List Slot} {id:Nat} (h:CallsS P f args0 [.live cs fz] v0 [.live cs' fz']) (ha:V.idlt.belowL 1 args0=true) (hi:st[id]?=some (.live cs fz)) (h0:V.idlt.belowL 0 cs=true) (h0' : V.litD.litL cs'=true)
  (hv:(∃ off n es fu,v0=.osl 0 off n es fu∧v=.osl id off n es fu)∨v0.litD=true∧v=v0):CallsS P f (V.ren.renL [id] args0) st v (st.set id (.live cs' fz')) :=
 callsS_frameG h (fun B m0 m mb bk w cargs hsim hargs mle _=>⟨by rw [hargs.1,renL_len],fun j h1 h2=>by
  have hr:=hargs.2 j h1 (by rw [renL_len];exact h2)
  have hr2:=Rep.ren hr _ (renL_at (sg:=[id]) args0 j h2).symm
  exact (hr2.cut (belowL_get ha j h2)).mono mle fun _ _ h=>h⟩) hi h0 h0' hv
inductive FzT (st:List Slot) (i:Nat):List V→List V→List Nat→Prop
 | nil:FzT st i [] [] []
 | id {v l l' r} (h:v.idlt 0=true) (t:FzT st i l l' r):FzT st i (v :: l) (v :: l') r
 | ptr {j cs us frz l l' r} (hj:st[j]?=some (.live cs frz)) (hne:j≠i) (h:SlWL cs us) (t:FzT st i l l' r):FzT st i (.ptr j 0 :: l) (.eptr us :: l') (j :: r)
theorem FzT.congr {st st2:List Slot} {i:Nat} {l l' : List V} {r:List Nat} (h:FzT st i l l' r):(∀ k,k ∈ r→st2[k]?=st[k]?)→FzT st2 i l l' r:=by
 induction h with
 | nil=>exact fun _=>.nil
 | id h _ ih=>exact fun hst=>.id h (ih hst)
 | ptr hj hne h _ ih=>exact fun hst=>.ptr ((hst _ (by simp)).trans hj) hne h (ih fun k hk=>hst k (by simp [hk]))
theorem FzT.rep {B:Nat} {m0 m mb:Mem} {bk bk' : Bks} {w:World} {st:List Slot} {i:Nat} {l l' : List V} {r:List Nat} (h:FzT st i l l' r) (hsim:Sim B m0 m bk w st) (mle:∀ a u,m a=some u→mb a=some u)
  (hmb:∀ (j:Nat) (c:List V) (g:Nat) (x:Nat × Nat),j≠i→st[j]?=some (.live c g)→bk j=some x→∀ a:Addr,a.block=x.1→mb a=w.cell? a):∀ {cs:List Value},RepL m bk cs l→RepL mb bk' cs l':=by
 induction h with
 | nil=>intro cs h;exact ⟨h.1,fun j _ h2=>absurd h2 (by simp)⟩
 | @id v l l' r h0 t ih =>
  intro cs hr
  cases cs with
  | nil=>have:=hr.1;simp at this
  | cons c cs =>
   have g0:=hr.2 0 (by simp) (by simp)
   have ih':=@ih cs ⟨by simpa using hr.1,fun j h1 h2=>hr.2 (j + 1) (Nat.succ_lt_succ h1) (Nat.succ_lt_succ h2)⟩
   refine ⟨by simpa using ih'.1,fun j h1 h2=>?_⟩
   cases j with
   | zero=>exact (Rep.zero g0 h0).mono mle fun _ _ h=>h
   | succ j=>exact ih'.2 j (Nat.lt_of_succ_lt_succ h1) (Nat.lt_of_succ_lt_succ h2)
 | @ptr j csj us frz l l' r hj hne hw t ih =>
  intro cs hr
  cases cs with
  | nil=>have:=hr.1;simp at this
  | cons c cs =>
   have g0:=hr.2 0 (by simp) (by simp)
   have ih':=@ih cs ⟨by simpa using hr.1,fun j h1 h2=>hr.2 (j + 1) (Nat.succ_lt_succ h1) (Nat.succ_lt_succ h2)⟩
   refine ⟨by simpa using ih'.1,fun k h1 h2=>?_⟩
   cases k with
   | succ k=>exact ih'.2 k (Nat.lt_of_succ_lt_succ h1) (Nat.lt_of_succ_lt_succ h2)
   | zero =>
    have gg:∀ c,Rep m bk c (.ptr j 0)→Rep mb bk' c (.eptr us):=fun c g0=>by
     cases g0 with
     | @ptr _ _ b sz _ hb =>
     obtain ⟨arr,t,lo,hi',hlv,hrep⟩:=sim_live hsim hj hb
     obtain ⟨hl,hat⟩:=hw.at
     refine .eptr (us:=fun k=>arr.getD k undef) (fun u hu=>?_) (fun k hk=>?_) (fun k hk=>?_)
     ·obtain ⟨k,hk,rfl⟩:=List.getElem_of_mem hu
      exact (hat k (by omega) hk).one (hlv.one _ (List.getElem_mem _))
     ·obtain ⟨u,g1,g2⟩:=hlv.rep k (by omega)
      rw [hmb j _ _ _ hne hj hb _ rfl,Nat.zero_add]
      simp only [World.cell?,hlv.heap,Array.getD_eq_getD_getElem?,g1];rfl
     ·obtain ⟨u,g1,g2⟩:=hlv.rep k (by omega)
      have e:arr.getD k undef=u:=by simp [Array.getD_eq_getD_getElem?,g1]
      rw [e]
      exact ((hat k (by omega) hk).rep g2).mono mle fun _ _ h=>h
    exact gg _ g0
end Go.Proofs.YtpmoioopjbfhkaaGreat

/- slices.Delete: what is of no type. -/
namespace Go.Proofs.YtpmoioopjbfhkaaGreat
open Go.RowKit
structure DelRoads (P:Program) (k:FuncId) (es:Nat):Prop where
 main:∀ (b n c i j:Nat) (cs:List Value) (w:World),i < j→j≤n→n≤c→n≤1000000→cs.length=n * es→(∀ t v,cs[t]?=some v→w.cell? ⟨b,t,none⟩=some v)→(∀ t,t < n * es→w.frozen? ⟨b,t,none⟩=false)→(∀ v ∈ cs,v.oneCell'=true) →
  Calls P k #[.slice (some ⟨b,0,none⟩) n c,.int .i64 i,.int .i64 j] w fun e w'=>∃ zs:List Value,zs.length=(j - i) * es∧(∀ v ∈ zs,v.oneCell'=true)∧e=.returned (.slice (some ⟨b,0,none⟩) (n - (j - i)) c)∧w'=(w.drew.setCells b (i * es) (cs.drop (j * es))).setCells b ((n - (j - i)) * es) zs
end Go.Proofs.YtpmoioopjbfhkaaGreat

/- slices.DeleteFunc: what is of no type. -/
namespace Go.Proofs.YtpmoioopjbfhkaaGreat
open Go.RowKit
def delF? {α:Type} (fn:α→Option Bool) (l:List α):Option (List α):=if l.length≤1000000∧(l.all fun x=>(fn x).isSome)=true then some (l.filter fun x=>!((fn x).getD false)) else none
theorem callsR_c {P:Program} {f:FuncId} {fn:Func} {ac:BCode} {n n0:Nat} {rs:List ARes} {args:List V} {v:V} {st st' : List Slot} (hmix:P.follows .mixedOrders=true) (hf:P.funcs[f]?=some fn) (hc:compF P fn=some (ac.er,n,rs)) (hn0:st.length=n0)
  (h:initK args n fun fr=>wpC P n0 ac (FinQ (FinR st rs v st')) fr st):CallsS P f args st v st' :=
 callsR_comp hmix hf hc hn0 (wpC_ok (fun _ _ _ h=>h.out) (initK_ok h))
theorem sloT_c {i off n es:Nat} {lo:Int} {k:V→Prop} (a:Nat) (ha:lo=a) (h1:a < n) (h:k (.osl i (off + a * es) (n - a) es false)):SlO i off n es (some lo) none k:=by
 subst ha
 exact ⟨by simp,by simp;omega,by simp,.inl ⟨.inl (by simp;omega),by simpa using h⟩⟩
theorem sloP_c {i off n es:Nat} {hi:Int} {k:V→Prop} (a:Nat) (ha:hi=a) (h1:a≤n) (h:k (.osl i off a es false)):SlO i off n es none (some hi) k:=by
 subst ha
 exact ⟨by simp,by simp,by simp;omega,.inl ⟨.inr rfl,by simpa using h⟩⟩
theorem clr_c {cs cs' : List V} {off n frz:Nat} {k:List V→Prop} (h1:frz≤off) (h2:off≤cs.length) (h3:0 < n) (h4:cs.take off=cs') (h:k cs'):ClrQ cs off n frz k:=⟨h1,h2,h3,h4 ▸ h⟩
theorem df_start {α:Type} {p:α→Bool} {l:List α} (h:l.findIdx p < l.length):l.take (l.findIdx p)=(l.take (l.findIdx p + 1)).filter fun x=>!p x:=by
 rw [List.take_succ_eq_append_getElem h,List.filter_append]
 have h1:p l[l.findIdx p]=true:=List.findIdx_getElem (w:=h)
 have h2:[l[l.findIdx p]].filter (fun x=>!p x)=[]:=by rw [List.filter_cons,h1];rfl
 rw [h2,List.append_nil]
 refine (List.filter_eq_self.2 fun x hx=>?_).symm
 obtain ⟨i,hi,rfl⟩:=List.getElem_of_mem hx
 rw [List.length_take] at hi
 rw [List.getElem_take]
 have:=List.not_of_lt_findIdx (show i < l.findIdx p by omega)
 simpa using this
theorem df_keep {α:Type} {p:α→Bool} {l y:List α} {i j:Nat} (hy:y.length=l.length) (hij:i < j) (hj:j < l.length) (hd:y.drop j=l.drop j) (ht:y.take i=(l.take j).filter fun x=>!p x) (hp:p l[j]=false) :
  (y.set i l[j]).drop (j + 1)=l.drop (j + 1)∧(y.set i l[j]).take (i + 1)=(l.take (j + 1)).filter fun x=>!p x:=by
 constructor
 ·rw [List.drop_set_of_lt (by omega)]
  have h1:(y.drop j).drop 1=(l.drop j).drop 1:=by rw [hd]
  simpa [List.drop_drop] using h1
 ·rw [List.take_succ_eq_append_getElem (show i < (y.set i l[j]).length by simp;omega),List.take_set_of_le (Nat.le_refl i),ht,List.take_succ_eq_append_getElem hj,List.filter_append]
  congr 1
  rw [List.filter_cons,hp]
  simp
theorem df_skip {α:Type} {p:α→Bool} {l y:List α} {i j:Nat} (hj:j < l.length) (hd:y.drop j=l.drop j) (ht:y.take i=(l.take j).filter fun x=>!p x) (hp:p l[j]=true) :
  y.drop (j + 1)=l.drop (j + 1)∧y.take i=(l.take (j + 1)).filter fun x=>!p x:=by
 constructor
 ·have h1:(y.drop j).drop 1=(l.drop j).drop 1:=by rw [hd]
  simpa [List.drop_drop] using h1
 ·rw [ht,List.take_succ_eq_append_getElem hj,List.filter_append,List.filter_cons,hp]
  simp
theorem callsS_fz2 {P:Program} {st:List Slot} {f:FuncId} {a0 a1 a1' v:V} {st' : List Slot} {rd:List Nat} (hf:FzC st a1 a1' rd) (h:CallsS P f [a0,a1'] st v st'):CallsS P f [a0,a1] st v st':=by
 intro B m0 m bk w cargs hg hsim hargs
 refine h B m0 m bk w cargs hg hsim ⟨hargs.1,fun j h1 h2=>?_⟩
 rcases j with _ | _ | j
 ·exact hargs.2 0 h1 (by simp)
 ·exact (hf.rep hsim (hargs.2 1 h1 (by simp))).mono (fun _ _ h=>h) fun _ _ h=>by cases h
 ·exact absurd h2 (by simp)
theorem callsS_fu {P:Program} {st:List Slot} {f:FuncId} {i off n es:Nat} {fu:Bool} {a1 v:V} {st' : List Slot} (h:CallsS P f [.osl i off n es false,a1] st v st'):CallsS P f [.osl i off n es fu,a1] st v st':=by
 intro B m0 m bk w cargs hg hsim hargs
 refine h B m0 m bk w cargs hg hsim ⟨hargs.1,fun j h1 h2=>?_⟩
 rcases j with _ | _ | j
 ·have hr:Rep m bk cargs[0] (.osl i off n es fu):=hargs.2 0 h1 (by simp)
  have go:∀ c,Rep m bk c (.osl i off n es fu)→Rep m bk c (.osl i off n es false):=fun c hr=>by
   cases hr with
   | osl hb hc hf hs=>exact .osl hb hc (fun e=>by cases e) hs
  exact go _ hr
 ·exact hargs.2 1 h1 (by simp)
 ·exact absurd h2 (by simp)
def DelFSaid (P:Program) (k:FuncId) {α:Type} (f:α→V) (es:Nat):Prop :=
 ∀ (l:List α) {g:Nat} {caps:List V} {fn:α→Option Bool},Clo1 P g caps f V.b fn→∀ p:α→Bool,l.length≤1000000→(∀ x ∈ l,fn x=some (p x)) →
  CallsS P k [.osl 0 0 l.length es false,.clo (.func g) caps] [.live (cellsM f l) 0] (.osl 0 0 (l.filter fun x=>!p x).length es false) [.live (cellsM f (l.filter fun x=>!p x)) 0]
def DelFNil (P:Program) (k:FuncId) {α:Type} (f:α→V):Prop :=
 ∀ {g:Nat} {caps:List V} {fn:α→Option Bool},Clo1 P g caps f V.b fn→CallsO P k [.sl [] true,.clo (.func g) caps] (fun _:Unit=>V.sl [] true) (some ())
theorem litL_mem:∀ {l:List V},(∀ v ∈ l,v.litD=true)→V.litD.litL l=true
 | [],_=>rfl
 | v :: l,h=>by
  simp only [V.litD.litL,Bool.and_eq_true]
  exact ⟨h v (by simp),litL_mem fun u hu=>h u (by simp [hu])⟩
theorem mem_litL:∀ {l:List V},V.litD.litL l=true→∀ v ∈ l,v.litD=true
 | u :: l,h,v,hv=>by
  simp only [V.litD.litL,Bool.and_eq_true] at h
  rcases List.mem_cons.1 hv with rfl | hv
  ·exact h.1
  ·exact mem_litL h.2 v hv
section
variable {β : Type} {r : β} {P : Program} {st : List Slot}
theorem delF_of {α:Type} {fn:α→Option Bool} {l L:List α} (h:delF? fn l=some L):∃ p:α→Bool,l.length≤1000000∧(∀ x ∈ l,fn x=some (p x))∧L=l.filter fun x=>!p x:=by
 unfold delF? at h
 split at h
 ·rename_i hb
  refine ⟨fun x=>(fn x).getD false,hb.1,fun x hx=>?_,(Option.some.inj h).symm⟩
  have:=List.all_eq_true.1 hb.2 x hx
  obtain ⟨b,hb⟩:=Option.isSome_iff_exists.1 this
  show fn x=some ((fn x).getD false)
  rw [hb];rfl
 ·cases h
theorem dfO_c {k:FuncId} {es:Nat} {α:Type} {f:α→V} (hS:DelFSaid P k f es) {l:List α} {fn:α→Option Bool} {X:List α→Option β} {K:V→List Nat→List Nat→List Slot→Prop} {i n g:Nat} {fu:Bool} {caps caps' : List V} {rd:List Nat} (H:(delF? fn l).bind X=some r) (hc:Clo1 P g caps' f V.b fn)
  (hz:FzC st (.clo (.func g) caps) (.clo (.func g) caps') rd) (hlit:∀ a,V.litD.litL (f a).cells=true) (h0:∀ a,V.idlt.belowL 0 (f a).cells=true)
  (hi:st[i]?=some (.live (cellsM f l) 0)) (hn:n=l.length) (h:∀ L,X L=some r→ssetK st i (.live (cellsM f L) 0) fun st'=>K (.osl i 0 L.length es false) rd [i] st'):Ask P k [.osl i 0 n es fu,.clo (.func g) caps] st K:=by
 subst hn
 obtain ⟨L,hL,H⟩:=bind_c H
 have:=h L H
 rw [ssetK_eq] at this
 obtain ⟨p,h1,h2,rfl⟩:=delF_of hL
 refine Ask_L (rd:=rd) (ef:=[(i,.live (cellsM f (l.filter fun x=>!p x)) 0)]) (fun st2 _ hk=>?_) this
 refine callsS_fz2 (hz.congr fun t ht=>hk t (.inl ht)) (callsS_fu ?_)
 have hfr:=callsS_frame (st:=st2) (id:=i) (v:=.osl i 0 (l.filter fun x=>!p x).length es false) (hS l hc p h1 h2) (by simp [V.idlt.belowL,V.idlt,idltL_up _ hc.own]) ((hk i (.inr (by simp))).trans hi) (cellsM_idlt h0 _) (litL_mem fun v hv=>by
  obtain ⟨a,_,ha⟩:=List.mem_flatMap.1 hv
  exact mem_litL (hlit a) v ha) (.inl ⟨_,_,_,_,rfl,rfl⟩)
 have hfr2:CallsS P k [.osl i 0 l.length es false,.clo (.func g) caps'] st2 (.osl i 0 (l.filter fun x=>!p x).length es false) (st2.set i (.live (cellsM f (l.filter fun x=>!p x)) 0)):=by simpa [V.ren.renL,V.ren,renL_id _ hc.own,sgm] using hfr
 exact hfr2
theorem dfT_c {k:FuncId} {es:Nat} {α:Type} {f:α→V} (hS:DelFSaid P k f es) {l:List α} {fn:α→Option Bool} {X:List α→Option β} {K:V→List Nat→List Nat→List Slot→Prop} {i n g:Nat} {fu:Bool} {caps caps' : List V} {rd:List Nat} (H:(delF? fn l).bind X=some r) (hc:Clo1 P g caps' f V.b fn)
  (hz:FzT st i caps caps' rd) (hlit:∀ a,V.litD.litL (f a).cells=true) (h0:∀ a,V.idlt.belowL 0 (f a).cells=true)
  (hi:st[i]?=some (.live (cellsM f l) 0)) (hn:n=l.length) (h:∀ L,X L=some r→ssetK st i (.live (cellsM f L) 0) fun st'=>K (.osl i 0 L.length es false) rd [i] st'):Ask P k [.osl i 0 n es fu,.clo (.func g) caps] st K:=by
 subst hn
 obtain ⟨L,hL,H⟩:=bind_c H
 have:=h L H
 rw [ssetK_eq] at this
 obtain ⟨p,h1,h2,rfl⟩:=delF_of hL
 refine Ask_L (rd:=rd) (ef:=[(i,.live (cellsM f (l.filter fun x=>!p x)) 0)]) (fun st2 _ hk=>?_) this
 refine callsS_fu ?_
 have hz2:=hz.congr fun t ht=>hk t (.inl ht)
 exact callsS_frameG (st:=st2) (id:=i) (v:=.osl i 0 (l.filter fun x=>!p x).length es false) (hS l hc p h1 h2) (fun B m0 m mb bk w cargs hsim hargs mle hmb=>⟨hargs.1,fun j g1 g2=>by
  rcases j with _ | _ | j
  ·have hr:Rep m bk cargs[0] (.osl i 0 l.length es false):=hargs.2 0 g1 (by simp)
   have hr2:Rep m (fun t=>bk (sgm [i] t)) cargs[0] (.osl 0 0 l.length es false):=Rep.ren hr _ rfl
   exact (hr2.cut rfl).mono mle fun _ _ h=>h
  ·have hr:Rep m bk cargs[1] (.clo (.func g) caps):=hargs.2 1 g1 (by simp)
   have go:∀ c,Rep m bk c (.clo (.func g) caps)→Rep mb (cutBk 1 fun t=>bk (sgm [i] t)) c (.clo (.func g) caps'):=fun c hr=>by
    cases hr with
    | @clo _ _ cs _ hl hr =>
     have q:=hz2.rep (bk':=cutBk 1 fun t=>bk (sgm [i] t)) hsim mle hmb (cs:=cs.toList) ⟨by simpa using hl,fun j a b=>by simpa using hr j (by simpa using a) b⟩
     exact .clo (by simpa using q.1) fun j a b=>by have:=q.2 j (by simpa using a) b;rw [Array.getElem_toList] at this;exact this
   exact go _ hr
  ·exact absurd g2 (by simp)⟩) ((hk i (.inr (by simp))).trans hi) (cellsM_idlt h0 _) (litL_mem fun v hv=>by
  obtain ⟨a,_,ha⟩:=List.mem_flatMap.1 hv
  exact mem_litL (hlit a) v ha) (.inl ⟨_,_,_,_,rfl,rfl⟩)
theorem dfN_c {k:FuncId} {α:Type} {f:α→V} (hS:DelFNil P k f) {fn:α→Option Bool} {X:List α→Option β} {K:V→List Nat→List Nat→List Slot→Prop} {g:Nat} {caps caps' : List V} {rd:List Nat} (H:(delF? fn ([]:List α)).bind X=some r) (hc:Clo1 P g caps' f V.b fn) (hz:FzC st (.clo (.func g) caps) (.clo (.func g) caps') rd) (h:X []=some r→K (.sl [] true) rd [] st):Ask P k [.sl [] true,.clo (.func g) caps] st K:=by
 have:delF? fn ([]:List α)=some []:=rfl
 rw [this] at H
 exact askF_c (X:=some) (r:=()) (hS hc) rfl (.cons (.c (.id rfl)) (.cons (.c hz) .nil)) fun _ _=>by rw [List.nil_append,List.append_nil];exact h H
theorem dfNT_c (is:List Nat) {k:FuncId} {α:Type} {f:α→V} (hS:DelFNil P k f) {fn:α→Option Bool} {X:List α→Option β} {K:V→List Nat→List Nat→List Slot→Prop} {g:Nat} {caps caps' : List V} {rd:List Nat} (H:(delF? fn ([]:List α)).bind X=some r) (hc:Clo1 P g caps' f V.b fn) (hz:FzC (frzAll st is) (.clo (.func g) caps) (.clo (.func g) caps') rd) (h:X []=some r→K (.sl [] true) rd [] st):Ask P k [.sl [] true,.clo (.func g) caps] st K:=by
 have:delF? fn ([]:List α)=some []:=rfl
 rw [this] at H
 exact askT_c is (X:=some) (r:=()) (hS hc) rfl (.cons (.c (.id rfl)) (.cons (.c hz) .nil)) (fun _=>rfl) fun _ _=>by rw [List.nil_append,List.append_nil];exact h H
end
end Go.Proofs.YtpmoioopjbfhkaaGreat

/- Functions that write into a list that they are handed; functions that hand on own lists within a struct; slices.Grow. -/
namespace Go.Proofs.YtpmoioopjbfhkaaGreat
open Go.RowKit
def tru? (m:Option Bool):Option Bool:=if m=some true then some true else none
theorem tru_of {m:Option Bool} {r:Bool} (h:tru? m=some r):r=true∧m=some true:=by
 unfold tru? at h
 split at h
 ·exact ⟨(Option.some.inj h).symm,‹_›⟩
 ·cases h
theorem tru_ok {m:Option Bool} (h:m=some true):tru? m=some true:=if_pos h
theorem tru_closed {P:Program} {k:FuncId} {vs:List V} {m:Option Bool} (h:CallsO P k vs V.b (tru? m)) (hm:m=some true):CallsO P k vs V.b m:=fun v hv=>by
 rw [hm] at hv
 cases hv
 exact h true (tru_ok hm)
theorem tstT_c {b:Bool} {A B:Prop} {X:Option Bool} (H:(bif b then X else some false)=some true) (h:b=true→X=some true→A):Tst b A B :=
 tst_c H h fun _ h=>by cases h
theorem tstF_c {b:Bool} {A B:Prop} {X:Option Bool} (H:(bif b then some false else X)=some true) (h:b=false→X=some true→B):Tst b A B :=
 tst_c H (fun _ h=>by cases h) h
structure GrowRoads (P:Program) (k:FuncId) (es:Nat) (E:TypeId):Prop where
 some_:∀ (b:Option Addr) (n:Nat) (w:World),0 < n→n≤1000000→Calls P k #[.slice b 0 0,.int .i64 n] w fun e w'=>∃ (ZS:Array Value) (c:Nat),e=.returned (.slice (some ⟨w.heap.size,0,none⟩) 0 c)∧w'=w.drew.alloc (.cells ZS E)∧c * es≤ZS.size
 zero_:∀ (b:Option Addr) (w:World),Calls P k #[.slice b 0 0,.int .i64 0] w fun e w'=>e=.returned (.slice b 0 0)∧w'=w
end Go.Proofs.YtpmoioopjbfhkaaGreat

/- Plain functions (written by a program of mine). -/
namespace Go.Proofs.YtpmoioopjbfhkaaGreat
open Go.RowKit
def p_slices_IndexFunc_view_Row_l1 (a1:MailEntry→Option Bool) (z5:List MailEntry) (z6:Int):Nat→Int→Option (Int ⊕ Int)
 | 0,_=>none
 | n + 1,y7 =>
  bif (decide (y7 < z6)) then
   (at? z5 y7).bind fun x9 =>
   (a1 x9).bind fun v10 =>
   bif v10 then
    some (.inl y7)
   else
   p_slices_IndexFunc_view_Row_l1 a1 z5 z6 n (w64 (y7 + (1:Int)))
  else
  some (.inr y7)
def p_slices_IndexFunc_view_Row (a0:List MailEntry) (a1:MailEntry→Option Bool):Option (Int) :=
 (p_slices_IndexFunc_view_Row_l1 a1 a0 (a0.length:Int) fuel (0:Int)).bind fun o12=>match o12 with
 | .inl q13 =>
  some q13
 | .inr q14 =>
  some (-1:Int)
def p_slices_IndexFunc_view_Contact_l1 (a1:Ref35Contact→Option Bool) (z5:List Ref35Contact) (z6:Int):Nat→Int→Option (Int ⊕ Int)
 | 0,_=>none
 | n + 1,y7 =>
  bif (decide (y7 < z6)) then
   (at? z5 y7).bind fun x9 =>
   (a1 x9).bind fun v10 =>
   bif v10 then
    some (.inl y7)
   else
   p_slices_IndexFunc_view_Contact_l1 a1 z5 z6 n (w64 (y7 + (1:Int)))
  else
  some (.inr y7)
def p_slices_IndexFunc_view_Contact (a0:List Ref35Contact) (a1:Ref35Contact→Option Bool):Option (Int) :=
 (p_slices_IndexFunc_view_Contact_l1 a1 a0 (a0.length:Int) fuel (0:Int)).bind fun o12=>match o12 with
 | .inl q13 =>
  some q13
 | .inr q14 =>
  some (-1:Int)
end Go.Proofs.YtpmoioopjbfhkaaGreat

/- Plain functions (written by a program of mine). -/
namespace Go.Proofs.YtpmoioopjbfhkaaGreat
open Go.RowKit
structure Ar4_Int where
 a0:Int
 a1:Int
 a2:Int
 a3:Int
abbrev Ar4_Int.v (x:Ar4_Int):V:=.agg [.i x.a0,.i x.a1,.i x.a2,.i x.a3]
structure Ar4_Bool where
 a0:Bool
 a1:Bool
 a2:Bool
 a3:Bool
abbrev Ar4_Bool.v (x:Ar4_Bool):V:=.agg [.b x.a0,.b x.a1,.b x.a2,.b x.a3]
def p_view_Row_key (a0:MailEntry):Option (ByteArray) :=
 some a0.Key
def p_view_rise_view_Row__l1 (a1:MailEntry→Option ByteArray) (z4:List MailEntry):Nat→Int→Option (Bool ⊕ Int)
 | 0,_=>none
 | n + 1,y5 =>
  bif (decide (y5 < (z4.length:Int))) then
   (at? z4 (w64 (y5 - (1:Int)))).bind fun x7 =>
   (a1 x7).bind fun v8 =>
   (at? z4 y5).bind fun x9 =>
   (a1 x9).bind fun v10 =>
   bif (Op.bytesLess v8.toList v10.toList) then
    p_view_rise_view_Row__l1 a1 z4 n (w64 (y5 + (1:Int)))
   else
   some (.inl false)
  else
  some (.inr y5)
def p_view_rise_view_Row_ (a0:List MailEntry) (a1:MailEntry→Option ByteArray):Option (Bool) :=
 (p_view_rise_view_Row__l1 a1 a0 fuel (1:Int)).bind fun o12=>match o12 with
 | .inl q13 =>
  some q13
 | .inr q14 =>
  some true
def p_view_itself (a0:ByteArray):Option (ByteArray) :=
 some a0
def p_view_rise_string__l1 (a1:ByteArray→Option ByteArray) (z4:List ByteArray):Nat→Int→Option (Bool ⊕ Int)
 | 0,_=>none
 | n + 1,y5 =>
  bif (decide (y5 < (z4.length:Int))) then
   (at? z4 (w64 (y5 - (1:Int)))).bind fun x7 =>
   (a1 x7).bind fun v8 =>
   (at? z4 y5).bind fun x9 =>
   (a1 x9).bind fun v10 =>
   bif (Op.bytesLess v8.toList v10.toList) then
    p_view_rise_string__l1 a1 z4 n (w64 (y5 + (1:Int)))
   else
   some (.inl false)
  else
  some (.inr y5)
def p_view_rise_string_ (a0:List ByteArray) (a1:ByteArray→Option ByteArray):Option (Bool) :=
 (p_view_rise_string__l1 a1 a0 fuel (1:Int)).bind fun o12=>match o12 with
 | .inl q13 =>
  some q13
 | .inr q14 =>
  some true
def p_view_Contact_user (a0:Ref35Contact):Option (ByteArray) :=
 some a0.User
def p_view_rise_view_Contact__l1 (a1:Ref35Contact→Option ByteArray) (z4:List Ref35Contact):Nat→Int→Option (Bool ⊕ Int)
 | 0,_=>none
 | n + 1,y5 =>
  bif (decide (y5 < (z4.length:Int))) then
   (at? z4 (w64 (y5 - (1:Int)))).bind fun x7 =>
   (a1 x7).bind fun v8 =>
   (at? z4 y5).bind fun x9 =>
   (a1 x9).bind fun v10 =>
   bif (Op.bytesLess v8.toList v10.toList) then
    p_view_rise_view_Contact__l1 a1 z4 n (w64 (y5 + (1:Int)))
   else
   some (.inl false)
  else
  some (.inr y5)
def p_view_rise_view_Contact_ (a0:List Ref35Contact) (a1:Ref35Contact→Option ByteArray):Option (Bool) :=
 (p_view_rise_view_Contact__l1 a1 a0 fuel (1:Int)).bind fun o12=>match o12 with
 | .inl q13 =>
  some q13
 | .inr q14 =>
  some true
def p_view_Check_l1 (z5:Ar4_Int):Nat→Int→Option (Int ⊕ Int)
 | 0,_=>none
 | n + 1,y6 =>
  bif (decide (y6 < (4:Int))) then
   (at? [z5.a0,z5.a1,z5.a2,z5.a3] y6).bind fun x9 =>
   bif (decide ((64:Int) < x9)) then
    some (.inl (5:Int))
   else
   p_view_Check_l1 z5 n (w64 (y6 + (1:Int)))
  else
  some (.inr y6)
def p_view_Check_l2 (z22:Ar4_Bool):Nat→Int→Option (Int ⊕ Int)
 | 0,_=>none
 | n + 1,y23 =>
  bif (decide (y23 < (4:Int))) then
   (at? [z22.a0,z22.a1,z22.a2,z22.a3] y23).bind fun x26 =>
   bif x26 then
    p_view_Check_l2 z22 n (w64 (y23 + (1:Int)))
   else
   some (.inl (10:Int))
  else
  some (.inr y23)
def p_view_Check (a0:Ref35State):Option (Int) :=
 (p_view_Check_l1 (Ar4_Int.mk (a0.Rows.length:Int) (a0.Last.length:Int) (a0.Seen.length:Int) (a0.List.length:Int)) fuel (0:Int)).bind fun o11=>match o11 with
 | .inl q12 =>
  some q12
 | .inr q13 =>
  (p_view_rise_view_Row_ a0.Rows (fun x0=>p_view_Row_key x0)).bind fun v14 =>
  (p_view_rise_view_Row_ a0.Last (fun x0=>p_view_Row_key x0)).bind fun v15 =>
  (p_view_rise_string_ a0.Seen (fun x0=>p_view_itself x0)).bind fun v16 =>
  (p_view_rise_view_Contact_ a0.List (fun x0=>p_view_Contact_user x0)).bind fun v17 =>
  (p_view_Check_l2 (Ar4_Bool.mk v14 v15 v16 v17) fuel (0:Int)).bind fun o28=>match o28 with
  | .inl q29 =>
   some q29
  | .inr q30 =>
   bif (decide ((0:Int) < (a0.Seen.length:Int))) then
    bif a0.Anew then
     bif (decide (a0.Odd < (0:Int))) then
      some (9:Int)
     else
     bif (decide ((1099511627776:Int) < a0.Odd)) then
      some (9:Int)
     else
     bif (decide (a0.Told < (0:Int))) then
      some (9:Int)
     else
     bif (decide ((1099511627776:Int) < a0.Told)) then
      some (9:Int)
     else
     some (0:Int)
    else
    some (9:Int)
   else
   bif (decide (a0.Odd < (0:Int))) then
    some (9:Int)
   else
   bif (decide ((1099511627776:Int) < a0.Odd)) then
    some (9:Int)
   else
   bif (decide (a0.Told < (0:Int))) then
    some (9:Int)
   else
   bif (decide ((1099511627776:Int) < a0.Told)) then
    some (9:Int)
   else
   some (0:Int)
def p_view_find_string__1 (a0:ByteArray) (a1:ByteArray) (c0:ByteArray→Option ByteArray):Option (Int) :=
 (c0 a0).bind fun v1 =>
 (p_strings_Compare v1 a1).bind fun v2 =>
 some v2
def p_slices_BinarySearchFunc_string_l1 (a2:ByteArray→ByteArray→Option Int) (z8:List ByteArray) (z9:ByteArray):Nat→Int→Int→Option ((Int × Int))
 | 0,_,_=>none
 | n + 1,y11,y12 =>
  bif (decide (y11 < y12)) then
   (at? z8 (w64 (shrI .u64 (IntKind.wrap .u64 (w64 (y11 + y12))) (1:Int)))).bind fun x14 =>
   (a2 x14 z9).bind fun v15 =>
   bif (decide (v15 < (0:Int))) then
    p_slices_BinarySearchFunc_string_l1 a2 z8 z9 n (w64 (w64 (shrI .u64 (IntKind.wrap .u64 (w64 (y11 + y12))) (1:Int)) + (1:Int))) y12
   else
   p_slices_BinarySearchFunc_string_l1 a2 z8 z9 n y11 (w64 (shrI .u64 (IntKind.wrap .u64 (w64 (y11 + y12))) (1:Int)))
  else
  some (y11,y12)
def p_slices_BinarySearchFunc_string (a0:List ByteArray) (a1:ByteArray) (a2:ByteArray→ByteArray→Option Int):Option (Int × Bool) :=
 (p_slices_BinarySearchFunc_string_l1 a2 a0 a1 fuel (0:Int) (a0.length:Int)).bind fun q18 =>
 bif (decide (q18.1 < (a0.length:Int))) then
  (at? a0 q18.1).bind fun x20 =>
  (a2 x20 a1).bind fun v21 =>
  some (q18.1,(v21 == (0:Int)))
 else
 some (q18.1,false)
def p_view_find_string_ (a0:List ByteArray) (a1:ByteArray) (a2:ByteArray→Option ByteArray):Option (Int × Bool) :=
 (p_slices_BinarySearchFunc_string a0 a1 (fun x0 x1=>p_view_find_string__1 x0 x1 a2)).bind fun v1 =>
 some (v1.1,v1.2)
def p_view_State_done_1 (a0:MailEntry) (c0:Ref35State):Option (Bool) :=
 (p_view_find_string_ c0.Seen a0.Key (fun x0=>p_view_itself x0)).bind fun v1 =>
 some (!v1.2)
def p_view_State_done (a0:Ref35State):Option (Ref35State) :=
 bif a0.Anew then
  (clone? a0.Rows).bind fun l2 =>
  (delF? (fun x0=>p_view_State_done_1 x0 a0) l2).bind fun v3 =>
  some (Ref35State.mk v3 a0.Last false [] a0.List a0.Odd a0.Told)
 else
 some a0
def p_pres_in (a0:Int) (a1:Int) (a2:Int):Option (Bool) :=
 bif (decide (a1≤a0)) then
  some (decide (a0≤a2))
 else
 some false
def p_pres_Check (a0:PresPres):Option (Int) :=
 (p_pres_in a0.Show (0:Int) (4:Int)).bind fun v1 =>
 bif v1 then
  (p_pres_in a0.Prio (-128:Int) (127:Int)).bind fun v3 =>
  bif v3 then
   (p_pres_in a0.Seq (0:Int) (1099511627776:Int)).bind fun v5 =>
   bif v5 then
    bif a0.On then
     some (0:Int)
    else
    bif ((a0.On == false) && ((a0.Show == (0:Int)) && ((a0.Prio == (0:Int)) && ((a0.Seq == a0.Seq) && true)))) then
     some (0:Int)
    else
    some (4:Int)
   else
   some (8:Int)
  else
  some (8:Int)
 else
 some (8:Int)
def p_pres_Of (a0:StanzaStanza):Option (ByteArray × ByteArray × PresPres × Int) :=
 bif (a0.Kind != (34:Int)) then
  bif (a0.Kind != (35:Int)) then
   some ((⟨#[]⟩ : ByteArray),(⟨#[]⟩ : ByteArray),(PresPres.mk false (0:Int) (0:Int) (0:Int)),(12:Int))
  else
  (p_stanza_Check a0).bind fun v3 =>
  bif (v3 != (0:Int)) then
   some ((⟨#[]⟩ : ByteArray),(⟨#[]⟩ : ByteArray),(PresPres.mk false (0:Int) (0:Int) (0:Int)),v3)
  else
  (p_pres_Check (PresPres.mk (a0.Kind == (34:Int)) a0.Show a0.Prio a0.N)).bind fun v5 =>
  bif (v5 != (0:Int)) then
   some ((⟨#[]⟩ : ByteArray),(⟨#[]⟩ : ByteArray),(PresPres.mk false (0:Int) (0:Int) (0:Int)),v5)
  else
  some (a0.User,a0.Res,(PresPres.mk (a0.Kind == (34:Int)) a0.Show a0.Prio a0.N),(0:Int))
 else
 (p_stanza_Check a0).bind fun v7 =>
 bif (v7 != (0:Int)) then
  some ((⟨#[]⟩ : ByteArray),(⟨#[]⟩ : ByteArray),(PresPres.mk false (0:Int) (0:Int) (0:Int)),v7)
 else
 (p_pres_Check (PresPres.mk (a0.Kind == (34:Int)) a0.Show a0.Prio a0.N)).bind fun v9 =>
 bif (v9 != (0:Int)) then
  some ((⟨#[]⟩ : ByteArray),(⟨#[]⟩ : ByteArray),(PresPres.mk false (0:Int) (0:Int) (0:Int)),v9)
 else
 some (a0.User,a0.Res,(PresPres.mk (a0.Kind == (34:Int)) a0.Show a0.Prio a0.N),(0:Int))
def p_pres_named (a0:ByteArray) (a1:ByteArray):Option (Bool) :=
 (p_addr_Resource a1).bind fun v1 =>
 bif (v1 == (0:Int)) then
  (p_addr_IsBare a0).bind fun v3 =>
  some v3
 else
 some false
def p_pres_Key (a0:ByteArray) (a1:ByteArray):Option (ByteArray) :=
 (p_pres_named a0 a1).bind fun v1 =>
 bif v1 then
  (cat? a0 (⟨#[32]⟩ : ByteArray)).bind fun s3 =>
  (cat? s3 a1).bind fun s4 =>
  some s4
 else
 some (⟨#[]⟩ : ByteArray)
def p_view_find_view_Row__1 (a0:MailEntry) (a1:ByteArray) (c0:MailEntry→Option ByteArray):Option (Int) :=
 (c0 a0).bind fun v1 =>
 (p_strings_Compare v1 a1).bind fun v2 =>
 some v2
def p_slices_BinarySearchFunc_view_Row_l1 (a2:MailEntry→ByteArray→Option Int) (z8:List MailEntry) (z9:ByteArray):Nat→Int→Int→Option ((Int × Int))
 | 0,_,_=>none
 | n + 1,y11,y12 =>
  bif (decide (y11 < y12)) then
   (at? z8 (w64 (shrI .u64 (IntKind.wrap .u64 (w64 (y11 + y12))) (1:Int)))).bind fun x14 =>
   (a2 x14 z9).bind fun v15 =>
   bif (decide (v15 < (0:Int))) then
    p_slices_BinarySearchFunc_view_Row_l1 a2 z8 z9 n (w64 (w64 (shrI .u64 (IntKind.wrap .u64 (w64 (y11 + y12))) (1:Int)) + (1:Int))) y12
   else
   p_slices_BinarySearchFunc_view_Row_l1 a2 z8 z9 n y11 (w64 (shrI .u64 (IntKind.wrap .u64 (w64 (y11 + y12))) (1:Int)))
  else
  some (y11,y12)
def p_slices_BinarySearchFunc_view_Row (a0:List MailEntry) (a1:ByteArray) (a2:MailEntry→ByteArray→Option Int):Option (Int × Bool) :=
 (p_slices_BinarySearchFunc_view_Row_l1 a2 a0 a1 fuel (0:Int) (a0.length:Int)).bind fun q18 =>
 bif (decide (q18.1 < (a0.length:Int))) then
  (at? a0 q18.1).bind fun x20 =>
  (a2 x20 a1).bind fun v21 =>
  some (q18.1,(v21 == (0:Int)))
 else
 some (q18.1,false)
def p_view_find_view_Row_ (a0:List MailEntry) (a1:ByteArray) (a2:MailEntry→Option ByteArray):Option (Int × Bool) :=
 (p_slices_BinarySearchFunc_view_Row a0 a1 (fun x0 x1=>p_view_find_view_Row__1 x0 x1 a2)).bind fun v1 =>
 some (v1.1,v1.2)
def p_pres_Newer (a0:PresPres) (a1:PresPres):Option (Bool) :=
 some (decide (a1.Seq < a0.Seq))
def p_view_put_view_Row_ (a0:List MailEntry) (a1:MailEntry) (a2:MailEntry→Option ByteArray):Option ((List MailEntry)) :=
 (a2 a1).bind fun v1 =>
 (p_view_find_view_Row_ a0 v1 a2).bind fun v2 =>
 (clone? a0).bind fun l3 =>
 bif v2.2 then
  (at? l3 v2.1).bind fun x5 =>
  some (List.set l3 (Int.toNat v2.1) a1)
 else
 bif (decide ((a0.length:Int) < (64:Int))) then
  (insAt? l3 v2.1 a1).bind fun v8 =>
  some v8
 else
 some l3
def p_view_put_string_ (a0:List ByteArray) (a1:ByteArray) (a2:ByteArray→Option ByteArray):Option ((List ByteArray)) :=
 (a2 a1).bind fun v1 =>
 (p_view_find_string_ a0 v1 a2).bind fun v2 =>
 (clone? a0).bind fun l3 =>
 bif v2.2 then
  (at? l3 v2.1).bind fun x5 =>
  some (List.set l3 (Int.toNat v2.1) a1)
 else
 bif (decide ((a0.length:Int) < (64:Int))) then
  (insAt? l3 v2.1 a1).bind fun v8 =>
  some v8
 else
 some l3
def p_view_cut_view_Row__1 (a0:MailEntry) (c0:MailEntry→Option ByteArray) (c1:ByteArray):Option (Bool) :=
 (c0 a0).bind fun v1 =>
 some (v1.toList == c1.toList)
def p_view_cut_view_Row_ (a0:List MailEntry) (a1:ByteArray) (a2:MailEntry→Option ByteArray):Option ((List MailEntry)) :=
 (clone? a0).bind fun l1 =>
 (delF? (fun x0=>p_view_cut_view_Row__1 x0 a2 a1) l1).bind fun v2 =>
 some v2
def p_view_State_row (a0:Ref35State) (a1:StanzaStanza):Option (Ref35State) :=
 (p_pres_Of a1).bind fun v1 =>
 bif (v1.2.2.2 != (0:Int)) then
  some a0
 else
 (p_pres_Key v1.1 v1.2.1).bind fun v3 =>
 (p_view_find_view_Row_ a0.Last v3 (fun x0=>p_view_Row_key x0)).bind fun v4 =>
 bif v4.2 then
  (at? a0.Last v4.1).bind fun x6 =>
  (p_pres_Newer x6.P v1.2.2.1).bind fun v7 =>
  bif v7 then
   (p_view_put_view_Row_ a0.Last (MailEntry.mk v3 v1.2.2.1) (fun x0=>p_view_Row_key x0)).bind fun v9 =>
   bif v1.2.2.1.On then
    (p_view_put_view_Row_ a0.Rows (MailEntry.mk v3 v1.2.2.1) (fun x0=>p_view_Row_key x0)).bind fun v11 =>
    bif a0.Anew then
     (p_view_put_string_ a0.Seen v3 (fun x0=>p_view_itself x0)).bind fun v13 =>
     some (Ref35State.mk v11 v9 a0.Anew v13 a0.List (if (1099511627776:Int) < w64 (a0.Odd + (1:Int)) then (1099511627776:Int) else w64 (a0.Odd + (1:Int))) a0.Told)
    else
    some (Ref35State.mk v11 v9 a0.Anew a0.Seen a0.List (if (1099511627776:Int) < w64 (a0.Odd + (1:Int)) then (1099511627776:Int) else w64 (a0.Odd + (1:Int))) a0.Told)
   else
   (p_view_cut_view_Row_ a0.Rows v3 (fun x0=>p_view_Row_key x0)).bind fun v14 =>
   bif a0.Anew then
    (p_view_put_string_ a0.Seen v3 (fun x0=>p_view_itself x0)).bind fun v16 =>
    some (Ref35State.mk v14 v9 a0.Anew v16 a0.List (if (1099511627776:Int) < w64 (a0.Odd + (1:Int)) then (1099511627776:Int) else w64 (a0.Odd + (1:Int))) a0.Told)
   else
   some (Ref35State.mk v14 v9 a0.Anew a0.Seen a0.List (if (1099511627776:Int) < w64 (a0.Odd + (1:Int)) then (1099511627776:Int) else w64 (a0.Odd + (1:Int))) a0.Told)
  else
  bif (x6.P.Seq == v1.2.2.1.Seq) then
   bif a0.Anew then
    (p_view_put_view_Row_ a0.Last (MailEntry.mk v3 v1.2.2.1) (fun x0=>p_view_Row_key x0)).bind fun v19 =>
    bif v1.2.2.1.On then
     (p_view_put_view_Row_ a0.Rows (MailEntry.mk v3 v1.2.2.1) (fun x0=>p_view_Row_key x0)).bind fun v21 =>
     (p_view_put_string_ a0.Seen v3 (fun x0=>p_view_itself x0)).bind fun v22 =>
     some (Ref35State.mk v21 v19 a0.Anew v22 a0.List a0.Odd a0.Told)
    else
    (p_view_cut_view_Row_ a0.Rows v3 (fun x0=>p_view_Row_key x0)).bind fun v23 =>
    (p_view_put_string_ a0.Seen v3 (fun x0=>p_view_itself x0)).bind fun v24 =>
    some (Ref35State.mk v23 v19 a0.Anew v24 a0.List a0.Odd a0.Told)
   else
   (p_view_put_view_Row_ a0.Last (MailEntry.mk v3 v1.2.2.1) (fun x0=>p_view_Row_key x0)).bind fun v25 =>
   bif v1.2.2.1.On then
    (p_view_put_view_Row_ a0.Rows (MailEntry.mk v3 v1.2.2.1) (fun x0=>p_view_Row_key x0)).bind fun v27 =>
    some (Ref35State.mk v27 v25 a0.Anew a0.Seen a0.List (if (1099511627776:Int) < w64 (a0.Odd + (1:Int)) then (1099511627776:Int) else w64 (a0.Odd + (1:Int))) a0.Told)
   else
   (p_view_cut_view_Row_ a0.Rows v3 (fun x0=>p_view_Row_key x0)).bind fun v28 =>
   some (Ref35State.mk v28 v25 a0.Anew a0.Seen a0.List (if (1099511627776:Int) < w64 (a0.Odd + (1:Int)) then (1099511627776:Int) else w64 (a0.Odd + (1:Int))) a0.Told)
  else
  (p_view_put_view_Row_ a0.Last (MailEntry.mk v3 v1.2.2.1) (fun x0=>p_view_Row_key x0)).bind fun v29 =>
  bif v1.2.2.1.On then
   (p_view_put_view_Row_ a0.Rows (MailEntry.mk v3 v1.2.2.1) (fun x0=>p_view_Row_key x0)).bind fun v31 =>
   bif a0.Anew then
    (p_view_put_string_ a0.Seen v3 (fun x0=>p_view_itself x0)).bind fun v33 =>
    some (Ref35State.mk v31 v29 a0.Anew v33 a0.List a0.Odd a0.Told)
   else
   some (Ref35State.mk v31 v29 a0.Anew a0.Seen a0.List a0.Odd a0.Told)
  else
  (p_view_cut_view_Row_ a0.Rows v3 (fun x0=>p_view_Row_key x0)).bind fun v34 =>
  bif a0.Anew then
   (p_view_put_string_ a0.Seen v3 (fun x0=>p_view_itself x0)).bind fun v36 =>
   some (Ref35State.mk v34 v29 a0.Anew v36 a0.List a0.Odd a0.Told)
  else
  some (Ref35State.mk v34 v29 a0.Anew a0.Seen a0.List a0.Odd a0.Told)
 else
 (p_view_put_view_Row_ a0.Last (MailEntry.mk v3 v1.2.2.1) (fun x0=>p_view_Row_key x0)).bind fun v37 =>
 bif v1.2.2.1.On then
  (p_view_put_view_Row_ a0.Rows (MailEntry.mk v3 v1.2.2.1) (fun x0=>p_view_Row_key x0)).bind fun v39 =>
  bif a0.Anew then
   (p_view_put_string_ a0.Seen v3 (fun x0=>p_view_itself x0)).bind fun v41 =>
   some (Ref35State.mk v39 v37 a0.Anew v41 a0.List a0.Odd a0.Told)
  else
  some (Ref35State.mk v39 v37 a0.Anew a0.Seen a0.List a0.Odd a0.Told)
 else
 (p_view_cut_view_Row_ a0.Rows v3 (fun x0=>p_view_Row_key x0)).bind fun v42 =>
 bif a0.Anew then
  (p_view_put_string_ a0.Seen v3 (fun x0=>p_view_itself x0)).bind fun v44 =>
  some (Ref35State.mk v42 v37 a0.Anew v44 a0.List a0.Odd a0.Told)
 else
 some (Ref35State.mk v42 v37 a0.Anew a0.Seen a0.List a0.Odd a0.Told)
def p_view_find_view_Contact__1 (a0:Ref35Contact) (a1:ByteArray) (c0:Ref35Contact→Option ByteArray):Option (Int) :=
 (c0 a0).bind fun v1 =>
 (p_strings_Compare v1 a1).bind fun v2 =>
 some v2
def p_slices_BinarySearchFunc_view_Contact_l1 (a2:Ref35Contact→ByteArray→Option Int) (z8:List Ref35Contact) (z9:ByteArray):Nat→Int→Int→Option ((Int × Int))
 | 0,_,_=>none
 | n + 1,y11,y12 =>
  bif (decide (y11 < y12)) then
   (at? z8 (w64 (shrI .u64 (IntKind.wrap .u64 (w64 (y11 + y12))) (1:Int)))).bind fun x14 =>
   (a2 x14 z9).bind fun v15 =>
   bif (decide (v15 < (0:Int))) then
    p_slices_BinarySearchFunc_view_Contact_l1 a2 z8 z9 n (w64 (w64 (shrI .u64 (IntKind.wrap .u64 (w64 (y11 + y12))) (1:Int)) + (1:Int))) y12
   else
   p_slices_BinarySearchFunc_view_Contact_l1 a2 z8 z9 n y11 (w64 (shrI .u64 (IntKind.wrap .u64 (w64 (y11 + y12))) (1:Int)))
  else
  some (y11,y12)
def p_slices_BinarySearchFunc_view_Contact (a0:List Ref35Contact) (a1:ByteArray) (a2:Ref35Contact→ByteArray→Option Int):Option (Int × Bool) :=
 (p_slices_BinarySearchFunc_view_Contact_l1 a2 a0 a1 fuel (0:Int) (a0.length:Int)).bind fun q18 =>
 bif (decide (q18.1 < (a0.length:Int))) then
  (at? a0 q18.1).bind fun x20 =>
  (a2 x20 a1).bind fun v21 =>
  some (q18.1,(v21 == (0:Int)))
 else
 some (q18.1,false)
def p_view_find_view_Contact_ (a0:List Ref35Contact) (a1:ByteArray) (a2:Ref35Contact→Option ByteArray):Option (Int × Bool) :=
 (p_slices_BinarySearchFunc_view_Contact a0 a1 (fun x0 x1=>p_view_find_view_Contact__1 x0 x1 a2)).bind fun v1 =>
 some (v1.1,v1.2)
def p_view_put_view_Contact_ (a0:List Ref35Contact) (a1:Ref35Contact) (a2:Ref35Contact→Option ByteArray):Option ((List Ref35Contact)) :=
 (a2 a1).bind fun v1 =>
 (p_view_find_view_Contact_ a0 v1 a2).bind fun v2 =>
 (clone? a0).bind fun l3 =>
 bif v2.2 then
  (at? l3 v2.1).bind fun x5 =>
  some (List.set l3 (Int.toNat v2.1) a1)
 else
 bif (decide ((a0.length:Int) < (64:Int))) then
  (insAt? l3 v2.1 a1).bind fun v8 =>
  some v8
 else
 some l3
def p_view_cut_view_Contact__1 (a0:Ref35Contact) (c0:Ref35Contact→Option ByteArray) (c1:ByteArray):Option (Bool) :=
 (c0 a0).bind fun v1 =>
 some (v1.toList == c1.toList)
def p_view_cut_view_Contact_ (a0:List Ref35Contact) (a1:ByteArray) (a2:Ref35Contact→Option ByteArray):Option ((List Ref35Contact)) :=
 (clone? a0).bind fun l1 =>
 (delF? (fun x0=>p_view_cut_view_Contact__1 x0 a2 a1) l1).bind fun v2 =>
 some v2
def p_view_Tell (a0:Ref35State) (a1:StanzaStanza):Option (Ref35State) :=
 (p_view_Check a0).bind fun v1 =>
 bif (v1 != (0:Int)) then
  some a0
 else
 bif (a1.Kind == (36:Int)) then
  some (Ref35State.mk a0.Rows a0.Last true [] a0.List a0.Odd (if (1099511627776:Int) < w64 (a0.Told + (1:Int)) then (1099511627776:Int) else w64 (a0.Told + (1:Int))))
 else
 bif (a1.Kind == (37:Int)) then
  (p_view_State_done (Ref35State.mk a0.Rows a0.Last a0.Anew a0.Seen a0.List a0.Odd (if (1099511627776:Int) < w64 (a0.Told + (1:Int)) then (1099511627776:Int) else w64 (a0.Told + (1:Int))))).bind fun v5 =>
  some v5
 else
 bif (a1.Kind == (34:Int)) then
  (p_view_State_row (Ref35State.mk a0.Rows a0.Last a0.Anew a0.Seen a0.List a0.Odd (if (1099511627776:Int) < w64 (a0.Told + (1:Int)) then (1099511627776:Int) else w64 (a0.Told + (1:Int)))) a1).bind fun v7 =>
  some v7
 else
 bif (a1.Kind == (35:Int)) then
  (p_view_State_row (Ref35State.mk a0.Rows a0.Last a0.Anew a0.Seen a0.List a0.Odd (if (1099511627776:Int) < w64 (a0.Told + (1:Int)) then (1099511627776:Int) else w64 (a0.Told + (1:Int)))) a1).bind fun v9 =>
  some v9
 else
 bif (a1.Kind == (38:Int)) then
  (p_view_put_view_Contact_ a0.List (Ref35Contact.mk a1.User a1.Name a1.Show a1.N) (fun x0=>p_view_Contact_user x0)).bind fun v11 =>
  some (Ref35State.mk a0.Rows a0.Last a0.Anew a0.Seen v11 a0.Odd (if (1099511627776:Int) < w64 (a0.Told + (1:Int)) then (1099511627776:Int) else w64 (a0.Told + (1:Int))))
 else
 bif (a1.Kind == (39:Int)) then
  (p_view_cut_view_Contact_ a0.List a1.User (fun x0=>p_view_Contact_user x0)).bind fun v13 =>
  some (Ref35State.mk a0.Rows a0.Last a0.Anew a0.Seen v13 a0.Odd (if (1099511627776:Int) < w64 (a0.Told + (1:Int)) then (1099511627776:Int) else w64 (a0.Told + (1:Int))))
 else
 some (Ref35State.mk a0.Rows a0.Last a0.Anew a0.Seen a0.List a0.Odd (if (1099511627776:Int) < w64 (a0.Told + (1:Int)) then (1099511627776:Int) else w64 (a0.Told + (1:Int))))
def p_view_Fits_1 (a0:MailEntry) (a1:BookRow):Option (Bool) :=
 (p_pres_Key a1.User a1.Res).bind fun v1 =>
 bif (a0.Key.toList == v1.toList) then
  some ((a0.P.On == a1.P.On) && ((a0.P.Show == a1.P.Show) && ((a0.P.Prio == a1.P.Prio) && ((a0.P.Seq == a1.P.Seq) && true))))
 else
 some false
def p_slices_EqualFunc_view_Row_l1 (a2:MailEntry→BookRow→Option Bool) (z7:List BookRow) (z8:List MailEntry) (z9:Int):Nat→Int→Option (Bool ⊕ Int)
 | 0,_=>none
 | n + 1,y10 =>
  bif (decide (y10 < z9)) then
   (at? z8 y10).bind fun x12 =>
   (at? z7 y10).bind fun x13 =>
   (a2 x12 x13).bind fun v14 =>
   bif v14 then
    p_slices_EqualFunc_view_Row_l1 a2 z7 z8 z9 n (w64 (y10 + (1:Int)))
   else
   some (.inl false)
  else
  some (.inr y10)
def p_slices_EqualFunc_view_Row (a0:List MailEntry) (a1:List BookRow) (a2:MailEntry→BookRow→Option Bool):Option (Bool) :=
 bif ((a0.length:Int) != (a1.length:Int)) then
  some false
 else
 (p_slices_EqualFunc_view_Row_l1 a2 a1 a0 (a0.length:Int) fuel (0:Int)).bind fun o16=>match o16 with
 | .inl q17 =>
  some q17
 | .inr q18 =>
  some true
def p_view_Fits (a0:Ref35State) (a1:List BookRow):Option (Bool) :=
 (p_slices_EqualFunc_view_Row a0.Rows a1 (fun x0 x1=>p_view_Fits_1 x0 x1)).bind fun v1 =>
 some v1
def p_view_Run_l1 (z6:List StanzaStanza) (z7:Int):Nat→Int→Ref35State→Option ((Int × Ref35State))
 | 0,_,_=>none
 | n + 1,y8,y9 =>
  bif (decide (y8 < z7)) then
   (at? z6 y8).bind fun x12 =>
   (p_view_Tell y9 x12).bind fun v13 =>
   p_view_Run_l1 z6 z7 n (w64 (y8 + (1:Int))) v13
  else
  some (y8,y9)
def p_view_Run (a0:Ref35State) (a1:List StanzaStanza):Option (Ref35State) :=
 (p_view_Run_l1 a1 (a1.length:Int) fuel (0:Int) a0).bind fun q15 =>
 some q15.2
def p_view_Get_1 (a0:MailEntry) (c0:ByteArray):Option (Bool) :=
 some (a0.Key.toList == c0.toList)
def p_view_Get (a0:Ref35State) (a1:ByteArray):Option (PresPres × Bool) :=
 (p_slices_IndexFunc_view_Row a0.Rows (fun x0=>p_view_Get_1 x0 a1)).bind fun v1 =>
 bif (decide (v1 < (0:Int))) then
  some ((PresPres.mk false (0:Int) (0:Int) (0:Int)),false)
 else
 (at? a0.Rows v1).bind fun x3 =>
 some (x3.P,true)
def p_view_Contacts_l1 (z7:List Ref35Contact) (z8:Int):Nat→(List ByteArray)→Int→Option (((List ByteArray) × Int))
 | 0,_,_=>none
 | n + 1,y6,y9 =>
  bif (decide (y9 < z8)) then
   (at? z7 y9).bind fun x11 =>
   (app? y6 [x11.User]).bind fun l12 =>
   p_view_Contacts_l1 z7 z8 n l12 (w64 (y9 + (1:Int)))
  else
  some (y6,y9)
def p_view_Contacts (a0:Ref35State):Option ((List ByteArray)) :=
 (p_view_Contacts_l1 a0.List (a0.List.length:Int) fuel [] (0:Int)).bind fun q14 =>
 some q14.1
def p_ref01_SameTexts_l1 (z6:List ByteArray) (z7:List ByteArray):Nat→Int→Option (Bool ⊕ Int)
 | 0,_=>none
 | n + 1,y8 =>
  bif (decide (y8 < (z6.length:Int))) then
   (at? z6 y8).bind fun x10 =>
   (at? z7 y8).bind fun x11 =>
   bif (x10.toList == x11.toList) then
    p_ref01_SameTexts_l1 z6 z7 n (w64 (y8 + (1:Int)))
   else
   some (.inl false)
  else
  some (.inr y8)
def p_ref01_SameTexts (a0:List ByteArray) (a1:List ByteArray):Option (Bool) :=
 bif ((a0.length:Int) != (a1.length:Int)) then
  some false
 else
 (p_ref01_SameTexts_l1 a0 a1 fuel (0:Int)).bind fun o13=>match o13 with
 | .inl q14 =>
  some q14
 | .inr q15 =>
  some true
def p_slices_Equal_view_Row_l1 (z7:List MailEntry) (z8:List MailEntry) (z9:Int):Nat→Int→Option (Bool ⊕ Int)
 | 0,_=>none
 | n + 1,y10 =>
  bif (decide (y10 < z9)) then
   (at? z7 y10).bind fun x12 =>
   (at? z8 y10).bind fun x13 =>
   bif ((x12.Key.toList == x13.Key.toList) && ((x12.P.On == x13.P.On) && ((x12.P.Show == x13.P.Show) && ((x12.P.Prio == x13.P.Prio) && ((x12.P.Seq == x13.P.Seq) && true))))) then
    p_slices_Equal_view_Row_l1 z7 z8 z9 n (w64 (y10 + (1:Int)))
   else
   some (.inl false)
  else
  some (.inr y10)
def p_slices_Equal_view_Row (a0:List MailEntry) (a1:List MailEntry):Option (Bool) :=
 bif ((a0.length:Int) != (a1.length:Int)) then
  some false
 else
 (p_slices_Equal_view_Row_l1 a0 a1 (a0.length:Int) fuel (0:Int)).bind fun o15=>match o15 with
 | .inl q16 =>
  some q16
 | .inr q17 =>
  some true
def p_slices_Equal_string_l1 (z7:List ByteArray) (z8:List ByteArray) (z9:Int):Nat→Int→Option (Bool ⊕ Int)
 | 0,_=>none
 | n + 1,y10 =>
  bif (decide (y10 < z9)) then
   (at? z7 y10).bind fun x12 =>
   (at? z8 y10).bind fun x13 =>
   bif (x12.toList == x13.toList) then
    p_slices_Equal_string_l1 z7 z8 z9 n (w64 (y10 + (1:Int)))
   else
   some (.inl false)
  else
  some (.inr y10)
def p_slices_Equal_string (a0:List ByteArray) (a1:List ByteArray):Option (Bool) :=
 bif ((a0.length:Int) != (a1.length:Int)) then
  some false
 else
 (p_slices_Equal_string_l1 a0 a1 (a0.length:Int) fuel (0:Int)).bind fun o15=>match o15 with
 | .inl q16 =>
  some q16
 | .inr q17 =>
  some true
def p_slices_Equal_view_Contact_l1 (z7:List Ref35Contact) (z8:List Ref35Contact) (z9:Int):Nat→Int→Option (Bool ⊕ Int)
 | 0,_=>none
 | n + 1,y10 =>
  bif (decide (y10 < z9)) then
   (at? z7 y10).bind fun x12 =>
   (at? z8 y10).bind fun x13 =>
   bif ((x12.User.toList == x13.User.toList) && ((x12.Name.toList == x13.Name.toList) && ((x12.Show == x13.Show) && ((x12.Ver == x13.Ver) && true)))) then
    p_slices_Equal_view_Contact_l1 z7 z8 z9 n (w64 (y10 + (1:Int)))
   else
   some (.inl false)
  else
  some (.inr y10)
def p_slices_Equal_view_Contact (a0:List Ref35Contact) (a1:List Ref35Contact):Option (Bool) :=
 bif ((a0.length:Int) != (a1.length:Int)) then
  some false
 else
 (p_slices_Equal_view_Contact_l1 a0 a1 (a0.length:Int) fuel (0:Int)).bind fun o15=>match o15 with
 | .inl q16 =>
  some q16
 | .inr q17 =>
  some true
def p_view_Same (a0:Ref35State) (a1:Ref35State):Option (Bool) :=
 (p_slices_Equal_view_Row a0.Rows a1.Rows).bind fun v1 =>
 bif v1 then
  (p_slices_Equal_view_Row a0.Last a1.Last).bind fun v3 =>
  bif v3 then
   bif (a0.Anew == a1.Anew) then
    (p_slices_Equal_string a0.Seen a1.Seen).bind fun v6 =>
    bif v6 then
     (p_slices_Equal_view_Contact a0.List a1.List).bind fun v8 =>
     bif v8 then
      bif (a0.Odd == a1.Odd) then
       some (a0.Told == a1.Told)
      else
      some false
     else
     some false
    else
    some false
   else
   some false
  else
  some false
 else
 some false
def p_law35_awake:Option (Bool) :=
 (p_view_Run (Ref35State.mk [] [] false [] [] (0:Int) (0:Int)) [(StanzaStanza.mk (36:Int) (⟨#[]⟩ : ByteArray) (⟨#[]⟩ : ByteArray) (⟨#[]⟩ : ByteArray) (0:Int) (0:Int) (0:Int) (1:Int)),(StanzaStanza.mk (34:Int) (⟨#[97,64,120]⟩ : ByteArray) (⟨#[]⟩ : ByteArray) (⟨#[]⟩ : ByteArray) (1:Int) (0:Int) (0:Int) (5:Int)),(StanzaStanza.mk (37:Int) (⟨#[]⟩ : ByteArray) (⟨#[]⟩ : ByteArray) (⟨#[]⟩ : ByteArray) (0:Int) (0:Int) (0:Int) (0:Int)),(StanzaStanza.mk (34:Int) (⟨#[97,64,120]⟩ : ByteArray) (⟨#[]⟩ : ByteArray) (⟨#[]⟩ : ByteArray) (1:Int) (0:Int) (0:Int) (5:Int)),(StanzaStanza.mk (38:Int) (⟨#[97,64,120]⟩ : ByteArray) (⟨#[]⟩ : ByteArray) (⟨#[65,110,110]⟩ : ByteArray) (1:Int) (0:Int) (0:Int) (2:Int))]).bind fun v1 =>
 (p_view_Tell v1 (StanzaStanza.mk (35:Int) (⟨#[97,64,120]⟩ : ByteArray) (⟨#[]⟩ : ByteArray) (⟨#[]⟩ : ByteArray) (0:Int) (0:Int) (0:Int) (6:Int))).bind fun v2 =>
 (p_view_Run v1 [(StanzaStanza.mk (36:Int) (⟨#[]⟩ : ByteArray) (⟨#[]⟩ : ByteArray) (⟨#[]⟩ : ByteArray) (0:Int) (0:Int) (0:Int) (0:Int)),(StanzaStanza.mk (37:Int) (⟨#[]⟩ : ByteArray) (⟨#[]⟩ : ByteArray) (⟨#[]⟩ : ByteArray) (0:Int) (0:Int) (0:Int) (0:Int)),(StanzaStanza.mk (39:Int) (⟨#[97,64,120]⟩ : ByteArray) (⟨#[]⟩ : ByteArray) (⟨#[]⟩ : ByteArray) (0:Int) (0:Int) (0:Int) (0:Int))]).bind fun v3 =>
 (p_view_Get v1 (⟨#[97,64,120,32]⟩ : ByteArray)).bind fun v4 =>
 (p_view_Get v2 (⟨#[97,64,120,32]⟩ : ByteArray)).bind fun v5 =>
 bif ((v4.1.On == true) && ((v4.1.Show == (1:Int)) && ((v4.1.Prio == (0:Int)) && ((v4.1.Seq == (5:Int)) && true)))) then
  bif v4.2 then
   bif v5.2 then
    some false
   else
   bif (v1.Odd == (1:Int)) then
    bif (v1.Told == (5:Int)) then
     bif ((v2.Rows.length:Int) == (0:Int)) then
      bif (v2.Odd == (1:Int)) then
       bif ((v3.Rows.length:Int) == (0:Int)) then
        bif ((v3.List.length:Int) == (0:Int)) then
         (p_view_Contacts v1).bind fun v15 =>
         (p_ref01_SameTexts v15 [(⟨#[97,64,120]⟩ : ByteArray)]).bind fun v16 =>
         bif v16 then
          (p_view_Fits v1 [(BookRow.mk (⟨#[97,64,120]⟩ : ByteArray) (⟨#[]⟩ : ByteArray) v4.1)]).bind fun v18 =>
          bif v18 then
           (p_view_Fits v2 [(BookRow.mk (⟨#[97,64,120]⟩ : ByteArray) (⟨#[]⟩ : ByteArray) v4.1)]).bind fun v20 =>
           bif v20 then
            some false
           else
           (p_view_Check v1).bind fun v22 =>
           bif (v22 == (0:Int)) then
            (p_view_Check (Ref35State.mk [] [] false [(⟨#[120]⟩ : ByteArray)] [] (0:Int) (0:Int))).bind fun v24 =>
            bif (v24 == (9:Int)) then
             (p_view_Same v1 v2).bind fun v26 =>
             bif v26 then
              some false
             else
             (p_view_Same v1 v1).bind fun v28 =>
             bif v28 then
              some true
             else
             some false
            else
            some false
           else
           some false
          else
          some false
         else
         some false
        else
        some false
       else
       some false
      else
      some false
     else
     some false
    else
    some false
   else
   some false
  else
  some false
 else
 some false
def p_ref10_Light (a0:StanzaStanza):Option (Bool) :=
 bif (decide ((a0.User.size:Int)≤(100:Int))) then
  bif (decide ((a0.Res.size:Int)≤(100:Int))) then
   some (decide ((a0.Name.size:Int)≤(100:Int)))
  else
  some false
 else
 some false
end Go.Proofs.YtpmoioopjbfhkaaGreat

/- Readers of ViewRuns's parameters. -/
namespace Go.Proofs.YtpmoioopjbfhkaaGreat
open Go.ChangeShapes Go.WideShapes Go.ChangeAt Go.RowKit Go.Joins Go.Deep
structure StanzaStanza.Wf (x:StanzaStanza):Prop where
 Kind:(Lit.int .u8 x.Kind).wf=true
 Show:(Lit.int .i64 x.Show).wf=true
 Prio:(Lit.int .i64 x.Prio).wf=true
 Code:(Lit.int .i64 x.Code).wf=true
 N:(Lit.int .i64 x.N).wf=true
set_option maxRecDepth 100000 in
theorem rd_T36 {H:Type} {enc:TypeId × Value→H} {W:World} {spare:Nat→Bool} {held:Bool} {fuel:Nat} {cs:List Value} {y:DataW H × List MemPlace} (h:DataW.trod enc Tryz.prog W 0 spare held fuel 36 cs=some y):∃ x:StanzaStanza,StanzaStanza.Wf x∧RepL (MW W) noBk cs [.y8 x.Kind,.s x.User,.s x.Res,.s x.Name,.i x.Show,.i x.Prio,.i x.Code,.i x.N]:=by
 obtain ⟨xs,n,_,_,hl,hx,hall⟩:=DataW.trod_struct Tryz.underlying36 h
 have hce:Tryz.prog.cellsOf 36=8:=by kernel_rfl
 rw [hce] at hl
 match cs,hl,hall with
 | [c0,c1,c2,c3,c4,c5,c6,c7],_,hall =>
  obtain ⟨y0,hy0⟩:=get_some hx (show 0 < 8 by omega)
  have g0:DataW.trod enc Tryz.prog W 0 spare held n 5 [c0]=some y0:=by
   have hz:Tryz.prog.cellsOf 5=1:=by kernel_rfl
   have g:DataW.trod enc Tryz.prog W 0 spare held n 5 (([c0,c1,c2,c3,c4,c5,c6,c7].drop 0).take (Tryz.prog.cellsOf 5))=some y0:=(hall 0 _ rfl).trans hy0
   rw [hz] at g;exact g
  obtain ⟨x0,w0,r0⟩:=rd_int Tryz.underlying5 g0
  obtain ⟨y1,hy1⟩:=get_some hx (show 1 < 8 by omega)
  have g1:DataW.trod enc Tryz.prog W 0 spare held n 9 [c1]=some y1:=by
   have hz:Tryz.prog.cellsOf 9=1:=by kernel_rfl
   have g:DataW.trod enc Tryz.prog W 0 spare held n 9 (([c0,c1,c2,c3,c4,c5,c6,c7].drop 1).take (Tryz.prog.cellsOf 9))=some y1:=(hall 1 _ rfl).trans hy1
   rw [hz] at g;exact g
  obtain ⟨x1,r1⟩:=rd_string Tryz.underlying9 g1
  obtain ⟨y2,hy2⟩:=get_some hx (show 2 < 8 by omega)
  have g2:DataW.trod enc Tryz.prog W 0 spare held n 9 [c2]=some y2:=by
   have hz:Tryz.prog.cellsOf 9=1:=by kernel_rfl
   have g:DataW.trod enc Tryz.prog W 0 spare held n 9 (([c0,c1,c2,c3,c4,c5,c6,c7].drop 2).take (Tryz.prog.cellsOf 9))=some y2:=(hall 2 _ rfl).trans hy2
   rw [hz] at g;exact g
  obtain ⟨x2,r2⟩:=rd_string Tryz.underlying9 g2
  obtain ⟨y3,hy3⟩:=get_some hx (show 3 < 8 by omega)
  have g3:DataW.trod enc Tryz.prog W 0 spare held n 9 [c3]=some y3:=by
   have hz:Tryz.prog.cellsOf 9=1:=by kernel_rfl
   have g:DataW.trod enc Tryz.prog W 0 spare held n 9 (([c0,c1,c2,c3,c4,c5,c6,c7].drop 3).take (Tryz.prog.cellsOf 9))=some y3:=(hall 3 _ rfl).trans hy3
   rw [hz] at g;exact g
  obtain ⟨x3,r3⟩:=rd_string Tryz.underlying9 g3
  obtain ⟨y4,hy4⟩:=get_some hx (show 4 < 8 by omega)
  have g4:DataW.trod enc Tryz.prog W 0 spare held n 3 [c4]=some y4:=by
   have hz:Tryz.prog.cellsOf 3=1:=by kernel_rfl
   have g:DataW.trod enc Tryz.prog W 0 spare held n 3 (([c0,c1,c2,c3,c4,c5,c6,c7].drop 4).take (Tryz.prog.cellsOf 3))=some y4:=(hall 4 _ rfl).trans hy4
   rw [hz] at g;exact g
  obtain ⟨x4,w4,r4⟩:=rd_int Tryz.underlying3 g4
  obtain ⟨y5,hy5⟩:=get_some hx (show 5 < 8 by omega)
  have g5:DataW.trod enc Tryz.prog W 0 spare held n 3 [c5]=some y5:=by
   have hz:Tryz.prog.cellsOf 3=1:=by kernel_rfl
   have g:DataW.trod enc Tryz.prog W 0 spare held n 3 (([c0,c1,c2,c3,c4,c5,c6,c7].drop 5).take (Tryz.prog.cellsOf 3))=some y5:=(hall 5 _ rfl).trans hy5
   rw [hz] at g;exact g
  obtain ⟨x5,w5,r5⟩:=rd_int Tryz.underlying3 g5
  obtain ⟨y6,hy6⟩:=get_some hx (show 6 < 8 by omega)
  have g6:DataW.trod enc Tryz.prog W 0 spare held n 3 [c6]=some y6:=by
   have hz:Tryz.prog.cellsOf 3=1:=by kernel_rfl
   have g:DataW.trod enc Tryz.prog W 0 spare held n 3 (([c0,c1,c2,c3,c4,c5,c6,c7].drop 6).take (Tryz.prog.cellsOf 3))=some y6:=(hall 6 _ rfl).trans hy6
   rw [hz] at g;exact g
  obtain ⟨x6,w6,r6⟩:=rd_int Tryz.underlying3 g6
  obtain ⟨y7,hy7⟩:=get_some hx (show 7 < 8 by omega)
  have g7:DataW.trod enc Tryz.prog W 0 spare held n 3 [c7]=some y7:=by
   have hz:Tryz.prog.cellsOf 3=1:=by kernel_rfl
   have g:DataW.trod enc Tryz.prog W 0 spare held n 3 (([c0,c1,c2,c3,c4,c5,c6,c7].drop 7).take (Tryz.prog.cellsOf 3))=some y7:=(hall 7 _ rfl).trans hy7
   rw [hz] at g;exact g
  obtain ⟨x7,w7,r7⟩:=rd_int Tryz.underlying3 g7
  exact ⟨⟨x0,x1,x2,x3,x4,x5,x6,x7⟩,⟨w0,w4,w5,w6,w7⟩,repL_app r0 (repL_app r1 (repL_app r2 (repL_app r3 (repL_app r4 (repL_app r5 (repL_app r6 (repL_app r7 (repL_nil))))))))⟩
theorem rd_T73 {H:Type} {enc:TypeId × Value→H} {W:World} {spare:Nat→Bool} {held:Bool} {fuel:Nat} {cs:List Value} {y:DataW H × List MemPlace} (h:DataW.trod enc Tryz.prog W 0 spare held fuel 73 cs=some y):∃ x:List StanzaStanza,(∀ z ∈ x,StanzaStanza.Wf z)∧RepL (MW W) noBk cs [(fun l:List StanzaStanza=>V.sl (l.map StanzaStanza.v) false) x] :=
 rd_slice (f:=StanzaStanza.v) (es:=8) (wf:=StanzaStanza.Wf) Tryz.underlying73 (fun _=>rfl) (by intro a v hv;simp [V.cells] at hv;first | (subst hv;rfl) | (rcases hv with rfl | rfl | rfl | rfl | rfl | rfl | rfl | rfl <;> rfl)) (by omega) (by kernel_rfl) (fun n cs y h=>rd_T36 h) h
end Go.Proofs.YtpmoioopjbfhkaaGreat

/- Functions of the library that write into an own list. -/
namespace Go.Proofs.YtpmoioopjbfhkaaGreat
open Go.RowKit
end Go.Proofs.YtpmoioopjbfhkaaGreat

/- Plain laws of no program: what loops and questions come to. -/
namespace Go.Proofs.YtpmoioopjbfhkaaGreat
open Go.RowKit
theorem at_nat {α:Type} (l:List α) (k:Nat):at? l (k:Int)=l[k]?:=by
 unfold at?;rw [if_pos (Int.natCast_nonneg k)];rfl
theorem at_lt {α:Type} {l:List α} {k:Nat} (h:k < l.length):at? l (k:Int)=some l[k]:=by rw [at_nat,List.getElem?_eq_getElem h]
theorem w64_id {r:Int} (h:-9223372036854775808≤r∧r≤9223372036854775807):w64 r=r:=wrap_ok h
theorem w64_succ {k:Nat} (h:k≤1000000):w64 ((k:Int) + 1)=((k + 1:Nat):Int):=by rw [w64_id (by omega)];rfl
theorem lt_tt {a b:Nat} (h:a < b):decide ((a:Int) < (b:Int))=true:=by simpa using h
theorem lt_ff {a b:Nat} (h:b≤a):decide ((a:Int) < (b:Int))=false:=by simpa using h
theorem drop_at {α:Type} {l:List α} {k:Nat} (h:k < l.length):l.drop k=l[k] :: l.drop (k + 1):=List.drop_eq_getElem_cons h
theorem fuel_pos:(1000000:Nat) < fuel:=by decide
theorem cutTo {α:Type} {l:List α} {k:Nat} (h:k≤l.length):cut? l none (some (k:Int))=some (l.take k):=by
 unfold cut?
 simp only [Option.getD_none,Option.getD_some]
 rw [if_pos (by omega)]
 simp
theorem cutFrom {α:Type} {l:List α} {k:Nat} (h:k≤l.length):cut? l (some (k:Int)) none=some (l.drop k):=by
 unfold cut?
 simp only [Option.getD_none,Option.getD_some]
 rw [if_pos (by omega)]
 rw [List.take_of_length_le (by simp)];rfl
theorem u64_id {r:Int} (hr:0≤r∧r≤9223372036854775807):IntKind.u64.wrap r=r:=by
 simp only [IntKind.wrap,IntKind.signed,IntKind.bits]
 first | omega | (simp;omega)
theorem fdivN (m p:Nat):(m:Int).fdiv (2 ^ p)=((m / 2 ^ p:Nat):Int):=by
 rw [show ((2:Int) ^ p)=((2 ^ p:Nat):Int) by simp,Int.fdiv_eq_ediv_of_nonneg _ (Int.natCast_nonneg _)];rfl
theorem half_p {i j:Nat} (h:i + j≤100000):w64 (shrI .u64 (IntKind.wrap .u64 (w64 ((i:Int) + (j:Int)))) (1:Int))=(((i + j) / 2:Nat):Int):=by
 have e1:w64 ((i:Int) + (j:Int))=((i + j:Nat):Int):=by rw [w64_id (by omega)];omega
 have e2:IntKind.wrap .u64 ((i + j:Nat):Int)=((i + j:Nat):Int):=u64_id (by omega)
 have e:(min (1:Int).toNat IntKind.u64.bits)=1:=rfl
 have e3:shrI .u64 ((i + j:Nat):Int) 1=(((i + j) / 2:Nat):Int):=by
  unfold shrI
  rw [e,fdivN]
 rw [e1,e2,e3]
 exact w64_id (by omega)
theorem app_ok {α:Type} {a b:List α} (h:a.length + b.length≤1000000):app? a b=some (a++b):=if_pos h
theorem tl_data (s:ByteArray):s.toList=s.data.toList:=by rw [ByteArray.toList_eq]
def eqT (a b:ByteArray):Bool:=a.toList == b.toList
theorem eqT_refl (a:ByteArray):(a.toList == a.toList)=true:=by simp
theorem eqT_iff {a b:ByteArray}:(a.toList == b.toList)=true ↔ a=b:=by
 rw [beq_iff_eq,tl_data,tl_data]
 exact ⟨fun h=>by cases a;cases b;congr 1;exact Array.ext' h,fun h=>by rw [h]⟩
theorem cmp_less:∀ (a b:List UInt8),Op.bytesLess a b=decide (Lib.compareBytes a b < 0)
 | [],[]=>by simp [Op.bytesLess,Lib.compareBytes]
 | [],_ :: _=>by simp [Op.bytesLess,Lib.compareBytes]
 | _ :: _,[]=>by simp [Op.bytesLess,Lib.compareBytes]
 | a :: xs,b :: ys=>by
  unfold Op.bytesLess Lib.compareBytes
  rw [cmp_less xs ys]
  by_cases h:a < b
  ·simp [h]
  ·by_cases h2:b < a
   ·have hne:a≠b:=fun e=>by subst e;exact UInt8.lt_irrefl _ h2
    simp [h,h2,hne]
   ·have e:a=b:=by
     apply UInt8.toNat_inj.1
     rw [UInt8.lt_iff_toNat_lt] at h h2;omega
    subst e;simp [h]
theorem cmp_refl:∀ a:List UInt8,Lib.compareBytes a a=0
 | []=>by simp [Lib.compareBytes]
 | a :: xs=>by unfold Lib.compareBytes;rw [if_neg (UInt8.lt_irrefl _),if_neg (UInt8.lt_irrefl _)];exact cmp_refl xs
theorem cmp_eq0:∀ {a b:List UInt8},Lib.compareBytes a b=0→a=b
 | [],[],_=>rfl
 | [],_ :: _,h=>by simp [Lib.compareBytes] at h
 | _ :: _,[],h=>by simp [Lib.compareBytes] at h
 | a :: xs,b :: ys,h=>by
  unfold Lib.compareBytes at h
  split at h
  ·omega
  ·split at h
   ·omega
   ·rename_i h1 h2
    have e:a=b:=by
     apply UInt8.toNat_inj.1
     rw [UInt8.lt_iff_toNat_lt] at h1 h2;omega
    rw [e,cmp_eq0 h]
theorem cmp_anti:∀ (a b:List UInt8),Lib.compareBytes b a=- Lib.compareBytes a b
 | [],[]=>by simp [Lib.compareBytes]
 | [],_ :: _=>by simp [Lib.compareBytes]
 | _ :: _,[]=>by simp [Lib.compareBytes]
 | a :: xs,b :: ys=>by
  unfold Lib.compareBytes
  rw [cmp_anti xs ys]
  by_cases h:a < b
  ·have h2:¬ b < a:=by rw [UInt8.lt_iff_toNat_lt] at h ⊢;omega
   simp [h,h2]
  ·by_cases h2:b < a
   ·simp [h,h2]
   ·simp [h,h2]
theorem cmp_trans:∀ {a b c:List UInt8},Lib.compareBytes a b < 0→Lib.compareBytes b c < 0→Lib.compareBytes a c < 0
 | [],[],_,h,_=>by simp [Lib.compareBytes] at h
 | _ :: _,[],_,h,_=>by simp [Lib.compareBytes] at h
 | _,_ :: _,[],_,h=>by simp [Lib.compareBytes] at h
 | [],_ :: _,_ :: _,_,_=>by simp [Lib.compareBytes]
 | a :: xs,b :: ys,c :: cs,h1,h2=>by
  unfold Lib.compareBytes at h1 h2 ⊢
  by_cases x:a < b
  ·by_cases y:b < c
   ·rw [if_pos (UInt8.lt_trans x y)];omega
   ·rw [if_neg y] at h2
    by_cases z:c < b
    ·rw [if_pos z] at h2;omega
    ·have e:b=c:=by
      apply UInt8.toNat_inj.1
      rw [UInt8.lt_iff_toNat_lt] at y z;omega
     subst e
     rw [if_pos x];omega
  ·rw [if_neg x] at h1
   by_cases x2:b < a
   ·rw [if_pos x2] at h1;omega
   ·rw [if_neg x2] at h1
    have e:a=b:=by
     apply UInt8.toNat_inj.1
     rw [UInt8.lt_iff_toNat_lt] at x x2;omega
    subst e
    by_cases y:a < c
    ·rw [if_pos y];omega
    ·rw [if_neg y] at h2 ⊢
     by_cases z:c < a
     ·rw [if_pos z] at h2;omega
     ·rw [if_neg z] at h2 ⊢
      exact cmp_trans h1 h2
end Go.Proofs.YtpmoioopjbfhkaaGreat

/- Parts of an own list: l[a:], l[:a]. -/
namespace Go.Proofs.YtpmoioopjbfhkaaGreat
open Go.RowKit
theorem slE_c {α β:Type} {r:β} {l:List α} {i es n:Nat} {lo:Int} {X:List α→Option β} {k:V→Prop} (H:(cut? l (some lo) none).bind X=some r) (hn:n=l.length)
  (h1:∀ x a,x=l.drop a→a < l.length→X x=some r→k (.osl i (0 + a * es) (l.length - a) es false)) (h2:X []=some r→k (.sl [] false)):SlO i 0 n es (some lo) none k:=by
 subst hn
 obtain ⟨x,hx,H⟩:=bind_c H
 unfold cut? at hx
 split at hx
 ·rename_i h0
  simp only [Option.some.injEq,Option.getD_some,Option.getD_none] at hx h0
  have e:(l.drop lo.toNat).take ((l.length:Int).toNat - lo.toNat)=l.drop lo.toNat:=List.take_of_length_le (by simp)
  rw [e] at hx
  rcases Int.lt_or_le lo l.length with h | h
  ·have:=h1 x lo.toNat hx.symm (by omega) H
   refine ⟨by simpa using h0.1,by simpa using h0.2.1,by simp,.inl ⟨.inl (by simpa using h),?_⟩⟩
   simpa using this
  ·have hl:lo.toNat=l.length:=by omega
   rw [hl,List.drop_length] at hx
   subst hx
   exact ⟨by simpa using h0.1,by simpa using h0.2.1,by simp,.inr ⟨by simp;omega,h2 H⟩⟩
 ·cases hx
theorem slP_c {α β:Type} {r:β} {l:List α} {i es n:Nat} {hi:Int} {X:List α→Option β} {k:V→Prop} (H:(cut? l none (some hi)).bind X=some r) (hn:n=l.length)
  (h1:∀ x a,x=l.take a→a≤l.length→X x=some r→k (.osl i 0 a es false)):SlO i 0 n es none (some hi) k:=by
 subst hn
 obtain ⟨x,hx,H⟩:=bind_c H
 unfold cut? at hx
 split at hx
 ·rename_i h0
  simp only [Option.some.injEq,Option.getD_some,Option.getD_none] at hx h0
  have e:(l.drop (0:Int).toNat).take (hi.toNat - (0:Int).toNat)=l.take hi.toNat:=by simp
  rw [e] at hx
  have:=h1 x hi.toNat hx.symm (by omega) H
  refine ⟨by simp,by simpa using h0.2.1,by simpa using h0.2.2,.inl ⟨.inr rfl,?_⟩⟩
  simpa using this
 ·cases hx
theorem cells_cut {α:Type} {f:α→V} {es:Nat} (hes:∀ a,(f a).cells.length=es) (l:List α) (i:Nat) (hi:i≤l.length):cellsM f (l.take i)=(cellsM f l).take (i * es)∧cellsM f (l.drop i)=(cellsM f l).drop (i * es) :=
 cellsM_take hes l i hi
theorem srcDrop {α:Type} {f:α→V} {st:List Slot} {es i fz:Nat} (hes:∀ a,(f a).cells.length=es) {l x:List α} {cs:List V} {fu:Bool} {a:Nat} (hi:st[i]?=some (.live cs fz)) (hc:cs=cellsM f l) (hx:x=l.drop a) (ha:a < l.length) :
  SrcV st es (.osl i (0 + a * es) (l.length - a) es fu) x.length (cellsM f x) [i]:=by
 subst hc hx
 have hl:=cellsM_len hes l
 have hm:(l.length - a) * es=l.length * es - a * es:=Nat.sub_mul _ _ _
 have hle:a * es≤l.length * es:=Nat.mul_le_mul_right _ (by omega)
 have:=SrcV.osl (off:=0 + a * es) (n:=l.length - a) (es:=es) (f:=fu) hi (by rw [hl];omega)
 have e:((cellsM f l).drop (0 + a * es)).take ((l.length - a) * es)=cellsM f (l.drop a):=by
  rw [(cells_cut hes l a (by omega)).2,Nat.zero_add]
  exact List.take_of_length_le (by rw [List.length_drop,hl];omega)
 rw [e] at this
 rwa [List.length_drop]
theorem srcTake {α:Type} {f:α→V} {st:List Slot} {es i fz:Nat} (hes:∀ a,(f a).cells.length=es) {l x:List α} {cs:List V} {fu:Bool} {a:Nat} (hi:st[i]?=some (.live cs fz)) (hc:cs=cellsM f l) (hx:x=l.take a) (ha:a≤l.length) :
  SrcV st es (.osl i 0 a es fu) x.length (cellsM f x) [i]:=by
 subst hc hx
 have hl:=cellsM_len hes l
 have hle:a * es≤l.length * es:=Nat.mul_le_mul_right _ ha
 have:=SrcV.osl (off:=0) (n:=a) (es:=es) (f:=fu) hi (by rw [hl];omega)
 rw [List.drop_zero,← (cells_cut hes l a ha).1] at this
 rwa [List.length_take,Nat.min_eq_left ha]
end Go.Proofs.YtpmoioopjbfhkaaGreat

