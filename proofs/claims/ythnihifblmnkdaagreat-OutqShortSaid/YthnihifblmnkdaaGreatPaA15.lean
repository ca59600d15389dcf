/- A part of the proof: 6 texts joined. -/
import Derived.Test.YthnihifblmnkdaaGreatPaA14
import Derived.Test.YthnihifblmnkdaaGreatPaA13
import Derived.Test.YthnihifblmnkdaaGreatPaA12
import Derived.KernelRfl
set_option linter.all false
namespace Go.Proofs.YthnihifblmnkdaaGreat
open Go.RowKit
def ArgsAt (st:List Slot) (id:Nat) (args args0:List V):Prop :=
 ∀ (B:Nat) (m0 m mb:Mem) (bk:Bks) (w:World) (cargs:Array Value),Sim B m0 m bk w st→RepA m bk cargs args→(∀ a u,m a=some u→mb a=some u) →
  (∀ (j:Nat) (c:List V) (g:Nat) (x:Nat × Nat),j≠id→st[j]?=some (.live c g)→bk j=some x→∀ a:Addr,a.block=x.1→mb a=w.cell? a)→RepA mb (cutBk 1 fun i=>bk (sgm [id] i)) cargs args0
open Classical in
theorem callsS_frameG {P:Program} {f:FuncId} {args args0:List V} {v0 v:V} {cs cs' : List V} {fz fz' : Nat} {st:List Slot} {id:Nat} (h:CallsS P f args0 [.live cs fz] v0 [.live cs' fz']) (ha:ArgsAt st id args args0) (hi:st[id]?=some (.live cs fz)) (h0:V.idlt.belowL 0 cs=true) (h0' : V.litD.litL cs'=true)
  (hv:(∃ off n es fu,v0=.osl 0 off n es fu∧v=.osl id off n es fu)∨v0.litD=true∧v=v0):CallsS P f args st v (st.set id (.live cs' fz')):=by
 intro B m0 m bk w cargs hg hsim hargs
 have hidl:=(List.getElem?_eq_some_iff.1 hi).1
 obtain ⟨b,sz,arr,t,lo,hi',hl⟩:=hsim.blk id cs fz hi
 let oth:Nat→Prop:=fun k=>∃ (j:Nat) (c:List V) (g:Nat) (x:Nat × Nat),j≠id∧st[j]?=some (.live c g)∧bk j=some x∧x.1=k
 let mb:Mem:=fun a=>if oth a.block then w.cell? a else m a
 have nob:¬ oth b:=by
  rintro ⟨j,c,g,x,h1,h2,h3,h4⟩
  exact h1 (hsim.inj j id c g cs fz x (b,sz) h2 hi h3 hl.at_ h4)
 have mbo:∀ a,oth a.block→mb a=w.cell? a:=fun a h=>if_pos h
 have mbn:∀ a,¬ oth a.block→mb a=m a:=fun a h=>if_neg h
 have mle:∀ a u,m a=some u→mb a=some u:=fun a u hu=>by
  by_cases ho:oth a.block
  ·rw [mbo a ho];exact hsim.mem a u hu
  ·rw [mbn a ho];exact hu
 have hb1:(cutBk 1 fun i=>bk (sgm [id] i)) 0=some (b,sz):=by
  have:sgm [id] 0=id:=rfl
  simp only [cutBk,this,hl.at_];rfl
 have sim1:Sim B mb mb (cutBk 1 fun i=>bk (sgm [id] i)) w [.live cs fz]:=by
  refine ⟨hsim.base,fun a u hu=>?_,fun _ _ h=>h,fun _ _ h=>.inl h,fun k c g hk=>?_,fun i j ci fi cj fj x y h1 h2 _ _ _=>?_,fun k hk=>?_⟩
  ·by_cases ho:oth a.block
   ·rw [mbo a ho] at hu;exact hu
   ·rw [mbn a ho] at hu;exact hsim.mem a u hu
  ·have hk0:k=0:=by have:=(List.getElem?_eq_some_iff.1 hk).1;simpa using this
   subst hk0
   simp only [List.getElem?_cons_zero,Option.some.injEq,Slot.live.injEq] at hk
   obtain ⟨rfl,rfl⟩:=hk
   refine ⟨b,sz,arr,t,lo,hi',⟨hb1,hl.own,hl.heap,hl.size,hl.free,hl.fit,hl.one,fun k hk=>?_,fun k hk=>?_,fun k hk=>?_⟩⟩
   ·obtain ⟨u,q1,q2⟩:=hl.rep k hk
    exact ⟨u,q1,(q2.zero (belowL_get h0 k hk)).mono mle fun _ _ h=>h⟩
   ·rw [mbn _ nob];exact hl.mu k hk
   ·rw [mbn _ nob];exact hl.fz k hk
  ·have e1:i=0:=by have:=(List.getElem?_eq_some_iff.1 h1).1;simpa using this
   have e2:j=0:=by have:=(List.getElem?_eq_some_iff.1 h2).1;simpa using this
   rw [e1,e2]
  ·unfold cutBk
   rw [if_neg]
   intro hlt
   have:k=0:=by omega
   subst this
   rcases hk with hk | hk <;> simp at hk
 have args1:RepA mb (cutBk 1 fun i=>bk (sgm [id] i)) cargs args0 :=
  ha B m0 m mb bk w cargs hsim hargs mle fun j c g x h1 h2 h3 a h4=>mbo a ⟨j,c,g,x,h1,h2,h3,h4.symm⟩
 have hg1:GM mb:=by obtain ⟨n,hn⟩:=hg;exact ⟨n,mle _ _ hn⟩
 refine (h B mb mb _ w cargs hg1 sim1 args1).mono ?_
 rintro e w' ⟨c,rfl,m',bk',g1,g2,g3,g4,g5⟩
 let m2:Mem:=fun a=>if oth a.block then m a else m' a
 have m2o:∀ a,oth a.block→m2 a=m a:=fun a h=>if_pos h
 have m2n:∀ a,¬ oth a.block→m2 a=m' a:=fun a h=>if_neg h
 have m_2:∀ a u,m a=some u→m2 a=some u:=fun a u hu=>by
  by_cases ho:oth a.block
  ·rw [m2o a ho];exact hu
  ·rw [m2n a ho];exact g3 _ _ (mle _ _ hu)
 have m2_:∀ a u,m2 a=some u→m' a=some u:=fun a u hu=>by
  by_cases ho:oth a.block
  ·rw [m2o a ho] at hu;exact g3 _ _ (mle _ _ hu)
  ·rw [m2n a ho] at hu;exact hu
 obtain ⟨b',sz',arr',t',lo',hi2,hl'⟩:=g1.blk 0 cs' fz' rfl
 have hbe:some (b',sz')=some (b,sz):=by rw [← hl'.at_,g4 0 _ hb1]
 simp only [Option.some.injEq,Prod.mk.injEq] at hbe
 obtain ⟨rfl,rfl⟩:=hbe
 have back:∀ (k:Nat) (c:List V) (g:Nat),k≠id→(st.set id (.live cs' fz'))[k]?=some (.live c g)→st[k]?=some (.live c g):=fun k c g hk h=>by
  rwa [List.getElem?_set,if_neg (fun e=>hk e.symm)] at h
 refine ⟨c,rfl,m2,bk,⟨Nat.le_trans hsim.base g5.size,fun a u hu=>g1.mem a u (m2_ a u hu),fun a u hu=>m_2 _ _ (hsim.ext a u hu),fun a u hu=>?_,fun k c g hk=>?_,fun i j ci fi cj fj x y h1 h2 hx hy he=>?_,fun k hk=>?_⟩,?_,m_2,fun _ _ h=>h,g5⟩
 ·by_cases ho:oth a.block
  ·rw [m2o a ho] at hu;exact hsim.old a u hu
  ·rw [m2n a ho] at hu
   rcases g1.old a u hu with q | q
   ·rw [mbn a ho] at q;exact hsim.old a u q
   ·exact .inr q
 ·by_cases hk0:k=id
  ·subst hk0
   rw [List.getElem?_set,if_pos rfl,if_pos hidl] at hk
   simp only [Option.some.injEq,Slot.live.injEq] at hk
   obtain ⟨rfl,rfl⟩:=hk
   refine ⟨b',sz',arr',t',lo',hi2,⟨hl.at_,hl.own,hl'.heap,hl'.size,hl'.free,hl'.fit,hl'.one,fun j hj=>?_,fun j hj=>?_,fun j hj=>?_⟩⟩
   ·obtain ⟨u,q1,q2⟩:=hl'.rep j hj
    exact ⟨u,q1,q2.litD (litL_get h0' j hj) m2 bk⟩
   ·rw [m2n _ nob];exact hl'.mu j hj
   ·rw [m2n _ nob];exact hl'.fz j hj
  ·have hks:=back k c g hk0 hk
   obtain ⟨b2,sz2,arr2,t2,lo2,hi3,h2⟩:=hsim.blk k c g hks
   have ho:oth b2:=⟨k,c,g,(b2,sz2),hk0,hks,h2.at_,rfl⟩
   obtain ⟨arr3,q1,q2⟩:=g5.shp b2 arr2 t2 lo2 hi3 h2.heap
   have e3:arr3=arr2:=by
    apply Array.ext q2
    intro i i1 i2
    have c1:w.cell? ⟨b2,i,none⟩=some arr2[i]:=by simp [World.cell?,h2.heap,i2]
    have c2:mb ⟨b2,i,none⟩=some arr2[i]:=by rw [mbo _ ho];exact c1
    have c3:=g1.mem _ _ (g3 _ _ c2)
    simp only [World.cell?,q1] at c3
    simpa [i1] using c3
   subst e3
   refine ⟨b2,sz2,arr3,t2,lo2,hi3,⟨h2.at_,h2.own,q1,h2.size,h2.free,h2.fit,h2.one,fun j hj=>?_,fun j hj=>?_,fun j hj=>?_⟩⟩
   ·obtain ⟨u,r1,r2⟩:=h2.rep j hj
    exact ⟨u,r1,r2.mono m_2 fun _ _ h=>h⟩
   ·rw [m2o _ ho];exact h2.mu j hj
   ·rw [m2o _ ho];exact h2.fz j hj
 ·have aux:∀ (a:Nat) (ci:List V) (fi:Nat),(st.set id (.live cs' fz'))[a]?=some (.live ci fi)→∃ ci fi,st[a]?=some (.live ci fi):=fun a ci fi ha=>by
   by_cases hae:a=id
   ·subst hae;exact ⟨_,_,hi⟩
   ·exact ⟨_,_,back a ci fi hae ha⟩
  obtain ⟨_,_,p1⟩:=aux _ _ _ h1
  obtain ⟨_,_,p2⟩:=aux _ _ _ h2
  exact hsim.inj i j _ _ _ _ x y p1 p2 hx hy he
 ·refine hsim.nb k ?_
  by_cases hk0:k=id
  ·subst hk0
   rw [List.getElem?_set,if_pos rfl,if_pos hidl] at hk
   rcases hk with hk | hk <;> cases hk
  ·rwa [List.getElem?_set,if_neg (fun e=>hk0 e.symm)] at hk
 ·rcases hv with ⟨off,n,es,fu,rfl,rfl⟩ | ⟨hv,rfl⟩
  ·cases g2 with
   | @osl _ _ b3 sz3 _ _ cap _ _ hb hc hf hs =>
    have:some (b3,sz3)=some (b',sz'):=by rw [← hb,g4 0 _ hb1]
    simp only [Option.some.injEq,Prod.mk.injEq] at this
    obtain ⟨rfl,rfl⟩:=this
    exact .osl hl.at_ hc hf hs
  ·exact g2.litD hv m2 bk
theorem callsS_frame {P:Program} {f:FuncId} {args0:List V} {v0 v:V} {cs cs' : List V} {fz fz' : Nat} {st:List Slot} {id:Nat} (h:CallsS P f args0 [.live cs fz] v0 [.live cs' fz']) (ha:V.idlt.belowL 1 args0=true) (hi:st[id]?=some (.live cs fz)) (h0:V.idlt.belowL 0 cs=true) (h0' : V.litD.litL cs'=true)
  (hv:(∃ off n es fu,v0=.osl 0 off n es fu∧v=.osl id off n es fu)∨v0.litD=true∧v=v0):CallsS P f (V.ren.renL [id] args0) st v (st.set id (.live cs' fz')) :=
 callsS_frameG h (fun B m0 m mb bk w cargs hsim hargs mle _=>⟨by rw [hargs.1,renL_len],fun j h1 h2=>by
  have hr:=hargs.2 j h1 (by rw [renL_len];exact h2)
  have hr2:=Rep.ren hr _ (renL_at (sg:=[id]) args0 j h2).symm
  exact (hr2.cut (belowL_get ha j h2)).mono mle fun _ _ h=>h⟩) hi h0 h0' hv
inductive FzT (st:List Slot) (i:Nat):List V→List V→List Nat→Prop
 | nil:FzT st i [] [] []
 | id {v l l' r} (h:v.idlt 0=true) (t:FzT st i l l' r):FzT st i (v :: l) (v :: l') r
 | ptr {j cs us frz l l' r} (hj:st[j]?=some (.live cs frz)) (hne:j≠i) (h:SlWL cs us) (t:FzT st i l l' r):FzT st i (.ptr j 0 :: l) (.eptr us :: l') (j :: r)
theorem FzT.congr {st st2:List Slot} {i:Nat} {l l' : List V} {r:List Nat} (h:FzT st i l l' r):(∀ k,k ∈ r→st2[k]?=st[k]?)→FzT st2 i l l' r:=by
 induction h with
 | nil=>exact fun _=>.nil
 | id h _ ih=>exact fun hst=>.id h (ih hst)
 | ptr hj hne h _ ih=>exact fun hst=>.ptr ((hst _ (by simp)).trans hj) hne h (ih fun k hk=>hst k (by simp [hk]))
theorem FzT.rep {B:Nat} {m0 m mb:Mem} {bk bk' : Bks} {w:World} {st:List Slot} {i:Nat} {l l' : List V} {r:List Nat} (h:FzT st i l l' r) (hsim:Sim B m0 m bk w st) (mle:∀ a u,m a=some u→mb a=some u)
  (hmb:∀ (j:Nat) (c:List V) (g:Nat) (x:Nat × Nat),j≠i→st[j]?=some (.live c g)→bk j=some x→∀ a:Addr,a.block=x.1→mb a=w.cell? a):∀ {cs:List Value},RepL m bk cs l→RepL mb bk' cs l':=by
 induction h with
 | nil=>intro cs h;exact ⟨h.1,fun j _ h2=>absurd h2 (by simp)⟩
 | @id v l l' r h0 t ih =>
  intro cs hr
  cases cs with
  | nil=>have:=hr.1;simp at this
  | cons c cs =>
   have g0:=hr.2 0 (by simp) (by simp)
   have ih':=@ih cs ⟨by simpa using hr.1,fun j h1 h2=>hr.2 (j + 1) (Nat.succ_lt_succ h1) (Nat.succ_lt_succ h2)⟩
   refine ⟨by simpa using ih'.1,fun j h1 h2=>?_⟩
   cases j with
   | zero=>exact (Rep.zero g0 h0).mono mle fun _ _ h=>h
   | succ j=>exact ih'.2 j (Nat.lt_of_succ_lt_succ h1) (Nat.lt_of_succ_lt_succ h2)
 | @ptr j csj us frz l l' r hj hne hw t ih =>
  intro cs hr
  cases cs with
  | nil=>have:=hr.1;simp at this
  | cons c cs =>
   have g0:=hr.2 0 (by simp) (by simp)
   have ih':=@ih cs ⟨by simpa using hr.1,fun j h1 h2=>hr.2 (j + 1) (Nat.succ_lt_succ h1) (Nat.succ_lt_succ h2)⟩
   refine ⟨by simpa using ih'.1,fun k h1 h2=>?_⟩
   cases k with
   | succ k=>exact ih'.2 k (Nat.lt_of_succ_lt_succ h1) (Nat.lt_of_succ_lt_succ h2)
   | zero =>
    have gg:∀ c,Rep m bk c (.ptr j 0)→Rep mb bk' c (.eptr us):=fun c g0=>by
     cases g0 with
     | @ptr _ _ b sz _ hb =>
     obtain ⟨arr,t,lo,hi',hlv,hrep⟩:=sim_live hsim hj hb
     obtain ⟨hl,hat⟩:=hw.at
     refine .eptr (us:=fun k=>arr.getD k undef) (fun u hu=>?_) (fun k hk=>?_) (fun k hk=>?_)
     ·obtain ⟨k,hk,rfl⟩:=List.getElem_of_mem hu
      exact (hat k (by omega) hk).one (hlv.one _ (List.getElem_mem _))
     ·obtain ⟨u,g1,g2⟩:=hlv.rep k (by omega)
      rw [hmb j _ _ _ hne hj hb _ rfl,Nat.zero_add]
      simp only [World.cell?,hlv.heap,Array.getD_eq_getD_getElem?,g1];rfl
     ·obtain ⟨u,g1,g2⟩:=hlv.rep k (by omega)
      have e:arr.getD k undef=u:=by simp [Array.getD_eq_getD_getElem?,g1]
      rw [e]
      exact ((hat k (by omega) hk).rep g2).mono mle fun _ _ h=>h
    exact gg _ g0
end Go.Proofs.YthnihifblmnkdaaGreat

namespace Go.Proofs.YthnihifblmnkdaaGreat
open Go.RowKit
def infB2 (P:Program) (e:TypeId) (es:Nat):Bool:=match P.info? e with
 | some i=>i.size == es && (match i.zero with | some z=>z.cells.size == es && z.cells.toList.all (·.oneCell') | none=>false) && decide (i.bytes≤1000)
 | none=>false
theorem infB2_ok {P:Program} {e:TypeId} {es:Nat} (h:infB2 P e es=true):∃ i z,P.info? e=some i∧i.size=es∧i.zero=some z∧z.cells.size=es∧i.bytes≤1000∧∀ v ∈ z.cells.toList,v.oneCell'=true:=by
 unfold infB2 at h
 split at h
 ·rename_i i hi
  simp only [Bool.and_eq_true,beq_iff_eq,decide_eq_true_eq] at h
  obtain ⟨⟨h1,h2⟩,h3⟩:=h
  split at h2
  ·rename_i z hz
   simp only [Bool.and_eq_true,beq_iff_eq,List.all_eq_true] at h2
   exact ⟨i,z,hi,h1,hz,h2.1,h3,h2.2⟩
  ·cases h2
 ·cases h
structure DelRoads (P:Program) (k:FuncId) (es:Nat):Prop where
 main:∀ (b n c i j:Nat) (cs:List Value) (w:World),i < j→j≤n→n≤c→n≤1000000→cs.length=n * es→(∀ t v,cs[t]?=some v→w.cell? ⟨b,t,none⟩=some v)→(∀ t,t < n * es→w.frozen? ⟨b,t,none⟩=false)→(∀ v ∈ cs,v.oneCell'=true) →
  Calls P k #[.slice (some ⟨b,0,none⟩) n c,.int .i64 i,.int .i64 j] w fun e w'=>∃ zs:List Value,zs.length=(j - i) * es∧(∀ v ∈ zs,v.oneCell'=true)∧e=.returned (.slice (some ⟨b,0,none⟩) (n - (j - i)) c)∧w'=(w.drew.setCells b (i * es) (cs.drop (j * es))).setCells b ((n - (j - i)) * es) zs
def del? {α:Type} (l:List α) (i j:Int):Option (List α):=if 0≤i∧i < j∧j≤l.length∧l.length≤1000000 then some (l.take i.toNat++l.drop j.toNat) else none
theorem del_of {P:Program} {k:FuncId} {es:Nat} (hR:DelRoads P k es) {α:Type} {f:α→V} (hes:∀ a,(f a).cells.length=es) (hone:∀ a,∀ u ∈ (f a).cells,u.one=true)
  {id:Nat} {st:List Slot} (l:List α) (fu:Bool) (i_ j_:Int) (hi:st[id]?=some (.live (cellsM f l) 0)):∀ L,del? l i_ j_=some L→CallsS P k [.osl id 0 l.length es fu,.i i_,.i j_] st (.osl id 0 L.length es false) (st.set id (.live (cellsM f L) 0)):=by
 intro L hL
 unfold del? at hL
 split at hL
 ·rename_i hb
  obtain ⟨hb0,hb1,hb2,hb3⟩:=hb
  obtain ⟨i,rfl⟩:=Int.eq_ofNat_of_zero_le hb0
  obtain ⟨j,rfl⟩:=Int.eq_ofNat_of_zero_le (show 0≤j_ by omega)
  simp only [Option.some.injEq,Int.toNat_natCast] at hL
  intro B m0 m bk w cargs hg hsim hargs
  obtain ⟨hsz,hrp⟩:=hargs
  obtain ⟨c0,c1,c2,rfl⟩:=cargs3 hsz
  have hr0:Rep m bk c0 (.osl id 0 l.length es fu):=hrp 0 (by simp) (by simp)
  have e1:=rep_lit1 (show Rep m bk c1 (.i i) from hrp 1 (by simp) (by simp))
  have e2:=rep_lit1 (show Rep m bk c2 (.i j) from hrp 2 (by simp) (by simp))
  subst e1 e2
  cases hr0 with
  | @osl _ _ b sz _ n cap _ _ hbk hcap hful hszc =>
  obtain ⟨arr,t,lo,hi',hlv,hrep⟩:=sim_live hsim hi hbk
  have hM:=cellsM_len hes l
  have hfit:=hlv.fit
  have hsize:=hlv.size
  have hfree:=hlv.free
  rw [hM] at hfit hrep
  obtain ⟨q,hq⟩ : ∃ q,q=l.length * es:=⟨_,rfl⟩
  obtain ⟨p,hp⟩ : ∃ p,p=i * es:=⟨_,rfl⟩
  obtain ⟨r,hr⟩ : ∃ r,r=j * es:=⟨_,rfl⟩
  have hpr:p≤r:=by rw [hp,hr];exact Nat.mul_le_mul_right _ (by omega)
  have hrq:r≤q:=by rw [hr,hq];exact Nat.mul_le_mul_right _ (by omega)
  have hN:(l.length - (j - i)) * es=p + (q - r):=by rw [Nat.sub_mul,Nat.sub_mul,← hp,← hr,← hq];omega
  have hji:(j - i) * es=r - p:=by rw [Nat.sub_mul,← hp,← hr]
  rw [← hq] at hfit hrep
  obtain ⟨cs,hcsd⟩ : ∃ cs,cs=arr.toList.take q:=⟨_,rfl⟩
  rw [← hcsd] at hrep
  have hcl:cs.length=q:=by rw [hcsd];simp;omega
  have hca:∀ t,t < q→cs[t]?=arr[t]?:=fun t ht=>by rw [hcsd,List.getElem?_take,if_pos ht,Array.getElem?_toList]
  have hcell:∀ t,w.cell? ⟨b,t,none⟩=arr[t]?:=fun t=>by simp [World.cell?,hlv.heap]
  have h:=hR.main b l.length cap i j cs w (by omega) (by omega) hcap hb3 (by rw [hcl,hq]) (fun t v ht=>by
   have ht' : t < q:=by have:=(List.getElem?_eq_some_iff.1 ht).1;omega
   rw [hcell,← hca t ht',ht]) (fun t _=>by
   simp only [World.frozen?,hlv.heap,Bool.and_eq_false_iff,decide_eq_false_iff_not]
   omega) (rep_one_cells hrep hlv.one)
  refine h.mono ?_
  rintro e w' ⟨zs,hz1,hz2,rfl,rfl⟩
  rw [hji] at hz1
  rw [hN,← hp,← hr]
  have hdl:(cs.drop r).length=q - r:=by rw [List.length_drop,hcl]
  obtain ⟨⟨arr1,a1,a2,a3⟩,a4,a5,a6,a7,a8⟩:=setCells_heap b t (lo,hi') (cs.drop r) p w.drew arr hlv.heap (by omega)
  obtain ⟨⟨arr',g1,g2,g3⟩,g4,g5,g6,g7,g8⟩:=setCells_heap b t (lo,hi') zs (p + (q - r)) _ arr1 a1 (by omega)
  have hLl:L.length=l.length - (j - i):=by rw [← hL];simp;omega
  have hct1:=cellsM_take hes l i (by omega)
  have hct2:=cellsM_take hes l j (by omega)
  have hcM:cellsM f L=(cellsM f l).take p++(cellsM f l).drop r:=by rw [← hL,cellsM_app',hct1.1,hct2.2,← hp,← hr]
  have hvals:RepL m bk (cs.take p++cs.drop r) (cellsM f L):=by rw [hcM];exact (hrep.take p).append (hrep.drop r)
  have hML:(cellsM f L).length=p + (q - r):=by rw [cellsM_len hes,hLl,hN]
  have hone' : ∀ u ∈ cellsM f L,u.one=true:=fun u hu=>by
   unfold cellsM at hu
   obtain ⟨a,_,ha⟩:=List.mem_flatMap.1 hu
   exact hone a u ha
  have hw:=hsim.write (cs':=cellsM f L) hi hlv g1 (g2.trans a2) (g4.trans a4) (fun k hk=>(g5 k hk).trans (a5 k hk)) (fun k hk=>absurd hk (Nat.not_lt_zero _)) (by omega) hone' (fun k hk=>by
   have hk' : k < (cs.take p++cs.drop r).length:=by rw [hvals.1];exact hk
   refine ⟨(cs.take p++cs.drop r)[k],?_,hvals.2 k hk' hk⟩
   rw [← List.getElem?_eq_getElem hk',g3,if_neg (by omega),a3,List.getElem?_append,List.length_take]
   by_cases h1:k < p
   ·rw [if_neg (by omega),if_pos (by omega),List.getElem?_take,if_pos h1,hca k (by omega)]
   ·rw [if_pos (by omega),if_neg (by omega),show min p cs.length=p by omega])
  refine ⟨_,rfl,m,bk,hw,?_,fun _ _ h=>h,fun _ _ h=>h,Bel.write (g6.trans a6) (g7.trans a7) (g8.trans a8) hlv.heap g1 (g2.trans a2) (g4.trans a4) (fun k hk=>(g5 k hk).trans (a5 k hk)) hlv.own⟩
  rw [hLl]
  exact .osl hbk (by omega) (fun e=>by cases e) hszc
 ·cases hL
theorem del_nil {α:Type} {i j:Int}:del? ([]:List α) i j=none:=by
 unfold del?
 rw [if_neg]
 simp only [List.length_nil]
 omega
theorem delO_c {β:Type} {r:β} {P:Program} {st:List Slot} {k:FuncId} {es:Nat} (hR:DelRoads P k es) {α:Type} {f:α→V} {l:List α} {i_ j_:Int} {X:List α→Option β} {K:V→List Nat→List Nat→List Slot→Prop} {i n:Nat} {fu:Bool} (H:(del? l i_ j_).bind X=some r) (hes:∀ a,(f a).cells.length=es) (hone:∀ a,(f a).cells.all V.one=true)
  (hi:st[i]?=some (.live (cellsM f l) 0)) (hn:n=l.length) (h:∀ L,X L=some r→ssetK st i (.live (cellsM f L) 0) fun st'=>K (.osl i 0 L.length es false) [] [i] st'):Ask P k [.osl i 0 n es fu,.i i_,.i j_] st K:=by
 subst hn
 obtain ⟨L,hL,H⟩:=bind_c H
 have:=h L H
 rw [ssetK_eq] at this
 exact Ask_L (rd:=[]) (ef:=[(i,.live (cellsM f L) 0)]) (fun st2 _ h2=>del_of hR hes (fun a u hu=>List.all_eq_true.1 (hone a) u hu) l fu i_ j_ ((h2 i (.inr (by simp))).trans hi) L hL) this
theorem delN_c {α β:Type} {A:Prop} {i j:Int} {X:List α→Option β} {r:β} (H:(del? ([]:List α) i j).bind X=some r):A:=by
 rw [del_nil] at H;cases H
end Go.Proofs.YthnihifblmnkdaaGreat

namespace Go.Proofs.YthnihifblmnkdaaGreat
open Go.RowKit
def delF? {α:Type} (fn:α→Option Bool) (l:List α):Option (List α):=if l.length≤1000000∧(l.all fun x=>(fn x).isSome)=true then some (l.filter fun x=>!((fn x).getD false)) else none
theorem callsR_c {P:Program} {f:FuncId} {fn:Func} {ac:BCode} {n n0:Nat} {rs:List ARes} {args:List V} {v:V} {st st' : List Slot} (hmix:P.follows .mixedOrders=true) (hf:P.funcs[f]?=some fn) (hc:compF P fn=some (ac.er,n,rs)) (hn0:st.length=n0)
  (h:initK args n fun fr=>wpC P n0 ac (FinQ (FinR st rs v st')) fr st):CallsS P f args st v st' :=
 callsR_comp hmix hf hc hn0 (wpC_ok (fun _ _ _ h=>h.out) (initK_ok h))
theorem sloT_c {i off n es:Nat} {lo:Int} {k:V→Prop} (a:Nat) (ha:lo=a) (h1:a < n) (h:k (.osl i (off + a * es) (n - a) es false)):SlO i off n es (some lo) none k:=by
 subst ha
 exact ⟨by simp,by simp;omega,by simp,.inl ⟨.inl (by simp;omega),by simpa using h⟩⟩
theorem sloP_c {i off n es:Nat} {hi:Int} {k:V→Prop} (a:Nat) (ha:hi=a) (h1:a≤n) (h:k (.osl i off a es false)):SlO i off n es none (some hi) k:=by
 subst ha
 exact ⟨by simp,by simp,by simp;omega,.inl ⟨.inr rfl,by simpa using h⟩⟩
theorem clr_c {cs cs' : List V} {off n frz:Nat} {k:List V→Prop} (h1:frz≤off) (h2:off≤cs.length) (h3:0 < n) (h4:cs.take off=cs') (h:k cs'):ClrQ cs off n frz k:=⟨h1,h2,h3,h4 ▸ h⟩
theorem df_start {α:Type} {p:α→Bool} {l:List α} (h:l.findIdx p < l.length):l.take (l.findIdx p)=(l.take (l.findIdx p + 1)).filter fun x=>!p x:=by
 rw [List.take_succ_eq_append_getElem h,List.filter_append]
 have h1:p l[l.findIdx p]=true:=List.findIdx_getElem (w:=h)
 have h2:[l[l.findIdx p]].filter (fun x=>!p x)=[]:=by rw [List.filter_cons,h1];rfl
 rw [h2,List.append_nil]
 refine (List.filter_eq_self.2 fun x hx=>?_).symm
 obtain ⟨i,hi,rfl⟩:=List.getElem_of_mem hx
 rw [List.length_take] at hi
 rw [List.getElem_take]
 have:=List.not_of_lt_findIdx (show i < l.findIdx p by omega)
 simpa using this
theorem df_keep {α:Type} {p:α→Bool} {l y:List α} {i j:Nat} (hy:y.length=l.length) (hij:i < j) (hj:j < l.length) (hd:y.drop j=l.drop j) (ht:y.take i=(l.take j).filter fun x=>!p x) (hp:p l[j]=false) :
  (y.set i l[j]).drop (j + 1)=l.drop (j + 1)∧(y.set i l[j]).take (i + 1)=(l.take (j + 1)).filter fun x=>!p x:=by
 constructor
 ·rw [List.drop_set_of_lt (by omega)]
  have h1:(y.drop j).drop 1=(l.drop j).drop 1:=by rw [hd]
  simpa [List.drop_drop] using h1
 ·rw [List.take_succ_eq_append_getElem (show i < (y.set i l[j]).length by simp;omega),List.take_set_of_le (Nat.le_refl i),ht,List.take_succ_eq_append_getElem hj,List.filter_append]
  congr 1
  rw [List.filter_cons,hp]
  simp
theorem df_skip {α:Type} {p:α→Bool} {l y:List α} {i j:Nat} (hj:j < l.length) (hd:y.drop j=l.drop j) (ht:y.take i=(l.take j).filter fun x=>!p x) (hp:p l[j]=true) :
  y.drop (j + 1)=l.drop (j + 1)∧y.take i=(l.take (j + 1)).filter fun x=>!p x:=by
 constructor
 ·have h1:(y.drop j).drop 1=(l.drop j).drop 1:=by rw [hd]
  simpa [List.drop_drop] using h1
 ·rw [ht,List.take_succ_eq_append_getElem hj,List.filter_append,List.filter_cons,hp]
  simp
theorem callsS_fz2 {P:Program} {st:List Slot} {f:FuncId} {a0 a1 a1' v:V} {st' : List Slot} {rd:List Nat} (hf:FzC st a1 a1' rd) (h:CallsS P f [a0,a1'] st v st'):CallsS P f [a0,a1] st v st':=by
 intro B m0 m bk w cargs hg hsim hargs
 refine h B m0 m bk w cargs hg hsim ⟨hargs.1,fun j h1 h2=>?_⟩
 rcases j with _ | _ | j
 ·exact hargs.2 0 h1 (by simp)
 ·exact (hf.rep hsim (hargs.2 1 h1 (by simp))).mono (fun _ _ h=>h) fun _ _ h=>by cases h
 ·exact absurd h2 (by simp)
theorem callsS_fu {P:Program} {st:List Slot} {f:FuncId} {i off n es:Nat} {fu:Bool} {a1 v:V} {st' : List Slot} (h:CallsS P f [.osl i off n es false,a1] st v st'):CallsS P f [.osl i off n es fu,a1] st v st':=by
 intro B m0 m bk w cargs hg hsim hargs
 refine h B m0 m bk w cargs hg hsim ⟨hargs.1,fun j h1 h2=>?_⟩
 rcases j with _ | _ | j
 ·have hr:Rep m bk cargs[0] (.osl i off n es fu):=hargs.2 0 h1 (by simp)
  have go:∀ c,Rep m bk c (.osl i off n es fu)→Rep m bk c (.osl i off n es false):=fun c hr=>by
   cases hr with
   | osl hb hc hf hs=>exact .osl hb hc (fun e=>by cases e) hs
  exact go _ hr
 ·exact hargs.2 1 h1 (by simp)
 ·exact absurd h2 (by simp)
def DelFSaid (P:Program) (k:FuncId) {α:Type} (f:α→V) (es:Nat):Prop :=
 ∀ (l:List α) {g:Nat} {caps:List V} {fn:α→Option Bool},Clo1 P g caps f V.b fn→∀ p:α→Bool,l.length≤1000000→(∀ x ∈ l,fn x=some (p x)) →
  CallsS P k [.osl 0 0 l.length es false,.clo (.func g) caps] [.live (cellsM f l) 0] (.osl 0 0 (l.filter fun x=>!p x).length es false) [.live (cellsM f (l.filter fun x=>!p x)) 0]
def DelFNil (P:Program) (k:FuncId) {α:Type} (f:α→V):Prop :=
 ∀ {g:Nat} {caps:List V} {fn:α→Option Bool},Clo1 P g caps f V.b fn→CallsO P k [.sl [] true,.clo (.func g) caps] (fun _:Unit=>V.sl [] true) (some ())
theorem litL_mem:∀ {l:List V},(∀ v ∈ l,v.litD=true)→V.litD.litL l=true
 | [],_=>rfl
 | v :: l,h=>by
  simp only [V.litD.litL,Bool.and_eq_true]
  exact ⟨h v (by simp),litL_mem fun u hu=>h u (by simp [hu])⟩
theorem mem_litL:∀ {l:List V},V.litD.litL l=true→∀ v ∈ l,v.litD=true
 | u :: l,h,v,hv=>by
  simp only [V.litD.litL,Bool.and_eq_true] at h
  rcases List.mem_cons.1 hv with rfl | hv
  ·exact h.1
  ·exact mem_litL h.2 v hv
section
variable {β : Type} {r : β} {P : Program} {st : List Slot}
theorem delF_of {α:Type} {fn:α→Option Bool} {l L:List α} (h:delF? fn l=some L):∃ p:α→Bool,l.length≤1000000∧(∀ x ∈ l,fn x=some (p x))∧L=l.filter fun x=>!p x:=by
 unfold delF? at h
 split at h
 ·rename_i hb
  refine ⟨fun x=>(fn x).getD false,hb.1,fun x hx=>?_,(Option.some.inj h).symm⟩
  have:=List.all_eq_true.1 hb.2 x hx
  obtain ⟨b,hb⟩:=Option.isSome_iff_exists.1 this
  show fn x=some ((fn x).getD false)
  rw [hb];rfl
 ·cases h
theorem dfO_c {k:FuncId} {es:Nat} {α:Type} {f:α→V} (hS:DelFSaid P k f es) {l:List α} {fn:α→Option Bool} {X:List α→Option β} {K:V→List Nat→List Nat→List Slot→Prop} {i n g:Nat} {fu:Bool} {caps caps' : List V} {rd:List Nat} (H:(delF? fn l).bind X=some r) (hc:Clo1 P g caps' f V.b fn)
  (hz:FzC st (.clo (.func g) caps) (.clo (.func g) caps') rd) (hlit:∀ a,V.litD.litL (f a).cells=true) (h0:∀ a,V.idlt.belowL 0 (f a).cells=true)
  (hi:st[i]?=some (.live (cellsM f l) 0)) (hn:n=l.length) (h:∀ L,X L=some r→ssetK st i (.live (cellsM f L) 0) fun st'=>K (.osl i 0 L.length es false) rd [i] st'):Ask P k [.osl i 0 n es fu,.clo (.func g) caps] st K:=by
 subst hn
 obtain ⟨L,hL,H⟩:=bind_c H
 have:=h L H
 rw [ssetK_eq] at this
 obtain ⟨p,h1,h2,rfl⟩:=delF_of hL
 refine Ask_L (rd:=rd) (ef:=[(i,.live (cellsM f (l.filter fun x=>!p x)) 0)]) (fun st2 _ hk=>?_) this
 refine callsS_fz2 (hz.congr fun t ht=>hk t (.inl ht)) (callsS_fu ?_)
 have hfr:=callsS_frame (st:=st2) (id:=i) (v:=.osl i 0 (l.filter fun x=>!p x).length es false) (hS l hc p h1 h2) (by simp [V.idlt.belowL,V.idlt,idltL_up _ hc.own]) ((hk i (.inr (by simp))).trans hi) (cellsM_idlt h0 _) (litL_mem fun v hv=>by
  obtain ⟨a,_,ha⟩:=List.mem_flatMap.1 hv
  exact mem_litL (hlit a) v ha) (.inl ⟨_,_,_,_,rfl,rfl⟩)
 have hfr2:CallsS P k [.osl i 0 l.length es false,.clo (.func g) caps'] st2 (.osl i 0 (l.filter fun x=>!p x).length es false) (st2.set i (.live (cellsM f (l.filter fun x=>!p x)) 0)):=by simpa [V.ren.renL,V.ren,renL_id _ hc.own,sgm] using hfr
 exact hfr2
theorem dfN_c {k:FuncId} {α:Type} {f:α→V} (hS:DelFNil P k f) {fn:α→Option Bool} {X:List α→Option β} {K:V→List Nat→List Nat→List Slot→Prop} {g:Nat} {caps caps' : List V} {rd:List Nat} (H:(delF? fn ([]:List α)).bind X=some r) (hc:Clo1 P g caps' f V.b fn) (hz:FzC st (.clo (.func g) caps) (.clo (.func g) caps') rd) (h:X []=some r→K (.sl [] true) rd [] st):Ask P k [.sl [] true,.clo (.func g) caps] st K:=by
 have:delF? fn ([]:List α)=some []:=rfl
 rw [this] at H
 exact askF_c (X:=some) (r:=()) (hS hc) rfl (.cons (.c (.id rfl)) (.cons (.c hz) .nil)) fun _ _=>by rw [List.nil_append,List.append_nil];exact h H
end
end Go.Proofs.YthnihifblmnkdaaGreat

namespace Go.Proofs.YthnihifblmnkdaaGreat
open Go.RowKit
def dc65:BCode:=(.seq (.reg 3 [⟨(some 3),.bx (.tmp 0),none,0⟩,⟨(some 4),.bx (.tmp 1),none,1⟩,⟨(some 5),.bx (.tmp 2),none,2⟩,⟨(some 6),.mv (.const .nilFunc),none,3⟩] none 0 []) (.seq (.reg 0 [⟨(some 7),.mf (.func 120) [(.tmp 4),(.tmp 5),(.tmp 3)],none,0⟩,⟨(some 6),.mv (.tmp 7),none,0⟩] none 0 [3,4]) .ret))
theorem dc65_ok:compF Tryz.prog Tryz.f106=some (dc65.er,8,[.tmp 6]):=by unfold dc65;kernel_rfl
theorem rowsS {cs0 cs1 cs2:List V} {f0 f1 f2:Nat} (h0:V.idlt.belowL 0 cs0=true) (h1:V.idlt.belowL 0 cs1=true) (h2:V.idlt.belowL 0 cs2=true) (e:SnapEyes) (b:BookState) (s:ByteArray) :
  CallsS Tryz.prog 106 [e.v,b.v,.s s] [.live cs0 f0,.live cs1 f1,.live cs2 f2,.fresh,.fresh,.fresh] (.clo (.func 120) [.ptr 3 0,.ptr 4 0,.ptr 5 0])
   [.live cs0 f0,.live cs1 f1,.live cs2 f2,.live [.i b.Seq,.sl (List.map BookRow.v b.Rows) false] 2,.live [.s s] 0,.live [.sl (List.map V.s e.Users) false,.sl (List.map V.s e.Keys) false] 2]:=by
 refine callsR_c (n0:=6) mix Tryz.func106 dc65_ok rfl ?_
 conv=>whnf
 refine ⟨Nat.zero_le _,?_⟩;conv=>whnf
 refine ⟨Nat.zero_le _,?_⟩;conv=>whnf
 have hl:∀ {sg:List Nat} {cs:List V} {f:Nat},V.idlt.belowL 0 cs=true→Slot.live cs f=Slot.live (V.ren.renL sg cs) f:=fun h=>by rw [renL_id _ h]
 refine ⟨f_R [0,1,2,7,8,6] (.inr rfl) (.cons (.tmp rfl) .nil) rfl rfl rfl (fun i hi hne=>?_) ?_⟩
 ·have:i=0∨i=1∨i=2∨i=3∨i=4∨i=5:=by simp at hi;omega
  rcases this with rfl | rfl | rfl | rfl | rfl | rfl <;> first | rfl | exact absurd rfl hne
 ·refine ⟨⟨congrArg some (hl h0),idltL_up _ h0,rfl⟩,⟨congrArg some (hl h1),idltL_up _ h1,rfl⟩,⟨congrArg some (hl h2),idltL_up _ h2,rfl⟩,⟨rfl,rfl,rfl⟩,⟨rfl,rfl,rfl⟩,⟨rfl,rfl,rfl⟩,trivial⟩
theorem rowsS6 {cs0 cs1 cs2 cs3 cs4 cs5:List V} {f0 f1 f2 f3 f4 f5:Nat} (h0:V.idlt.belowL 0 cs0=true) (h1:V.idlt.belowL 0 cs1=true) (h2:V.idlt.belowL 0 cs2=true) (h3:V.idlt.belowL 0 cs3=true) (h4:V.idlt.belowL 0 cs4=true) (h5:V.idlt.belowL 0 cs5=true) (e:SnapEyes) (b:BookState) (s:ByteArray) :
  CallsS Tryz.prog 106 [e.v,b.v,.s s] [.live cs0 f0,.live cs1 f1,.live cs2 f2,.live cs3 f3,.live cs4 f4,.live cs5 f5,.fresh,.fresh,.fresh] (.clo (.func 120) [.ptr 6 0,.ptr 7 0,.ptr 8 0])
   [.live cs0 f0,.live cs1 f1,.live cs2 f2,.live cs3 f3,.live cs4 f4,.live cs5 f5,.live [.i b.Seq,.sl (List.map BookRow.v b.Rows) false] 2,.live [.s s] 0,.live [.sl (List.map V.s e.Users) false,.sl (List.map V.s e.Keys) false] 2]:=by
 refine callsR_c (n0:=9) mix Tryz.func106 dc65_ok rfl ?_
 conv=>whnf
 refine ⟨Nat.zero_le _,?_⟩;conv=>whnf
 refine ⟨Nat.zero_le _,?_⟩;conv=>whnf
 have hl:∀ {sg:List Nat} {cs:List V} {f:Nat},V.idlt.belowL 0 cs=true→Slot.live cs f=Slot.live (V.ren.renL sg cs) f:=fun h=>by rw [renL_id _ h]
 refine ⟨f_R [0,1,2,3,4,5,10,11,9] (.inr rfl) (.cons (.tmp rfl) .nil) rfl rfl rfl (fun i hi hne=>?_) ?_⟩
 ·have:i=0∨i=1∨i=2∨i=3∨i=4∨i=5∨i=6∨i=7∨i=8:=by simp at hi;omega
  rcases this with rfl | rfl | rfl | rfl | rfl | rfl | rfl | rfl | rfl <;> first | rfl | exact absurd rfl hne
 ·refine ⟨⟨congrArg some (hl h0),idltL_up _ h0,rfl⟩,⟨congrArg some (hl h1),idltL_up _ h1,rfl⟩,⟨congrArg some (hl h2),idltL_up _ h2,rfl⟩,⟨congrArg some (hl h3),idltL_up _ h3,rfl⟩,⟨congrArg some (hl h4),idltL_up _ h4,rfl⟩,⟨congrArg some (hl h5),idltL_up _ h5,rfl⟩,⟨rfl,rfl,rfl⟩,⟨rfl,rfl,rfl⟩,⟨rfl,rfl,rfl⟩,trivial⟩
end Go.Proofs.YthnihifblmnkdaaGreat

namespace Go.Proofs.YthnihifblmnkdaaGreat
open Go.RowKit
def V.conc:V→Value
 | .lit v=>v
 | .agg cs=>.agg (concL cs).toArray
 | .tup cs=>.tuple (concL cs).toArray
 | _=>undef
where concL:List V→List Value
 | []=>[]
 | v :: vs=>v.conc :: concL vs
def V.litE:V→Bool
 | .lit _=>true
 | .agg cs | .tup cs=>litEL cs
 | _=>false
where litEL:List V→Bool
 | []=>true
 | v :: vs=>v.litE && litEL vs
theorem concL_len:∀ l:List V,(V.conc.concL l).length=l.length
 | []=>rfl
 | v :: l=>by simp [V.conc.concL,concL_len l]
theorem concL_get:∀ (l:List V) (j:Nat) (h:j < l.length) (h2:j < (V.conc.concL l).length),(V.conc.concL l)[j]=l[j].conc
 | v :: l,0,_,_=>rfl
 | v :: l,j + 1,h,h2=>by simpa [V.conc.concL] using concL_get l j (by simpa using h) (by simpa [V.conc.concL] using h2)
theorem litEL_get:∀ {l:List V},V.litE.litEL l=true→∀ j (h:j < l.length),l[j].litE=true
 | v :: l,h,0,_=>by simp [V.litE.litEL] at h;simpa using h.1
 | v :: l,h,j + 1,hj=>by simp [V.litE.litEL] at h;simpa using litEL_get h.2 j (by simpa using hj)
theorem Rep.conc {m:Mem} {bk:Bks} {c:Value} {v:V} (h:Rep m bk c v):v.litE=true→c=v.conc:=by
 have lists:∀ {cs:Array Value} {vs:List V},cs.size=vs.length→(∀ j (h1:j < cs.size) (h2:j < vs.length),vs[j].litE=true→cs[j]=vs[j].conc)→V.litE.litEL vs=true→cs=(V.conc.concL vs).toArray:=by
  intro cs vs hl ih hv
  apply Array.ext
  ·simp [concL_len,hl]
  ·intro i h1 h2
   have h3:i < vs.length:=by omega
   rw [ih i h1 h3 (litEL_get hv i h3),List.getElem_toArray,concL_get vs i h3 (by rw [concL_len];exact h3)]
 induction h with
 | lit h=>intro _;rfl
 | agg hl h1 _ ih=>intro hv;exact congrArg Value.agg (lists hl ih hv)
 | tup hl _ ih=>intro hv;exact congrArg Value.tuple (lists hl ih hv)
 | _=>intro hv;simp [V.litE] at hv
def FastIn (m:Mem) (w:World):Prop:=∀ a u,m a=some u→w.cell? a=some u
theorem FastIn.below {m:Mem} {w w' : World} (h:FastIn m w) (hb:Below w.heap.size w w'):FastIn m w':=fun a u hm=>cell_keep (hb.block _ (World.block_lt_of_cell? w a (h a u hm))) (h a u hm)
theorem fast2 {B:Nat} {m0 m:Mem} {bk:Bks} {w:World} {st:List Slot} {i:Nat} {v u:V} {c:Value} (hsim:Sim B m0 m bk w st) (hi:st[i]?=some (.live [v,u] 2)) (hv:v.idlt 0=true) (hu:u.idlt 0=true) (hr:Rep m bk c (.ptr i 0)) :
  ∃ b x y,c=.pointer (some ⟨b,0,none⟩)∧m ⟨b,0,none⟩=some x∧m ⟨b,1,none⟩=some y∧Rep m noBk x v∧Rep m noBk y u:=by
 have go:∀ c,Rep m bk c (.ptr i 0)→∃ b x y,c=.pointer (some ⟨b,0,none⟩)∧m ⟨b,0,none⟩=some x∧m ⟨b,1,none⟩=some y∧Rep m noBk x v∧Rep m noBk y u:=fun c hr=>by
  cases hr with
  | @ptr _ _ b sz _ hb =>
  obtain ⟨arr,t,lo,hi',hlv,hrep⟩:=sim_live hsim hi hb
  obtain ⟨x,g1,g2⟩:=hlv.rep 0 (by simp)
  obtain ⟨y,g3,g4⟩:=hlv.rep 1 (by simp)
  exact ⟨b,x,y,rfl,(hlv.fz 0 (by omega)).trans g1,(hlv.fz 1 (by omega)).trans g3,g2.zero hv,g4.zero hu⟩
 exact go _ hr
end Go.Proofs.YthnihifblmnkdaaGreat

namespace Go.Proofs.YthnihifblmnkdaaGreat
open Go.RowKit
section
variable {P : Program} {w0 : Org} {B : Nat} {m0 : Mem} {bk0 : Bks} {n : Nat}
theorem aw_soundF {n0:Nat} (hk0:∀ id x,bk0 id=some x→id < n0) (hmix:P.follows .mixedOrders=true) (hg:GM m0) {c:Code} {ac:ACode} (hm:MatchC P c ac):ac.flat=true→∀ (Q:AExit→List V→List Slot→Prop) (fr:List V) (st:List Slot) (a:Act) (w:World),Cn B m0 bk0 w0 a w fr st→AW P n0 ac Q fr st→c.wp P (PostC B m0 bk0 w0 Q) a w:=by
 induction hm with
 | skip=>intro _ Q fr st a w hc h;exact wp_skip ⟨.normal,fr,st,rfl,hc,h⟩
 | label=>intro _ Q fr st a w hc h;exact wp_label ⟨.normal,fr,st,rfl,hc,h⟩
 | @regT id ops aos nc hn hm =>
  intro _ Q fr st a w hc h
  obtain ⟨st0,xr,hf,h⟩:=h
  obtain ⟨fps,fr',st',hr,hk⟩:=aops_run h
  refine wp_region ?_
  have:=run_text (ops:=ops) (Q:=PostC B m0 bk0 w0 Q) hg aos 0 _ _ _ _ _ a w hr (by omega) (fun j h o ho=>hm j h o (by simpa using ho)) ((hc.frz hf).room (nc + xr)) fun a w hc'=>⟨.normal,fr',st',rfl,hc',hk⟩
  rw [← hn] at this
  rw [List.range_eq_range']
  exact this
 | @regD id ops aos nc bef hn hm hr =>
  intro _ Q fr st a w hc h
  obtain ⟨st0,xr,hf,h⟩:=h
  obtain ⟨fps,fr',st',hrun,hk1,hk⟩:=aops_run h
  simp only [List.append_nil,List.reverse_reverse] at hk1
  exact reg_draw hmix hr (footB_ok hk1) hg hn hm hrun ((hc.frz hf).room (nc + xr)) fun a w hc'=>⟨.normal,fr',st',rfl,hc',hk⟩
 | seq _ _ ih1 ih2 =>
  intro hfl Q fr st a w hc h
  simp only [ACode.flat,Bool.and_eq_true] at hfl
  refine wp_seq (wp_mono (ih1 hfl.1 _ fr st a w hc h) ?_)
  rintro e a w ⟨ae,fr,st,h1,h2,h3⟩
  cases e <;> simp only [exitOf,Option.some.injEq,reduceCtorEq] at h1 <;> subst h1
  ·rcases h3 with h3 | ⟨k,sg,fr',st',hw,h3⟩
   ·exact ih2 hfl.2 Q fr st a w h2 h3
   ·exact ih2 hfl.2 Q fr' st' a w (Cn.wk hk0 h2 hw) h3
  ·exact ⟨_,fr,st,rfl,h2,h3⟩
  ·exact ⟨_,fr,st,rfl,h2,h3⟩
 | @cond c x y _ _ _ _ ih1 ih2 =>
  intro hfl Q fr st a w hc h
  simp only [ACode.flat,Bool.and_eq_true] at hfl
  obtain ⟨t,he,h1,h2⟩:=h
  have hv:a.eval c=.bool t:=by
   obtain ⟨m,bk,_,hfr,_,_⟩:=hc
   exact (he ▸ hfr.ev c).int
  exact wp_cond_split hv (fun e=>ih1 hfl.1 Q fr st a w hc (h1 e)) (fun e=>ih2 hfl.2 Q fr st a w hc (h2 e))
 | @block id x y _ ih =>
  intro hfl Q fr st a w hc h
  refine wp_block (wp_mono (ih hfl _ fr st a w hc h) ?_)
  rintro e a w ⟨ae,fr,st,h1,h2,h3⟩
  cases e <;> simp only [exitOf,Option.some.injEq,reduceCtorEq] at h1 <;> subst h1
  ·exact ⟨_,fr,st,rfl,h2,h3⟩
  ·rename_i j
   by_cases e:j=id
   ·simp only [e,if_true,Exit.inBlock] at h3 ⊢
    exact ⟨_,fr,st,rfl,h2,h3⟩
   ·simp only [e,if_false,Exit.inBlock] at h3 ⊢
    exact ⟨_,fr,st,rfl,h2,h3⟩
  ·exact ⟨_,fr,st,rfl,h2,h3⟩
 | loop=>intro hfl;cases hfl
 | raw=>intro hfl;cases hfl
 | scope _ ih =>
  intro hfl Q fr st a w hc h
  refine wp_scope_straight (wp_mono (ih hfl Q fr st a w hc h) ?_)
  rintro e a w ⟨ae,fr,st,h1,h2,h3⟩
  cases e <;> simp only [exitOf,Option.some.injEq,reduceCtorEq] at h1 <;> subst h1 <;> exact ⟨_,fr,st,rfl,h2,h3⟩
 | exit=>intro _ Q fr st a w hc h;exact wp_exit ⟨_,fr,st,rfl,hc,h⟩
 | ret=>intro _ Q fr st a w hc h;exact wp_ret ⟨_,fr,st,rfl,hc,h⟩
theorem piece {n0:Nat} (hk0:∀ id x,bk0 id=some x→id < n0) (hmix:P.follows .mixedOrders=true) (hg:GM m0) {c:Code} {x:BCode} (hc:comp P c=some x.er) (hf:x.er.flat=true) {Q:AExit→List V→List Slot→Prop} {fr:List V} {st:List Slot} {a:Act} {w:World} (hcn:Cn B m0 bk0 w0 a w fr st) (h:wpC P n0 x Q fr st):c.wpIn Fence.wide n P (PostC B m0 bk0 w0 Q) a w :=
 wpIn_wide.2 (aw_soundF hk0 hmix hg (comp_ok hc) hf Q fr st a w hcn (wpC_ok (fun _ _ _ h=>h) h))
theorem rowsIn_wide {row:String} {args:Array Value} {w:World} {R:Value→World→Prop} (h:Rows P row args w R):RowsIn Fence.wide n P row args w R :=
 fun c cs _=>let ⟨v,w',r,s⟩:=h c cs;⟨v,w',r,stepsIn_wide.2 s⟩
theorem upon_wide {o:Oper} {a:Act} {w:World} {next next' : Act→World→Prop} {Q:Exit→Act→World→Prop} (hn:∀ a w,next a w→next' a w) (h:o.wp P a w next Q):o.wpIn Fence.wide n P a w next' Q:=by
 refine ⟨fun _ _=>trivial,?_⟩
 show o.uponIn Fence.wide n P a next' Q ((execOp a.eval o).run P w)
 unfold Oper.wp at h
 generalize (execOp a.eval o).run P w=r at h
 cases r with
 | ok x w' =>
  cases x with
  | enter f args =>
   refine ⟨fun hh=>by simp [Fence.wide] at hh,callsIn_wide.2 (Calls.mono h fun e w'' he=>?_)⟩
   cases e <;> first | exact hn _ _ he | exact he
  | row row args=>exact ⟨fun hh=>by simp [Fence.wide] at hh,rowsIn_wide (Rows.mono h fun _ _ he=>hn _ _ he)⟩
  | _=>first | exact hn _ _ h | exact h.elim
 | halt x w'=>cases x <;> exact h
def Kept (aos:List AOper) (a a' : Act):Prop:=∀ t,(∀ o ∈ aos,o.dst≠some t)→a'.tmps[t]?=a.tmps[t]?
theorem put_keep {a:Act} {d:Option Nat} {c:Value} {t:Nat} (h:d≠some t):(a.put d c).tmps[t]?=a.tmps[t]?:=by
 cases d with
 | none=>rfl
 | some d =>
  have:d≠t:=fun e=>h (by rw [e])
  simp only [Act.put]
  rw [Array.getElem?_setIfInBounds_ne this]
section
variable {ops : Array Oper} {o : Oper} {a : Act} {w : World} {K : Act → World → Prop} {Q : Exit → Act → World → Prop} {st : List Slot} {fr : List V}
theorem Cn.stepK (hg:GM m0) (h:Cn B m0 bk0 w0 a w fr st) {i:Nat} {ao:AOper} (hi:ops[i]?=some o) (hm:MatchOp P ops o ao) {v:V} {rd:List Nat} {ef:List (Nat × Slot)} {id:Nat} (hgv:gval ao.guard fr=some true) (hs:AStep P (evO fr) st id ao.op v rd ef)
  (hK:∀ c w',Cn B m0 bk0 w0 (a.put o.dst c) w' (putF fr ao.dst v) (AStep.eff st ef)→K (a.put o.dst c) w'):Go.wpOp P ops Q i K a w:=by
 obtain ⟨m,bk,hsim,hfr,hd,hb,hbk⟩:=h
 have hgm:GM m:=by obtain ⟨n,hn⟩:=hg;exact ⟨n,hsim.ext _ _ hn⟩
 have hw:=gval_sound hfr hm hgv
 unfold Go.wpOp
 simp only [hi,hw,if_true]
 left
 refine op_sound hm.1 hs hsim hgm hfr fun c w' hA=>?_
 obtain ⟨m',bk',h1,h2,h3,h4,h5⟩:=hA
 refine hK _ _ ⟨m',bk',h1,?_,?_,hb.trans h5,fun id x h=>h4 _ _ (hbk _ _ h)⟩
 ·rw [hm.2.1];exact (hfr.mono h3 h4).put h2 _
 ·cases o.dst <;> exact hd.bel h5
theorem Cn.skipK (h:Cn B m0 bk0 w0 a w fr st) {i:Nat} {ao:AOper} (hi:ops[i]?=some o) (hm:MatchOp P ops o ao) (hgv:gval ao.guard fr=some false)
  (hK:Cn B m0 bk0 w0 (a.put o.dst undef) w (putF fr ao.dst (.tup [])) st→K (a.put o.dst undef) w):Go.wpOp P ops Q i K a w:=by
 obtain ⟨m,bk,hsim,hfr,hd,hb,hbk⟩:=h
 have hw:=gval_sound hfr hm hgv
 unfold Go.wpOp
 simp only [hi,hw,Bool.false_eq_true,if_false]
 refine hK ⟨m,bk,hsim,?_,?_,hb,hbk⟩
 ·rw [hm.2.1];exact hfr.put (.tup rfl fun j h1 _=>absurd h1 (Nat.not_lt_zero _)) _
 ·cases o.dst <;> exact hd
end
theorem pre_in {ops:Array Oper} {Q:Exit→Act→World→Prop} {rest:List Nat} (hQ:¬ LetsOut Q) (hg:GM m0) {base:Nat}:∀ (aos:List AOper) (i:Nat) (fr fr' : List V) (st st' : List Slot) (fp:List (List Nat × List Nat)) (a:Act) (w:World),Run P base aos fr st fp fr' st' →
  (∀ j (h:j < aos.length),∃ o,ops[i + j]?=some o∧MatchOp P ops o aos[j])→Cn B m0 bk0 w0 a w fr st→(∀ a' w',Cn B m0 bk0 w0 a' w' fr' st'→Kept aos a a'→wpOpsIn Fence.wide n P ops Q rest a' w')→wpOpsIn Fence.wide n P ops Q (List.range' i aos.length++rest) a w
 | [],i,fr,fr',st,st',fp,a,w,hr,hm,hc,hQ'=>by
  cases hr
  exact hQ' _ _ hc fun _ _=>rfl
 | ao :: aos,i,fr,fr',st,st',fp,a,w,hr,hm,hc,hQ'=>by
  obtain ⟨o,ho,hm0⟩:=hm 0 (by simp)
  simp only [Nat.add_zero,List.getElem_cons_zero] at ho hm0
  have hm' : ∀ j (h:j < aos.length),∃ o,ops[i + 1 + j]?=some o∧MatchOp P ops o aos[j]:=fun j h=>by
   have:=hm (j + 1) (by simpa using h)
   rw [show i + (j + 1)=i + 1 + j by omega] at this
   simpa using this
  rw [List.length_cons,List.range'_succ,List.cons_append]
  unfold wpOpsIn
  rw [ho]
  simp only
  have go:∀ (K:Act→World→Prop),Go.wpOp P ops Q i K a w→(∀ a w,K a w→wpOpsIn Fence.wide n P ops Q (List.range' (i + 1) aos.length++rest) a w)→(if Region.wanted o (yielded ops a.tmps) then o.wpIn Fence.wide n P a w (wpOpsIn Fence.wide n P ops Q (List.range' (i + 1) aos.length++rest)) Q else (∀ f,o.about P w a.eval=some f→Fence.wide.fn f)∧wpOpsIn Fence.wide n P ops Q (List.range' (i + 1) aos.length++rest) (a.put o.dst undef) w):=fun K h hK=>by
   unfold Go.wpOp at h
   simp only [ho] at h
   split
   ·rename_i hw
    rw [if_pos hw] at h
    rcases h with h | ⟨_,h⟩
    ·exact upon_wide hK h
    ·exact absurd h hQ
   ·rename_i hw
    rw [if_neg hw] at h
    exact ⟨fun _ _=>trivial,hK _ _ h⟩
  have kp:∀ c a',Kept aos (a.put o.dst c) a'→Kept (ao :: aos) a a':=fun c a' hk t ht=>by
   rw [hk t fun o' ho'=>ht o' (by simp [ho']),put_keep]
   rw [hm0.2.1];exact ht ao (by simp)
  cases hr with
  | on hgv hs h=>exact go _ (hc.stepK (K:=fun a w=>wpOpsIn Fence.wide n P ops Q (List.range' (i + 1) aos.length++rest) a w) hg ho hm0 hgv hs fun c w' hc'=>pre_in hQ hg aos (i + 1) _ _ _ _ _ _ w' h hm' hc' fun a' w' h1 h2=>hQ' a' w' h1 (kp c a' h2)) fun _ _ h=>h
  | off hgv h=>exact go _ (hc.skipK (K:=fun a w=>wpOpsIn Fence.wide n P ops Q (List.range' (i + 1) aos.length++rest) a w) ho hm0 hgv fun hc'=>pre_in hQ hg aos (i + 1) _ _ _ _ _ _ w h hm' hc' fun a' w' h1 h2=>hQ' a' w' h1 (kp undef a' h2)) fun _ _ h=>h
theorem matchT {id nc:Nat} {ops:Array Oper} {aos:List AOper} (h:MatchC P (.region id ops false) (.reg nc aos none)):ops.size=aos.length∧∀ j (_:j < aos.length) (o:Oper),ops[j]?=some o→MatchOp P ops o aos[j]:=by
 cases h with
 | regT hn hm=>exact ⟨hn,fun j h o ho=>hm j h o ho⟩
theorem reg_w {id nc:Nat} {ops:Array Oper} {aos:List AOper} {Q:Exit→Act→World→Prop} (hQ:¬ LetsOut Q) (hg:GM m0) (hm:MatchC P (.region id ops false) (.reg nc aos none)) {fr:List V} {st:List Slot} {a:Act} {w:World} (hc:Cn B m0 bk0 w0 a w fr st) {G:List V→List Slot→Prop}
  (h:wpOps P st.length aos [] fr (st++List.replicate nc .fresh) fun _ fr' st'=>G fr' st') (hK:∀ fr' st' a' w',G fr' st'→Cn B m0 bk0 w0 a' w' fr' st'→Kept aos a a'→Q .normal a' w'):(Code.region id ops false).wpIn Fence.wide n P Q a w:=by
 obtain ⟨hn,hm⟩:=matchT hm
 obtain ⟨fps,fr',st',hr,hk⟩:=aops_run (wpOps_ok h)
 refine wpIn_region ?_
 have:=pre_in (n:=n) (rest:=[]) hQ hg aos 0 _ _ _ _ _ a w hr (fun j h=>⟨ops[j]'(by omega),by simp [show j < ops.size by omega],hm j h _ (by simp [show j < ops.size by omega])⟩) (hc.room nc) fun a' w' h1 h2=>hK fr' st' a' w' hk h1 h2
 rw [List.append_nil,← hn] at this
 rw [List.range_eq_range']
 exact this
theorem pre_w {ops:Array Oper} {aos:List AOper} {Q:Exit→Act→World→Prop} {rest:List Nat} {i:Nat} (hQ:¬ LetsOut Q) (hg:GM m0) (hm:∀ j (h:j < aos.length),∃ o,ops[i + j]?=some o∧MatchOp P ops o aos[j]) {fr:List V} {st:List Slot} {a:Act} {w:World} (hc:Cn B m0 bk0 w0 a w fr st) {G:List V→List Slot→Prop}
  (h:wpOps P st.length aos [] fr st fun _ fr' st'=>G fr' st') (hK:∀ fr' st' a' w',G fr' st'→Cn B m0 bk0 w0 a' w' fr' st'→Kept aos a a'→wpOpsIn Fence.wide n P ops Q rest a' w'):wpOpsIn Fence.wide n P ops Q (List.range' i aos.length++rest) a w:=by
 obtain ⟨fps,fr',st',hr,hk⟩:=aops_run (wpOps_ok h)
 exact pre_in hQ hg aos i _ _ _ _ _ a w hr hm hc fun a' w' h1 h2=>hK fr' st' a' w' hk h1 h2
theorem matchD {ops:Array Oper} {aos:List AOper} (hn:ops.size=aos.length) (hm:∀ j (_:j < aos.length) (o:Oper),ops[j]?=some o→MatchOp P ops o aos[j]) (i k:Nat):∀ j (h:j < ((aos.drop i).take k).length),∃ o,ops[i + j]?=some o∧MatchOp P ops o ((aos.drop i).take k)[j]:=fun j h=>by
 have h1:i + j < aos.length:=by rw [List.length_take,List.length_drop] at h;omega
 refine ⟨ops[i + j]'(by omega),by simp [show i + j < ops.size by omega],?_⟩
 rw [List.getElem_take,List.getElem_drop]
 exact hm (i + j) h1 _ (by simp [show i + j < ops.size by omega])
theorem Cn.canon {fr fr2:List V} {st:List Slot} {a:Act} {w:World} (hc:Cn B m0 bk0 w0 a w fr st) (hl:fr2.length=fr.length) (h:∀ (i:Nat) (v:V),fr2[i]?=some v→v=.any∨fr[i]?=some v):Cn B m0 bk0 w0 a w fr2 st:=by
 obtain ⟨m,bk,h1,h2,h3⟩:=hc
 refine ⟨m,bk,h1,⟨h2.1.trans hl.symm,fun j g1 g2=>?_⟩,h3⟩
 rcases h j fr2[j] (List.getElem?_eq_getElem g2) with e | e
 ·rw [e];exact .any
 ·have hj:j < fr.length:=by omega
  have:=h2.2 j g1 hj
  rw [List.getElem?_eq_getElem hj] at e
  injection e with e
  rw [← e];exact this
theorem Cn.none {fr:List V} {st:List Slot} {a:Act} {w W:World} (hc:Cn B m0 bk0 ⟨W,false⟩ a w fr st):a.defers=[]:=by
 obtain ⟨_,_,_,_,hd,_⟩:=hc
 exact hd.none
theorem Cn.tmp {fr:List V} {st:List Slot} {a:Act} {w:World} (hc:Cn B m0 bk0 w0 a w fr st) {t:Nat} {v:V} (h:fr[t]?=some v) (hv:v.litE=true):a.tmps[t]?=some v.conc:=by
 obtain ⟨m,bk,_,h2,_⟩:=hc
 obtain ⟨g1,g2⟩:=List.getElem?_eq_some_iff.1 h
 have g3:t < a.tmps.size:=by rw [h2.1];exact g1
 have:=h2.2 t g3 g1
 rw [g2] at this
 rw [Array.getElem?_eq_getElem g3,this.conc hv]
theorem Cn.size {fr:List V} {st:List Slot} {a:Act} {w:World} (hc:Cn B m0 bk0 w0 a w fr st):a.tmps.size=fr.length:=by
 obtain ⟨m,bk,_,h2,_⟩:=hc
 exact h2.1
theorem Cn.cond {fr:List V} {st:List Slot} {a:Act} {w:World} (hc:Cn B m0 bk0 w0 a w fr st) {c:Operand} {t:Bool} (h:evO fr c=.b t):a.eval c=.bool t:=by
 obtain ⟨m,bk,_,h2,_⟩:=hc
 exact (h ▸ h2.ev c).int
end
def memB (bs:Nat) (m:Mem) (W:World):Mem:=fun a=>if a.block=bs then m a else W.cell? a
def bk1 (bs sz:Nat):Bks:=fun i=>if i=0 then some (bs,sz) else none
section
variable {P : Program} {B bs : Nat} {m : Mem} {W W' : World} {s s' : ByteArray} {T lo hi sz : Nat} {arr : Array Value}
theorem memB_at {a:Addr} (h:a.block≠bs):memB bs m W a=W.cell? a:=if_neg h
theorem memB_bs {a:Addr} (h:a.block=bs):memB bs m W a=m a:=if_pos h
theorem memB_le (hm:FastIn m W):∀ a u,m a=some u→memB bs m W a=some u:=fun a u h=>by
 by_cases e:a.block=bs
 ·rw [memB_bs e];exact h
 ·rw [memB_at e];exact hm a u h
theorem sim_start (hB:B≤W.heap.size) (hbB:B≤bs) (hm:FastIn m W) (hno:∀ k,m ⟨bs,k,none⟩=none) (hb:W.heap[bs]?=some (.cells arr T (lo,hi))) (hsz:arr.size=sz) (ht0:arr[0]?=some (.string s)) (hf:hi≤lo):Sim B (memB bs m W) (memB bs m W) (bk1 bs sz) W [.live [.s s] 0]:=by
 refine ⟨hB,fun a u h=>?_,fun _ _ h=>h,fun _ _ h=>.inl h,fun id cs frz h=>?_,fun i j ci fi cj fj x y h1 h2 _ _ _=>?_,fun id h=>?_⟩
 ·by_cases e:a.block=bs
  ·rw [memB_bs e] at h;exact hm a u h
  ·rw [memB_at e] at h;exact h
 ·have h0:id=0:=by have:=(List.getElem?_eq_some_iff.1 h).1;simpa using this
  subst h0
  simp only [List.getElem?_cons_zero,Option.some.injEq,Slot.live.injEq] at h
  obtain ⟨rfl,rfl⟩:=h
  have hp:0 < sz:=by rw [← hsz];exact (Array.getElem?_eq_some_iff.1 ht0).1
  exact ⟨bs,sz,arr,T,lo,hi,⟨rfl,hbB,hb,hsz,hf,Nat.succ_le_of_lt hp,(fun u hu=>by simp at hu;subst hu;rfl),fun k hk=>by
   have:k=0:=by simp at hk;exact hk
   subst this;exact ⟨_,ht0,.lit rfl⟩,fun k _=>by rw [memB_bs (bs:=bs) (a:=⟨bs,k,none⟩) rfl];exact hno k,fun k hk=>absurd hk (Nat.not_lt_zero _)⟩⟩
 ·have e1:i=0:=by have:=(List.getElem?_eq_some_iff.1 h1).1;simpa using this
  have e2:j=0:=by have:=(List.getElem?_eq_some_iff.1 h2).1;simpa using this
  rw [e1,e2]
 ·unfold bk1
  rw [if_neg]
  rintro rfl
  rcases h with h | h <;> simp at h
structure Grew (bs sz:Nat) (m:Mem) (s' : ByteArray) (T lo hi:Nat) (W W' : World):Prop where
 grown:W.grownBy W' (some bs)
 self:SelfS bs W W'
 fast:FastIn m W'
 text:∃ arr,W'.heap[bs]?=some (.cells arr T (lo,hi))∧arr.size=sz∧arr[0]?=some (.string s')
theorem cn_grown {a:Act} {fr:List V} {st:List Slot} (hm:FastIn m W) (hb:W.heap[bs]?=some (.cells arr T (lo,hi))) (h:Cn B (memB bs m W) (bk1 bs sz) ⟨W,false⟩ a W' fr st) (h0:st[0]?=some (.live [.s s'] 0)):Grew bs sz m s' T lo hi W W':=by
 obtain ⟨arr',T',lo',hi',ht,ht1,ht2⟩:=h.text h0 (show bk1 bs sz 0=some (bs,sz) from rfl)
 have hbel:Bel B W W':=h.bel
 obtain ⟨c',g1,gsz⟩:=hbel.shp _ _ _ _ _ hb
 rw [ht] at g1
 injection g1 with g1
 injection g1 with e1 e2 e3
 injection e3 with e3 e4
 subst e1 e2 e3 e4
 have hbl:=hbel.toBelow
 refine ⟨⟨hbl.os,hbl.tape,hbl.output,hbl.size,fun k hk hne=>?_⟩,⟨fun a0 s0 t f h0 h1=>?_,fun o h0 h1=>?_⟩,?_,_,ht,ht1,ht2⟩
 ·have hne' : k≠bs:=fun e=>hne (by rw [e])
  obtain ⟨o,ho⟩ : ∃ o,W.heap[k]?=some o:=⟨_,Array.getElem?_eq_getElem hk⟩
  by_cases hc:o.isCells=true
  ·cases o with
   | cells c t f =>
    rw [ho]
    exact h.fast (w0:=⟨W,false⟩) ho fun t ht=>by
     rw [memB_at hne'];simp [World.cell?,ho]
   | _=>simp [Obj.isCells] at hc
  ·rw [ho];exact hbel.oth k o ho (by simpa using hc)
 ·rw [hb] at h0
  injection h0 with h0
  injection h0 with x0 x1 x2
  subst x0 x1 x2
  exact ⟨_,s',ht,gsz,ht2⟩
 ·rw [hb] at h0
  injection h0 with h0
  subst h0
  simp [Obj.isCells] at h1
 ·obtain ⟨m2,bk2,q1,_,_,_,_⟩:=h
  exact fun a u hu=>q1.mem a u (q1.ext a u (memB_le hm a u hu))
theorem cn_new {a:Act} {fr:List V} {st:List Slot} (h:Cn B (memB bs m W) (bk1 bs sz) ⟨W,false⟩ a W' fr st) (hbs:bs < W.heap.size) {i:Nat} {cs:List V} {v:V} (hi:st[i]?=some (.live (v :: cs) 0)) (hi0:i≠0) {t:Nat} {s0:ByteArray} (h0:st[0]?=some (.live [.s s0] 0)) (ht:fr[t]?=some (.ptr i 0)) :
  ∃ b arr T f,a.tmps[t]?=some (.pointer (some ⟨b,0,none⟩))∧W.heap.size≤b∧W'.heap[b]?=some (.cells arr T f)∧∃ m2 bk2,Sim B (memB bs m W) m2 bk2 W' st∧RepL m2 bk2 (arr.toList.take (cs.length + 1)) (v :: cs):=by
 obtain ⟨m2,bk2,q1,q2,_,q4,q5⟩:=h
 have htl:=(List.getElem?_eq_some_iff.1 ht).1
 have hta:t < a.tmps.size:=by rw [q2.1];exact htl
 have hr:=q2.2 t hta htl
 rw [(List.getElem?_eq_some_iff.1 ht).2] at hr
 have go:∀ c,Rep m2 bk2 c (.ptr i 0)→∃ b sz,c=.pointer (some ⟨b,0,none⟩)∧bk2 i=some (b,sz):=fun c hr=>by
  cases hr with
  | ptr hb=>exact ⟨_,_,rfl,hb⟩
 obtain ⟨b,szb,hc,hb⟩:=go _ hr
 obtain ⟨arr,T,lo,hi',hlv,hrep⟩:=sim_live q1 hi hb
 refine ⟨b,arr,T,(lo,hi'),by rw [Array.getElem?_eq_getElem hta,hc],?_,hlv.heap,m2,bk2,q1,by simpa using hrep⟩
 rcases Nat.lt_or_ge b W.heap.size with g | g
 ·exfalso
  have hne:b≠bs:=fun e=>hi0 (q1.inj i 0 _ _ _ _ (b,szb) (bs,sz) hi h0 hb (q5 0 (bs,sz) rfl) e)
  obtain ⟨u,g1,_⟩:=hlv.rep 0 (by simp)
  -- the cell was there
  obtain ⟨o,ho⟩ : ∃ o,W.heap[b]?=some o:=⟨_,Array.getElem?_eq_getElem g⟩
  cases o with
  | cells c t f =>
   obtain ⟨c',s1,s2⟩:=q4.shp b c t f.1 f.2 ho
   rw [hlv.heap] at s1
   injection s1 with s1
   injection s1 with s1 _ _
   subst s1
   have hpos:0 < arr.size:=(Array.getElem?_eq_some_iff.1 g1).1
   have hm2:m2 ⟨b,0,none⟩=some c[0]:=q1.ext _ _ (by rw [memB_at hne];simp [World.cell?,ho])
   rw [hlv.mu 0 (Nat.zero_le _)] at hm2
   cases hm2
  | _ =>
   have:=q4.oth b _ ho rfl
   rw [hlv.heap] at this
   injection this with this
   cases this
 ·exact g
end
theorem yield_in {P:Program} {n l:Nat} {ops:Array Oper} {i:Nat} {o:Oper} {rest:List Nat} {a:Act} {w:World} {Q:Exit→Act→World→Prop} {f:Operand} {args:Array Operand} {tys:Array TypeId} {vs:Array Value} {R:Ending→World→Prop} (hi:ops[i]?=some o) (hop:o.op=.call ⟨.value f,args,tys⟩) (hw:Region.wanted o (yielded ops a.tmps)=true)
  (hf:a.eval f=.func (.yield l) #[] #[]) (ha:args.map a.eval=vs) (hY:YieldAt Fence.wide (n - 1) P l vs w R) (hR:∀ e w',R e w'→∃ v,e=.returned v∧wpOpsIn Fence.wide n P ops Q rest (a.put o.dst v) w'):wpOpsIn Fence.wide n P ops Q (i :: rest) a w:=by
 unfold wpOpsIn
 rw [hi]
 simp only
 rw [if_pos hw]
 refine ⟨fun _ _=>trivial,?_⟩
 show o.uponIn Fence.wide n P a _ Q ((execOp a.eval o).run P w)
 obtain ⟨fn,tmps,assign,body,hy,hr⟩:=hY
 have he:(execOp a.eval o).run P w=.ok (.round l fn tmps assign body) w:=by
  unfold execOp
  rw [hop]
  simp only [resolve,hf,ha,Deferred.ofValue,invoke]
  simpa [go_sem] using hy
 rw [he,Oper.uponIn_round]
 refine ⟨fun h=>by simp [Fence.wide] at h,hr.mono fun e w' h=>?_⟩
 obtain ⟨v,rfl,h2⟩:=hR e w' h
 exact h2
theorem grown_trans {A W C:World} {row:Option Nat} (h:A.grownBy W row) (k:W.grownBy C row):A.grownBy C row :=
 ⟨k.os.trans h.os,k.tape.trans h.tape,k.output.trans h.output,Nat.le_trans h.size k.size,fun i hi hn=>(k.block i (Nat.lt_of_lt_of_le hi h.size) hn).trans (h.block i hi hn)⟩
theorem self_trans {bs:Nat} {A W C:World} (h:SelfS bs A W) (k:SelfS bs W C):SelfS bs A C :=
 ⟨fun arr s t f h1 h2=>by obtain ⟨a1,s1,g1,g2,g3⟩:=h.self arr s t f h1 h2;obtain ⟨a2,s2,k1,k2,k3⟩:=k.self a1 s1 t f g1 g3;exact ⟨a2,s2,k1,k2.trans g2,k3⟩,fun o h1 h2=>k.not o (h.not o h1 h2) h2⟩
theorem arr3 {lb:Array Value} (h:lb.size=3):∃ c0 c1 c2,lb=#[c0,c1,c2]:=by
 refine ⟨lb[0],lb[1],lb[2],?_⟩
 apply Array.ext
 ·simpa using h
 ·intro i h1 h2
  have:i=0∨i=1∨i=2:=by simp at h2;omega
  rcases this with rfl | rfl | rfl <;> rfl
end Go.Proofs.YthnihifblmnkdaaGreat

