/- A part of the proof: 9 texts joined. -/
import Derived.Test.YtmmmcpeickfolaaGreatZaA13
import Derived.Test.YtmmmcpeickfolaaGreatZaA12
import Derived.KernelRfl
import Derived.Test.YtmmmcpeickfolaaGreatZaA10
set_option linter.all false
namespace Go.Proofs.YtmmmcpeickfolaaGreat
open Go.RowKit
def ArgsAt (st:List Slot) (id:Nat) (args args0:List V):Prop :=
 ∀ (B:Nat) (m0 m mb:Mem) (bk:Bks) (w:World) (cargs:Array Value),Sim B m0 m bk w st→RepA m bk cargs args→(∀ a u,m a=some u→mb a=some u) →
  (∀ (j:Nat) (c:List V) (g:Nat) (x:Nat × Nat),j≠id→st[j]?=some (.live c g)→bk j=some x→∀ a:Addr,a.block=x.1→mb a=w.cell? a)→RepA mb (cutBk 1 fun i=>bk (sgm [id] i)) cargs args0
open Classical in
theorem callsS_frameG {P:Program} {f:FuncId} {args args0:List V} {v0 v:V} {cs cs' : List V} {fz fz' : Nat} {st:List Slot} {id:Nat} (h:CallsS P f args0 [.live cs fz] v0 [.live cs' fz']) (ha:ArgsAt st id args args0) (hi:st[id]?=some (.live cs fz)) (h0:V.idlt.belowL 0 cs=true) (h0' : V.litD.litL cs'=true)
  (hv:(∃ off n es fu,v0=.osl 0 off n es fu∧v=.osl id off n es fu)∨v0.litD=true∧v=v0):CallsS P f args st v (st.set id (.live cs' fz')):=by
 intro B m0 m bk w cargs hg hsim hargs
 have hidl:=(List.getElem?_eq_some_iff.1 hi).1
 obtain ⟨b,sz,arr,t,lo,hi',hl⟩:=hsim.blk id cs fz hi
 let oth:Nat→Prop:=fun k=>∃ (j:Nat) (c:List V) (g:Nat) (x:Nat × Nat),j≠id∧st[j]?=some (.live c g)∧bk j=some x∧x.1=k
 let mb:Mem:=fun a=>if oth a.block then w.cell? a else m a
 have nob:¬ oth b:=by
  rintro ⟨j,c,g,x,h1,h2,h3,h4⟩
  exact h1 (hsim.inj j id c g cs fz x (b,sz) h2 hi h3 hl.at_ h4)
 have mbo:∀ a,oth a.block→mb a=w.cell? a:=fun a h=>if_pos h
 have mbn:∀ a,¬ oth a.block→mb a=m a:=fun a h=>if_neg h
 have mle:∀ a u,m a=some u→mb a=some u:=fun a u hu=>by
  by_cases ho:oth a.block
  ·rw [mbo a ho];exact hsim.mem a u hu
  ·rw [mbn a ho];exact hu
 have hb1:(cutBk 1 fun i=>bk (sgm [id] i)) 0=some (b,sz):=by
  have:sgm [id] 0=id:=rfl
  simp only [cutBk,this,hl.at_];rfl
 have sim1:Sim B mb mb (cutBk 1 fun i=>bk (sgm [id] i)) w [.live cs fz]:=by
  refine ⟨hsim.base,fun a u hu=>?_,fun _ _ h=>h,fun _ _ h=>.inl h,fun k c g hk=>?_,fun i j ci fi cj fj x y h1 h2 _ _ _=>?_,fun k hk=>?_⟩
  ·by_cases ho:oth a.block
   ·rw [mbo a ho] at hu;exact hu
   ·rw [mbn a ho] at hu;exact hsim.mem a u hu
  ·have hk0:k=0:=by have:=(List.getElem?_eq_some_iff.1 hk).1;simpa using this
   subst hk0
   simp only [List.getElem?_cons_zero,Option.some.injEq,Slot.live.injEq] at hk
   obtain ⟨rfl,rfl⟩:=hk
   refine ⟨b,sz,arr,t,lo,hi',⟨hb1,hl.own,hl.heap,hl.size,hl.free,hl.fit,hl.one,fun k hk=>?_,fun k hk=>?_,fun k hk=>?_⟩⟩
   ·obtain ⟨u,q1,q2⟩:=hl.rep k hk
    exact ⟨u,q1,(q2.zero (belowL_get h0 k hk)).mono mle fun _ _ h=>h⟩
   ·rw [mbn _ nob];exact hl.mu k hk
   ·rw [mbn _ nob];exact hl.fz k hk
  ·have e1:i=0:=by have:=(List.getElem?_eq_some_iff.1 h1).1;simpa using this
   have e2:j=0:=by have:=(List.getElem?_eq_some_iff.1 h2).1;simpa using this
   rw [e1,e2]
  ·unfold cutBk
   rw [if_neg]
   intro hlt
   have:k=0:=by omega
   subst this
   rcases hk with hk | hk <;> simp at hk
 have args1:RepA mb (cutBk 1 fun i=>bk (sgm [id] i)) cargs args0 :=
  ha B m0 m mb bk w cargs hsim hargs mle fun j c g x h1 h2 h3 a h4=>mbo a ⟨j,c,g,x,h1,h2,h3,h4.symm⟩
 have hg1:GM mb:=by obtain ⟨n,hn⟩:=hg;exact ⟨n,mle _ _ hn⟩
 refine (h B mb mb _ w cargs hg1 sim1 args1).mono ?_
 rintro e w' ⟨c,rfl,m',bk',g1,g2,g3,g4,g5⟩
 let m2:Mem:=fun a=>if oth a.block then m a else m' a
 have m2o:∀ a,oth a.block→m2 a=m a:=fun a h=>if_pos h
 have m2n:∀ a,¬ oth a.block→m2 a=m' a:=fun a h=>if_neg h
 have m_2:∀ a u,m a=some u→m2 a=some u:=fun a u hu=>by
  by_cases ho:oth a.block
  ·rw [m2o a ho];exact hu
  ·rw [m2n a ho];exact g3 _ _ (mle _ _ hu)
 have m2_:∀ a u,m2 a=some u→m' a=some u:=fun a u hu=>by
  by_cases ho:oth a.block
  ·rw [m2o a ho] at hu;exact g3 _ _ (mle _ _ hu)
  ·rw [m2n a ho] at hu;exact hu
 obtain ⟨b',sz',arr',t',lo',hi2,hl'⟩:=g1.blk 0 cs' fz' rfl
 have hbe:some (b',sz')=some (b,sz):=by rw [← hl'.at_,g4 0 _ hb1]
 simp only [Option.some.injEq,Prod.mk.injEq] at hbe
 obtain ⟨rfl,rfl⟩:=hbe
 have back:∀ (k:Nat) (c:List V) (g:Nat),k≠id→(st.set id (.live cs' fz'))[k]?=some (.live c g)→st[k]?=some (.live c g):=fun k c g hk h=>by
  rwa [List.getElem?_set,if_neg (fun e=>hk e.symm)] at h
 refine ⟨c,rfl,m2,bk,⟨Nat.le_trans hsim.base g5.size,fun a u hu=>g1.mem a u (m2_ a u hu),fun a u hu=>m_2 _ _ (hsim.ext a u hu),fun a u hu=>?_,fun k c g hk=>?_,fun i j ci fi cj fj x y h1 h2 hx hy he=>?_,fun k hk=>?_⟩,?_,m_2,fun _ _ h=>h,g5⟩
 ·by_cases ho:oth a.block
  ·rw [m2o a ho] at hu;exact hsim.old a u hu
  ·rw [m2n a ho] at hu
   rcases g1.old a u hu with q | q
   ·rw [mbn a ho] at q;exact hsim.old a u q
   ·exact .inr q
 ·by_cases hk0:k=id
  ·subst hk0
   rw [List.getElem?_set,if_pos rfl,if_pos hidl] at hk
   simp only [Option.some.injEq,Slot.live.injEq] at hk
   obtain ⟨rfl,rfl⟩:=hk
   refine ⟨b',sz',arr',t',lo',hi2,⟨hl.at_,hl.own,hl'.heap,hl'.size,hl'.free,hl'.fit,hl'.one,fun j hj=>?_,fun j hj=>?_,fun j hj=>?_⟩⟩
   ·obtain ⟨u,q1,q2⟩:=hl'.rep j hj
    exact ⟨u,q1,q2.litD (litL_get h0' j hj) m2 bk⟩
   ·rw [m2n _ nob];exact hl'.mu j hj
   ·rw [m2n _ nob];exact hl'.fz j hj
  ·have hks:=back k c g hk0 hk
   obtain ⟨b2,sz2,arr2,t2,lo2,hi3,h2⟩:=hsim.blk k c g hks
   have ho:oth b2:=⟨k,c,g,(b2,sz2),hk0,hks,h2.at_,rfl⟩
   obtain ⟨arr3,q1,q2⟩:=g5.shp b2 arr2 t2 lo2 hi3 h2.heap
   have e3:arr3=arr2:=by
    apply Array.ext q2
    intro i i1 i2
    have c1:w.cell? ⟨b2,i,none⟩=some arr2[i]:=by simp [World.cell?,h2.heap,i2]
    have c2:mb ⟨b2,i,none⟩=some arr2[i]:=by rw [mbo _ ho];exact c1
    have c3:=g1.mem _ _ (g3 _ _ c2)
    simp only [World.cell?,q1] at c3
    simpa [i1] using c3
   subst e3
   refine ⟨b2,sz2,arr3,t2,lo2,hi3,⟨h2.at_,h2.own,q1,h2.size,h2.free,h2.fit,h2.one,fun j hj=>?_,fun j hj=>?_,fun j hj=>?_⟩⟩
   ·obtain ⟨u,r1,r2⟩:=h2.rep j hj
    exact ⟨u,r1,r2.mono m_2 fun _ _ h=>h⟩
   ·rw [m2o _ ho];exact h2.mu j hj
   ·rw [m2o _ ho];exact h2.fz j hj
 ·have aux:∀ (a:Nat) (ci:List V) (fi:Nat),(st.set id (.live cs' fz'))[a]?=some (.live ci fi)→∃ ci fi,st[a]?=some (.live ci fi):=fun a ci fi ha=>by
   by_cases hae:a=id
   ·subst hae;exact ⟨_,_,hi⟩
   ·exact ⟨_,_,back a ci fi hae ha⟩
  obtain ⟨_,_,p1⟩:=aux _ _ _ h1
  obtain ⟨_,_,p2⟩:=aux _ _ _ h2
  exact hsim.inj i j _ _ _ _ x y p1 p2 hx hy he
 ·refine hsim.nb k ?_
  by_cases hk0:k=id
  ·subst hk0
   rw [List.getElem?_set,if_pos rfl,if_pos hidl] at hk
   rcases hk with hk | hk <;> cases hk
  ·rwa [List.getElem?_set,if_neg (fun e=>hk0 e.symm)] at hk
 ·rcases hv with ⟨off,n,es,fu,rfl,rfl⟩ | ⟨hv,rfl⟩
  ·cases g2 with
   | @osl _ _ b3 sz3 _ _ cap _ _ hb hc hf hs =>
    have:some (b3,sz3)=some (b',sz'):=by rw [← hb,g4 0 _ hb1]
    simp only [Option.some.injEq,Prod.mk.injEq] at this
    obtain ⟨rfl,rfl⟩:=this
    exact .osl hl.at_ hc hf hs
  ·exact g2.litD hv m2 bk
theorem callsS_frame {P:Program} {f:FuncId} {args0:List V} {v0 v:V} {cs cs' : List V} {fz fz' : Nat} {st:List Slot} {id:Nat} (h:CallsS P f args0 [.live cs fz] v0 [.live cs' fz']) (ha:V.idlt.belowL 1 args0=true) (hi:st[id]?=some (.live cs fz)) (h0:V.idlt.belowL 0 cs=true) (h0' : V.litD.litL cs'=true)
  (hv:(∃ off n es fu,v0=.osl 0 off n es fu∧v=.osl id off n es fu)∨v0.litD=true∧v=v0):CallsS P f (V.ren.renL [id] args0) st v (st.set id (.live cs' fz')) :=
 callsS_frameG h (fun B m0 m mb bk w cargs hsim hargs mle _=>⟨by rw [hargs.1,renL_len],fun j h1 h2=>by
  have hr:=hargs.2 j h1 (by rw [renL_len];exact h2)
  have hr2:=Rep.ren hr _ (renL_at (sg:=[id]) args0 j h2).symm
  exact (hr2.cut (belowL_get ha j h2)).mono mle fun _ _ h=>h⟩) hi h0 h0' hv
inductive FzT (st:List Slot) (i:Nat):List V→List V→List Nat→Prop
 | nil:FzT st i [] [] []
 | id {v l l' r} (h:v.idlt 0=true) (t:FzT st i l l' r):FzT st i (v :: l) (v :: l') r
 | ptr {j cs us frz l l' r} (hj:st[j]?=some (.live cs frz)) (hne:j≠i) (h:SlWL cs us) (t:FzT st i l l' r):FzT st i (.ptr j 0 :: l) (.eptr us :: l') (j :: r)
theorem FzT.congr {st st2:List Slot} {i:Nat} {l l' : List V} {r:List Nat} (h:FzT st i l l' r):(∀ k,k ∈ r→st2[k]?=st[k]?)→FzT st2 i l l' r:=by
 induction h with
 | nil=>exact fun _=>.nil
 | id h _ ih=>exact fun hst=>.id h (ih hst)
 | ptr hj hne h _ ih=>exact fun hst=>.ptr ((hst _ (by simp)).trans hj) hne h (ih fun k hk=>hst k (by simp [hk]))
theorem FzT.rep {B:Nat} {m0 m mb:Mem} {bk bk' : Bks} {w:World} {st:List Slot} {i:Nat} {l l' : List V} {r:List Nat} (h:FzT st i l l' r) (hsim:Sim B m0 m bk w st) (mle:∀ a u,m a=some u→mb a=some u)
  (hmb:∀ (j:Nat) (c:List V) (g:Nat) (x:Nat × Nat),j≠i→st[j]?=some (.live c g)→bk j=some x→∀ a:Addr,a.block=x.1→mb a=w.cell? a):∀ {cs:List Value},RepL m bk cs l→RepL mb bk' cs l':=by
 induction h with
 | nil=>intro cs h;exact ⟨h.1,fun j _ h2=>absurd h2 (by simp)⟩
 | @id v l l' r h0 t ih =>
  intro cs hr
  cases cs with
  | nil=>have:=hr.1;simp at this
  | cons c cs =>
   have g0:=hr.2 0 (by simp) (by simp)
   have ih':=@ih cs ⟨by simpa using hr.1,fun j h1 h2=>hr.2 (j + 1) (Nat.succ_lt_succ h1) (Nat.succ_lt_succ h2)⟩
   refine ⟨by simpa using ih'.1,fun j h1 h2=>?_⟩
   cases j with
   | zero=>exact (Rep.zero g0 h0).mono mle fun _ _ h=>h
   | succ j=>exact ih'.2 j (Nat.lt_of_succ_lt_succ h1) (Nat.lt_of_succ_lt_succ h2)
 | @ptr j csj us frz l l' r hj hne hw t ih =>
  intro cs hr
  cases cs with
  | nil=>have:=hr.1;simp at this
  | cons c cs =>
   have g0:=hr.2 0 (by simp) (by simp)
   have ih':=@ih cs ⟨by simpa using hr.1,fun j h1 h2=>hr.2 (j + 1) (Nat.succ_lt_succ h1) (Nat.succ_lt_succ h2)⟩
   refine ⟨by simpa using ih'.1,fun k h1 h2=>?_⟩
   cases k with
   | succ k=>exact ih'.2 k (Nat.lt_of_succ_lt_succ h1) (Nat.lt_of_succ_lt_succ h2)
   | zero =>
    have gg:∀ c,Rep m bk c (.ptr j 0)→Rep mb bk' c (.eptr us):=fun c g0=>by
     cases g0 with
     | @ptr _ _ b sz _ hb =>
     obtain ⟨arr,t,lo,hi',hlv,hrep⟩:=sim_live hsim hj hb
     obtain ⟨hl,hat⟩:=hw.at
     refine .eptr (us:=fun k=>arr.getD k undef) (fun u hu=>?_) (fun k hk=>?_) (fun k hk=>?_)
     ·obtain ⟨k,hk,rfl⟩:=List.getElem_of_mem hu
      exact (hat k (by omega) hk).one (hlv.one _ (List.getElem_mem _))
     ·obtain ⟨u,g1,g2⟩:=hlv.rep k (by omega)
      rw [hmb j _ _ _ hne hj hb _ rfl,Nat.zero_add]
      simp only [World.cell?,hlv.heap,Array.getD_eq_getD_getElem?,g1];rfl
     ·obtain ⟨u,g1,g2⟩:=hlv.rep k (by omega)
      have e:arr.getD k undef=u:=by simp [Array.getD_eq_getD_getElem?,g1]
      rw [e]
      exact ((hat k (by omega) hk).rep g2).mono mle fun _ _ h=>h
    exact gg _ g0
end Go.Proofs.YtmmmcpeickfolaaGreat

namespace Go.Proofs.YtmmmcpeickfolaaGreat
open Go.RowKit
def infB2 (P:Program) (e:TypeId) (es:Nat):Bool:=match P.info? e with
 | some i=>i.size == es && (match i.zero with | some z=>z.cells.size == es && z.cells.toList.all (·.oneCell') | none=>false) && decide (i.bytes≤1000)
 | none=>false
theorem infB2_ok {P:Program} {e:TypeId} {es:Nat} (h:infB2 P e es=true):∃ i z,P.info? e=some i∧i.size=es∧i.zero=some z∧z.cells.size=es∧i.bytes≤1000∧∀ v ∈ z.cells.toList,v.oneCell'=true:=by
 unfold infB2 at h
 split at h
 ·rename_i i hi
  simp only [Bool.and_eq_true,beq_iff_eq,decide_eq_true_eq] at h
  obtain ⟨⟨h1,h2⟩,h3⟩:=h
  split at h2
  ·rename_i z hz
   simp only [Bool.and_eq_true,beq_iff_eq,List.all_eq_true] at h2
   exact ⟨i,z,hi,h1,hz,h2.1,h3,h2.2⟩
  ·cases h2
 ·cases h
structure DelRoads (P:Program) (k:FuncId) (es:Nat):Prop where
 main:∀ (b n c i j:Nat) (cs:List Value) (w:World),i < j→j≤n→n≤c→n≤1000000→cs.length=n * es→(∀ t v,cs[t]?=some v→w.cell? ⟨b,t,none⟩=some v)→(∀ t,t < n * es→w.frozen? ⟨b,t,none⟩=false)→(∀ v ∈ cs,v.oneCell'=true) →
  Calls P k #[.slice (some ⟨b,0,none⟩) n c,.int .i64 i,.int .i64 j] w fun e w'=>∃ zs:List Value,zs.length=(j - i) * es∧(∀ v ∈ zs,v.oneCell'=true)∧e=.returned (.slice (some ⟨b,0,none⟩) (n - (j - i)) c)∧w'=(w.drew.setCells b (i * es) (cs.drop (j * es))).setCells b ((n - (j - i)) * es) zs
def del? {α:Type} (l:List α) (i j:Int):Option (List α):=if 0≤i∧i < j∧j≤l.length∧l.length≤1000000 then some (l.take i.toNat++l.drop j.toNat) else none
theorem del_of {P:Program} {k:FuncId} {es:Nat} (hR:DelRoads P k es) {α:Type} {f:α→V} (hes:∀ a,(f a).cells.length=es) (hone:∀ a,∀ u ∈ (f a).cells,u.one=true)
  {id:Nat} {st:List Slot} (l:List α) (fu:Bool) (i_ j_:Int) (hi:st[id]?=some (.live (cellsM f l) 0)):∀ L,del? l i_ j_=some L→CallsS P k [.osl id 0 l.length es fu,.i i_,.i j_] st (.osl id 0 L.length es false) (st.set id (.live (cellsM f L) 0)):=by
 intro L hL
 unfold del? at hL
 split at hL
 ·rename_i hb
  obtain ⟨hb0,hb1,hb2,hb3⟩:=hb
  obtain ⟨i,rfl⟩:=Int.eq_ofNat_of_zero_le hb0
  obtain ⟨j,rfl⟩:=Int.eq_ofNat_of_zero_le (show 0≤j_ by omega)
  simp only [Option.some.injEq,Int.toNat_natCast] at hL
  intro B m0 m bk w cargs hg hsim hargs
  obtain ⟨hsz,hrp⟩:=hargs
  obtain ⟨c0,c1,c2,rfl⟩:=cargs3 hsz
  have hr0:Rep m bk c0 (.osl id 0 l.length es fu):=hrp 0 (by simp) (by simp)
  have e1:=rep_lit1 (show Rep m bk c1 (.i i) from hrp 1 (by simp) (by simp))
  have e2:=rep_lit1 (show Rep m bk c2 (.i j) from hrp 2 (by simp) (by simp))
  subst e1 e2
  cases hr0 with
  | @osl _ _ b sz _ n cap _ _ hbk hcap hful hszc =>
  obtain ⟨arr,t,lo,hi',hlv,hrep⟩:=sim_live hsim hi hbk
  have hM:=cellsM_len hes l
  have hfit:=hlv.fit
  have hsize:=hlv.size
  have hfree:=hlv.free
  rw [hM] at hfit hrep
  obtain ⟨q,hq⟩ : ∃ q,q=l.length * es:=⟨_,rfl⟩
  obtain ⟨p,hp⟩ : ∃ p,p=i * es:=⟨_,rfl⟩
  obtain ⟨r,hr⟩ : ∃ r,r=j * es:=⟨_,rfl⟩
  have hpr:p≤r:=by rw [hp,hr];exact Nat.mul_le_mul_right _ (by omega)
  have hrq:r≤q:=by rw [hr,hq];exact Nat.mul_le_mul_right _ (by omega)
  have hN:(l.length - (j - i)) * es=p + (q - r):=by rw [Nat.sub_mul,Nat.sub_mul,← hp,← hr,← hq];omega
  have hji:(j - i) * es=r - p:=by rw [Nat.sub_mul,← hp,← hr]
  rw [← hq] at hfit hrep
  obtain ⟨cs,hcsd⟩ : ∃ cs,cs=arr.toList.take q:=⟨_,rfl⟩
  rw [← hcsd] at hrep
  have hcl:cs.length=q:=by rw [hcsd];simp;omega
  have hca:∀ t,t < q→cs[t]?=arr[t]?:=fun t ht=>by rw [hcsd,List.getElem?_take,if_pos ht,Array.getElem?_toList]
  have hcell:∀ t,w.cell? ⟨b,t,none⟩=arr[t]?:=fun t=>by simp [World.cell?,hlv.heap]
  have h:=hR.main b l.length cap i j cs w (by omega) (by omega) hcap hb3 (by rw [hcl,hq]) (fun t v ht=>by
   have ht' : t < q:=by have:=(List.getElem?_eq_some_iff.1 ht).1;omega
   rw [hcell,← hca t ht',ht]) (fun t _=>by
   simp only [World.frozen?,hlv.heap,Bool.and_eq_false_iff,decide_eq_false_iff_not]
   omega) (rep_one_cells hrep hlv.one)
  refine h.mono ?_
  rintro e w' ⟨zs,hz1,hz2,rfl,rfl⟩
  rw [hji] at hz1
  rw [hN,← hp,← hr]
  have hdl:(cs.drop r).length=q - r:=by rw [List.length_drop,hcl]
  obtain ⟨⟨arr1,a1,a2,a3⟩,a4,a5,a6,a7,a8⟩:=setCells_heap b t (lo,hi') (cs.drop r) p w.drew arr hlv.heap (by omega)
  obtain ⟨⟨arr',g1,g2,g3⟩,g4,g5,g6,g7,g8⟩:=setCells_heap b t (lo,hi') zs (p + (q - r)) _ arr1 a1 (by omega)
  have hLl:L.length=l.length - (j - i):=by rw [← hL];simp;omega
  have hct1:=cellsM_take hes l i (by omega)
  have hct2:=cellsM_take hes l j (by omega)
  have hcM:cellsM f L=(cellsM f l).take p++(cellsM f l).drop r:=by rw [← hL,cellsM_app',hct1.1,hct2.2,← hp,← hr]
  have hvals:RepL m bk (cs.take p++cs.drop r) (cellsM f L):=by rw [hcM];exact (hrep.take p).append (hrep.drop r)
  have hML:(cellsM f L).length=p + (q - r):=by rw [cellsM_len hes,hLl,hN]
  have hone' : ∀ u ∈ cellsM f L,u.one=true:=fun u hu=>by
   unfold cellsM at hu
   obtain ⟨a,_,ha⟩:=List.mem_flatMap.1 hu
   exact hone a u ha
  have hw:=hsim.write (cs':=cellsM f L) hi hlv g1 (g2.trans a2) (g4.trans a4) (fun k hk=>(g5 k hk).trans (a5 k hk)) (fun k hk=>absurd hk (Nat.not_lt_zero _)) (by omega) hone' (fun k hk=>by
   have hk' : k < (cs.take p++cs.drop r).length:=by rw [hvals.1];exact hk
   refine ⟨(cs.take p++cs.drop r)[k],?_,hvals.2 k hk' hk⟩
   rw [← List.getElem?_eq_getElem hk',g3,if_neg (by omega),a3,List.getElem?_append,List.length_take]
   by_cases h1:k < p
   ·rw [if_neg (by omega),if_pos (by omega),List.getElem?_take,if_pos h1,hca k (by omega)]
   ·rw [if_pos (by omega),if_neg (by omega),show min p cs.length=p by omega])
  refine ⟨_,rfl,m,bk,hw,?_,fun _ _ h=>h,fun _ _ h=>h,Bel.write (g6.trans a6) (g7.trans a7) (g8.trans a8) hlv.heap g1 (g2.trans a2) (g4.trans a4) (fun k hk=>(g5 k hk).trans (a5 k hk)) hlv.own⟩
  rw [hLl]
  exact .osl hbk (by omega) (fun e=>by cases e) hszc
 ·cases hL
theorem delO_c {β:Type} {r:β} {P:Program} {st:List Slot} {k:FuncId} {es:Nat} (hR:DelRoads P k es) {α:Type} {f:α→V} {l:List α} {i_ j_:Int} {X:List α→Option β} {K:V→List Nat→List Nat→List Slot→Prop} {i n:Nat} {fu:Bool} (H:(del? l i_ j_).bind X=some r) (hes:∀ a,(f a).cells.length=es) (hone:∀ a,(f a).cells.all V.one=true)
  (hi:st[i]?=some (.live (cellsM f l) 0)) (hn:n=l.length) (h:∀ L,X L=some r→ssetK st i (.live (cellsM f L) 0) fun st'=>K (.osl i 0 L.length es false) [] [i] st'):Ask P k [.osl i 0 n es fu,.i i_,.i j_] st K:=by
 subst hn
 obtain ⟨L,hL,H⟩:=bind_c H
 have:=h L H
 rw [ssetK_eq] at this
 exact Ask_L (rd:=[]) (ef:=[(i,.live (cellsM f L) 0)]) (fun st2 _ h2=>del_of hR hes (fun a u hu=>List.all_eq_true.1 (hone a) u hu) l fu i_ j_ ((h2 i (.inr (by simp))).trans hi) L hL) this
end Go.Proofs.YtmmmcpeickfolaaGreat

namespace Go.Proofs.YtmmmcpeickfolaaGreat
open Go.RowKit
def delF? {α:Type} (fn:α→Option Bool) (l:List α):Option (List α):=if l.length≤1000000∧(l.all fun x=>(fn x).isSome)=true then some (l.filter fun x=>!((fn x).getD false)) else none
theorem callsR_c {P:Program} {f:FuncId} {fn:Func} {ac:BCode} {n n0:Nat} {rs:List ARes} {args:List V} {v:V} {st st' : List Slot} (hmix:P.follows .mixedOrders=true) (hf:P.funcs[f]?=some fn) (hc:compF P fn=some (ac.er,n,rs)) (hn0:st.length=n0)
  (h:initK args n fun fr=>wpC P n0 ac (FinQ (FinR st rs v st')) fr st):CallsS P f args st v st' :=
 callsR_comp hmix hf hc hn0 (wpC_ok (fun _ _ _ h=>h.out) (initK_ok h))
theorem sloT_c {i off n es:Nat} {lo:Int} {k:V→Prop} (a:Nat) (ha:lo=a) (h1:a < n) (h:k (.osl i (off + a * es) (n - a) es false)):SlO i off n es (some lo) none k:=by
 subst ha
 exact ⟨by simp,by simp;omega,by simp,.inl ⟨.inl (by simp;omega),by simpa using h⟩⟩
theorem sloP_c {i off n es:Nat} {hi:Int} {k:V→Prop} (a:Nat) (ha:hi=a) (h1:a≤n) (h:k (.osl i off a es false)):SlO i off n es none (some hi) k:=by
 subst ha
 exact ⟨by simp,by simp,by simp;omega,.inl ⟨.inr rfl,by simpa using h⟩⟩
theorem clr_c {cs cs' : List V} {off n frz:Nat} {k:List V→Prop} (h1:frz≤off) (h2:off≤cs.length) (h3:0 < n) (h4:cs.take off=cs') (h:k cs'):ClrQ cs off n frz k:=⟨h1,h2,h3,h4 ▸ h⟩
theorem df_start {α:Type} {p:α→Bool} {l:List α} (h:l.findIdx p < l.length):l.take (l.findIdx p)=(l.take (l.findIdx p + 1)).filter fun x=>!p x:=by
 rw [List.take_succ_eq_append_getElem h,List.filter_append]
 have h1:p l[l.findIdx p]=true:=List.findIdx_getElem (w:=h)
 have h2:[l[l.findIdx p]].filter (fun x=>!p x)=[]:=by rw [List.filter_cons,h1];rfl
 rw [h2,List.append_nil]
 refine (List.filter_eq_self.2 fun x hx=>?_).symm
 obtain ⟨i,hi,rfl⟩:=List.getElem_of_mem hx
 rw [List.length_take] at hi
 rw [List.getElem_take]
 have:=List.not_of_lt_findIdx (show i < l.findIdx p by omega)
 simpa using this
theorem df_keep {α:Type} {p:α→Bool} {l y:List α} {i j:Nat} (hy:y.length=l.length) (hij:i < j) (hj:j < l.length) (hd:y.drop j=l.drop j) (ht:y.take i=(l.take j).filter fun x=>!p x) (hp:p l[j]=false) :
  (y.set i l[j]).drop (j + 1)=l.drop (j + 1)∧(y.set i l[j]).take (i + 1)=(l.take (j + 1)).filter fun x=>!p x:=by
 constructor
 ·rw [List.drop_set_of_lt (by omega)]
  have h1:(y.drop j).drop 1=(l.drop j).drop 1:=by rw [hd]
  simpa [List.drop_drop] using h1
 ·rw [List.take_succ_eq_append_getElem (show i < (y.set i l[j]).length by simp;omega),List.take_set_of_le (Nat.le_refl i),ht,List.take_succ_eq_append_getElem hj,List.filter_append]
  congr 1
  rw [List.filter_cons,hp]
  simp
theorem df_skip {α:Type} {p:α→Bool} {l y:List α} {i j:Nat} (hj:j < l.length) (hd:y.drop j=l.drop j) (ht:y.take i=(l.take j).filter fun x=>!p x) (hp:p l[j]=true) :
  y.drop (j + 1)=l.drop (j + 1)∧y.take i=(l.take (j + 1)).filter fun x=>!p x:=by
 constructor
 ·have h1:(y.drop j).drop 1=(l.drop j).drop 1:=by rw [hd]
  simpa [List.drop_drop] using h1
 ·rw [ht,List.take_succ_eq_append_getElem hj,List.filter_append,List.filter_cons,hp]
  simp
theorem callsS_fz2 {P:Program} {st:List Slot} {f:FuncId} {a0 a1 a1' v:V} {st' : List Slot} {rd:List Nat} (hf:FzC st a1 a1' rd) (h:CallsS P f [a0,a1'] st v st'):CallsS P f [a0,a1] st v st':=by
 intro B m0 m bk w cargs hg hsim hargs
 refine h B m0 m bk w cargs hg hsim ⟨hargs.1,fun j h1 h2=>?_⟩
 rcases j with _ | _ | j
 ·exact hargs.2 0 h1 (by simp)
 ·exact (hf.rep hsim (hargs.2 1 h1 (by simp))).mono (fun _ _ h=>h) fun _ _ h=>by cases h
 ·exact absurd h2 (by simp)
theorem callsS_fu {P:Program} {st:List Slot} {f:FuncId} {i off n es:Nat} {fu:Bool} {a1 v:V} {st' : List Slot} (h:CallsS P f [.osl i off n es false,a1] st v st'):CallsS P f [.osl i off n es fu,a1] st v st':=by
 intro B m0 m bk w cargs hg hsim hargs
 refine h B m0 m bk w cargs hg hsim ⟨hargs.1,fun j h1 h2=>?_⟩
 rcases j with _ | _ | j
 ·have hr:Rep m bk cargs[0] (.osl i off n es fu):=hargs.2 0 h1 (by simp)
  have go:∀ c,Rep m bk c (.osl i off n es fu)→Rep m bk c (.osl i off n es false):=fun c hr=>by
   cases hr with
   | osl hb hc hf hs=>exact .osl hb hc (fun e=>by cases e) hs
  exact go _ hr
 ·exact hargs.2 1 h1 (by simp)
 ·exact absurd h2 (by simp)
def DelFSaid (P:Program) (k:FuncId) {α:Type} (f:α→V) (es:Nat):Prop :=
 ∀ (l:List α) {g:Nat} {caps:List V} {fn:α→Option Bool},Clo1 P g caps f V.b fn→∀ p:α→Bool,l.length≤1000000→(∀ x ∈ l,fn x=some (p x)) →
  CallsS P k [.osl 0 0 l.length es false,.clo (.func g) caps] [.live (cellsM f l) 0] (.osl 0 0 (l.filter fun x=>!p x).length es false) [.live (cellsM f (l.filter fun x=>!p x)) 0]
def DelFNil (P:Program) (k:FuncId) {α:Type} (f:α→V):Prop :=
 ∀ {g:Nat} {caps:List V} {fn:α→Option Bool},Clo1 P g caps f V.b fn→CallsO P k [.sl [] true,.clo (.func g) caps] (fun _:Unit=>V.sl [] true) (some ())
theorem litL_mem:∀ {l:List V},(∀ v ∈ l,v.litD=true)→V.litD.litL l=true
 | [],_=>rfl
 | v :: l,h=>by
  simp only [V.litD.litL,Bool.and_eq_true]
  exact ⟨h v (by simp),litL_mem fun u hu=>h u (by simp [hu])⟩
theorem mem_litL:∀ {l:List V},V.litD.litL l=true→∀ v ∈ l,v.litD=true
 | u :: l,h,v,hv=>by
  simp only [V.litD.litL,Bool.and_eq_true] at h
  rcases List.mem_cons.1 hv with rfl | hv
  ·exact h.1
  ·exact mem_litL h.2 v hv
section
variable {β : Type} {r : β} {P : Program} {st : List Slot}
theorem delF_of {α:Type} {fn:α→Option Bool} {l L:List α} (h:delF? fn l=some L):∃ p:α→Bool,l.length≤1000000∧(∀ x ∈ l,fn x=some (p x))∧L=l.filter fun x=>!p x:=by
 unfold delF? at h
 split at h
 ·rename_i hb
  refine ⟨fun x=>(fn x).getD false,hb.1,fun x hx=>?_,(Option.some.inj h).symm⟩
  have:=List.all_eq_true.1 hb.2 x hx
  obtain ⟨b,hb⟩:=Option.isSome_iff_exists.1 this
  show fn x=some ((fn x).getD false)
  rw [hb];rfl
 ·cases h
theorem dfO_c {k:FuncId} {es:Nat} {α:Type} {f:α→V} (hS:DelFSaid P k f es) {l:List α} {fn:α→Option Bool} {X:List α→Option β} {K:V→List Nat→List Nat→List Slot→Prop} {i n g:Nat} {fu:Bool} {caps caps' : List V} {rd:List Nat} (H:(delF? fn l).bind X=some r) (hc:Clo1 P g caps' f V.b fn)
  (hz:FzC st (.clo (.func g) caps) (.clo (.func g) caps') rd) (hlit:∀ a,V.litD.litL (f a).cells=true) (h0:∀ a,V.idlt.belowL 0 (f a).cells=true)
  (hi:st[i]?=some (.live (cellsM f l) 0)) (hn:n=l.length) (h:∀ L,X L=some r→ssetK st i (.live (cellsM f L) 0) fun st'=>K (.osl i 0 L.length es false) rd [i] st'):Ask P k [.osl i 0 n es fu,.clo (.func g) caps] st K:=by
 subst hn
 obtain ⟨L,hL,H⟩:=bind_c H
 have:=h L H
 rw [ssetK_eq] at this
 obtain ⟨p,h1,h2,rfl⟩:=delF_of hL
 refine Ask_L (rd:=rd) (ef:=[(i,.live (cellsM f (l.filter fun x=>!p x)) 0)]) (fun st2 _ hk=>?_) this
 refine callsS_fz2 (hz.congr fun t ht=>hk t (.inl ht)) (callsS_fu ?_)
 have hfr:=callsS_frame (st:=st2) (id:=i) (v:=.osl i 0 (l.filter fun x=>!p x).length es false) (hS l hc p h1 h2) (by simp [V.idlt.belowL,V.idlt,idltL_up _ hc.own]) ((hk i (.inr (by simp))).trans hi) (cellsM_idlt h0 _) (litL_mem fun v hv=>by
  obtain ⟨a,_,ha⟩:=List.mem_flatMap.1 hv
  exact mem_litL (hlit a) v ha) (.inl ⟨_,_,_,_,rfl,rfl⟩)
 have hfr2:CallsS P k [.osl i 0 l.length es false,.clo (.func g) caps'] st2 (.osl i 0 (l.filter fun x=>!p x).length es false) (st2.set i (.live (cellsM f (l.filter fun x=>!p x)) 0)):=by simpa [V.ren.renL,V.ren,renL_id _ hc.own,sgm] using hfr
 exact hfr2
theorem dfN_c {k:FuncId} {α:Type} {f:α→V} (hS:DelFNil P k f) {fn:α→Option Bool} {X:List α→Option β} {K:V→List Nat→List Nat→List Slot→Prop} {g:Nat} {caps caps' : List V} {rd:List Nat} (H:(delF? fn ([]:List α)).bind X=some r) (hc:Clo1 P g caps' f V.b fn) (hz:FzC st (.clo (.func g) caps) (.clo (.func g) caps') rd) (h:X []=some r→K (.sl [] true) rd [] st):Ask P k [.sl [] true,.clo (.func g) caps] st K:=by
 have:delF? fn ([]:List α)=some []:=rfl
 rw [this] at H
 exact askF_c (X:=some) (r:=()) (hS hc) rfl (.cons (.c (.id rfl)) (.cons (.c hz) .nil)) fun _ _=>by rw [List.nil_append,List.append_nil];exact h H
end
end Go.Proofs.YtmmmcpeickfolaaGreat

namespace Go.Proofs.YtmmmcpeickfolaaGreat
open Go.RowKit
def tru? (m:Option Bool):Option Bool:=if m=some true then some true else none
theorem tru_of {m:Option Bool} {r:Bool} (h:tru? m=some r):r=true∧m=some true:=by
 unfold tru? at h
 split at h
 ·exact ⟨(Option.some.inj h).symm,‹_›⟩
 ·cases h
theorem tru_ok {m:Option Bool} (h:m=some true):tru? m=some true:=if_pos h
theorem tru_closed {P:Program} {k:FuncId} {vs:List V} {m:Option Bool} (h:CallsO P k vs V.b (tru? m)) (hm:m=some true):CallsO P k vs V.b m:=fun v hv=>by
 rw [hm] at hv
 cases hv
 exact h true (tru_ok hm)
theorem tstT_c {b:Bool} {A B:Prop} {X:Option Bool} (H:(bif b then X else some false)=some true) (h:b=true→X=some true→A):Tst b A B :=
 tst_c H h fun _ h=>by cases h
theorem tstF_c {b:Bool} {A B:Prop} {X:Option Bool} (H:(bif b then some false else X)=some true) (h:b=false→X=some true→B):Tst b A B :=
 tst_c H (fun _ h=>by cases h) h
def inG? {α β:Type} (n:Nat) (l:List α) (m:Option (List β)):Option (List β):=if l.length=n then m.bind fun L=>if n=L.length then some L else none else none
theorem inG_of {α β:Type} {n:Nat} {l:List α} {m:Option (List β)} {L:List β} (h:inG? n l m=some L):l.length=n∧m=some L∧n=L.length:=by
 unfold inG? at h
 split at h
 ·obtain ⟨L',h1,h2⟩:=bind_c h
  split at h2
  ·obtain rfl:=Option.some.inj h2
   exact ⟨‹_›,h1,‹_›⟩
  ·cases h2
 ·cases h
theorem nil_len {α β:Type} {l:List β} (h:List.length ([]:List α)=l.length):l=[]:=List.length_eq_zero_iff.1 h.symm
theorem nil_arr {α β:Type} {r:β} {A:Prop} {n:Nat} {l:List α} {j:Int} {X:α→Option β} (hn:n=0) (H:(arr? n l j).bind X=some r):A:=by
 obtain ⟨x,hx,_⟩:=bind_c H
 unfold arr? at hx
 split at hx
 ·rename_i h
  have:l=[]:=List.length_eq_zero_iff.1 (h.trans hn)
  subst this
  unfold at? at hx
  split at hx <;> simp at hx
 ·cases hx
def InPl {α:Type} (P:Program) (k:FuncId) (f:α→V) (es:Nat) (vs:List V) (l:List α) (m:Option (List α)):Prop :=
 ∀ L,m=some L→CallsS P k (.osl 0 0 l.length es false :: vs) [.live (cellsM f l) 0] (.tup []) [.live (cellsM f L) 0]
theorem inPl_comp {α:Type} {P:Program} {k:FuncId} {f:α→V} {es:Nat} {vs:List V} {l:List α} {m:Option (List α)} {fn:Func} {ac:BCode} {n:Nat} {rs:List ARes} (hmix:P.follows .mixedOrders=true) (hf:P.funcs[k]?=some fn) (hc:compF P fn=some (ac.er,n,rs))
  (h:∀ L,m=some L→initK (.osl 0 0 l.length es false :: vs) n fun fr=>wpC P 1 ac (FinQ (FinR [.live (cellsM f l) 0] rs (.tup []) [.live (cellsM f L) 0])) fr [.live (cellsM f l) 0]):InPl P k f es vs l m:=fun L hL =>
 callsR_c (n0:=1) hmix hf hc rfl (h L hL)
theorem callsS_full1 {P:Program} {st:List Slot} {f:FuncId} {i off n es:Nat} {fu:Bool} {vs:List V} {v:V} {st' : List Slot} (h:CallsS P f (.osl i off n es false :: vs) st v st'):CallsS P f (.osl i off n es fu :: vs) st v st':=by
 intro B m0 m bk w cargs hg hsim hargs
 refine h B m0 m bk w cargs hg hsim ⟨hargs.1,fun j h1 h2=>?_⟩
 rcases j with _ | j
 ·have hr:Rep m bk cargs[0] (.osl i off n es fu):=hargs.2 0 h1 (by simp)
  have go:∀ c,Rep m bk c (.osl i off n es fu)→Rep m bk c (.osl i off n es false):=fun c hr=>by
   cases hr with
   | osl hb hc hf hs=>exact .osl hb hc (fun e=>by cases e) hs
  exact go _ hr
 ·have:=hargs.2 (j + 1) h1 (by simpa using h2)
  simpa using this
theorem litL_M {α:Type} {f:α→V} (hlit:∀ a,V.litD.litL (f a).cells=true) (l:List α):V.litD.litL (cellsM f l)=true:=litL_mem fun v hv=>by
 obtain ⟨a,_,ha⟩:=List.mem_flatMap.1 hv
 exact mem_litL (hlit a) v ha
theorem askIn_c {β:Type} {r:β} {P:Program} {st:List Slot} {α:Type} {f:α→V} {l:List α} {m:Option (List α)} {X:List α→Option β} {K:V→List Nat→List Nat→List Slot→Prop} {k:FuncId} {es id n:Nat} {fu:Bool} {vs:List V} (hS:InPl P k f es vs l m) (H:(inG? n l m).bind X=some r)
  (hv:V.idlt.belowL 0 vs=true) (hlit:∀ a,V.litD.litL (f a).cells=true) (h0:∀ a,V.idlt.belowL 0 (f a).cells=true) (hi:st[id]?=some (.live (cellsM f l) 0))
  (h:∀ L,n=L.length→X L=some r→ssetK st id (.live (cellsM f L) 0) fun st'=>K (.tup []) [] [id] st'):Ask P k (.osl id 0 n es fu :: vs) st K:=by
 obtain ⟨L,hL',H'⟩:=bind_c H
 clear H
 obtain ⟨hn,hL,hn2⟩:=inG_of hL'
 clear hL'
 ·subst hn
  have:=h L hn2 H'
  rw [ssetK_eq] at this
  refine Ask_L (rd:=[]) (ef:=[(id,.live (cellsM f L) 0)]) (fun st2 _ hk=>callsS_full1 ?_) this
  have hfr:=callsS_frame (st:=st2) (id:=id) (v:=.tup []) (hS L hL) (by simp [V.idlt.belowL,V.idlt,idltL_up _ hv]) ((hk id (.inr (by simp))).trans hi) (cellsM_idlt h0 _) (litL_M hlit _) (.inr ⟨rfl,rfl⟩)
  have e:V.ren.renL [id] (.osl 0 0 l.length es false :: vs)=.osl id 0 l.length es false :: vs:=by simp [V.ren.renL,V.ren,renL_id _ hv,sgm]
  rw [e] at hfr
  exact hfr
theorem askInN_c {β:Type} {r:β} {P:Program} {st:List Slot} {α:Type} {l:List α} {m:List α→Option (List α)} {X:List α→Option β} {K:V→List Nat→List Nat→List Slot→Prop} {k:FuncId} {vs:List V} {n:Nat} (hn:n=0) (hS:∀ y,y=[]→CallsO P k (.sl [] true :: vs) (fun _:List α=>V.tup []) (m y)) (H:(inG? n l (m l)).bind X=some r)
  (hv:V.idlt.belowL 0 vs=true) (h:∀ L,n=L.length→X L=some r→K (.tup []) [] [] st):Ask P k (.sl [] true :: vs) st K:=by
 obtain ⟨L,hL,H⟩:=bind_c H
 obtain ⟨h1,hL,h2⟩:=inG_of hL
 exact Ask_V0 (hS l (List.length_eq_zero_iff.1 (h1.trans hn)) L hL) rfl (by simp [V.idlt.belowL,V.idlt,hv]) (h L h2 H)
theorem inFin_c {α:Type} {f:α→V} {es:Nat} {l x y:List α} {e:AExit} {fr:List V} {st:List Slot} {z:List V} (he:e=.normal∨e=.ret) (H:some x=some y) (hs:st.take 1=[.live (cellsM f x) 0]) (h0:∀ a,V.idlt.belowL 0 (f a).cells=true) :
  FinQ (FinR [.live z 0] [] (.tup []) [.live (cellsM f y) 0]) e fr st:=by
 cases H
 exact ⟨f_R0 he .nil rfl rfl rfl hs ⟨idltL_up _ (cellsM_idlt h0 _),trivial⟩⟩
structure GrowRoads (P:Program) (k:FuncId) (es:Nat) (E:TypeId):Prop where
 some_:∀ (b:Option Addr) (n:Nat) (w:World),0 < n→n≤1000000→Calls P k #[.slice b 0 0,.int .i64 n] w fun e w'=>∃ (ZS:Array Value) (c:Nat),e=.returned (.slice (some ⟨w.heap.size,0,none⟩) 0 c)∧w'=w.drew.alloc (.cells ZS E)∧c * es≤ZS.size
 zero_:∀ (b:Option Addr) (w:World),Calls P k #[.slice b 0 0,.int .i64 0] w fun e w'=>e=.returned (.slice b 0 0)∧w'=w
end Go.Proofs.YtmmmcpeickfolaaGreat

namespace Go.Proofs.YtmmmcpeickfolaaGreat
open Go.RowKit
def p_slices_insertionSortCmpFunc_item_Item__l2 (a0:List ItemItem) (a3:ItemItem→ItemItem→Option Int) (z19:Int):Nat→Int→(List ItemItem)→Option ((Int × (List ItemItem)))
 | 0,_,_=>none
 | n + 1,y22,y23 =>
  bif (decide (z19 < y22)) then
   (arr? (List.length a0) y23 y22).bind fun x25 =>
   (arr? (List.length a0) y23 (w64 (y22 - (1:Int)))).bind fun x27 =>
   (a3 x25 x27).bind fun v29 =>
   bif (decide (v29 < (0:Int))) then
    (arr? (List.length a0) y23 (w64 (y22 - (1:Int)))).bind fun x31 =>
    (arr? (List.length a0) y23 y22).bind fun x33 =>
    (arr? (List.length a0) y23 y22).bind fun x35 =>
    (arr? (List.length a0) (List.set y23 (Int.toNat y22) x31) (w64 (y22 - (1:Int)))).bind fun x37 =>
    p_slices_insertionSortCmpFunc_item_Item__l2 a0 a3 z19 n (w64 (y22 - (1:Int))) (List.set (List.set y23 (Int.toNat y22) x31) (Int.toNat (w64 (y22 - (1:Int)))) x33)
   else
   some (y22,y23)
  else
  some (y22,y23)
def p_slices_insertionSortCmpFunc_item_Item__l1 (a0:List ItemItem) (a3:ItemItem→ItemItem→Option Int) (z7:Int) (z8:Int):Nat→Int→(List ItemItem)→Option ((Int × (List ItemItem)))
 | 0,_,_=>none
 | n + 1,y9,y10 =>
  bif (decide (y9 < z8)) then
   (p_slices_insertionSortCmpFunc_item_Item__l2 a0 a3 z7 fuel y9 y10).bind fun q40 =>
   p_slices_insertionSortCmpFunc_item_Item__l1 a0 a3 z7 z8 n (w64 (y9 + (1:Int))) q40.2
  else
  some (y9,y10)
def p_slices_insertionSortCmpFunc_item_Item_ (a0:List ItemItem) (a1:Int) (a2:Int) (a3:ItemItem→ItemItem→Option Int):Option (List ItemItem) :=
 (p_slices_insertionSortCmpFunc_item_Item__l1 a0 a3 a1 a2 fuel (w64 (a1 + (1:Int))) a0).bind fun q42 =>
 some q42.2
def p_slices_stableCmpFunc_item_Item__l1 (a0:List ItemItem) (a2:ItemItem→ItemItem→Option Int) (z8:Int):Nat→Int→Int→(List ItemItem)→Option ((Int × Int × (List ItemItem)))
 | 0,_,_,_=>none
 | n + 1,y9,y10,y11 =>
  bif (decide (y10≤z8)) then
   (inG? (List.length a0) y11 (p_slices_insertionSortCmpFunc_item_Item_ y11 y9 y10 a2)).bind fun l14 =>
   p_slices_stableCmpFunc_item_Item__l1 a0 a2 z8 n y10 (w64 (y10 + (20:Int))) l14
  else
  some (y9,y10,y11)
def p_slices_stableCmpFunc_item_Item__l3 (z35:Int) (z37:Int):Nat→Option (Unit)
 | 0=>none
 | n + 1 =>
  bif (decide (z37≤z35)) then
   none
  else
  some ()
def p_slices_stableCmpFunc_item_Item__l2 (z24:Int):Nat→Int→Option (Int)
 | 0,_=>none
 | n + 1,y25 =>
  bif (decide (y25 < z24)) then
   (p_slices_stableCmpFunc_item_Item__l3 z24 (w64 ((2:Int) * y25)) fuel).bind fun q41 =>
   bif (decide (w64 ((0:Int) + y25) < z24)) then
    none
   else
   p_slices_stableCmpFunc_item_Item__l2 z24 n (w64 (y25 * (2:Int)))
  else
  some y25
def p_slices_stableCmpFunc_item_Item_ (a0:List ItemItem) (a1:Int) (a2:ItemItem→ItemItem→Option Int):Option (List ItemItem) :=
 (p_slices_stableCmpFunc_item_Item__l1 a0 a2 a1 fuel (0:Int) (20:Int) a0).bind fun q16 =>
 (inG? (List.length a0) q16.2.2 (p_slices_insertionSortCmpFunc_item_Item_ q16.2.2 q16.1 a1 a2)).bind fun l18 =>
 (p_slices_stableCmpFunc_item_Item__l2 a1 fuel (20:Int)).bind fun q44 =>
 some l18
def p_slices_SortStableFunc_item_Item (a0:List ItemItem) (a1:ItemItem→ItemItem→Option Int):Option (List ItemItem) :=
 (inG? (List.length a0) a0 (p_slices_stableCmpFunc_item_Item_ a0 ((List.length a0):Int) a1)).bind fun l2 =>
 some l2
def p_cmp_isNaN_int_ (a0:Int):Option (Bool) :=
 some (a0 != a0)
def p_cmp_Compare_int_ (a0:Int) (a1:Int):Option (Int) :=
 (p_cmp_isNaN_int_ a0).bind fun v1 =>
 (p_cmp_isNaN_int_ a1).bind fun v2 =>
 bif v1 then
  bif v2 then
   some (0:Int)
  else
  some (-1:Int)
 else
 bif v2 then
  some (1:Int)
 else
 bif (decide (a0 < a1)) then
  some (-1:Int)
 else
 bif (decide (a1 < a0)) then
  some (1:Int)
 else
 some (0:Int)
def p_cmp_Or_int__l1 (z6:List Int) (z7:Int):Nat→Int→Option (Int ⊕ Int)
 | 0,_=>none
 | n + 1,y8 =>
  bif (decide (y8 < z7)) then
   (at? z6 y8).bind fun x10 =>
   bif (x10 != (0:Int)) then
    some (.inl x10)
   else
   p_cmp_Or_int__l1 z6 z7 n (w64 (y8 + (1:Int)))
  else
  some (.inr y8)
def p_cmp_Or_int_ (a0:List Int):Option (Int) :=
 (p_cmp_Or_int__l1 a0 (a0.length:Int) fuel (0:Int)).bind fun o12=>match o12 with
 | .inl q13 =>
  some q13
 | .inr q14 =>
  some (0:Int)
def p_item_Item_order (a0:ItemItem) (a1:ItemItem):Option (Int) :=
 (p_strings_Compare a0.Contact a1.Contact).bind fun v1 =>
 (p_cmp_Compare_int_ a0.Ver a1.Ver).bind fun v2 =>
 (p_cmp_Or_int_ [v1,v2]).bind fun v3 =>
 some v3
def p_item_Sort (a0:List ItemItem):Option ((List ItemItem)) :=
 (clone? a0).bind fun l1 =>
 (inG? (List.length l1) l1 (p_slices_SortStableFunc_item_Item l1 (fun x0 x1=>p_item_Item_order x0 x1))).bind fun l3 =>
 some l3
def p_subs_Check (a0:Int):Option (Int) :=
 bif (decide (a0 < (0:Int))) then
  some (8:Int)
 else
 bif (decide ((15:Int) < a0)) then
  some (8:Int)
 else
 bif ((andI .i64 a0 (5:Int)) == (5:Int)) then
  some (4:Int)
 else
 bif ((andI .i64 a0 (10:Int)) == (10:Int)) then
  some (4:Int)
 else
 some (0:Int)
def p_item_Check (a0:ItemItem):Option (Int) :=
 (p_addr_IsBare a0.Contact).bind fun v1 =>
 bif v1 then
  bif (decide ((24:Int) < (a0.Name.size:Int))) then
   some (5:Int)
  else
  (p_utf_Plain a0.Name).bind fun v4 =>
  bif v4 then
   (p_subs_Check a0.Sub).bind fun v6 =>
   bif (v6 != (0:Int)) then
    some v6
   else
   bif (decide (a0.Ver < (0:Int))) then
    some (8:Int)
   else
   bif (decide ((1099511627776:Int) < a0.Ver)) then
    some (8:Int)
   else
   bif (a0.Name.toList == (⟨#[]⟩ : ByteArray).toList) then
    some (0:Int)
   else
   bif a0.Own then
    some (0:Int)
   else
   some (4:Int)
  else
  some (11:Int)
 else
 some (11:Int)
def p_item_Idle (a0:ItemItem):Option (Bool) :=
 bif (a0.Sub == (0:Int)) then
  some (!a0.Own)
 else
 some false
def p_item_Item_has (a0:ItemItem) (a1:Int):Option (Bool) :=
 (p_subs_Check a0.Sub).bind fun v1 =>
 bif (v1 == (0:Int)) then
  some ((andI .i64 a0.Sub a1) != (0:Int))
 else
 some false
def p_item_Listed (a0:ItemItem):Option (Bool) :=
 bif a0.Own then
  some true
 else
 (p_item_Item_has a0 (7:Int)).bind fun v2 =>
 some v2
def p_item_Sees (a0:ItemItem):Option (Bool) :=
 (p_item_Item_has a0 (1:Int)).bind fun v1 =>
 some v1
def p_item_Seen (a0:ItemItem):Option (Bool) :=
 (p_item_Item_has a0 (2:Int)).bind fun v1 =>
 some v1
end Go.Proofs.YtmmmcpeickfolaaGreat

namespace Go.Proofs.YtmmmcpeickfolaaGreat
open Go.RowKit
def p_slices_IndexFunc_roster_Gone_l1 (a1:RosterGone→Option Bool) (z5:List RosterGone) (z6:Int):Nat→Int→Option (Int ⊕ Int)
 | 0,_=>none
 | n + 1,y7 =>
  bif (decide (y7 < z6)) then
   (at? z5 y7).bind fun x9 =>
   (a1 x9).bind fun v10 =>
   bif v10 then
    some (.inl y7)
   else
   p_slices_IndexFunc_roster_Gone_l1 a1 z5 z6 n (w64 (y7 + (1:Int)))
  else
  some (.inr y7)
def p_slices_IndexFunc_roster_Gone (a0:List RosterGone) (a1:RosterGone→Option Bool):Option (Int) :=
 (p_slices_IndexFunc_roster_Gone_l1 a1 a0 (a0.length:Int) fuel (0:Int)).bind fun o12=>match o12 with
 | .inl q13 =>
  some q13
 | .inr q14 =>
  some (-1:Int)
end Go.Proofs.YtmmmcpeickfolaaGreat

namespace Go.Proofs.YtmmmcpeickfolaaGreat
open Go.RowKit
set_option maxRecDepth 100000
set_option maxHeartbeats 4000000
def gc136:BCode:=(.seq (R_ 0 [O_ 4 (.mv (i_ 0)) 0]) (.seq (.seq (R_ 0 [O_ 6 (.mv (t_ 0)) 0,O_ 7 (.lens (t_ 6)) 0,O_ 8 (.mv (i_ 0)) 0]) (.block 0 (.loop (.seq (R_ 0 [O_ 9 (.bin .lss (t_ 8) (t_ 7)) 0]) (.seq (.cond (t_ 9) .skip (.exit 0)) (.seq (.block 1 (.seq (R_ 0 [O_ 10 (.mv (t_ 8)) 0,O_ 5 (.mv (t_ 10)) 0]) (.seq (R_ 0 [O_ 11 (.mv (t_ 1)) 0,O_ 12 (.mv (t_ 0)) 0,O_ 13 (.mv (t_ 5)) 0,O_ 14 (.ixs 2 (t_ 12) (t_ 13)) 0,O_ 15 (.ld 2 true (t_ 14)) 0,O_ 16 (.cv (t_ 11) [(t_ 15)]) 0]) (.cond (t_ 16) (.seq (R_ 0 [O_ 17 (.mv (t_ 5)) 0,O_ 4 (.mv (t_ 17)) 0]) .ret) .skip)))) (R_ 0 [O_ 18 (.bin .add (t_ 8) (i_ 1)) 0,O_ 8 (.mv (t_ 18)) 0]))))))) (.seq (R_ 0 [O_ 4 (.mv (.const (.int .i64 (-1)))) 0]) .ret)))
theorem gc136_ok:compF Tryz.prog Tryz.f136=some (gc136.er,19,[.tmp 4]):=by unfold gc136;kernel_rfl
theorem p_slices_IndexFunc_roster_Gone_v {u1:Bool} (a0:List RosterGone) (a1:RosterGone→Option Bool) {a1_g:Nat} {a1_k:List V} (a1_h:Clo1 Tryz.prog a1_g a1_k RosterGone.v V.b a1):CallsO Tryz.prog 136 [.sl (List.map RosterGone.v a0) u1,.clo (.func a1_g) a1_k] V.i (p_slices_IndexFunc_roster_Gone a0 a1):=by
 refine callsO_comp mix Tryz.func136 gc136_ok fun r H=>?_
 rw [p_slices_IndexFunc_roster_Gone] at H
 conv=>whnf
 refine LenQ.M ?_;conv=>whnf
 obtain ⟨o2,HL3,HQ4⟩:=bind_c H
 refine loop_c [4,8] [5,9,10,11,12,13,14,15,16,17,18] [5,9,10,11,12,13,14,15,16,17,18] (fun n vals st=>(∃ y6,p_slices_IndexFunc_roster_Gone_l1  a1 a0 (a0.length:Int) n y6=some o2∧vals=[.i (0:Int),.i y6]∧st=[])) fuel 0 [] (⟨_,HL3,rfl,rfl⟩) (Nat.zero_le _) rfl (by simp only [maskF,setF,List.set_cons_zero,List.set_cons_succ,V.ren.renL,V.ren,renL_id _ a1_h.own] <;> rfl) (by simp only [maskF,setF,List.set_cons_zero,List.set_cons_succ,V.idlt.belowL,V.idlt,fun n=>idltL_up (n:=n) _ a1_h.own] <;> rfl) rfl trivial ?_
 rintro (_ | n5) _ _ (⟨y6,H,rfl,rfl⟩)
 ·rw [p_slices_IndexFunc_roster_Gone_l1] at H;cases H
 rw [p_slices_IndexFunc_roster_Gone_l1] at H
 conv=>whnf
 refine tst_d H (fun b7 H=>?_) (fun b7 H=>?_)
 ·conv=>whnf
  obtain rfl:=Option.some.inj H
  have H:=HQ4
  try dsimp only at H
  exact fi_ H
 conv=>whnf
 refine ixs_c (f:=RosterGone.v) H (fun _=>rfl) (fun x8 H=>?_);conv=>whnf
 refine askC_c a1_h H (.cons (fzagg (.cons (.id rfl) (.cons (.id rfl) (.nil))) rfl) (.nil)) (fun v9 H=>?_);conv=>whnf
 refine tst_c H (fun b10 H=>?_) (fun b10 H=>?_)
 ·conv=>whnf
  obtain rfl:=Option.some.inj H
  have H:=HQ4
  try dsimp only at H
  exact fi_ H
 conv=>whnf
 refine Ari.w ?_;conv=>whnf
 exact again_c [5,9,10,11,12,13,14,15,16,17,18] n5 0 [] (⟨_,H,rfl,rfl⟩) (Nat.lt_succ_self _) (Nat.zero_le _) rfl (by simp only [maskF,setF,List.set_cons_zero,List.set_cons_succ,V.ren.renL,V.ren,renL_id _ a1_h.own] <;> rfl) (by simp only [maskF,setF,List.set_cons_zero,List.set_cons_succ,V.idlt.belowL,V.idlt,fun n=>idltL_up (n:=n) _ a1_h.own] <;> rfl) rfl trivial
end Go.Proofs.YtmmmcpeickfolaaGreat

namespace Go.Proofs.YtmmmcpeickfolaaGreat
open Go.RowKit
theorem at_nat {α:Type} (l:List α) (k:Nat):at? l (k:Int)=l[k]?:=by
 unfold at?;rw [if_pos (Int.natCast_nonneg k)];rfl
theorem at_lt {α:Type} {l:List α} {k:Nat} (h:k < l.length):at? l (k:Int)=some l[k]:=by rw [at_nat,List.getElem?_eq_getElem h]
theorem w64_id {r:Int} (h:-9223372036854775808≤r∧r≤9223372036854775807):w64 r=r:=wrap_ok h
theorem w64_succ {k:Nat} (h:k≤1000000):w64 ((k:Int) + 1)=((k + 1:Nat):Int):=by rw [w64_id (by omega)];rfl
theorem lt_tt {a b:Nat} (h:a < b):decide ((a:Int) < (b:Int))=true:=by simpa using h
theorem lt_ff {a b:Nat} (h:b≤a):decide ((a:Int) < (b:Int))=false:=by simpa using h
theorem drop_at {α:Type} {l:List α} {k:Nat} (h:k < l.length):l.drop k=l[k] :: l.drop (k + 1):=List.drop_eq_getElem_cons h
theorem fuel_pos:(1000000:Nat) < fuel:=by decide
theorem cutTo {α:Type} {l:List α} {k:Nat} (h:k≤l.length):cut? l none (some (k:Int))=some (l.take k):=by
 unfold cut?
 simp only [Option.getD_none,Option.getD_some]
 rw [if_pos (by omega)]
 simp
theorem u64_id {r:Int} (hr:0≤r∧r≤9223372036854775807):IntKind.u64.wrap r=r:=by
 simp only [IntKind.wrap,IntKind.signed,IntKind.bits]
 first | omega | (simp;omega)
theorem fdivN (m p:Nat):(m:Int).fdiv (2 ^ p)=((m / 2 ^ p:Nat):Int):=by
 rw [show ((2:Int) ^ p)=((2 ^ p:Nat):Int) by simp,Int.fdiv_eq_ediv_of_nonneg _ (Int.natCast_nonneg _)];rfl
theorem half_p {i j:Nat} (h:i + j≤100000):w64 (shrI .u64 (IntKind.wrap .u64 (w64 ((i:Int) + (j:Int)))) (1:Int))=(((i + j) / 2:Nat):Int):=by
 have e1:w64 ((i:Int) + (j:Int))=((i + j:Nat):Int):=by rw [w64_id (by omega)];omega
 have e2:IntKind.wrap .u64 ((i + j:Nat):Int)=((i + j:Nat):Int):=u64_id (by omega)
 have e:(min (1:Int).toNat IntKind.u64.bits)=1:=rfl
 have e3:shrI .u64 ((i + j:Nat):Int) 1=(((i + j) / 2:Nat):Int):=by
  unfold shrI
  rw [e,fdivN]
 rw [e1,e2,e3]
 exact w64_id (by omega)
theorem app_ok {α:Type} {a b:List α} (h:a.length + b.length≤1000000):app? a b=some (a++b):=if_pos h
theorem tl_data (s:ByteArray):s.toList=s.data.toList:=by rw [ByteArray.toList_eq]
theorem eqT_refl (a:ByteArray):(a.toList == a.toList)=true:=by simp
theorem eqT_iff {a b:ByteArray}:(a.toList == b.toList)=true ↔ a=b:=by
 rw [beq_iff_eq,tl_data,tl_data]
 exact ⟨fun h=>by cases a;cases b;congr 1;exact Array.ext' h,fun h=>by rw [h]⟩
theorem cmp_less:∀ (a b:List UInt8),Op.bytesLess a b=decide (Lib.compareBytes a b < 0)
 | [],[]=>by simp [Op.bytesLess,Lib.compareBytes]
 | [],_ :: _=>by simp [Op.bytesLess,Lib.compareBytes]
 | _ :: _,[]=>by simp [Op.bytesLess,Lib.compareBytes]
 | a :: xs,b :: ys=>by
  unfold Op.bytesLess Lib.compareBytes
  rw [cmp_less xs ys]
  by_cases h:a < b
  ·simp [h]
  ·by_cases h2:b < a
   ·have hne:a≠b:=fun e=>by subst e;exact UInt8.lt_irrefl _ h2
    simp [h,h2,hne]
   ·have e:a=b:=by
     apply UInt8.toNat_inj.1
     rw [UInt8.lt_iff_toNat_lt] at h h2;omega
    subst e;simp [h]
theorem cmp_refl:∀ a:List UInt8,Lib.compareBytes a a=0
 | []=>by simp [Lib.compareBytes]
 | a :: xs=>by unfold Lib.compareBytes;rw [if_neg (UInt8.lt_irrefl _),if_neg (UInt8.lt_irrefl _)];exact cmp_refl xs
theorem cmp_eq0:∀ {a b:List UInt8},Lib.compareBytes a b=0→a=b
 | [],[],_=>rfl
 | [],_ :: _,h=>by simp [Lib.compareBytes] at h
 | _ :: _,[],h=>by simp [Lib.compareBytes] at h
 | a :: xs,b :: ys,h=>by
  unfold Lib.compareBytes at h
  split at h
  ·omega
  ·split at h
   ·omega
   ·rename_i h1 h2
    have e:a=b:=by
     apply UInt8.toNat_inj.1
     rw [UInt8.lt_iff_toNat_lt] at h1 h2;omega
    rw [e,cmp_eq0 h]
theorem cmp_anti:∀ (a b:List UInt8),Lib.compareBytes b a=- Lib.compareBytes a b
 | [],[]=>by simp [Lib.compareBytes]
 | [],_ :: _=>by simp [Lib.compareBytes]
 | _ :: _,[]=>by simp [Lib.compareBytes]
 | a :: xs,b :: ys=>by
  unfold Lib.compareBytes
  rw [cmp_anti xs ys]
  by_cases h:a < b
  ·have h2:¬ b < a:=by rw [UInt8.lt_iff_toNat_lt] at h ⊢;omega
   simp [h,h2]
  ·by_cases h2:b < a
   ·simp [h,h2]
   ·simp [h,h2]
theorem cmp_trans:∀ {a b c:List UInt8},Lib.compareBytes a b < 0→Lib.compareBytes b c < 0→Lib.compareBytes a c < 0
 | [],[],_,h,_=>by simp [Lib.compareBytes] at h
 | _ :: _,[],_,h,_=>by simp [Lib.compareBytes] at h
 | _,_ :: _,[],_,h=>by simp [Lib.compareBytes] at h
 | [],_ :: _,_ :: _,_,_=>by simp [Lib.compareBytes]
 | a :: xs,b :: ys,c :: cs,h1,h2=>by
  unfold Lib.compareBytes at h1 h2 ⊢
  by_cases x:a < b
  ·by_cases y:b < c
   ·rw [if_pos (UInt8.lt_trans x y)];omega
   ·rw [if_neg y] at h2
    by_cases z:c < b
    ·rw [if_pos z] at h2;omega
    ·have e:b=c:=by
      apply UInt8.toNat_inj.1
      rw [UInt8.lt_iff_toNat_lt] at y z;omega
     subst e
     rw [if_pos x];omega
  ·rw [if_neg x] at h1
   by_cases x2:b < a
   ·rw [if_pos x2] at h1;omega
   ·rw [if_neg x2] at h1
    have e:a=b:=by
     apply UInt8.toNat_inj.1
     rw [UInt8.lt_iff_toNat_lt] at x x2;omega
    subst e
    by_cases y:a < c
    ·rw [if_pos y];omega
    ·rw [if_neg y] at h2 ⊢
     by_cases z:c < a
     ·rw [if_pos z] at h2;omega
     ·rw [if_neg z] at h2 ⊢
      exact cmp_trans h1 h2
end Go.Proofs.YtmmmcpeickfolaaGreat

namespace Go.Proofs.YtmmmcpeickfolaaGreat
open Go.RowKit
set_option maxRecDepth 100000
set_option maxHeartbeats 4000000
def dc176:BCode:=(.seq (R_ 0 [O_ 4 (.mv (.const (.slice none 0 0))) 0]) (.seq (R_ 0 [O_ 8 (.mv (t_ 0)) 0,O_ 9 (.mv (t_ 1)) 0,O_ 10 (.cl 136 [(t_ 8),(t_ 9)]) 0,O_ 5 (.mv (t_ 10)) 0]) (.seq (.seq (R_ 0 [O_ 11 (.mv (t_ 5)) 0,O_ 12 (.bin .eql (t_ 11) (.const (.int .i64 (-1)))) 0]) (.cond (t_ 12) (.seq (R_ 0 [O_ 13 (.mv (t_ 0)) 0,O_ 4 (.mv (t_ 13)) 0]) .ret) .skip)) (.seq (.seq (R_ 0 [O_ 14 (.mv (t_ 5)) 0,O_ 15 (.bin .add (t_ 14) (i_ 1)) 0,O_ 6 (.mv (t_ 15)) 0]) (.block 0 (.loop (.seq (.seq (R_ 0 [O_ 16 (.mv (t_ 6)) 0,O_ 17 (.mv (t_ 0)) 0,O_ 18 (.lens (t_ 17)) 0,O_ 19 (.bin .lss (t_ 16) (t_ 18)) 0]) (.cond (t_ 19) .skip (.exit 0))) (.seq (.block 1 (.seq (R_ 1 [O_ 22 (.mv (t_ 0)) 0,O_ 23 (.mv (t_ 6)) 0,O_ 24 (.ixs 2 (t_ 22) (t_ 23)) 0,O_ 25 (.ld 2 true (t_ 24)) 0,O_ 7 (.al (.agg [(.lit (.string ⟨#[]⟩)),(.lit (.int .i64 0))])) 0,U_ (.st 2 (t_ 7) (t_ 25)) 1]) (.seq (R_ 0 [O_ 26 (.mv (t_ 1)) 0,O_ 27 (.ld 2 true (t_ 7)) 0,O_ 28 (.cv (t_ 26) [(t_ 27)]) 0,O_ 29 (.un .not (t_ 28)) 0]) (.cond (t_ 29) (.seq (R_ 0 [O_ 30 (.mv (t_ 0)) 0,O_ 31 (.mv (t_ 5)) 0,O_ 32 (.ld 2 true (t_ 7)) 0,O_ 33 (.ixs 2 (t_ 30) (t_ 31)) 0,U_ (.st 2 (t_ 33) (t_ 32)) 0]) (R_ 0 [O_ 34 (.mv (t_ 5)) 0,O_ 35 (.bin .add (t_ 34) (i_ 1)) 0,O_ 5 (.mv (t_ 35)) 0])) .skip)))) (R_ 0 [O_ 20 (.mv (t_ 6)) 0,O_ 21 (.bin .add (t_ 20) (i_ 1)) 0,O_ 6 (.mv (t_ 21)) 0])))))) (.seq (R_ 0 [O_ 36 (.mv (t_ 0)) 0,O_ 37 (.mv (t_ 5)) 0,O_ 38 (.sls 2 (t_ 36) (some (t_ 37)) none none) 0,U_ (.clr 2 (t_ 38)) 0]) (.seq (R_ 0 [O_ 39 (.mv (t_ 0)) 0,O_ 40 (.mv (t_ 5)) 0,O_ 41 (.sls 2 (t_ 39) none (some (t_ 40)) none) 0,O_ 4 (.mv (t_ 41)) 0]) .ret))))))
theorem dc176_ok:compF Tryz.prog Tryz.f176=some (dc176.er,42,[.tmp 4]):=by unfold dc176;kernel_rfl
theorem dfi176 (fn:RosterGone→Option Bool) (p:RosterGone→Bool) (rows:List RosterGone) (hn:rows.length≤1000000) (hf:∀ x ∈ rows,fn x=some (p x)):∀ (n k F:Nat),k + n=rows.length→n < F →
  p_slices_IndexFunc_roster_Gone_l1 fn rows rows.length F k=some (if (rows.drop k).any p=true then .inl ((k + (rows.drop k).findIdx p:Nat):Int) else .inr (rows.length:Int))
 | 0,k,F + 1,hk,hF=>by
  have e:rows.drop k=[]:=List.drop_of_length_le (by omega)
  have:k=rows.length:=by omega
  rw [p_slices_IndexFunc_roster_Gone_l1,lt_ff (by omega),e,this];rfl
 | n + 1,k,F + 1,hk,hF=>by
  have hlt:k < rows.length:=by omega
  rw [p_slices_IndexFunc_roster_Gone_l1,lt_tt hlt,at_lt hlt,drop_at hlt]
  simp only [cond_true,Option.bind_some,hf _ (List.getElem_mem hlt)]
  cases hp:p rows[k] with
  | true=>rw [List.any_cons,hp,List.findIdx_cons,hp];rfl
  | false =>
   simp only [cond_false]
   rw [w64_succ (by omega),dfi176 fn p rows hn hf n (k + 1) F (by omega) (by omega)]
   simp only [List.any_cons,hp,Bool.false_or,List.findIdx_cons,cond_false]
   split
   ·congr 3;omega
   ·rfl
theorem dfx176 {fn:RosterGone→Option Bool} (p:RosterGone→Bool) {rows:List RosterGone} (hn:rows.length≤1000000) (hf:∀ x ∈ rows,fn x=some (p x)):p_slices_IndexFunc_roster_Gone rows fn=some (if rows.any p=true then (rows.findIdx p:Int) else -1):=by
 unfold p_slices_IndexFunc_roster_Gone
 have:=dfi176 fn p rows hn hf rows.length 0 fuel (by omega) (by have:=fuel_pos;omega)
 rw [show ((0:Int))=((0:Nat):Int) from rfl,this,List.drop_zero]
 cases rows.any p <;> simp
theorem dfS176 (l:List RosterGone) {g:Nat} {caps:List V} {fn:RosterGone→Option Bool} (hc:Clo1 Tryz.prog g caps RosterGone.v V.b fn) (p:RosterGone→Bool) (hn:l.length≤1000000) (hf:∀ x ∈ l,fn x=some (p x)) :
  CallsS Tryz.prog 176 [.osl 0 0 l.length 2 false,.clo (.func g) caps] [.live (cellsM RosterGone.v l) 0] (.osl 0 0 (l.filter fun x=>!p x).length 2 false) [.live (cellsM RosterGone.v (l.filter fun x=>!p x)) 0]:=by
 refine callsR_c (n0:=1) mix Tryz.func176 dc176_ok rfl ?_
 conv=>whnf
 refine askT_c (X:=some) (r:=if l.any p=true then (l.findIdx p:Int) else -1) [0] (p_slices_IndexFunc_roster_Gone_v l fn hc) (by rw [dfx176 p hn hf];rfl) (.cons (.c (fzown (f:=RosterGone.v) (l:=l) rfl rfl (fun _=>rfl) (fun _=>rfl))) (.cons (.c (.id (by exact hc.own))) .nil)) (fun _=>rfl) (fun x H=>?_)
 obtain rfl:=Option.some.inj H
 conv=>whnf
 by_cases hany:l.any p=true
 ·rw [if_pos hany]
  have hk0:l.findIdx p < l.length:=List.findIdx_lt_length_of_exists (by simpa using hany)
  refine Tst.isF (beq_eq_false_iff_ne.2 (by omega)) ?_;conv=>whnf
  refine Ari.w ?_;conv=>whnf
  have hw:IntKind.i64.wrap ((l.findIdx p:Int) + 1)=((l.findIdx p + 1:Nat):Int):=w64_succ (by omega)
  rw [hw]
  refine loop_c [5,6] [7,16,17,18,19,20,21,22,23,24,25,26,27,28,29,30,31,32,33,34,35] [7,16,17,18,19,20,21,22,23,24,25,26,27,28,29,30,31,32,33,34,35] (fun n vals st=>∃ (i j:Nat) (y:List RosterGone),vals=[.i i,.i j]∧st=[.live (cellsM RosterGone.v y) 0]∧y.length=l.length∧i < j∧j≤l.length∧y.drop j=l.drop j∧y.take i=(l.take j).filter (fun x=>!p x)∧i≤l.length∧n=l.length - j) (l.length - (l.findIdx p + 1)) 1 [] ⟨l.findIdx p,l.findIdx p + 1,l,rfl,rfl,rfl,by omega,by omega,rfl,df_start hk0,by omega,rfl⟩ (Nat.le_refl _) rfl
   (by simp only [maskF,setF,List.set_cons_zero,List.set_cons_succ,V.ren.renL,V.ren,renL_id _ hc.own] <;> rfl) (by simp only [maskF,setF,List.set_cons_zero,List.set_cons_succ,V.idlt.belowL,V.idlt,fun n=>idltL_up (n:=n) _ hc.own] <;> rfl) rfl (wkB_live0 rfl (cellsM_idlt (f:=RosterGone.v) (fun _=>rfl) _) rfl trivial) ?_
  rintro n _ _ ⟨i,j,y,rfl,rfl,hyl,hij,hjl,hyd,hyt,hil,rfl⟩
  conv=>whnf
  by_cases hj:j < l.length
  ·refine Tst.isT (lt_tt hj) ?_;conv=>whnf
   have hmem:l[j] ∈ l:=List.getElem_mem hj
   have hx:y[(j:Int).toNat]?=some l[j]:=by
    rw [Int.toNat_natCast]
    have h1:(y.drop j)[0]?=(l.drop j)[0]?:=by rw [hyd]
    rw [List.getElem?_drop,List.getElem?_drop,Nat.add_zero] at h1
    rw [h1,List.getElem?_eq_getElem hj]
   refine ⟨rfl,⟨Int.natCast_nonneg _,by rw [Int.toNat_natCast];exact hj,?_⟩⟩;conv=>whnf
   refine ldo_c (f:=RosterGone.v) (es:=2) hx (fun _=>rfl) 0 (by omega) (by decide) ?_;conv=>whnf
   refine lq_ ?_;conv=>whnf
   refine askC_c (X:=some) (r:=p l[j]) (a:=l[j]) hc (by rw [hf _ hmem];rfl) (fza_ids rfl) (fun v H=>?_)
   obtain rfl:=Option.some.inj H
   conv=>whnf
   have hw1:IntKind.i64.wrap ((j:Int) + 1)=((j + 1:Nat):Int):=w64_succ (by omega)
   have hw2:IntKind.i64.wrap ((i:Int) + 1)=((i + 1:Nat):Int):=w64_succ (by omega)
   cases hp:p l[j] with
   | false =>
    refine Tst.isT rfl ?_;conv=>whnf
    refine ⟨rfl,⟨Int.natCast_nonneg _,by rw [Int.toNat_natCast];omega,?_⟩⟩;conv=>whnf
    refine ⟨Nat.zero_le _,sto_c (f:=RosterGone.v) (l:=y) (n:=i) (es:=2) (x:=y[i]'(by omega)) (List.getElem?_eq_getElem (by omega)) (x':=l[j]) (fun _=>rfl) 0 (by rw [Int.toNat_natCast];omega) (Nat.le_of_ble_eq_true rfl) (by rfl) ?_⟩;conv=>whnf
    refine Ari.w ?_;conv=>whnf
    refine Ari.w ?_;conv=>whnf
    rw [hw1,hw2]
    have hd:=df_keep hyl hij hj hyd hyt hp
    exact again_c [7,16,17,18,19,20,21,22,23,24,25,26,27,28,29,30,31,32,33,34,35] (l.length - (j + 1)) 1 [] ⟨i + 1,j + 1,y.set i l[j],rfl,rfl,by rw [List.length_set];exact hyl,by omega,by omega,hd.1,hd.2,by omega,rfl⟩ (by omega) (Nat.le_refl _) rfl
     (by simp only [maskF,setF,List.set_cons_zero,List.set_cons_succ,V.ren.renL,V.ren,renL_id _ hc.own] <;> rfl) (by simp only [maskF,setF,List.set_cons_zero,List.set_cons_succ,V.idlt.belowL,V.idlt,fun n=>idltL_up (n:=n) _ hc.own] <;> rfl) rfl (wkB_live0 rfl (cellsM_idlt (f:=RosterGone.v) (fun _=>rfl) _) rfl trivial)
   | true =>
    refine Tst.isF rfl ?_;conv=>whnf
    refine Ari.w ?_;conv=>whnf
    rw [hw1]
    have hd:=df_skip hj hyd hyt hp
    exact again_c [7,16,17,18,19,20,21,22,23,24,25,26,27,28,29,30,31,32,33,34,35] (l.length - (j + 1)) 1 [] ⟨i,j + 1,y,rfl,rfl,hyl,by omega,by omega,hd.1,hd.2,hil,rfl⟩ (by omega) (Nat.le_refl _) rfl
     (by simp only [maskF,setF,List.set_cons_zero,List.set_cons_succ,V.ren.renL,V.ren,renL_id _ hc.own] <;> rfl) (by simp only [maskF,setF,List.set_cons_zero,List.set_cons_succ,V.idlt.belowL,V.idlt,fun n=>idltL_up (n:=n) _ hc.own] <;> rfl) rfl (wkB_live0 rfl (cellsM_idlt (f:=RosterGone.v) (fun _=>rfl) _) rfl trivial)
  ·refine Tst.isF (lt_ff (by omega)) ?_;conv=>whnf
   have hjl' : j=l.length:=by omega
   subst hjl'
   rw [List.take_length] at hyt
   have hfl:(l.filter fun x=>!p x).length=i:=by rw [← hyt,List.length_take];omega
   refine ⟨rfl,sloT_c i rfl (by omega) ?_⟩;conv=>whnf
   refine ⟨rfl,clr_c (cs':=cellsM RosterGone.v (l.filter fun x=>!p x)) (Nat.zero_le _) (by rw [cellsM_len (f:=RosterGone.v) (es:=2) (fun _=>rfl),hyl];exact (Nat.zero_add _).symm ▸ Nat.mul_le_mul_right _ (by omega)) (by omega) (by rw [Nat.zero_add,← hyt];exact (cellsM_take (f:=RosterGone.v) (es:=2) (fun _=>rfl) y i (by omega)).1.symm) ?_⟩;conv=>whnf
   refine ⟨rfl,sloP_c i rfl (by omega) ?_⟩;conv=>whnf
   rw [hfl]
   exact ⟨f_R0 (.inr rfl) (.cons (.tmp rfl) .nil) rfl rfl rfl rfl ⟨idltL_up _ (cellsM_idlt (f:=RosterGone.v) (fun _=>rfl) _),trivial⟩⟩
 ·rw [if_neg hany]
  refine Tst.isT rfl ?_;conv=>whnf
  have hfe:(l.filter fun x=>!p x)=l:=List.filter_eq_self.2 fun x hx=>by
   have:=fun h=>hany (List.any_eq_true.2 ⟨x,hx,h⟩)
   simpa using this
  rw [hfe]
  exact ⟨f_R0 (.inr rfl) (.cons (.tmp rfl) .nil) rfl rfl rfl rfl ⟨idltL_up _ (cellsM_idlt (f:=RosterGone.v) (fun _=>rfl) _),trivial⟩⟩
theorem delF176_v:DelFSaid Tryz.prog 176 RosterGone.v 2:=fun l _ _ _ hc p hn hf=>dfS176 l hc p hn hf
theorem delF176_n:DelFNil Tryz.prog 176 RosterGone.v:=fun {g} {caps} {fn} hc=>by
 refine callsO_comp mix Tryz.func176 dc176_ok (fun r H0=>?_)
 conv=>whnf
 refine askF_c (X:=some) (r:=(-1:Int)) (p_slices_IndexFunc_roster_Gone_v [] fn hc) (by rfl) (.cons (.c .slw) (.cons (.c (.id (by exact hc.own))) .nil)) (fun x H=>?_)
 obtain rfl:=Option.some.inj H
 conv=>whnf
 refine Tst.isT rfl ?_;conv=>whnf
 exact fin0_c (enc:=fun _:Unit=>V.sl [] true) H0 (.inr rfl) (.cons (.tmp rfl) .nil) rfl rfl
end Go.Proofs.YtmmmcpeickfolaaGreat

