/- A part of the proof: 11 texts joined. -/
import Derived.Test.YtmmmcpeickfolaaYbA13
import Derived.Test.YtmmmcpeickfolaaYbA12
import Derived.KernelRfl
import Derived.Test.YtmmmcpeickfolaaYbA10
import Derived.Test.YtmmmcpeickfolaaYbA4
set_option linter.all false
namespace Go.Proofs.Ytmmmcpeickfolaa
open Go.RowKit
def ArgsAt (st:List Slot) (id:Nat) (args args0:List V):Prop :=
 ∀ (B:Nat) (m0 m mb:Mem) (bk:Bks) (w:World) (cargs:Array Value),Sim B m0 m bk w st→RepA m bk cargs args→(∀ a u,m a=some u→mb a=some u) →
  (∀ (j:Nat) (c:List V) (g:Nat) (x:Nat × Nat),j≠id→st[j]?=some (.live c g)→bk j=some x→∀ a:Addr,a.block=x.1→mb a=w.cell? a)→RepA mb (cutBk 1 fun i=>bk (sgm [id] i)) cargs args0
open Classical in
theorem callsS_frameG {P:Program} {f:FuncId} {args args0:List V} {v0 v:V} {cs cs' : List V} {fz fz' : Nat} {st:List Slot} {id:Nat} (h:CallsS P f args0 [.live cs fz] v0 [.live cs' fz']) (ha:ArgsAt st id args args0) (hi:st[id]?=some (.live cs fz)) (h0:V.idlt.belowL 0 cs=true) (h0' : V.litD.litL cs'=true)
  (hv:(∃ off n es fu,v0=.osl 0 off n es fu∧v=.osl id off n es fu)∨v0.litD=true∧v=v0):CallsS P f args st v (st.set id (.live cs' fz')):=by
 intro B m0 m bk w cargs hg hsim hargs
 have hidl:=(List.getElem?_eq_some_iff.1 hi).1
 obtain ⟨b,sz,arr,t,lo,hi',hl⟩:=hsim.blk id cs fz hi
 let oth:Nat→Prop:=fun k=>∃ (j:Nat) (c:List V) (g:Nat) (x:Nat × Nat),j≠id∧st[j]?=some (.live c g)∧bk j=some x∧x.1=k
 let mb:Mem:=fun a=>if oth a.block then w.cell? a else m a
 have nob:¬ oth b:=by
  rintro ⟨j,c,g,x,h1,h2,h3,h4⟩
  exact h1 (hsim.inj j id c g cs fz x (b,sz) h2 hi h3 hl.at_ h4)
 have mbo:∀ a,oth a.block→mb a=w.cell? a:=fun a h=>if_pos h
 have mbn:∀ a,¬ oth a.block→mb a=m a:=fun a h=>if_neg h
 have mle:∀ a u,m a=some u→mb a=some u:=fun a u hu=>by
  by_cases ho:oth a.block
  ·rw [mbo a ho];exact hsim.mem a u hu
  ·rw [mbn a ho];exact hu
 have hb1:(cutBk 1 fun i=>bk (sgm [id] i)) 0=some (b,sz):=by
  have:sgm [id] 0=id:=rfl
  simp only [cutBk,this,hl.at_];rfl
 have sim1:Sim B mb mb (cutBk 1 fun i=>bk (sgm [id] i)) w [.live cs fz]:=by
  refine ⟨hsim.base,fun a u hu=>?_,fun _ _ h=>h,fun _ _ h=>.inl h,fun k c g hk=>?_,fun i j ci fi cj fj x y h1 h2 _ _ _=>?_,fun k hk=>?_⟩
  ·by_cases ho:oth a.block
   ·rw [mbo a ho] at hu;exact hu
   ·rw [mbn a ho] at hu;exact hsim.mem a u hu
  ·have hk0:k=0:=by have:=(List.getElem?_eq_some_iff.1 hk).1;simpa using this
   subst hk0
   simp only [List.getElem?_cons_zero,Option.some.injEq,Slot.live.injEq] at hk
   obtain ⟨rfl,rfl⟩:=hk
   refine ⟨b,sz,arr,t,lo,hi',⟨hb1,hl.own,hl.heap,hl.size,hl.free,hl.fit,hl.one,fun k hk=>?_,fun k hk=>?_,fun k hk=>?_⟩⟩
   ·obtain ⟨u,q1,q2⟩:=hl.rep k hk
    exact ⟨u,q1,(q2.zero (belowL_get h0 k hk)).mono mle fun _ _ h=>h⟩
   ·rw [mbn _ nob];exact hl.mu k hk
   ·rw [mbn _ nob];exact hl.fz k hk
  ·have e1:i=0:=by have:=(List.getElem?_eq_some_iff.1 h1).1;simpa using this
   have e2:j=0:=by have:=(List.getElem?_eq_some_iff.1 h2).1;simpa using this
   rw [e1,e2]
  ·unfold cutBk
   rw [if_neg]
   intro hlt
   have:k=0:=by omega
   subst this
   rcases hk with hk | hk <;> simp at hk
 have args1:RepA mb (cutBk 1 fun i=>bk (sgm [id] i)) cargs args0 :=
  ha B m0 m mb bk w cargs hsim hargs mle fun j c g x h1 h2 h3 a h4=>mbo a ⟨j,c,g,x,h1,h2,h3,h4.symm⟩
 have hg1:GM mb:=by obtain ⟨n,hn⟩:=hg;exact ⟨n,mle _ _ hn⟩
 refine (h B mb mb _ w cargs hg1 sim1 args1).mono ?_
 rintro e w' ⟨c,rfl,m',bk',g1,g2,g3,g4,g5⟩
 let m2:Mem:=fun a=>if oth a.block then m a else m' a
 have m2o:∀ a,oth a.block→m2 a=m a:=fun a h=>if_pos h
 have m2n:∀ a,¬ oth a.block→m2 a=m' a:=fun a h=>if_neg h
 have m_2:∀ a u,m a=some u→m2 a=some u:=fun a u hu=>by
  by_cases ho:oth a.block
  ·rw [m2o a ho];exact hu
  ·rw [m2n a ho];exact g3 _ _ (mle _ _ hu)
 have m2_:∀ a u,m2 a=some u→m' a=some u:=fun a u hu=>by
  by_cases ho:oth a.block
  ·rw [m2o a ho] at hu;exact g3 _ _ (mle _ _ hu)
  ·rw [m2n a ho] at hu;exact hu
 obtain ⟨b',sz',arr',t',lo',hi2,hl'⟩:=g1.blk 0 cs' fz' rfl
 have hbe:some (b',sz')=some (b,sz):=by rw [← hl'.at_,g4 0 _ hb1]
 simp only [Option.some.injEq,Prod.mk.injEq] at hbe
 obtain ⟨rfl,rfl⟩:=hbe
 have back:∀ (k:Nat) (c:List V) (g:Nat),k≠id→(st.set id (.live cs' fz'))[k]?=some (.live c g)→st[k]?=some (.live c g):=fun k c g hk h=>by
  rwa [List.getElem?_set,if_neg (fun e=>hk e.symm)] at h
 refine ⟨c,rfl,m2,bk,⟨Nat.le_trans hsim.base g5.size,fun a u hu=>g1.mem a u (m2_ a u hu),fun a u hu=>m_2 _ _ (hsim.ext a u hu),fun a u hu=>?_,fun k c g hk=>?_,fun i j ci fi cj fj x y h1 h2 hx hy he=>?_,fun k hk=>?_⟩,?_,m_2,fun _ _ h=>h,g5⟩
 ·by_cases ho:oth a.block
  ·rw [m2o a ho] at hu;exact hsim.old a u hu
  ·rw [m2n a ho] at hu
   rcases g1.old a u hu with q | q
   ·rw [mbn a ho] at q;exact hsim.old a u q
   ·exact .inr q
 ·by_cases hk0:k=id
  ·subst hk0
   rw [List.getElem?_set,if_pos rfl,if_pos hidl] at hk
   simp only [Option.some.injEq,Slot.live.injEq] at hk
   obtain ⟨rfl,rfl⟩:=hk
   refine ⟨b',sz',arr',t',lo',hi2,⟨hl.at_,hl.own,hl'.heap,hl'.size,hl'.free,hl'.fit,hl'.one,fun j hj=>?_,fun j hj=>?_,fun j hj=>?_⟩⟩
   ·obtain ⟨u,q1,q2⟩:=hl'.rep j hj
    exact ⟨u,q1,q2.litD (litL_get h0' j hj) m2 bk⟩
   ·rw [m2n _ nob];exact hl'.mu j hj
   ·rw [m2n _ nob];exact hl'.fz j hj
  ·have hks:=back k c g hk0 hk
   obtain ⟨b2,sz2,arr2,t2,lo2,hi3,h2⟩:=hsim.blk k c g hks
   have ho:oth b2:=⟨k,c,g,(b2,sz2),hk0,hks,h2.at_,rfl⟩
   obtain ⟨arr3,q1,q2⟩:=g5.shp b2 arr2 t2 lo2 hi3 h2.heap
   have e3:arr3=arr2:=by
    apply Array.ext q2
    intro i i1 i2
    have c1:w.cell? ⟨b2,i,none⟩=some arr2[i]:=by simp [World.cell?,h2.heap,i2]
    have c2:mb ⟨b2,i,none⟩=some arr2[i]:=by rw [mbo _ ho];exact c1
    have c3:=g1.mem _ _ (g3 _ _ c2)
    simp only [World.cell?,q1] at c3
    simpa [i1] using c3
   subst e3
   refine ⟨b2,sz2,arr3,t2,lo2,hi3,⟨h2.at_,h2.own,q1,h2.size,h2.free,h2.fit,h2.one,fun j hj=>?_,fun j hj=>?_,fun j hj=>?_⟩⟩
   ·obtain ⟨u,r1,r2⟩:=h2.rep j hj
    exact ⟨u,r1,r2.mono m_2 fun _ _ h=>h⟩
   ·rw [m2o _ ho];exact h2.mu j hj
   ·rw [m2o _ ho];exact h2.fz j hj
 ·have aux:∀ (a:Nat) (ci:List V) (fi:Nat),(st.set id (.live cs' fz'))[a]?=some (.live ci fi)→∃ ci fi,st[a]?=some (.live ci fi):=fun a ci fi ha=>by
   by_cases hae:a=id
   ·subst hae;exact ⟨_,_,hi⟩
   ·exact ⟨_,_,back a ci fi hae ha⟩
  obtain ⟨_,_,p1⟩:=aux _ _ _ h1
  obtain ⟨_,_,p2⟩:=aux _ _ _ h2
  exact hsim.inj i j _ _ _ _ x y p1 p2 hx hy he
 ·refine hsim.nb k ?_
  by_cases hk0:k=id
  ·subst hk0
   rw [List.getElem?_set,if_pos rfl,if_pos hidl] at hk
   rcases hk with hk | hk <;> cases hk
  ·rwa [List.getElem?_set,if_neg (fun e=>hk0 e.symm)] at hk
 ·rcases hv with ⟨off,n,es,fu,rfl,rfl⟩ | ⟨hv,rfl⟩
  ·cases g2 with
   | @osl _ _ b3 sz3 _ _ cap _ _ hb hc hf hs =>
    have:some (b3,sz3)=some (b',sz'):=by rw [← hb,g4 0 _ hb1]
    simp only [Option.some.injEq,Prod.mk.injEq] at this
    obtain ⟨rfl,rfl⟩:=this
    exact .osl hl.at_ hc hf hs
  ·exact g2.litD hv m2 bk
theorem callsS_frame {P:Program} {f:FuncId} {args0:List V} {v0 v:V} {cs cs' : List V} {fz fz' : Nat} {st:List Slot} {id:Nat} (h:CallsS P f args0 [.live cs fz] v0 [.live cs' fz']) (ha:V.idlt.belowL 1 args0=true) (hi:st[id]?=some (.live cs fz)) (h0:V.idlt.belowL 0 cs=true) (h0' : V.litD.litL cs'=true)
  (hv:(∃ off n es fu,v0=.osl 0 off n es fu∧v=.osl id off n es fu)∨v0.litD=true∧v=v0):CallsS P f (V.ren.renL [id] args0) st v (st.set id (.live cs' fz')) :=
 callsS_frameG h (fun B m0 m mb bk w cargs hsim hargs mle _=>⟨by rw [hargs.1,renL_len],fun j h1 h2=>by
  have hr:=hargs.2 j h1 (by rw [renL_len];exact h2)
  have hr2:=Rep.ren hr _ (renL_at (sg:=[id]) args0 j h2).symm
  exact (hr2.cut (belowL_get ha j h2)).mono mle fun _ _ h=>h⟩) hi h0 h0' hv
inductive FzT (st:List Slot) (i:Nat):List V→List V→List Nat→Prop
 | nil:FzT st i [] [] []
 | id {v l l' r} (h:v.idlt 0=true) (t:FzT st i l l' r):FzT st i (v :: l) (v :: l') r
 | ptr {j cs us frz l l' r} (hj:st[j]?=some (.live cs frz)) (hne:j≠i) (h:SlWL cs us) (t:FzT st i l l' r):FzT st i (.ptr j 0 :: l) (.eptr us :: l') (j :: r)
theorem FzT.congr {st st2:List Slot} {i:Nat} {l l' : List V} {r:List Nat} (h:FzT st i l l' r):(∀ k,k ∈ r→st2[k]?=st[k]?)→FzT st2 i l l' r:=by
 induction h with
 | nil=>exact fun _=>.nil
 | id h _ ih=>exact fun hst=>.id h (ih hst)
 | ptr hj hne h _ ih=>exact fun hst=>.ptr ((hst _ (by simp)).trans hj) hne h (ih fun k hk=>hst k (by simp [hk]))
theorem FzT.rep {B:Nat} {m0 m mb:Mem} {bk bk' : Bks} {w:World} {st:List Slot} {i:Nat} {l l' : List V} {r:List Nat} (h:FzT st i l l' r) (hsim:Sim B m0 m bk w st) (mle:∀ a u,m a=some u→mb a=some u)
  (hmb:∀ (j:Nat) (c:List V) (g:Nat) (x:Nat × Nat),j≠i→st[j]?=some (.live c g)→bk j=some x→∀ a:Addr,a.block=x.1→mb a=w.cell? a):∀ {cs:List Value},RepL m bk cs l→RepL mb bk' cs l':=by
 induction h with
 | nil=>intro cs h;exact ⟨h.1,fun j _ h2=>absurd h2 (by simp)⟩
 | @id v l l' r h0 t ih =>
  intro cs hr
  cases cs with
  | nil=>have:=hr.1;simp at this
  | cons c cs =>
   have g0:=hr.2 0 (by simp) (by simp)
   have ih':=@ih cs ⟨by simpa using hr.1,fun j h1 h2=>hr.2 (j + 1) (Nat.succ_lt_succ h1) (Nat.succ_lt_succ h2)⟩
   refine ⟨by simpa using ih'.1,fun j h1 h2=>?_⟩
   cases j with
   | zero=>exact (Rep.zero g0 h0).mono mle fun _ _ h=>h
   | succ j=>exact ih'.2 j (Nat.lt_of_succ_lt_succ h1) (Nat.lt_of_succ_lt_succ h2)
 | @ptr j csj us frz l l' r hj hne hw t ih =>
  intro cs hr
  cases cs with
  | nil=>have:=hr.1;simp at this
  | cons c cs =>
   have g0:=hr.2 0 (by simp) (by simp)
   have ih':=@ih cs ⟨by simpa using hr.1,fun j h1 h2=>hr.2 (j + 1) (Nat.succ_lt_succ h1) (Nat.succ_lt_succ h2)⟩
   refine ⟨by simpa using ih'.1,fun k h1 h2=>?_⟩
   cases k with
   | succ k=>exact ih'.2 k (Nat.lt_of_succ_lt_succ h1) (Nat.lt_of_succ_lt_succ h2)
   | zero =>
    have gg:∀ c,Rep m bk c (.ptr j 0)→Rep mb bk' c (.eptr us):=fun c g0=>by
     cases g0 with
     | @ptr _ _ b sz _ hb =>
     obtain ⟨arr,t,lo,hi',hlv,hrep⟩:=sim_live hsim hj hb
     obtain ⟨hl,hat⟩:=hw.at
     refine .eptr (us:=fun k=>arr.getD k undef) (fun u hu=>?_) (fun k hk=>?_) (fun k hk=>?_)
     ·obtain ⟨k,hk,rfl⟩:=List.getElem_of_mem hu
      exact (hat k (by omega) hk).one (hlv.one _ (List.getElem_mem _))
     ·obtain ⟨u,g1,g2⟩:=hlv.rep k (by omega)
      rw [hmb j _ _ _ hne hj hb _ rfl,Nat.zero_add]
      simp only [World.cell?,hlv.heap,Array.getD_eq_getD_getElem?,g1];rfl
     ·obtain ⟨u,g1,g2⟩:=hlv.rep k (by omega)
      have e:arr.getD k undef=u:=by simp [Array.getD_eq_getD_getElem?,g1]
      rw [e]
      exact ((hat k (by omega) hk).rep g2).mono mle fun _ _ h=>h
    exact gg _ g0
end Go.Proofs.Ytmmmcpeickfolaa

namespace Go.Proofs.Ytmmmcpeickfolaa
open Go.RowKit
def infB2 (P:Program) (e:TypeId) (es:Nat):Bool:=match P.info? e with
 | some i=>i.size == es && (match i.zero with | some z=>z.cells.size == es && z.cells.toList.all (·.oneCell') | none=>false) && decide (i.bytes≤1000)
 | none=>false
theorem infB2_ok {P:Program} {e:TypeId} {es:Nat} (h:infB2 P e es=true):∃ i z,P.info? e=some i∧i.size=es∧i.zero=some z∧z.cells.size=es∧i.bytes≤1000∧∀ v ∈ z.cells.toList,v.oneCell'=true:=by
 unfold infB2 at h
 split at h
 ·rename_i i hi
  simp only [Bool.and_eq_true,beq_iff_eq,decide_eq_true_eq] at h
  obtain ⟨⟨h1,h2⟩,h3⟩:=h
  split at h2
  ·rename_i z hz
   simp only [Bool.and_eq_true,beq_iff_eq,List.all_eq_true] at h2
   exact ⟨i,z,hi,h1,hz,h2.1,h3,h2.2⟩
  ·cases h2
 ·cases h
structure DelRoads (P:Program) (k:FuncId) (es:Nat):Prop where
 main:∀ (b n c i j:Nat) (cs:List Value) (w:World),i < j→j≤n→n≤c→n≤1000000→cs.length=n * es→(∀ t v,cs[t]?=some v→w.cell? ⟨b,t,none⟩=some v)→(∀ t,t < n * es→w.frozen? ⟨b,t,none⟩=false)→(∀ v ∈ cs,v.oneCell'=true) →
  Calls P k #[.slice (some ⟨b,0,none⟩) n c,.int .i64 i,.int .i64 j] w fun e w'=>∃ zs:List Value,zs.length=(j - i) * es∧(∀ v ∈ zs,v.oneCell'=true)∧e=.returned (.slice (some ⟨b,0,none⟩) (n - (j - i)) c)∧w'=(w.drew.setCells b (i * es) (cs.drop (j * es))).setCells b ((n - (j - i)) * es) zs
def del? {α:Type} (l:List α) (i j:Int):Option (List α):=if 0≤i∧i < j∧j≤l.length∧l.length≤1000000 then some (l.take i.toNat++l.drop j.toNat) else none
theorem del_of {P:Program} {k:FuncId} {es:Nat} (hR:DelRoads P k es) {α:Type} {f:α→V} (hes:∀ a,(f a).cells.length=es) (hone:∀ a,∀ u ∈ (f a).cells,u.one=true)
  {id:Nat} {st:List Slot} (l:List α) (fu:Bool) (i_ j_:Int) (hi:st[id]?=some (.live (cellsM f l) 0)):∀ L,del? l i_ j_=some L→CallsS P k [.osl id 0 l.length es fu,.i i_,.i j_] st (.osl id 0 L.length es false) (st.set id (.live (cellsM f L) 0)):=by
 intro L hL
 unfold del? at hL
 split at hL
 ·rename_i hb
  obtain ⟨hb0,hb1,hb2,hb3⟩:=hb
  obtain ⟨i,rfl⟩:=Int.eq_ofNat_of_zero_le hb0
  obtain ⟨j,rfl⟩:=Int.eq_ofNat_of_zero_le (show 0≤j_ by omega)
  simp only [Option.some.injEq,Int.toNat_natCast] at hL
  intro B m0 m bk w cargs hg hsim hargs
  obtain ⟨hsz,hrp⟩:=hargs
  obtain ⟨c0,c1,c2,rfl⟩:=cargs3 hsz
  have hr0:Rep m bk c0 (.osl id 0 l.length es fu):=hrp 0 (by simp) (by simp)
  have e1:=rep_lit1 (show Rep m bk c1 (.i i) from hrp 1 (by simp) (by simp))
  have e2:=rep_lit1 (show Rep m bk c2 (.i j) from hrp 2 (by simp) (by simp))
  subst e1 e2
  cases hr0 with
  | @osl _ _ b sz _ n cap _ _ hbk hcap hful hszc =>
  obtain ⟨arr,t,lo,hi',hlv,hrep⟩:=sim_live hsim hi hbk
  have hM:=cellsM_len hes l
  have hfit:=hlv.fit
  have hsize:=hlv.size
  have hfree:=hlv.free
  rw [hM] at hfit hrep
  obtain ⟨q,hq⟩ : ∃ q,q=l.length * es:=⟨_,rfl⟩
  obtain ⟨p,hp⟩ : ∃ p,p=i * es:=⟨_,rfl⟩
  obtain ⟨r,hr⟩ : ∃ r,r=j * es:=⟨_,rfl⟩
  have hpr:p≤r:=by rw [hp,hr];exact Nat.mul_le_mul_right _ (by omega)
  have hrq:r≤q:=by rw [hr,hq];exact Nat.mul_le_mul_right _ (by omega)
  have hN:(l.length - (j - i)) * es=p + (q - r):=by rw [Nat.sub_mul,Nat.sub_mul,← hp,← hr,← hq];omega
  have hji:(j - i) * es=r - p:=by rw [Nat.sub_mul,← hp,← hr]
  rw [← hq] at hfit hrep
  obtain ⟨cs,hcsd⟩ : ∃ cs,cs=arr.toList.take q:=⟨_,rfl⟩
  rw [← hcsd] at hrep
  have hcl:cs.length=q:=by rw [hcsd];simp;omega
  have hca:∀ t,t < q→cs[t]?=arr[t]?:=fun t ht=>by rw [hcsd,List.getElem?_take,if_pos ht,Array.getElem?_toList]
  have hcell:∀ t,w.cell? ⟨b,t,none⟩=arr[t]?:=fun t=>by simp [World.cell?,hlv.heap]
  have h:=hR.main b l.length cap i j cs w (by omega) (by omega) hcap hb3 (by rw [hcl,hq]) (fun t v ht=>by
   have ht' : t < q:=by have:=(List.getElem?_eq_some_iff.1 ht).1;omega
   rw [hcell,← hca t ht',ht]) (fun t _=>by
   simp only [World.frozen?,hlv.heap,Bool.and_eq_false_iff,decide_eq_false_iff_not]
   omega) (rep_one_cells hrep hlv.one)
  refine h.mono ?_
  rintro e w' ⟨zs,hz1,hz2,rfl,rfl⟩
  rw [hji] at hz1
  rw [hN,← hp,← hr]
  have hdl:(cs.drop r).length=q - r:=by rw [List.length_drop,hcl]
  obtain ⟨⟨arr1,a1,a2,a3⟩,a4,a5,a6,a7,a8⟩:=setCells_heap b t (lo,hi') (cs.drop r) p w.drew arr hlv.heap (by omega)
  obtain ⟨⟨arr',g1,g2,g3⟩,g4,g5,g6,g7,g8⟩:=setCells_heap b t (lo,hi') zs (p + (q - r)) _ arr1 a1 (by omega)
  have hLl:L.length=l.length - (j - i):=by rw [← hL];simp;omega
  have hct1:=cellsM_take hes l i (by omega)
  have hct2:=cellsM_take hes l j (by omega)
  have hcM:cellsM f L=(cellsM f l).take p++(cellsM f l).drop r:=by rw [← hL,cellsM_app',hct1.1,hct2.2,← hp,← hr]
  have hvals:RepL m bk (cs.take p++cs.drop r) (cellsM f L):=by rw [hcM];exact (hrep.take p).append (hrep.drop r)
  have hML:(cellsM f L).length=p + (q - r):=by rw [cellsM_len hes,hLl,hN]
  have hone' : ∀ u ∈ cellsM f L,u.one=true:=fun u hu=>by
   unfold cellsM at hu
   obtain ⟨a,_,ha⟩:=List.mem_flatMap.1 hu
   exact hone a u ha
  have hw:=hsim.write (cs':=cellsM f L) hi hlv g1 (g2.trans a2) (g4.trans a4) (fun k hk=>(g5 k hk).trans (a5 k hk)) (fun k hk=>absurd hk (Nat.not_lt_zero _)) (by omega) hone' (fun k hk=>by
   have hk' : k < (cs.take p++cs.drop r).length:=by rw [hvals.1];exact hk
   refine ⟨(cs.take p++cs.drop r)[k],?_,hvals.2 k hk' hk⟩
   rw [← List.getElem?_eq_getElem hk',g3,if_neg (by omega),a3,List.getElem?_append,List.length_take]
   by_cases h1:k < p
   ·rw [if_neg (by omega),if_pos (by omega),List.getElem?_take,if_pos h1,hca k (by omega)]
   ·rw [if_pos (by omega),if_neg (by omega),show min p cs.length=p by omega])
  refine ⟨_,rfl,m,bk,hw,?_,fun _ _ h=>h,fun _ _ h=>h,Bel.write (g6.trans a6) (g7.trans a7) (g8.trans a8) hlv.heap g1 (g2.trans a2) (g4.trans a4) (fun k hk=>(g5 k hk).trans (a5 k hk)) hlv.own⟩
  rw [hLl]
  exact .osl hbk (by omega) (fun e=>by cases e) hszc
 ·cases hL
theorem delO_c {β:Type} {r:β} {P:Program} {st:List Slot} {k:FuncId} {es:Nat} (hR:DelRoads P k es) {α:Type} {f:α→V} {l:List α} {i_ j_:Int} {X:List α→Option β} {K:V→List Nat→List Nat→List Slot→Prop} {i n:Nat} {fu:Bool} (H:(del? l i_ j_).bind X=some r) (hes:∀ a,(f a).cells.length=es) (hone:∀ a,(f a).cells.all V.one=true)
  (hi:st[i]?=some (.live (cellsM f l) 0)) (hn:n=l.length) (h:∀ L,X L=some r→ssetK st i (.live (cellsM f L) 0) fun st'=>K (.osl i 0 L.length es false) [] [i] st'):Ask P k [.osl i 0 n es fu,.i i_,.i j_] st K:=by
 subst hn
 obtain ⟨L,hL,H⟩:=bind_c H
 have:=h L H
 rw [ssetK_eq] at this
 exact Ask_L (rd:=[]) (ef:=[(i,.live (cellsM f L) 0)]) (fun st2 _ h2=>del_of hR hes (fun a u hu=>List.all_eq_true.1 (hone a) u hu) l fu i_ j_ ((h2 i (.inr (by simp))).trans hi) L hL) this
end Go.Proofs.Ytmmmcpeickfolaa

namespace Go.Proofs.Ytmmmcpeickfolaa
open Go.RowKit
def delF? {α:Type} (fn:α→Option Bool) (l:List α):Option (List α):=if l.length≤1000000∧(l.all fun x=>(fn x).isSome)=true then some (l.filter fun x=>!((fn x).getD false)) else none
theorem callsR_c {P:Program} {f:FuncId} {fn:Func} {ac:BCode} {n n0:Nat} {rs:List ARes} {args:List V} {v:V} {st st' : List Slot} (hmix:P.follows .mixedOrders=true) (hf:P.funcs[f]?=some fn) (hc:compF P fn=some (ac.er,n,rs)) (hn0:st.length=n0)
  (h:initK args n fun fr=>wpC P n0 ac (FinQ (FinR st rs v st')) fr st):CallsS P f args st v st' :=
 callsR_comp hmix hf hc hn0 (wpC_ok (fun _ _ _ h=>h.out) (initK_ok h))
theorem sloT_c {i off n es:Nat} {lo:Int} {k:V→Prop} (a:Nat) (ha:lo=a) (h1:a < n) (h:k (.osl i (off + a * es) (n - a) es false)):SlO i off n es (some lo) none k:=by
 subst ha
 exact ⟨by simp,by simp;omega,by simp,.inl ⟨.inl (by simp;omega),by simpa using h⟩⟩
theorem sloP_c {i off n es:Nat} {hi:Int} {k:V→Prop} (a:Nat) (ha:hi=a) (h1:a≤n) (h:k (.osl i off a es false)):SlO i off n es none (some hi) k:=by
 subst ha
 exact ⟨by simp,by simp,by simp;omega,.inl ⟨.inr rfl,by simpa using h⟩⟩
theorem clr_c {cs cs' : List V} {off n frz:Nat} {k:List V→Prop} (h1:frz≤off) (h2:off≤cs.length) (h3:0 < n) (h4:cs.take off=cs') (h:k cs'):ClrQ cs off n frz k:=⟨h1,h2,h3,h4 ▸ h⟩
theorem df_start {α:Type} {p:α→Bool} {l:List α} (h:l.findIdx p < l.length):l.take (l.findIdx p)=(l.take (l.findIdx p + 1)).filter fun x=>!p x:=by
 rw [List.take_succ_eq_append_getElem h,List.filter_append]
 have h1:p l[l.findIdx p]=true:=List.findIdx_getElem (w:=h)
 have h2:[l[l.findIdx p]].filter (fun x=>!p x)=[]:=by rw [List.filter_cons,h1];rfl
 rw [h2,List.append_nil]
 refine (List.filter_eq_self.2 fun x hx=>?_).symm
 obtain ⟨i,hi,rfl⟩:=List.getElem_of_mem hx
 rw [List.length_take] at hi
 rw [List.getElem_take]
 have:=List.not_of_lt_findIdx (show i < l.findIdx p by omega)
 simpa using this
theorem df_keep {α:Type} {p:α→Bool} {l y:List α} {i j:Nat} (hy:y.length=l.length) (hij:i < j) (hj:j < l.length) (hd:y.drop j=l.drop j) (ht:y.take i=(l.take j).filter fun x=>!p x) (hp:p l[j]=false) :
  (y.set i l[j]).drop (j + 1)=l.drop (j + 1)∧(y.set i l[j]).take (i + 1)=(l.take (j + 1)).filter fun x=>!p x:=by
 constructor
 ·rw [List.drop_set_of_lt (by omega)]
  have h1:(y.drop j).drop 1=(l.drop j).drop 1:=by rw [hd]
  simpa [List.drop_drop] using h1
 ·rw [List.take_succ_eq_append_getElem (show i < (y.set i l[j]).length by simp;omega),List.take_set_of_le (Nat.le_refl i),ht,List.take_succ_eq_append_getElem hj,List.filter_append]
  congr 1
  rw [List.filter_cons,hp]
  simp
theorem df_skip {α:Type} {p:α→Bool} {l y:List α} {i j:Nat} (hj:j < l.length) (hd:y.drop j=l.drop j) (ht:y.take i=(l.take j).filter fun x=>!p x) (hp:p l[j]=true) :
  y.drop (j + 1)=l.drop (j + 1)∧y.take i=(l.take (j + 1)).filter fun x=>!p x:=by
 constructor
 ·have h1:(y.drop j).drop 1=(l.drop j).drop 1:=by rw [hd]
  simpa [List.drop_drop] using h1
 ·rw [ht,List.take_succ_eq_append_getElem hj,List.filter_append,List.filter_cons,hp]
  simp
theorem callsS_fz2 {P:Program} {st:List Slot} {f:FuncId} {a0 a1 a1' v:V} {st' : List Slot} {rd:List Nat} (hf:FzC st a1 a1' rd) (h:CallsS P f [a0,a1'] st v st'):CallsS P f [a0,a1] st v st':=by
 intro B m0 m bk w cargs hg hsim hargs
 refine h B m0 m bk w cargs hg hsim ⟨hargs.1,fun j h1 h2=>?_⟩
 rcases j with _ | _ | j
 ·exact hargs.2 0 h1 (by simp)
 ·exact (hf.rep hsim (hargs.2 1 h1 (by simp))).mono (fun _ _ h=>h) fun _ _ h=>by cases h
 ·exact absurd h2 (by simp)
theorem callsS_fu {P:Program} {st:List Slot} {f:FuncId} {i off n es:Nat} {fu:Bool} {a1 v:V} {st' : List Slot} (h:CallsS P f [.osl i off n es false,a1] st v st'):CallsS P f [.osl i off n es fu,a1] st v st':=by
 intro B m0 m bk w cargs hg hsim hargs
 refine h B m0 m bk w cargs hg hsim ⟨hargs.1,fun j h1 h2=>?_⟩
 rcases j with _ | _ | j
 ·have hr:Rep m bk cargs[0] (.osl i off n es fu):=hargs.2 0 h1 (by simp)
  have go:∀ c,Rep m bk c (.osl i off n es fu)→Rep m bk c (.osl i off n es false):=fun c hr=>by
   cases hr with
   | osl hb hc hf hs=>exact .osl hb hc (fun e=>by cases e) hs
  exact go _ hr
 ·exact hargs.2 1 h1 (by simp)
 ·exact absurd h2 (by simp)
def DelFSaid (P:Program) (k:FuncId) {α:Type} (f:α→V) (es:Nat):Prop :=
 ∀ (l:List α) {g:Nat} {caps:List V} {fn:α→Option Bool},Clo1 P g caps f V.b fn→∀ p:α→Bool,l.length≤1000000→(∀ x ∈ l,fn x=some (p x)) →
  CallsS P k [.osl 0 0 l.length es false,.clo (.func g) caps] [.live (cellsM f l) 0] (.osl 0 0 (l.filter fun x=>!p x).length es false) [.live (cellsM f (l.filter fun x=>!p x)) 0]
def DelFNil (P:Program) (k:FuncId) {α:Type} (f:α→V):Prop :=
 ∀ {g:Nat} {caps:List V} {fn:α→Option Bool},Clo1 P g caps f V.b fn→CallsO P k [.sl [] true,.clo (.func g) caps] (fun _:Unit=>V.sl [] true) (some ())
theorem litL_mem:∀ {l:List V},(∀ v ∈ l,v.litD=true)→V.litD.litL l=true
 | [],_=>rfl
 | v :: l,h=>by
  simp only [V.litD.litL,Bool.and_eq_true]
  exact ⟨h v (by simp),litL_mem fun u hu=>h u (by simp [hu])⟩
theorem mem_litL:∀ {l:List V},V.litD.litL l=true→∀ v ∈ l,v.litD=true
 | u :: l,h,v,hv=>by
  simp only [V.litD.litL,Bool.and_eq_true] at h
  rcases List.mem_cons.1 hv with rfl | hv
  ·exact h.1
  ·exact mem_litL h.2 v hv
section
variable {β : Type} {r : β} {P : Program} {st : List Slot}
theorem delF_of {α:Type} {fn:α→Option Bool} {l L:List α} (h:delF? fn l=some L):∃ p:α→Bool,l.length≤1000000∧(∀ x ∈ l,fn x=some (p x))∧L=l.filter fun x=>!p x:=by
 unfold delF? at h
 split at h
 ·rename_i hb
  refine ⟨fun x=>(fn x).getD false,hb.1,fun x hx=>?_,(Option.some.inj h).symm⟩
  have:=List.all_eq_true.1 hb.2 x hx
  obtain ⟨b,hb⟩:=Option.isSome_iff_exists.1 this
  show fn x=some ((fn x).getD false)
  rw [hb];rfl
 ·cases h
theorem dfO_c {k:FuncId} {es:Nat} {α:Type} {f:α→V} (hS:DelFSaid P k f es) {l:List α} {fn:α→Option Bool} {X:List α→Option β} {K:V→List Nat→List Nat→List Slot→Prop} {i n g:Nat} {fu:Bool} {caps caps' : List V} {rd:List Nat} (H:(delF? fn l).bind X=some r) (hc:Clo1 P g caps' f V.b fn)
  (hz:FzC st (.clo (.func g) caps) (.clo (.func g) caps') rd) (hlit:∀ a,V.litD.litL (f a).cells=true) (h0:∀ a,V.idlt.belowL 0 (f a).cells=true)
  (hi:st[i]?=some (.live (cellsM f l) 0)) (hn:n=l.length) (h:∀ L,X L=some r→ssetK st i (.live (cellsM f L) 0) fun st'=>K (.osl i 0 L.length es false) rd [i] st'):Ask P k [.osl i 0 n es fu,.clo (.func g) caps] st K:=by
 subst hn
 obtain ⟨L,hL,H⟩:=bind_c H
 have:=h L H
 rw [ssetK_eq] at this
 obtain ⟨p,h1,h2,rfl⟩:=delF_of hL
 refine Ask_L (rd:=rd) (ef:=[(i,.live (cellsM f (l.filter fun x=>!p x)) 0)]) (fun st2 _ hk=>?_) this
 refine callsS_fz2 (hz.congr fun t ht=>hk t (.inl ht)) (callsS_fu ?_)
 have hfr:=callsS_frame (st:=st2) (id:=i) (v:=.osl i 0 (l.filter fun x=>!p x).length es false) (hS l hc p h1 h2) (by simp [V.idlt.belowL,V.idlt,idltL_up _ hc.own]) ((hk i (.inr (by simp))).trans hi) (cellsM_idlt h0 _) (litL_mem fun v hv=>by
  obtain ⟨a,_,ha⟩:=List.mem_flatMap.1 hv
  exact mem_litL (hlit a) v ha) (.inl ⟨_,_,_,_,rfl,rfl⟩)
 have hfr2:CallsS P k [.osl i 0 l.length es false,.clo (.func g) caps'] st2 (.osl i 0 (l.filter fun x=>!p x).length es false) (st2.set i (.live (cellsM f (l.filter fun x=>!p x)) 0)):=by simpa [V.ren.renL,V.ren,renL_id _ hc.own,sgm] using hfr
 exact hfr2
theorem dfN_c {k:FuncId} {α:Type} {f:α→V} (hS:DelFNil P k f) {fn:α→Option Bool} {X:List α→Option β} {K:V→List Nat→List Nat→List Slot→Prop} {g:Nat} {caps caps' : List V} {rd:List Nat} (H:(delF? fn ([]:List α)).bind X=some r) (hc:Clo1 P g caps' f V.b fn) (hz:FzC st (.clo (.func g) caps) (.clo (.func g) caps') rd) (h:X []=some r→K (.sl [] true) rd [] st):Ask P k [.sl [] true,.clo (.func g) caps] st K:=by
 have:delF? fn ([]:List α)=some []:=rfl
 rw [this] at H
 exact askF_c (X:=some) (r:=()) (hS hc) rfl (.cons (.c (.id rfl)) (.cons (.c hz) .nil)) fun _ _=>by rw [List.nil_append,List.append_nil];exact h H
end
end Go.Proofs.Ytmmmcpeickfolaa

namespace Go.Proofs.Ytmmmcpeickfolaa
open Go.RowKit
def p_slices_IndexFunc_roster_Gone_l1 (a1:RosterGone→Option Bool) (z5:List RosterGone) (z6:Int):Nat→Int→Option (Int ⊕ Int)
 | 0,_=>none
 | n + 1,y7 =>
  bif (decide (y7 < z6)) then
   (at? z5 y7).bind fun x9 =>
   (a1 x9).bind fun v10 =>
   bif v10 then
    some (.inl y7)
   else
   p_slices_IndexFunc_roster_Gone_l1 a1 z5 z6 n (w64 (y7 + (1:Int)))
  else
  some (.inr y7)
def p_slices_IndexFunc_roster_Gone (a0:List RosterGone) (a1:RosterGone→Option Bool):Option (Int) :=
 (p_slices_IndexFunc_roster_Gone_l1 a1 a0 (a0.length:Int) fuel (0:Int)).bind fun o12=>match o12 with
 | .inl q13 =>
  some q13
 | .inr q14 =>
  some (-1:Int)
end Go.Proofs.Ytmmmcpeickfolaa

namespace Go.Proofs.Ytmmmcpeickfolaa
open Go.RowKit
set_option maxRecDepth 100000
set_option maxHeartbeats 4000000
def gc127:BCode:=(.seq (R_ 0 [O_ 4 (.mv (i_ 0)) 0]) (.seq (.seq (R_ 0 [O_ 6 (.mv (t_ 0)) 0,O_ 7 (.lens (t_ 6)) 0,O_ 8 (.mv (i_ 0)) 0]) (.block 0 (.loop (.seq (R_ 0 [O_ 9 (.bin .lss (t_ 8) (t_ 7)) 0]) (.seq (.cond (t_ 9) .skip (.exit 0)) (.seq (.block 1 (.seq (R_ 0 [O_ 10 (.mv (t_ 8)) 0,O_ 5 (.mv (t_ 10)) 0]) (.seq (R_ 0 [O_ 11 (.mv (t_ 1)) 0,O_ 12 (.mv (t_ 0)) 0,O_ 13 (.mv (t_ 5)) 0,O_ 14 (.ixs 2 (t_ 12) (t_ 13)) 0,O_ 15 (.ld 2 true (t_ 14)) 0,O_ 16 (.cv (t_ 11) [(t_ 15)]) 0]) (.cond (t_ 16) (.seq (R_ 0 [O_ 17 (.mv (t_ 5)) 0,O_ 4 (.mv (t_ 17)) 0]) .ret) .skip)))) (R_ 0 [O_ 18 (.bin .add (t_ 8) (i_ 1)) 0,O_ 8 (.mv (t_ 18)) 0]))))))) (.seq (R_ 0 [O_ 4 (.mv (.const (.int .i64 (-1)))) 0]) .ret)))
theorem gc127_ok:compF Try.prog Try.f127=some (gc127.er,19,[.tmp 4]):=by unfold gc127;kernel_rfl
theorem p_slices_IndexFunc_roster_Gone_v {u1:Bool} (a0:List RosterGone) (a1:RosterGone→Option Bool) {a1_g:Nat} {a1_k:List V} (a1_h:Clo1 Try.prog a1_g a1_k RosterGone.v V.b a1):CallsO Try.prog 127 [.sl (List.map RosterGone.v a0) u1,.clo (.func a1_g) a1_k] V.i (p_slices_IndexFunc_roster_Gone a0 a1):=by
 refine callsO_comp mix Try.func127 gc127_ok fun r H=>?_
 rw [p_slices_IndexFunc_roster_Gone] at H
 conv=>whnf
 refine LenQ.M ?_;conv=>whnf
 obtain ⟨o2,HL3,HQ4⟩:=bind_c H
 refine loop_c [4,8] [5,9,10,11,12,13,14,15,16,17,18] [5,9,10,11,12,13,14,15,16,17,18] (fun n vals st=>(∃ y6,p_slices_IndexFunc_roster_Gone_l1  a1 a0 (a0.length:Int) n y6=some o2∧vals=[.i (0:Int),.i y6]∧st=[])) fuel 0 [] (⟨_,HL3,rfl,rfl⟩) (Nat.zero_le _) rfl (by simp only [maskF,setF,List.set_cons_zero,List.set_cons_succ,V.ren.renL,V.ren,renL_id _ a1_h.own] <;> rfl) (by simp only [maskF,setF,List.set_cons_zero,List.set_cons_succ,V.idlt.belowL,V.idlt,fun n=>idltL_up (n:=n) _ a1_h.own] <;> rfl) rfl trivial ?_
 rintro (_ | n5) _ _ (⟨y6,H,rfl,rfl⟩)
 ·rw [p_slices_IndexFunc_roster_Gone_l1] at H;cases H
 rw [p_slices_IndexFunc_roster_Gone_l1] at H
 conv=>whnf
 refine tst_d H (fun b7 H=>?_) (fun b7 H=>?_)
 ·conv=>whnf
  obtain rfl:=Option.some.inj H
  have H:=HQ4
  try dsimp only at H
  exact fi_ H
 conv=>whnf
 refine ixs_c (f:=RosterGone.v) H (fun _=>rfl) (fun x8 H=>?_);conv=>whnf
 refine askC_c a1_h H (.cons (fzagg (.cons (.id rfl) (.cons (.id rfl) (.nil))) rfl) (.nil)) (fun v9 H=>?_);conv=>whnf
 refine tst_c H (fun b10 H=>?_) (fun b10 H=>?_)
 ·conv=>whnf
  obtain rfl:=Option.some.inj H
  have H:=HQ4
  try dsimp only at H
  exact fi_ H
 conv=>whnf
 refine Ari.w ?_;conv=>whnf
 exact again_c [5,9,10,11,12,13,14,15,16,17,18] n5 0 [] (⟨_,H,rfl,rfl⟩) (Nat.lt_succ_self _) (Nat.zero_le _) rfl (by simp only [maskF,setF,List.set_cons_zero,List.set_cons_succ,V.ren.renL,V.ren,renL_id _ a1_h.own] <;> rfl) (by simp only [maskF,setF,List.set_cons_zero,List.set_cons_succ,V.idlt.belowL,V.idlt,fun n=>idltL_up (n:=n) _ a1_h.own] <;> rfl) rfl trivial
end Go.Proofs.Ytmmmcpeickfolaa

namespace Go.Proofs.Ytmmmcpeickfolaa
open Go.RowKit
theorem at_nat {α:Type} (l:List α) (k:Nat):at? l (k:Int)=l[k]?:=by
 unfold at?;rw [if_pos (Int.natCast_nonneg k)];rfl
theorem at_lt {α:Type} {l:List α} {k:Nat} (h:k < l.length):at? l (k:Int)=some l[k]:=by rw [at_nat,List.getElem?_eq_getElem h]
theorem w64_id {r:Int} (h:-9223372036854775808≤r∧r≤9223372036854775807):w64 r=r:=wrap_ok h
theorem w64_succ {k:Nat} (h:k≤1000000):w64 ((k:Int) + 1)=((k + 1:Nat):Int):=by rw [w64_id (by omega)];rfl
theorem lt_tt {a b:Nat} (h:a < b):decide ((a:Int) < (b:Int))=true:=by simpa using h
theorem lt_ff {a b:Nat} (h:b≤a):decide ((a:Int) < (b:Int))=false:=by simpa using h
theorem drop_at {α:Type} {l:List α} {k:Nat} (h:k < l.length):l.drop k=l[k] :: l.drop (k + 1):=List.drop_eq_getElem_cons h
theorem fuel_pos:(1000000:Nat) < fuel:=by decide
theorem cutTo {α:Type} {l:List α} {k:Nat} (h:k≤l.length):cut? l none (some (k:Int))=some (l.take k):=by
 unfold cut?
 simp only [Option.getD_none,Option.getD_some]
 rw [if_pos (by omega)]
 simp
theorem u64_id {r:Int} (hr:0≤r∧r≤9223372036854775807):IntKind.u64.wrap r=r:=by
 simp only [IntKind.wrap,IntKind.signed,IntKind.bits]
 first | omega | (simp;omega)
theorem fdivN (m p:Nat):(m:Int).fdiv (2 ^ p)=((m / 2 ^ p:Nat):Int):=by
 rw [show ((2:Int) ^ p)=((2 ^ p:Nat):Int) by simp,Int.fdiv_eq_ediv_of_nonneg _ (Int.natCast_nonneg _)];rfl
theorem half_p {i j:Nat} (h:i + j≤100000):w64 (shrI .u64 (IntKind.wrap .u64 (w64 ((i:Int) + (j:Int)))) (1:Int))=(((i + j) / 2:Nat):Int):=by
 have e1:w64 ((i:Int) + (j:Int))=((i + j:Nat):Int):=by rw [w64_id (by omega)];omega
 have e2:IntKind.wrap .u64 ((i + j:Nat):Int)=((i + j:Nat):Int):=u64_id (by omega)
 have e:(min (1:Int).toNat IntKind.u64.bits)=1:=rfl
 have e3:shrI .u64 ((i + j:Nat):Int) 1=(((i + j) / 2:Nat):Int):=by
  unfold shrI
  rw [e,fdivN]
 rw [e1,e2,e3]
 exact w64_id (by omega)
theorem app_ok {α:Type} {a b:List α} (h:a.length + b.length≤1000000):app? a b=some (a++b):=if_pos h
theorem tl_data (s:ByteArray):s.toList=s.data.toList:=by rw [ByteArray.toList_eq]
theorem eqT_refl (a:ByteArray):(a.toList == a.toList)=true:=by simp
theorem eqT_iff {a b:ByteArray}:(a.toList == b.toList)=true ↔ a=b:=by
 rw [beq_iff_eq,tl_data,tl_data]
 exact ⟨fun h=>by cases a;cases b;congr 1;exact Array.ext' h,fun h=>by rw [h]⟩
theorem cmp_less:∀ (a b:List UInt8),Op.bytesLess a b=decide (Lib.compareBytes a b < 0)
 | [],[]=>by simp [Op.bytesLess,Lib.compareBytes]
 | [],_ :: _=>by simp [Op.bytesLess,Lib.compareBytes]
 | _ :: _,[]=>by simp [Op.bytesLess,Lib.compareBytes]
 | a :: xs,b :: ys=>by
  unfold Op.bytesLess Lib.compareBytes
  rw [cmp_less xs ys]
  by_cases h:a < b
  ·simp [h]
  ·by_cases h2:b < a
   ·have hne:a≠b:=fun e=>by subst e;exact UInt8.lt_irrefl _ h2
    simp [h,h2,hne]
   ·have e:a=b:=by
     apply UInt8.toNat_inj.1
     rw [UInt8.lt_iff_toNat_lt] at h h2;omega
    subst e;simp [h]
theorem cmp_refl:∀ a:List UInt8,Lib.compareBytes a a=0
 | []=>by simp [Lib.compareBytes]
 | a :: xs=>by unfold Lib.compareBytes;rw [if_neg (UInt8.lt_irrefl _),if_neg (UInt8.lt_irrefl _)];exact cmp_refl xs
theorem cmp_eq0:∀ {a b:List UInt8},Lib.compareBytes a b=0→a=b
 | [],[],_=>rfl
 | [],_ :: _,h=>by simp [Lib.compareBytes] at h
 | _ :: _,[],h=>by simp [Lib.compareBytes] at h
 | a :: xs,b :: ys,h=>by
  unfold Lib.compareBytes at h
  split at h
  ·omega
  ·split at h
   ·omega
   ·rename_i h1 h2
    have e:a=b:=by
     apply UInt8.toNat_inj.1
     rw [UInt8.lt_iff_toNat_lt] at h1 h2;omega
    rw [e,cmp_eq0 h]
theorem cmp_anti:∀ (a b:List UInt8),Lib.compareBytes b a=- Lib.compareBytes a b
 | [],[]=>by simp [Lib.compareBytes]
 | [],_ :: _=>by simp [Lib.compareBytes]
 | _ :: _,[]=>by simp [Lib.compareBytes]
 | a :: xs,b :: ys=>by
  unfold Lib.compareBytes
  rw [cmp_anti xs ys]
  by_cases h:a < b
  ·have h2:¬ b < a:=by rw [UInt8.lt_iff_toNat_lt] at h ⊢;omega
   simp [h,h2]
  ·by_cases h2:b < a
   ·simp [h,h2]
   ·simp [h,h2]
theorem cmp_trans:∀ {a b c:List UInt8},Lib.compareBytes a b < 0→Lib.compareBytes b c < 0→Lib.compareBytes a c < 0
 | [],[],_,h,_=>by simp [Lib.compareBytes] at h
 | _ :: _,[],_,h,_=>by simp [Lib.compareBytes] at h
 | _,_ :: _,[],_,h=>by simp [Lib.compareBytes] at h
 | [],_ :: _,_ :: _,_,_=>by simp [Lib.compareBytes]
 | a :: xs,b :: ys,c :: cs,h1,h2=>by
  unfold Lib.compareBytes at h1 h2 ⊢
  by_cases x:a < b
  ·by_cases y:b < c
   ·rw [if_pos (UInt8.lt_trans x y)];omega
   ·rw [if_neg y] at h2
    by_cases z:c < b
    ·rw [if_pos z] at h2;omega
    ·have e:b=c:=by
      apply UInt8.toNat_inj.1
      rw [UInt8.lt_iff_toNat_lt] at y z;omega
     subst e
     rw [if_pos x];omega
  ·rw [if_neg x] at h1
   by_cases x2:b < a
   ·rw [if_pos x2] at h1;omega
   ·rw [if_neg x2] at h1
    have e:a=b:=by
     apply UInt8.toNat_inj.1
     rw [UInt8.lt_iff_toNat_lt] at x x2;omega
    subst e
    by_cases y:a < c
    ·rw [if_pos y];omega
    ·rw [if_neg y] at h2 ⊢
     by_cases z:c < a
     ·rw [if_pos z] at h2;omega
     ·rw [if_neg z] at h2 ⊢
      exact cmp_trans h1 h2
end Go.Proofs.Ytmmmcpeickfolaa

namespace Go.Proofs.Ytmmmcpeickfolaa
open Go.RowKit
set_option maxRecDepth 100000
set_option maxHeartbeats 4000000
def dc103:BCode:=(.seq (R_ 0 [O_ 4 (.mv (.const (.slice none 0 0))) 0]) (.seq (R_ 0 [O_ 8 (.mv (t_ 0)) 0,O_ 9 (.mv (t_ 1)) 0,O_ 10 (.cl 127 [(t_ 8),(t_ 9)]) 0,O_ 5 (.mv (t_ 10)) 0]) (.seq (.seq (R_ 0 [O_ 11 (.mv (t_ 5)) 0,O_ 12 (.bin .eql (t_ 11) (.const (.int .i64 (-1)))) 0]) (.cond (t_ 12) (.seq (R_ 0 [O_ 13 (.mv (t_ 0)) 0,O_ 4 (.mv (t_ 13)) 0]) .ret) .skip)) (.seq (.seq (R_ 0 [O_ 14 (.mv (t_ 5)) 0,O_ 15 (.bin .add (t_ 14) (i_ 1)) 0,O_ 6 (.mv (t_ 15)) 0]) (.block 0 (.loop (.seq (.seq (R_ 0 [O_ 16 (.mv (t_ 6)) 0,O_ 17 (.mv (t_ 0)) 0,O_ 18 (.lens (t_ 17)) 0,O_ 19 (.bin .lss (t_ 16) (t_ 18)) 0]) (.cond (t_ 19) .skip (.exit 0))) (.seq (.block 1 (.seq (R_ 1 [O_ 22 (.mv (t_ 0)) 0,O_ 23 (.mv (t_ 6)) 0,O_ 24 (.ixs 2 (t_ 22) (t_ 23)) 0,O_ 25 (.ld 2 true (t_ 24)) 0,O_ 7 (.al (.agg [(.lit (.string ⟨#[]⟩)),(.lit (.int .i64 0))])) 0,U_ (.st 2 (t_ 7) (t_ 25)) 1]) (.seq (R_ 0 [O_ 26 (.mv (t_ 1)) 0,O_ 27 (.ld 2 true (t_ 7)) 0,O_ 28 (.cv (t_ 26) [(t_ 27)]) 0,O_ 29 (.un .not (t_ 28)) 0]) (.cond (t_ 29) (.seq (R_ 0 [O_ 30 (.mv (t_ 0)) 0,O_ 31 (.mv (t_ 5)) 0,O_ 32 (.ld 2 true (t_ 7)) 0,O_ 33 (.ixs 2 (t_ 30) (t_ 31)) 0,U_ (.st 2 (t_ 33) (t_ 32)) 0]) (R_ 0 [O_ 34 (.mv (t_ 5)) 0,O_ 35 (.bin .add (t_ 34) (i_ 1)) 0,O_ 5 (.mv (t_ 35)) 0])) .skip)))) (R_ 0 [O_ 20 (.mv (t_ 6)) 0,O_ 21 (.bin .add (t_ 20) (i_ 1)) 0,O_ 6 (.mv (t_ 21)) 0])))))) (.seq (R_ 0 [O_ 36 (.mv (t_ 0)) 0,O_ 37 (.mv (t_ 5)) 0,O_ 38 (.sls 2 (t_ 36) (some (t_ 37)) none none) 0,U_ (.clr 2 (t_ 38)) 0]) (.seq (R_ 0 [O_ 39 (.mv (t_ 0)) 0,O_ 40 (.mv (t_ 5)) 0,O_ 41 (.sls 2 (t_ 39) none (some (t_ 40)) none) 0,O_ 4 (.mv (t_ 41)) 0]) .ret))))))
theorem dc103_ok:compF Try.prog Try.f103=some (dc103.er,42,[.tmp 4]):=by unfold dc103;kernel_rfl
theorem dfi103 (fn:RosterGone→Option Bool) (p:RosterGone→Bool) (rows:List RosterGone) (hn:rows.length≤1000000) (hf:∀ x ∈ rows,fn x=some (p x)):∀ (n k F:Nat),k + n=rows.length→n < F →
  p_slices_IndexFunc_roster_Gone_l1 fn rows rows.length F k=some (if (rows.drop k).any p=true then .inl ((k + (rows.drop k).findIdx p:Nat):Int) else .inr (rows.length:Int))
 | 0,k,F + 1,hk,hF=>by
  have e:rows.drop k=[]:=List.drop_of_length_le (by omega)
  have:k=rows.length:=by omega
  rw [p_slices_IndexFunc_roster_Gone_l1,lt_ff (by omega),e,this];rfl
 | n + 1,k,F + 1,hk,hF=>by
  have hlt:k < rows.length:=by omega
  rw [p_slices_IndexFunc_roster_Gone_l1,lt_tt hlt,at_lt hlt,drop_at hlt]
  simp only [cond_true,Option.bind_some,hf _ (List.getElem_mem hlt)]
  cases hp:p rows[k] with
  | true=>rw [List.any_cons,hp,List.findIdx_cons,hp];rfl
  | false =>
   simp only [cond_false]
   rw [w64_succ (by omega),dfi103 fn p rows hn hf n (k + 1) F (by omega) (by omega)]
   simp only [List.any_cons,hp,Bool.false_or,List.findIdx_cons,cond_false]
   split
   ·congr 3;omega
   ·rfl
theorem dfx103 {fn:RosterGone→Option Bool} (p:RosterGone→Bool) {rows:List RosterGone} (hn:rows.length≤1000000) (hf:∀ x ∈ rows,fn x=some (p x)):p_slices_IndexFunc_roster_Gone rows fn=some (if rows.any p=true then (rows.findIdx p:Int) else -1):=by
 unfold p_slices_IndexFunc_roster_Gone
 have:=dfi103 fn p rows hn hf rows.length 0 fuel (by omega) (by have:=fuel_pos;omega)
 rw [show ((0:Int))=((0:Nat):Int) from rfl,this,List.drop_zero]
 cases rows.any p <;> simp
theorem dfS103 (l:List RosterGone) {g:Nat} {caps:List V} {fn:RosterGone→Option Bool} (hc:Clo1 Try.prog g caps RosterGone.v V.b fn) (p:RosterGone→Bool) (hn:l.length≤1000000) (hf:∀ x ∈ l,fn x=some (p x)) :
  CallsS Try.prog 103 [.osl 0 0 l.length 2 false,.clo (.func g) caps] [.live (cellsM RosterGone.v l) 0] (.osl 0 0 (l.filter fun x=>!p x).length 2 false) [.live (cellsM RosterGone.v (l.filter fun x=>!p x)) 0]:=by
 refine callsR_c (n0:=1) mix Try.func103 dc103_ok rfl ?_
 conv=>whnf
 refine askT_c (X:=some) (r:=if l.any p=true then (l.findIdx p:Int) else -1) [0] (p_slices_IndexFunc_roster_Gone_v l fn hc) (by rw [dfx103 p hn hf];rfl) (.cons (.c (fzown (f:=RosterGone.v) (l:=l) rfl rfl (fun _=>rfl) (fun _=>rfl))) (.cons (.c (.id (by exact hc.own))) .nil)) (fun _=>rfl) (fun x H=>?_)
 obtain rfl:=Option.some.inj H
 conv=>whnf
 by_cases hany:l.any p=true
 ·rw [if_pos hany]
  have hk0:l.findIdx p < l.length:=List.findIdx_lt_length_of_exists (by simpa using hany)
  refine Tst.isF (beq_eq_false_iff_ne.2 (by omega)) ?_;conv=>whnf
  refine Ari.w ?_;conv=>whnf
  have hw:IntKind.i64.wrap ((l.findIdx p:Int) + 1)=((l.findIdx p + 1:Nat):Int):=w64_succ (by omega)
  rw [hw]
  refine loop_c [5,6] [7,16,17,18,19,20,21,22,23,24,25,26,27,28,29,30,31,32,33,34,35] [7,16,17,18,19,20,21,22,23,24,25,26,27,28,29,30,31,32,33,34,35] (fun n vals st=>∃ (i j:Nat) (y:List RosterGone),vals=[.i i,.i j]∧st=[.live (cellsM RosterGone.v y) 0]∧y.length=l.length∧i < j∧j≤l.length∧y.drop j=l.drop j∧y.take i=(l.take j).filter (fun x=>!p x)∧i≤l.length∧n=l.length - j) (l.length - (l.findIdx p + 1)) 1 [] ⟨l.findIdx p,l.findIdx p + 1,l,rfl,rfl,rfl,by omega,by omega,rfl,df_start hk0,by omega,rfl⟩ (Nat.le_refl _) rfl
   (by simp only [maskF,setF,List.set_cons_zero,List.set_cons_succ,V.ren.renL,V.ren,renL_id _ hc.own] <;> rfl) (by simp only [maskF,setF,List.set_cons_zero,List.set_cons_succ,V.idlt.belowL,V.idlt,fun n=>idltL_up (n:=n) _ hc.own] <;> rfl) rfl (wkB_live0 rfl (cellsM_idlt (f:=RosterGone.v) (fun _=>rfl) _) rfl trivial) ?_
  rintro n _ _ ⟨i,j,y,rfl,rfl,hyl,hij,hjl,hyd,hyt,hil,rfl⟩
  conv=>whnf
  by_cases hj:j < l.length
  ·refine Tst.isT (lt_tt hj) ?_;conv=>whnf
   have hmem:l[j] ∈ l:=List.getElem_mem hj
   have hx:y[(j:Int).toNat]?=some l[j]:=by
    rw [Int.toNat_natCast]
    have h1:(y.drop j)[0]?=(l.drop j)[0]?:=by rw [hyd]
    rw [List.getElem?_drop,List.getElem?_drop,Nat.add_zero] at h1
    rw [h1,List.getElem?_eq_getElem hj]
   refine ⟨rfl,⟨Int.natCast_nonneg _,by rw [Int.toNat_natCast];exact hj,?_⟩⟩;conv=>whnf
   refine ldo_c (f:=RosterGone.v) (es:=2) hx (fun _=>rfl) 0 (by omega) (by decide) ?_;conv=>whnf
   refine lq_ ?_;conv=>whnf
   refine askC_c (X:=some) (r:=p l[j]) (a:=l[j]) hc (by rw [hf _ hmem];rfl) (fza_ids rfl) (fun v H=>?_)
   obtain rfl:=Option.some.inj H
   conv=>whnf
   have hw1:IntKind.i64.wrap ((j:Int) + 1)=((j + 1:Nat):Int):=w64_succ (by omega)
   have hw2:IntKind.i64.wrap ((i:Int) + 1)=((i + 1:Nat):Int):=w64_succ (by omega)
   cases hp:p l[j] with
   | false =>
    refine Tst.isT rfl ?_;conv=>whnf
    refine ⟨rfl,⟨Int.natCast_nonneg _,by rw [Int.toNat_natCast];omega,?_⟩⟩;conv=>whnf
    refine ⟨Nat.zero_le _,sto_c (f:=RosterGone.v) (l:=y) (n:=i) (es:=2) (x:=y[i]'(by omega)) (List.getElem?_eq_getElem (by omega)) (x':=l[j]) (fun _=>rfl) 0 (by rw [Int.toNat_natCast];omega) (Nat.le_of_ble_eq_true rfl) (by rfl) ?_⟩;conv=>whnf
    refine Ari.w ?_;conv=>whnf
    refine Ari.w ?_;conv=>whnf
    rw [hw1,hw2]
    have hd:=df_keep hyl hij hj hyd hyt hp
    exact again_c [7,16,17,18,19,20,21,22,23,24,25,26,27,28,29,30,31,32,33,34,35] (l.length - (j + 1)) 1 [] ⟨i + 1,j + 1,y.set i l[j],rfl,rfl,by rw [List.length_set];exact hyl,by omega,by omega,hd.1,hd.2,by omega,rfl⟩ (by omega) (Nat.le_refl _) rfl
     (by simp only [maskF,setF,List.set_cons_zero,List.set_cons_succ,V.ren.renL,V.ren,renL_id _ hc.own] <;> rfl) (by simp only [maskF,setF,List.set_cons_zero,List.set_cons_succ,V.idlt.belowL,V.idlt,fun n=>idltL_up (n:=n) _ hc.own] <;> rfl) rfl (wkB_live0 rfl (cellsM_idlt (f:=RosterGone.v) (fun _=>rfl) _) rfl trivial)
   | true =>
    refine Tst.isF rfl ?_;conv=>whnf
    refine Ari.w ?_;conv=>whnf
    rw [hw1]
    have hd:=df_skip hj hyd hyt hp
    exact again_c [7,16,17,18,19,20,21,22,23,24,25,26,27,28,29,30,31,32,33,34,35] (l.length - (j + 1)) 1 [] ⟨i,j + 1,y,rfl,rfl,hyl,by omega,by omega,hd.1,hd.2,hil,rfl⟩ (by omega) (Nat.le_refl _) rfl
     (by simp only [maskF,setF,List.set_cons_zero,List.set_cons_succ,V.ren.renL,V.ren,renL_id _ hc.own] <;> rfl) (by simp only [maskF,setF,List.set_cons_zero,List.set_cons_succ,V.idlt.belowL,V.idlt,fun n=>idltL_up (n:=n) _ hc.own] <;> rfl) rfl (wkB_live0 rfl (cellsM_idlt (f:=RosterGone.v) (fun _=>rfl) _) rfl trivial)
  ·refine Tst.isF (lt_ff (by omega)) ?_;conv=>whnf
   have hjl' : j=l.length:=by omega
   subst hjl'
   rw [List.take_length] at hyt
   have hfl:(l.filter fun x=>!p x).length=i:=by rw [← hyt,List.length_take];omega
   refine ⟨rfl,sloT_c i rfl (by omega) ?_⟩;conv=>whnf
   refine ⟨rfl,clr_c (cs':=cellsM RosterGone.v (l.filter fun x=>!p x)) (Nat.zero_le _) (by rw [cellsM_len (f:=RosterGone.v) (es:=2) (fun _=>rfl),hyl];exact (Nat.zero_add _).symm ▸ Nat.mul_le_mul_right _ (by omega)) (by omega) (by rw [Nat.zero_add,← hyt];exact (cellsM_take (f:=RosterGone.v) (es:=2) (fun _=>rfl) y i (by omega)).1.symm) ?_⟩;conv=>whnf
   refine ⟨rfl,sloP_c i rfl (by omega) ?_⟩;conv=>whnf
   rw [hfl]
   exact ⟨f_R0 (.inr rfl) (.cons (.tmp rfl) .nil) rfl rfl rfl rfl ⟨idltL_up _ (cellsM_idlt (f:=RosterGone.v) (fun _=>rfl) _),trivial⟩⟩
 ·rw [if_neg hany]
  refine Tst.isT rfl ?_;conv=>whnf
  have hfe:(l.filter fun x=>!p x)=l:=List.filter_eq_self.2 fun x hx=>by
   have:=fun h=>hany (List.any_eq_true.2 ⟨x,hx,h⟩)
   simpa using this
  rw [hfe]
  exact ⟨f_R0 (.inr rfl) (.cons (.tmp rfl) .nil) rfl rfl rfl rfl ⟨idltL_up _ (cellsM_idlt (f:=RosterGone.v) (fun _=>rfl) _),trivial⟩⟩
theorem delF103_v:DelFSaid Try.prog 103 RosterGone.v 2:=fun l _ _ _ hc p hn hf=>dfS103 l hc p hn hf
theorem delF103_n:DelFNil Try.prog 103 RosterGone.v:=fun {g} {caps} {fn} hc=>by
 refine callsO_comp mix Try.func103 dc103_ok (fun r H0=>?_)
 conv=>whnf
 refine askF_c (X:=some) (r:=(-1:Int)) (p_slices_IndexFunc_roster_Gone_v [] fn hc) (by rfl) (.cons (.c .slw) (.cons (.c (.id (by exact hc.own))) .nil)) (fun x H=>?_)
 obtain rfl:=Option.some.inj H
 conv=>whnf
 refine Tst.isT rfl ?_;conv=>whnf
 exact fin0_c (enc:=fun _:Unit=>V.sl [] true) H0 (.inr rfl) (.cons (.tmp rfl) .nil) rfl rfl
end Go.Proofs.Ytmmmcpeickfolaa

namespace Go.Proofs.Ytmmmcpeickfolaa
open Go.RowKit
def tru? (m:Option Bool):Option Bool:=if m=some true then some true else none
theorem tru_of {m:Option Bool} {r:Bool} (h:tru? m=some r):r=true∧m=some true:=by
 unfold tru? at h
 split at h
 ·exact ⟨(Option.some.inj h).symm,‹_›⟩
 ·cases h
theorem tru_ok {m:Option Bool} (h:m=some true):tru? m=some true:=if_pos h
theorem tru_closed {P:Program} {k:FuncId} {vs:List V} {m:Option Bool} (h:CallsO P k vs V.b (tru? m)) (hm:m=some true):CallsO P k vs V.b m:=fun v hv=>by
 rw [hm] at hv
 cases hv
 exact h true (tru_ok hm)
theorem tstT_c {b:Bool} {A B:Prop} {X:Option Bool} (H:(bif b then X else some false)=some true) (h:b=true→X=some true→A):Tst b A B :=
 tst_c H h fun _ h=>by cases h
theorem tstF_c {b:Bool} {A B:Prop} {X:Option Bool} (H:(bif b then some false else X)=some true) (h:b=false→X=some true→B):Tst b A B :=
 tst_c H (fun _ h=>by cases h) h
theorem litL_M {α:Type} {f:α→V} (hlit:∀ a,V.litD.litL (f a).cells=true) (l:List α):V.litD.litL (cellsM f l)=true:=litL_mem fun v hv=>by
 obtain ⟨a,_,ha⟩:=List.mem_flatMap.1 hv
 exact mem_litL (hlit a) v ha
structure GrowRoads (P:Program) (k:FuncId) (es:Nat) (E:TypeId):Prop where
 some_:∀ (b:Option Addr) (n:Nat) (w:World),0 < n→n≤1000000→Calls P k #[.slice b 0 0,.int .i64 n] w fun e w'=>∃ (ZS:Array Value) (c:Nat),e=.returned (.slice (some ⟨w.heap.size,0,none⟩) 0 c)∧w'=w.drew.alloc (.cells ZS E)∧c * es≤ZS.size
 zero_:∀ (b:Option Addr) (w:World),Calls P k #[.slice b 0 0,.int .i64 0] w fun e w'=>e=.returned (.slice b 0 0)∧w'=w
end Go.Proofs.Ytmmmcpeickfolaa

namespace Go.Proofs.Ytmmmcpeickfolaa
open Go.RowKit
theorem Rep.renTo {m:Mem} {bk:Bks} {c:Value} {v:V} (sg:List Nat) {bk2:Bks} (hb:∀ k x,bk k=some x→bk2 (sgm sg k)=some x) (h:Rep m bk c v):Rep m bk2 c (v.ren sg):=by
 induction h with
 | lit h=>exact .lit h
 | @agg _ cs vs hl h1 _ ih =>
  refine .agg (by rw [renL_len];exact hl) (fun v hv=>?_) fun j a b=>?_
  ·obtain ⟨j,hj,rfl⟩:=List.getElem_of_mem hv
   rw [renL_len] at hj
   rw [renL_get sg vs j hj,ren_one]
   exact h1 _ (List.getElem_mem hj)
  ·have hj:j < vs.length:=by rw [renL_len] at b;exact b
   rw [renL_get sg vs j hj]
   exact ih j a hj hb
 | @tup _ cs vs hl _ ih =>
  refine .tup (by rw [renL_len];exact hl) fun j a b=>?_
  have hj:j < vs.length:=by rw [renL_len] at b;exact b
  rw [renL_get sg vs j hj]
  exact ih j a hj hb
 | sl hn hc hf hes h1 hm h _=>exact .sl hn hc hf hes h1 hm h
 | slnil hf=>exact .slnil hf
 | osl h1 hc hf hs=>exact .osl (hb _ _ h1) hc hf hs
 | ptr h1=>exact .ptr (hb _ _ h1)
 | eptr h1 hm h _=>exact .eptr h1 hm h
 | @clo _ fn cs vs hv hl _ ih =>
  refine .clo hv (by rw [renL_len];exact hl) fun j a b=>?_
  have hj:j < vs.length:=by rw [renL_len] at b;exact b
  rw [renL_get sg vs j hj]
  exact ih j a hj hb
 | @bnd _ fn cs vs hl _ ih =>
  refine .bnd (by rw [renL_len];exact hl) fun j a b=>?_
  have hj:j < vs.length:=by rw [renL_len] at b;exact b
  rw [renL_get sg vs j hj]
  exact ih j a hj hb
 | any=>exact .any
theorem callsS_new {P:Program} {f:FuncId} {args:List V} {v:V} {s0 s1:Slot} (h:CallsS P f args [.fresh,.fresh] v [s0,s1]) (ha:V.idlt.belowL 0 args=true) {i j:Nat} (hij:i≠j) {st:List Slot} (hi:st[i]?=some .fresh) (hj:st[j]?=some .fresh)
  (h0:∀ cs f,s0=.live cs f∨s1=.live cs f→V.litD.litL cs=true):CallsS P f args st (v.ren [i,j]) ((st.set i s0).set j s1):=by
 intro B m0 m bk w cargs hg hsim hargs
 have sim1:Sim w.heap.size m m noBk w [.fresh,.fresh]:=by
  refine ⟨Nat.le_refl _,hsim.mem,fun _ _ h=>h,fun _ _ h=>.inl h,fun k c g hk=>?_,fun a b ci fi cj fj x y h1 h2 _ _ _=>?_,fun _ _=>rfl⟩
  ·rcases k with _ | _ | k <;> simp at hk
  ·rcases a with _ | _ | a <;> simp at h1
 have args1:RepA m noBk cargs args:=⟨hargs.1,fun k a b=>(hargs.2 k a b).zero (belowL_get ha k b)⟩
 refine (h w.heap.size m m noBk w cargs hg sim1 args1).mono ?_
 rintro e w' ⟨c,rfl,m',bk',g1,g2,g3,g4,g5⟩
 let bk2:Bks:=fun k=>if k=i then bk' 0 else if k=j then bk' 1 else bk k
 have bi:bk2 i=bk' 0:=if_pos rfl
 have bj:bk2 j=bk' 1:=by show (if j=i then _ else if j=j then _ else _)=_;rw [if_neg (fun e=>hij e.symm),if_pos rfl]
 have bo:∀ k,k≠i→k≠j→bk2 k=bk k:=fun k h1 h2=>by show (if k=i then _ else if k=j then _ else _)=_;rw [if_neg h1,if_neg h2]
 have hil:=(List.getElem?_eq_some_iff.1 hi).1
 have hjl:=(List.getElem?_eq_some_iff.1 hj).1
 have bki:bk i=none:=hsim.nb i (.inr hi)
 have bkj:bk j=none:=hsim.nb j (.inr hj)
 have get:∀ k,((st.set i s0).set j s1)[k]?=if k=j then some s1 else if k=i then some s0 else st[k]?:=fun k=>by
  by_cases e1:k=j
  ·subst e1;rw [List.getElem?_set,if_pos rfl,List.length_set,if_pos hjl,if_pos rfl]
  ·rw [List.getElem?_set,if_neg (fun e=>e1 e.symm),if_neg e1]
   by_cases e2:k=i
   ·subst e2;rw [List.getElem?_set,if_pos rfl,if_pos hil,if_pos rfl]
   ·rw [List.getElem?_set,if_neg (fun e=>e2 e.symm),if_neg e2]
 have up:∀ k x,bk' k=some x→bk2 (sgm [i,j] k)=some x:=fun k x hx=>by
  have hk2:∀ q:Nat,[Slot.fresh,Slot.fresh].length≤q→bk' q=none:=fun q hq=>g1.nb q (.inl (List.getElem?_eq_none (by simpa using hq)))
  rcases k with _ | _ | k
  ·show bk2 i=some x;rw [bi];exact hx
  ·show bk2 j=some x;rw [bj];exact hx
  ·rw [hk2 (k + 2) (by simp)] at hx;cases hx
 have out:∀ a:Addr,a.block < w.heap.size→m' a=m a:=fun a ha=>by
  cases hm:m a with
  | some u=>exact g3 _ _ hm
  | none =>
   cases hm' : m' a with
   | none=>rfl
   | some u =>
    rcases g1.old a u hm' with q | q
    ·rw [hm] at q;cases q
    ·omega
 have one:∀ (k id:Nat) (cs:List V) (frz:Nat),[s0,s1][k]?=some (.live cs frz)→bk2 id=bk' k→(∃ q,s0=.live cs q∨s1=.live cs q)→∃ b sz arr t lo hi,LiveAt B m' bk2 w' id cs frz b sz arr t lo hi∧w.heap.size≤b:=fun k id cs frz hk hid hc=>by
  obtain ⟨b,sz,arr,t,lo,hi',hl⟩:=g1.blk k cs frz hk
  obtain ⟨q,hq⟩:=hc
  refine ⟨b,sz,arr,t,lo,hi',⟨by rw [hid];exact hl.at_,Nat.le_trans hsim.base hl.own,hl.heap,hl.size,hl.free,hl.fit,hl.one,fun n hn=>?_,hl.mu,hl.fz⟩,hl.own⟩
  obtain ⟨u,q1,q2⟩:=hl.rep n hn
  exact ⟨u,q1,q2.litD (litL_get (h0 cs q hq) n hn) m' bk2⟩
 have all:∀ (k:Nat) (cs:List V) (frz:Nat),((st.set i s0).set j s1)[k]?=some (.live cs frz)→∃ b sz arr t lo hi,LiveAt B m' bk2 w' k cs frz b sz arr t lo hi∧((k=i∨k=j)→w.heap.size≤b)∧(k≠i→k≠j→b < w.heap.size):=fun k cs frz hk=>by
  rw [get] at hk
  by_cases e1:k=j
  ·subst e1
   rw [if_pos rfl] at hk
   obtain ⟨b,sz,arr,t,lo,hi',h1,h2⟩:=one 1 k cs frz (by simpa using hk) bj ⟨frz,.inr (by simpa using hk)⟩
   exact ⟨b,sz,arr,t,lo,hi',h1,fun _=>h2,fun _ h=>absurd rfl h⟩
  ·rw [if_neg e1] at hk
   by_cases e2:k=i
   ·subst e2
    rw [if_pos rfl] at hk
    obtain ⟨b,sz,arr,t,lo,hi',h1,h2⟩:=one 0 k cs frz (by simpa using hk) bi ⟨frz,.inl (by simpa using hk)⟩
    exact ⟨b,sz,arr,t,lo,hi',h1,fun _=>h2,fun h _=>absurd rfl h⟩
   ·rw [if_neg e2] at hk
    obtain ⟨b,sz,arr,t,lo,hi',hl⟩:=hsim.blk k cs frz hk
    have hb:b < w.heap.size:=by
     rcases Nat.lt_or_ge b w.heap.size with h | h
     ·exact h
     ·have:=hl.heap;rw [Array.getElem?_eq_none h] at this;cases this
    refine ⟨b,sz,arr,t,lo,hi',⟨by rw [bo k e2 e1];exact hl.at_,hl.own,by rw [g5.block b hb];exact hl.heap,hl.size,hl.free,hl.fit,hl.one,fun n hn=>?_,fun n hn=>by rw [out _ hb];exact hl.mu n hn,fun n hn=>by rw [out _ hb];exact hl.fz n hn⟩,fun h=>?_,fun _ _=>hb⟩
    ·obtain ⟨u,q1,q2⟩:=hl.rep n hn
     refine ⟨u,q1,q2.mono g3 fun q x hq=>?_⟩
     rw [bo q (fun e=>by rw [e,bki] at hq;cases hq) (fun e=>by rw [e,bkj] at hq;cases hq)];exact hq
    ·rcases h with h | h
     ·exact absurd h e2
     ·exact absurd h e1
 refine ⟨c,rfl,m',bk2,⟨Nat.le_trans hsim.base g5.size,g1.mem,fun a u h=>g3 _ _ (hsim.ext a u h),fun a u h=>?_,fun k cs frz hk=>?_,fun a b ci fi cj fj x y h1 h2 hx hy he=>?_,fun k hk=>?_⟩,g2.renTo [i,j] up,g3,fun k x hk=>?_,?_⟩
 ·rcases g1.old a u h with q | q
  ·exact hsim.old a u q
  ·exact .inr (Nat.le_trans hsim.base q)
 ·obtain ⟨b,sz,arr,t,lo,hi',h1,_⟩:=all k cs frz hk
  exact ⟨b,sz,arr,t,lo,hi',h1⟩
 ·obtain ⟨b1,z1,r1,t1,l1,u1,p1,p2,p3⟩:=all a ci fi h1
  obtain ⟨b2,z2,r2,t2,l2,u2,q1,q2,q3⟩:=all b cj fj h2
  have ex:x=(b1,z1):=by have:=p1.at_;rw [hx] at this;exact Option.some.inj this
  have ey:y=(b2,z2):=by have:=q1.at_;rw [hy] at this;exact Option.some.inj this
  subst ex ey
  have hb:b1=b2:=he
  rw [get] at h1 h2
  by_cases ai:a=i <;> by_cases aj:a=j <;> by_cases ci' : b=i <;> by_cases cj' : b=j
  all_goals first
   | (rw [ai,ci'];done)
   | (rw [aj,cj'];done)
   | (exact absurd (ai.symm.trans aj) hij)
   | (exact absurd (ci'.symm.trans cj') hij)
   | skip
  ·rw [if_neg aj,if_pos ai] at h1
   rw [if_pos cj'] at h2
   have:=g1.inj 0 1 ci fi cj fj (b1,z1) (b2,z2) (by simpa using h1) (by simpa using h2) (by rw [← bi,← ai];exact hx) (by rw [← bj,← cj'];exact hy) hb
   omega
  ·have:=p2 (.inl ai);have:=q3 ci' cj';omega
  ·rw [if_pos aj] at h1
   rw [if_neg cj',if_pos ci'] at h2
   have:=g1.inj 1 0 ci fi cj fj (b1,z1) (b2,z2) (by simpa using h1) (by simpa using h2) (by rw [← bj,← aj];exact hx) (by rw [← bi,← ci'];exact hy) hb
   omega
  ·have:=p2 (.inr aj);have:=q3 ci' cj';omega
  ·have:=q2 (.inl ci');have:=p3 ai aj;omega
  ·have:=q2 (.inr cj');have:=p3 ai aj;omega
  ·rw [if_neg aj,if_neg ai] at h1
   rw [if_neg cj',if_neg ci'] at h2
   exact hsim.inj a b ci fi cj fj (b1,z1) (b2,z2) h1 h2 (by rw [← bo a ai aj];exact hx) (by rw [← bo b ci' cj'];exact hy) hb
 ·rw [get] at hk
  by_cases e1:k=j
  ·subst e1
   rw [if_pos rfl] at hk
   rw [bj]
   rcases hk with hk | hk
   ·cases hk
   ·exact g1.nb 1 (.inr (by simpa using hk))
  ·rw [if_neg e1] at hk
   by_cases e2:k=i
   ·subst e2
    rw [if_pos rfl] at hk
    rw [bi]
    rcases hk with hk | hk
    ·cases hk
    ·exact g1.nb 0 (.inr (by simpa using hk))
   ·rw [if_neg e2] at hk
    rw [bo k e2 e1]
    exact hsim.nb k hk
 ·rw [bo k (fun e=>by rw [e,bki] at hk;cases hk) (fun e=>by rw [e,bkj] at hk;cases hk)];exact hk
 ·exact ⟨g5.toBelow.mono hsim.base,g5.shp,g5.oth⟩
theorem wcl_fz {st:List Slot} {sg:List Nat} {n:Nat} {l l' : List V} {rd:List Nat} (h:FzL st l l' rd):WCL st sg n l l':=by
 induction h with
 | nil=>exact .nil
 | cons h _ ih=>exact .cons (.fz h) ih
structure FzW (st:List Slot) (u v:V):Prop where
 out:∃ l l' rd,u=.agg l∧v=.agg l'∧FzL st l l' rd∧l'.all V.one=true
def Slot.ok5:Slot→Bool
 | .live cs 0=>V.idlt.belowL 5 cs
 | .live _ (_ + 1)=>false
 | .dead=>true
 | .fresh=>false
theorem finW_c {rs:List ARes} {fr:List V} {st st0:List Slot} {α:Type} {enc:α→V} {x y:α} {e:AExit} {R O:List V} {fR fO:Nat} {xs:Slot} (is:List Nat) (he:e=.normal∨e=.ret) (H:some x=some y) (h5:st0.length=5) (hR:V.idlt.belowL 5 R=true) (hO:V.idlt.belowL 5 O=true) (hX:xs.ok5=true)
  (h:frzI is st fun st=>(st[0]?=some (.live R fR)∧st[1]?=some (.live O fO)∧st[4]?=some xs)∧resK fr st rs fun vs=>mkRK vs fun v=>FzW st v (enc x)):FinQ (FinR st0 rs (enc y) [.live R fR,.live O fO,.dead,.dead,xs]) e fr st:=by
 cases H
 obtain ⟨st1,hf,⟨g0,g1,g4⟩,h⟩:=frzI_ok h
 obtain ⟨vs,h1,h2⟩:=resK_ok h
 rw [mkRK_eq] at h2
 obtain ⟨l,l',rd,e1,e2,e3,e4⟩:=h2.out
 have one:∀ v ∈ l',v.one=true:=by simpa using e4
 refine ⟨he,[],st1,vs,hf,h1,.v (by rw [e1,e2];exact .agg (wcl_fz e3) one),fun i _ _=>rfl,⟨h5.symm,fun i cs f hi=>?_,fun i hi=>?_,fun i j _ _ _ _ _ _ h=>h⟩⟩
 ·rw [h5]
  rcases i with _ | _ | _ | _ | _ | i
  ·simp only [List.getElem?_cons_zero,Option.some.injEq,Slot.live.injEq] at hi
   obtain ⟨rfl,rfl⟩:=hi
   exact ⟨_,g0,wcl_nil hR,.inr (renL_nil _).symm⟩
  ·simp only [List.getElem?_cons_succ,List.getElem?_cons_zero,Option.some.injEq,Slot.live.injEq] at hi
   obtain ⟨rfl,rfl⟩:=hi
   exact ⟨_,g1,wcl_nil hO,.inr (renL_nil _).symm⟩
  ·simp at hi
  ·simp at hi
  ·simp only [List.getElem?_cons_succ,List.getElem?_cons_zero,Option.some.injEq] at hi
   subst hi
   rcases f with _ | f
   ·exact ⟨_,g4,wcl_nil hX,.inr (renL_nil _).symm⟩
   ·cases hX
  ·simp at hi
 ·rcases i with _ | _ | _ | _ | _ | i <;> simp at hi
  subst hi;cases hX
theorem askW_c {β:Type} {r:β} {P:Program} {st st0 st' : List Slot} {α:Type} {enc:α→V} {m:Option α} {X:α→Option β} {f:Nat} {vs vs' : List V} {k:V→List Nat→List Nat→List Slot→Prop} (hc:∀ s,m=some s→CallsS P f vs' st0 (enc s) st') (H:m.bind X=some r) (hv:vs=vs') (hs:st=st0) (hl:st'.length=st0.length)
  (h:∀ s,X s=some r→k (enc s) [] ((allEff st').map Prod.fst) st'):Ask P f vs st k:=by
 subst hv hs
 obtain ⟨s,hs,H⟩:=bind_c H
 exact Ask_S (hc s hs) hl (h s H)
theorem cloE_c {P:Program} {st:List Slot} {k:FuncId} {es:Nat} {E:TypeId} (hR:CloRoads P k es E) {α:Type} {f:α→V} {l:List α} {K:V→List Nat→List Nat→List Slot→Prop} {fu:Bool} (hl:l=[]) (h:K (.sl (List.map f []) true) [] [] st):Ask P k [.sl (l.map f) fu] st K:=by
 subst hl
 exact Ask_V0 (clo_nil hR fu) rfl rfl h
theorem cloN_c {P:Program} {st:List Slot} {k:FuncId} {es:Nat} {E:TypeId} (hR:CloRoads P k es E) {α:Type} {f:α→V} {l:List α} {K:V→List Nat→List Nat→List Slot→Prop} (id:Nat) {fu:Bool} (hes:∀ a,(f a).cells.length=es) (hone:∀ a,(f a).cells.all V.one=true) (hf:st[id]?=some .fresh) (hl:l≠[]) (hn:l.length≤1000000)
  (h:ssetK st id (.live (cellsM f l) 0) fun st'=>K (.osl id 0 l.length es false) [] [id] st'):Ask P k [.sl (l.map f) fu] st K:=by
 rw [ssetK_eq] at h
 exact Ask_L (rd:=[]) (ef:=[(id,.live (cellsM f l) 0)]) (fun st2 hl2 h2=>clo_ne hR hes (fun a u hu=>List.all_eq_true.1 (hone a) u hu) l fu hl hn ((h2 id (.inr (by simp))).trans hf)) h
end Go.Proofs.Ytmmmcpeickfolaa

namespace Go.Proofs.Ytmmmcpeickfolaa
open Go.RowKit
abbrev V.u8 (k:UInt8):V:=.lit (.int .u8 k.toNat)
def StzD.l (s:StzD):List Value:=[.int .u8 s.kind.toNat,.string s.user,.string s.res,.string s.name,.int .i64 s.show_,.int .i64 s.prio,.int .i64 s.code,.int .i64 s.n]
end Go.Proofs.Ytmmmcpeickfolaa

namespace Go.Proofs.Ytmmmcpeickfolaa
open Go.RowKit
end Go.Proofs.Ytmmmcpeickfolaa

