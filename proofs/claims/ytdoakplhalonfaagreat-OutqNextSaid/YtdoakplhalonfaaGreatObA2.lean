/- A part of the proof: 5 texts joined. -/
import Derived.Test.YtdoakplhalonfaaGreatOaA12
import Derived.KernelRfl
import Derived.Test.YtdoakplhalonfaaGreatObA1
import Derived.OpenShut
import Derived.Test.YtdoakplhalonfaaGreatOaA11
set_option linter.all false
namespace Go.Proofs.YtdoakplhalonfaaGreat
open Go.RowKit
section
variable {P : Program} {n0 : Nat}
inductive BCode where
 | skip
 | reg (nc:Nat) (ops:List AOper) (bef:Option (List (List Nat))) (x:Nat) (fz:List Nat)
 | seq (a b:BCode)
 | join (a b:BCode)
 | cond (c:Operand) (a b:BCode)
 | block (id:Nat) (a:BCode)
 | loop (a:BCode)
 | exit (id:Nat)
 | ret
 | raw (c:Code)
def BCode.er:BCode→ACode
 | .skip=>.skip
 | .reg nc ops bef _ _=>.reg nc ops bef
 | .seq a b=>.seq a.er b.er
 | .join a b=>.seq a.er b.er
 | .cond c a b=>.cond c a.er b.er
 | .block id a=>.block id a.er
 | .loop a=>.loop a.er
 | .exit id=>.exit id
 | .ret=>.ret
 | .raw c=>.raw c
def ownId:V→Option Nat
 | .ptr i _=>some i
 | .osl i _ _ _ _=>some i
 | _=>none
def frzK (fr:List V):List Slot→List Nat→(List Slot→Prop)→Prop
 | st,[],k=>k st
 | st,t :: ts,k=>getK fr t fun v=>match ownId v with
  | some i=>sgetK st i fun cs f=>Nat.le f cs.length∧ssetK st i (.live cs cs.length) fun st'=>frzK fr st' ts k
  | none=>False
def frzI:List Nat→List Slot→(List Slot→Prop)→Prop
 | [],st,k=>k st
 | i :: is,st,k=>sgetK st i fun cs f=>Nat.le f cs.length∧ssetK st i (.live cs cs.length) fun st'=>frzI is st' k
theorem Frz.trans {st st1 st2:List Slot} (h:Frz st st1) (h2:Frz st1 st2):Frz st st2:=by
 induction h2 with
 | refl=>exact h
 | step _ hi h1 h2 ih=>exact .step ih hi h1 h2
theorem frzK_ok {fr:List V}:∀ {ts:List Nat} {st:List Slot} {k:List Slot→Prop},frzK fr st ts k→∃ st',Frz st st'∧k st'
 | [],st,k,h=>⟨st,.refl,h⟩
 | t :: ts,st,k,h=>by
  rw [frzK,getK_eq] at h
  split at h
  ·obtain ⟨cs,f,h1,h2,h3⟩:=sgetK_ok h
   rw [ssetK_eq] at h3
   obtain ⟨st',h4,h5⟩:=frzK_ok h3
   exact ⟨st',(Frz.step .refl h1 h2 (Nat.le_refl _)).trans h4,h5⟩
  ·exact h.elim
theorem frzI_ok:∀ {is:List Nat} {st:List Slot} {k:List Slot→Prop},frzI is st k→∃ st',Frz st st'∧k st'
 | [],st,k,h=>⟨st,.refl,h⟩
 | t :: ts,st,k,h=>by
  obtain ⟨cs,f,h1,h2,h3⟩:=sgetK_ok h
  rw [ssetK_eq] at h3
  obtain ⟨st',h4,h5⟩:=frzI_ok h3
  exact ⟨st',(Frz.step .refl h1 h2 (Nat.le_refl _)).trans h4,h5⟩
structure FootQ (bef:List (List Nat)) (fp:List (List Nat × List Nat)) (A:Prop):Prop where
 out:footB bef fp.reverse=true∧A
structure LoopQ (P:Program) (n0:Nat) (a:BCode) (Q:AExit→List V→List Slot→Prop) (fr:List V) (st:List Slot):Prop where
 out:∀ Q' : AExit→List V→List Slot→Prop,(∀ e fr st,Q e fr st→Q' e fr st)→AW P n0 (.loop a.er) Q' fr st
structure RawQ (P:Program) (n0:Nat) (c:Code) (Q:AExit→List V→List Slot→Prop) (fr:List V) (st:List Slot):Prop where
 out:∀ Q' : AExit→List V→List Slot→Prop,(∀ e fr st,Q e fr st→Q' e fr st)→AW P n0 (.raw c) Q' fr st
structure JoinQ (P:Program) (n0:Nat) (a b:BCode) (Q:AExit→List V→List Slot→Prop) (fr:List V) (st:List Slot):Prop where
 out:∀ Q' : AExit→List V→List Slot→Prop,(∀ e fr st,Q e fr st→Q' e fr st)→AW P n0 (.seq a.er b.er) Q' fr st
structure ArriveQ (n0:Nat) (J:List V→List Slot→Prop) (base:List V) (car:List Nat) (fr:List V) (st:List Slot):Prop where
 out:∃ k sg fr'' st'',Wk n0 k sg fr fr'' st st''∧∃ vals,J vals st''∧fr''=setF base car vals
structure FinQ (F:AExit→List V→List Slot→Prop) (e:AExit) (fr:List V) (st:List Slot):Prop where
 out:F e fr st
structure AgainQ (n0:Nat) (J:Nat→List V→List Slot→Prop) (n:Nat) (base:List V) (car:List Nat) (fr:List V) (st:List Slot):Prop where
 out:∃ n' k sg fr'' st'',n' < n∧Wk n0 k sg fr fr'' st st''∧∃ vals,J n' vals st''∧fr''=setF base car vals
def padK:List Slot→Nat→Nat→(List Slot→Nat→Prop)→Prop
 | s :: l,a,nc,k=>padK l (a + 1) nc fun l' n=>k (s :: l') n
 | [],a,nc,k=>rep nc fun l=>k l a
where rep:Nat→(List Slot→Prop)→Prop
 | 0,k=>k []
 | n + 1,k=>rep n fun l=>k (.fresh :: l)
theorem padK_rep:∀ (n:Nat) (k:List Slot→Prop),padK.rep n k=k (List.replicate n .fresh)
 | 0,k=>rfl
 | n + 1,k=>by rw [padK.rep,padK_rep n];rfl
theorem padK_eq:∀ (l:List Slot) (a nc:Nat) (k:List Slot→Nat→Prop),padK l a nc k=k (l++List.replicate nc .fresh) (a + l.length)
 | [],a,nc,k=>by rw [padK,padK_rep];simp
 | s :: l,a,nc,k=>by rw [padK,padK_eq l];simp [Nat.add_assoc,Nat.add_comm 1]
def footK (bef:Option (List (List Nat))) (fp:List (List Nat × List Nat)) (A:Prop):Prop :=
 match bef with
 | none=>A
 | some b=>FootQ b fp A
def exK (b:Bool) (A B:Prop):Prop :=
 match b with
 | true=>A
 | false=>B
abbrev OpsT:=List (List Nat × List Nat)→List V→List Slot→(List (List Nat × List Nat)→List V→List Slot→Prop)→Prop
def opsStep (P:Program) (base:Nat) (o:AOper) (ih:OpsT):OpsT:=fun fp fr st K =>
 match o with
 | ⟨d,op,none,c⟩=>wpOp P fr st (base + c) op fun fr v rd wr st'=>putK fr d v fun fr=>ih ((rd,wr) :: fp) fr st' K
 | ⟨d,op,some (t,w),c⟩=>getK fr t fun g=>match g with
  | .lit (.bool b)=>Tst b
   (setK fr t (.lit (.bool true)) fun fr=>match w with
    | true=>wpOp P fr st (base + c) op fun fr v rd wr st'=>putK fr d v fun fr=>ih ((rd,wr) :: fp) fr st' K
    | false=>putK fr d (.tup []) fun fr=>ih (([],[]) :: fp) fr st K)
   (setK fr t (.lit (.bool false)) fun fr=>match w with
    | false=>wpOp P fr st (base + c) op fun fr v rd wr st'=>putK fr d v fun fr=>ih ((rd,wr) :: fp) fr st' K
    | true=>putK fr d (.tup []) fun fr=>ih (([],[]) :: fp) fr st K)
  | .tup []=>putK fr d (.tup []) fun fr=>ih (([],[]) :: fp) fr st K
  | _=>False
def wqOps (P:Program) (base:Nat) (os:List AOper):OpsT:=List.rec (motive:=fun _=>OpsT) (fun fp fr st K=>K fp fr st) (fun o _ ih=>opsStep P base o ih) os
theorem wqOps_eq {P:Program} {base:Nat}:∀ os:List AOper,wqOps P base os=wpOps P base os
 | []=>rfl
 | o :: os=>by
  have ih:List.rec (motive:=fun _=>OpsT) (fun fp fr st K=>K fp fr st) (fun o _ ih=>opsStep P base o ih) os=wpOps P base os:=wqOps_eq os
  show opsStep P base o (List.rec (motive:=fun _=>OpsT) (fun fp fr st K=>K fp fr st) (fun o _ ih=>opsStep P base o ih) os)=wpOps P base (o :: os)
  rw [ih]
  obtain ⟨d,op,g,c⟩:=o
  cases g <;> rfl
abbrev CodeT:=(AExit→List V→List Slot→Prop)→List V→List Slot→Prop
def thenQ (b:CodeT) (Q:AExit→List V→List Slot→Prop):AExit→List V→List Slot→Prop:=fun e fr st=>match e with
 | .normal=>b Q fr st
 | e=>Q e fr st
def blockQ (id:Nat) (Q:AExit→List V→List Slot→Prop):AExit→List V→List Slot→Prop:=fun e fr st=>match e with
 | .exit j=>exK (Nat.beq j id) (Q .normal fr st) (Q (.exit j) fr st)
 | e=>Q e fr st
def condK (fr:List V) (st:List Slot) (c:Operand) (a b:CodeT) (Q:AExit→List V→List Slot→Prop):Prop:=opK fr c fun v=>match v with
 | .lit (.bool t)=>Tst t (Setb fr c true fun fr=>a Q fr st) (Setb fr c false fun fr=>b Q fr st)
 | _=>False
def wpC (P:Program) (n0:Nat) (c:BCode):CodeT:=BCode.rec (motive:=fun _=>CodeT)
 (fun Q fr st=>Q .normal fr st)
 (fun nc ops bef x fz Q fr st=>frzK fr st fz fun st=>padK st 0 (nc + x) fun st' n=>wqOps P n ops [] fr st' fun fp fr st=>footK bef fp (Q .normal fr st))
 (fun _ _ a b Q fr st=>a (thenQ b Q) fr st)
 (fun a b _ _ Q fr st=>JoinQ P n0 a b Q fr st)
 (fun c _ _ a b Q fr st=>condK fr st c a b Q)
 (fun id _ a Q fr st=>a (blockQ id Q) fr st)
 (fun a _ Q fr st=>LoopQ P n0 a Q fr st)
 (fun id Q fr st=>Q (.exit id) fr st)
 (fun Q fr st=>Q .ret fr st)
 (fun c Q fr st=>RawQ P n0 c Q fr st) c
theorem wpC_ok:∀ {c:BCode} {Q Q' : AExit→List V→List Slot→Prop} {fr:List V} {st:List Slot},(∀ e fr st,Q e fr st→Q' e fr st)→wpC P n0 c Q fr st→AW P n0 c.er Q' fr st
 | .skip,Q,Q',fr,st,hq,h=>hq _ _ _ h
 | .reg nc ops none x fz,Q,Q',fr,st,hq,h=>by
  obtain ⟨st',hf,h⟩:=frzK_ok (k:=fun st=>padK st 0 (nc + x) fun st' n=>wqOps P n ops [] fr st' fun fp fr st=>footK none fp (Q .normal fr st)) h
  simp only [padK_eq,Nat.zero_add,footK,wqOps_eq] at h
  exact ⟨st',x,hf,AOps_mono (fun _ _ _ h=>hq _ _ _ h) (wpOps_ok h)⟩
 | .reg nc ops (some bef) x fz,Q,Q',fr,st,hq,h=>by
  obtain ⟨st',hf,h⟩:=frzK_ok (k:=fun st=>padK st 0 (nc + x) fun st' n=>wqOps P n ops [] fr st' fun fp fr st=>footK (some bef) fp (Q .normal fr st)) h
  simp only [padK_eq,Nat.zero_add,footK,wqOps_eq] at h
  exact ⟨st',x,hf,AOps_mono (fun _ _ _ h=>⟨h.out.1,hq _ _ _ h.out.2⟩) (wpOps_ok h)⟩
 | .seq a b,Q,Q',fr,st,hq,h=>by
  refine wpC_ok (c:=a) (Q:=thenQ (wpC P n0 b) Q) (fun e fr st h=>?_) h
  cases e with
  | normal=>exact .inl (wpC_ok (c:=b) hq h)
  | _=>exact hq _ _ _ h
 | .join a b,Q,Q',fr,st,hq,h=>JoinQ.out h Q' hq
 | .cond c a b,Q,Q',fr,st,hq,h=>by
  change condK fr st c (wpC P n0 a) (wpC P n0 b) Q at h
  simp only [condK,opK_eq] at h
  split at h
  ·rename_i t hc
   refine ⟨t,hc,fun e=>?_,fun e=>?_⟩
   ·subst e;exact wpC_ok hq (setb_ok (K:=fun fr=>wpC P n0 a Q fr st) hc (h.out.1 rfl))
   ·subst e;exact wpC_ok hq (setb_ok (K:=fun fr=>wpC P n0 b Q fr st) hc (h.out.2 rfl))
  ·exact h.elim
 | .block id a,Q,Q',fr,st,hq,h=>by
  refine wpC_ok (c:=a) (Q:=blockQ id Q) (fun e fr st h=>?_) h
  cases e with
  | exit j =>
   by_cases hj:j=id
   ·have:Nat.beq j id=true:=by rw [hj];exact Nat.beq_refl id
    simp only [blockQ,this,exK] at h
    simp only [hj,if_true];exact hq _ _ _ h
   ·have:Nat.beq j id=false:=Bool.eq_false_iff.2 fun e=>hj (Nat.eq_of_beq_eq_true e)
    simp only [blockQ,this,exK] at h
    simp only [hj,if_false];exact hq _ _ _ h
  | _=>exact hq _ _ _ h
 | .loop a,Q,Q',fr,st,hq,h=>LoopQ.out h Q' hq
 | .exit id,Q,Q',fr,st,hq,h=>hq _ _ _ h
 | .ret,Q,Q',fr,st,hq,h=>hq _ _ _ h
 | .raw c,Q,Q',fr,st,hq,h=>RawQ.out h Q' hq
def setsK:List V→List Nat→List V→(List V→Prop)→Prop
 | fr,t :: ts,v :: vs,k=>setK fr t v fun fr=>setsK fr ts vs k
 | fr,_,_,k=>k fr
theorem setsK_eq:∀ (ts:List Nat) (fr vs:List V) (k:List V→Prop),setsK fr ts vs k=k (setF fr ts vs)
 | t :: ts,fr,v :: vs,k=>by rw [setsK,setK_eq,setsK_eq ts];rfl
 | [],fr,vs,k=>by simp [setsK,setF]
 | t :: ts,fr,[],k=>by simp [setsK,setF]
def maskK:List V→List Nat→(List V→Prop)→Prop
 | fr,t :: ts,k=>setK fr t .any fun fr=>maskK fr ts k
 | fr,[],k=>k fr
theorem maskK_eq:∀ (ts:List Nat) (fr:List V) (k:List V→Prop),maskK fr ts k=k (maskF ts fr)
 | t :: ts,fr,k=>by rw [maskK,setK_eq,maskK_eq ts];rfl
 | [],fr,k=>rfl
def againK (n0:Nat) (J:Nat→List V→List Slot→Prop) (n:Nat) (base:List V) (car:List Nat) (Q:AExit→List V→List Slot→Prop):AExit→List V→List Slot→Prop :=
 fun e fr st=>match e with
 | .normal=>AgainQ n0 J n base car fr st
 | e=>Q e fr st
theorem renL_at {sg:List Nat}:∀ (l:List V) (t:Nat) (h:t < l.length),(V.ren.renL sg l)[t]'(by rw [renL_len];exact h)=(l[t]).ren sg
 | v :: l,0,_=>rfl
 | v :: l,t + 1,h=>by simp only [V.ren.renL,List.getElem_cons_succ];exact renL_at l t (Nat.lt_of_succ_lt_succ h)
theorem maskF_len:∀ (ts:List Nat) (fr:List V),(maskF ts fr).length=fr.length
 | [],fr=>rfl
 | t :: ts,fr=>by rw [maskF,maskF_len ts,List.length_set]
theorem maskF_at:∀ (ts:List Nat) (fr:List V) (t:Nat) (h1:t < (maskF ts fr).length) (h2:t < fr.length),(maskF ts fr)[t]=.any∨(maskF ts fr)[t]=fr[t]
 | [],fr,t,h1,h2=>.inr rfl
 | u :: ts,fr,t,h1,h2=>by
  have:=maskF_at ts (fr.set u .any) t h1 (by rw [List.length_set];exact h2)
  rcases this with h | h
  ·exact .inl h
  ·by_cases e:u=t
   ·left
    show (maskF ts (fr.set u .any))[t]=.any
    rw [h];subst e;simp
   ·right
    show (maskF ts (fr.set u .any))[t]=fr[t]
    rw [h,List.getElem_set_ne e]
theorem wk_mask {n:Nat} {sg junk:List Nat} {fr fr' : List V} {st st' : List Slot} (h0:n0≤n) (hfx:((List.range n0).all fun i=>sgm sg i == i)=true) (hm:V.ren.renL sg fr'=maskF junk fr) (hid:V.idlt.belowL n fr'=true) (hl:st'.length=n) (hb:wkB n sg st 0 st'):Wk n0 n sg fr fr' st st':=by
 obtain ⟨g1,g2⟩:=wkB_ok hb
 simp only [Nat.zero_add] at g1 g2
 have hlen:fr'.length=fr.length:=by rw [← renL_len (sg:=sg) fr',hm,maskF_len]
 refine ⟨h0,fun i hi=>?_,hlen,fun t h1 h2=>?_,hl,fun i cs f h=>⟨(g1 i cs f h).1,(g1 i cs f h).2.1⟩,g2,fun i j ci fi cj fj hi hj e=>?_⟩
 ·simp only [List.all_eq_true,List.mem_range,beq_iff_eq] at hfx
  exact hfx i hi
 ·have e:=renL_at (sg:=sg) fr' t h1
  have e2:(V.ren.renL sg fr')[t]'(by rw [renL_len];exact h1)=(maskF junk fr)[t]'(by rw [maskF_len];exact h2):=by simp only [hm]
  rw [e] at e2
  rcases maskF_at junk fr t (by rw [maskF_len];exact h2) h2 with g | g
  ·left
   rw [g] at e2
   cases hv:fr'[t] <;> rw [hv] at e2 <;> simp [V.ren] at e2
  ·exact .inr ⟨by rw [e2,g],belowL_get hid t h1⟩
 ·have li:=(List.getElem?_eq_some_iff.1 hi).1
  have lj:=(List.getElem?_eq_some_iff.1 hj).1
  rcases Nat.lt_trichotomy i j with h | h | h
  ·exact absurd e ((g1 i ci fi hi).2.2 j h lj)
  ·exact h
  ·exact absurd e.symm ((g1 j cj fj hj).2.2 i h li)
variable {Q : AExit → List V → List Slot → Prop} {fr : List V} {st : List Slot}
theorem loop_c {a:BCode} (car junk junk0:List Nat) (J:Nat→List V→List Slot→Prop) (n1 k0:Nat) (sg0:List Nat) {vals0:List V} {st0:List Slot} (h0:J n1 vals0 st0) (hn:n0≤k0) (hfx:((List.range n0).all fun i=>sgm sg0 i == i)=true)
  (hm:V.ren.renL sg0 (setF (maskF junk fr) car vals0)=maskF junk0 fr) (hid:V.idlt.belowL k0 (setF (maskF junk fr) car vals0)=true) (hl:st0.length=k0) (hb:wkB k0 sg0 st 0 st0)
  (hr:∀ n vals st,J n vals st→maskK fr junk fun base=>setsK base car vals fun fr'=>wpC P n0 a (againK n0 J n base car Q) fr' st):LoopQ P n0 a Q fr st:=by
 refine ⟨fun Q' hq=>w_loop car junk J n1 k0 sg0 vals0 (wk_mask hn hfx hm hid hl hb) h0 fun n vals st hj=>?_⟩
 have:=hr n vals st hj
 rw [maskK_eq,setsK_eq] at this
 refine wpC_ok (fun e fr st h=>?_) this
 cases e with
 | normal=>exact h.out
 | _=>exact hq _ _ _ h
theorem again_c {J:Nat→List V→List Slot→Prop} {n:Nat} {base:List V} {car:List Nat} (junk:List Nat) (n' k:Nat) (sg:List Nat) {vals' : List V} {st'' : List Slot} (hJ:J n' vals' st'') (hlt:n' < n) (hn:n0≤k) (hfx:((List.range n0).all fun i=>sgm sg i == i)=true)
  (hm:V.ren.renL sg (setF base car vals')=maskF junk fr) (hid:V.idlt.belowL k (setF base car vals')=true) (hl:st''.length=k) (hb:wkB k sg st 0 st''):AgainQ n0 J n base car fr st :=
 ⟨n',k,sg,_,st'',hlt,wk_mask hn hfx hm hid hl hb,vals',hJ,rfl⟩
def joinK (n0:Nat) (J:List V→List Slot→Prop) (base:List V) (car:List Nat) (Q:AExit→List V→List Slot→Prop):AExit→List V→List Slot→Prop :=
 fun e fr st=>match e with
 | .normal=>ArriveQ n0 J base car fr st
 | e=>Q e fr st
theorem join_c {a b:BCode} (car junk:List Nat) (J:List V→List Slot→Prop) (ha:maskK fr junk fun base=>wpC P n0 a (joinK n0 J base car Q) fr st)
  (hb:∀ vals st,J vals st→maskK fr junk fun base=>setsK base car vals fun fr'=>wpC P n0 b Q fr' st):JoinQ P n0 a b Q fr st:=by
 rw [maskK_eq] at ha
 refine ⟨fun Q' hq=>wpC_ok (fun e fr' st' h=>?_) ha⟩
 cases e with
 | normal =>
  obtain ⟨k,sg,fr'',st'',hw,vals,hj,rfl⟩:=h.out
  have:=hb vals st'' hj
  rw [maskK_eq,setsK_eq] at this
  exact .inr ⟨k,sg,_,st'',hw,wpC_ok hq this⟩
 | _=>exact hq _ _ _ h
theorem arrive_c {J:List V→List Slot→Prop} {base:List V} {car:List Nat} (junk:List Nat) (k:Nat) (sg:List Nat) {vals' : List V} {st'' : List Slot} (hJ:J vals' st'') (hn:n0≤k) (hfx:((List.range n0).all fun i=>sgm sg i == i)=true)
  (hm:V.ren.renL sg (setF base car vals')=maskF junk fr) (hid:V.idlt.belowL k (setF base car vals')=true) (hl:st''.length=k) (hb:wkB k sg st 0 st''):ArriveQ n0 J base car fr st :=
 ⟨k,sg,_,st'',wk_mask hn hfx hm hid hl hb,vals',hJ,rfl⟩
def initK:List V→Nat→(List V→Prop)→Prop
 | [],n,k=>rep n k
 | v :: l,n + 1,k=>initK l n fun r=>k (v :: r)
 | _ :: _,0,_=>False
where rep:Nat→(List V→Prop)→Prop
 | 0,k=>k []
 | n + 1,k=>rep n fun l=>k (.tup [] :: l)
theorem initK_rep:∀ (n:Nat) (k:List V→Prop),initK.rep n k=k (List.replicate n (.tup []))
 | 0,k=>rfl
 | n + 1,k=>by rw [initK.rep,initK_rep n];rfl
theorem initK_ok:∀ {l:List V} {n:Nat} {k:List V→Prop},initK l n k→k (l++List.replicate (n - l.length) (.tup []))
 | [],n,k,h=>by rw [initK,initK_rep] at h;simpa using h
 | v :: l,n + 1,k,h=>by
  have:=initK_ok (l:=l) (n:=n) h
  simpa using this
 | _ :: _,0,k,h=>h.elim
end
def CallsO {α:Type} (P:Program) (f:FuncId) (args:List V) (enc:α→V) (m:Option α):Prop:=∀ v,m=some v→CallsV P f args (enc v)
theorem callsO_comp {α:Type} {enc:α→V} {m:Option α} {P:Program} {f:FuncId} {fn:Func} {ac:BCode} {n:Nat} {rs:List ARes} {args:List V} (hmix:P.follows .mixedOrders=true) (hf:P.funcs[f]?=some fn) (hc:compF P fn=some (ac.er,n,rs))
  (h:∀ r,m=some r→initK args n fun fr=>wpC P 0 ac (FinQ (Fin rs (enc r))) fr []):CallsO P f args enc m:=fun r hr =>
 callsV_comp hmix hf hc (wpC_ok (fun _ _ _ h=>h.out) (initK_ok (h r hr)))
structure Clo1 {α β:Type} (P:Program) (g:Nat) (caps:List V) (e1:α→V) (enc:β→V) (f:α→Option β):Prop where
 can:Callable P g
 own:V.idlt.belowL 0 caps=true
 calls:∀ a,CallsO P g (e1 a :: caps) enc (f a)
structure Clo2 {α α' β:Type} (P:Program) (g:Nat) (caps:List V) (e1:α→V) (e2:α'→V) (enc:β→V) (f:α→α'→Option β):Prop where
 can:Callable P g
 own:V.idlt.belowL 0 caps=true
 calls:∀ a b,CallsO P g (e1 a :: e2 b :: caps) enc (f a b)
def fuel:Nat:=100000000
abbrev w64 (r:Int):Int:=IntKind.i64.wrap r
def at? {α:Type} (l:List α) (j:Int):Option α:=if 0≤j then l[j.toNat]? else none
def byte? (s:ByteArray) (j:Int):Option Int:=if h:0≤j∧j.toNat < s.size then some (s[j.toNat]'h.2).toNat else none
def sub? (s:ByteArray) (lo hi:Option Int):Option ByteArray:=if 0≤lo.getD 0∧lo.getD 0≤hi.getD s.size∧hi.getD s.size≤s.size then some (s.extract (lo.getD 0).toNat (hi.getD s.size).toNat) else none
def cut? {α:Type} (l:List α) (lo hi:Option Int):Option (List α):=if 0≤lo.getD 0∧lo.getD 0≤hi.getD l.length∧hi.getD l.length≤l.length then some ((l.drop (lo.getD 0).toNat).take ((hi.getD l.length).toNat - (lo.getD 0).toNat)) else none
def cat? (a b:ByteArray):Option ByteArray:=if a.size + b.size≤4611686018427387904 then some (a++b) else none
def app? {α:Type} (a b:List α):Option (List α):=if a.length + b.length≤1000000 then some (a++b) else none
abbrev V.y8 (n:Int):V:=.lit (.int .u8 n)
abbrev andI (k:IntKind) (a b:Int):Int:=k.wrap (BitVec.ofInt k.bits a &&& BitVec.ofInt k.bits b).toNat
abbrev orI (k:IntKind) (a b:Int):Int:=k.wrap (BitVec.ofInt k.bits a ||| BitVec.ofInt k.bits b).toNat
abbrev xorI (k:IntKind) (a b:Int):Int:=k.wrap (BitVec.ofInt k.bits a ^^^ BitVec.ofInt k.bits b).toNat
abbrev andNotI (k:IntKind) (a b:Int):Int:=k.wrap (BitVec.ofInt k.bits a &&& ~~~ BitVec.ofInt k.bits b).toNat
abbrev shlI (k:IntKind) (a b:Int):Int:=k.wrap (a * 2 ^ (min b.toNat k.bits))
abbrev shrI (k:IntKind) (a b:Int):Int:=a.fdiv (2 ^ (min b.toNat k.bits))
section
variable {β : Type} {r : β} {A B : Prop} {P : Program} {st : List Slot}
theorem bind_c {α:Type} {m:Option α} {X:α→Option β} (H:m.bind X=some r):∃ v,m=some v∧X v=some r:=by
 cases m with
 | none=>cases H
 | some v=>exact ⟨v,rfl,H⟩
theorem join0_c {α:Type} {m:Option α} {X:α→Option β} (H:m.bind X=some r):∃ K:α→Option β,K=X∧∃ v,m=some v∧K v=some r:=by
 obtain ⟨v,h1,h2⟩:=bind_c H
 exact ⟨X,rfl,v,h1,h2⟩
theorem tst_c {b:Bool} {X Y:Option β} (H:(bif b then X else Y)=some r) (h1:b=true→X=some r→A) (h2:b=false→Y=some r→B):Tst b A B:=by
 cases b with
 | true=>exact ⟨fun e=>h1 e H,fun e=>(by cases e)⟩
 | false=>exact ⟨fun e=>(by cases e),fun e=>h2 e H⟩
theorem tst_d {b:Bool} {X Y:Option β} (H:(bif b then X else Y)=some r) (h2:b=false→Y=some r→B) (h1:b=true→X=some r→A):Tst b A B:=tst_c H h1 h2
theorem ixs_c {α:Type} {f:α→V} {l:List α} {j:Int} {es:Nat} {X:α→Option β} {k:V→Prop} (H:(at? l j).bind X=some r) (hes:∀ a,(f a).cells.length=es) (h:∀ x,X x=some r→k (.eptr (f x).cells)):IxS es (l.map f) j k:=by
 obtain ⟨x,hx,H⟩:=bind_c H
 unfold at? at hx
 split at hx
 ·rename_i h0
  obtain ⟨h1,rfl⟩:=List.getElem?_eq_some_iff.1 hx
  exact IxS.M h0 h1 hes (h _ H)
 ·cases hx
theorem at_inv {α:Type} {l:List α} {j:Int} {x:α} (h:at? l j=some x):0≤j∧j.toNat < l.length∧l[j.toNat]?=some x:=by
 unfold at? at h
 split at h
 ·obtain ⟨h1,_⟩:=List.getElem?_eq_some_iff.1 h
  exact ⟨‹_›,h1,h⟩
 ·cases h
theorem ixo_c {α:Type} {l:List α} {j:Int} {X:α→Option β} {k:Nat→Prop} (H:(at? l j).bind X=some r) (h:∀ x,l[j.toNat]?=some x→X x=some r→k j.toNat):IxO l.length j k:=by
 obtain ⟨x,hx,H⟩:=bind_c H
 obtain ⟨h0,h1,h2⟩:=at_inv hx
 exact ⟨h0,h1,h x h2 H⟩
theorem takeK_of:∀ {l:List V} {n:Nat} {k:List V→Prop},n≤l.length→k (l.take n)→takeK l n k
 | l,0,k,_,h=>by cases l <;> exact h
 | [],n + 1,k,hn,h=>absurd hn (by simp)
 | v :: l,n + 1,k,hn,h=>takeK_of (l:=l) (n:=n) (by simpa using hn) h
theorem ldK_of:∀ {l:List V} {o sz:Nat} {ag:Bool} {k:V→Prop},o < l.length→o + agz ag sz≤l.length→k (partV ag sz (l.drop o))→ldK l o sz ag k
 | v :: l,0,sz,true,k,h0,h1,h=>takeK_of (by simpa [agz] using h1) h
 | v :: l,0,sz,false,k,h0,h1,h=>h
 | v :: l,o + 1,sz,ag,k,h0,h1,h=>ldK_of (l:=l) (o:=o) (by simpa using h0) (by rw [List.length_cons] at h1;omega) h
 | [],o,sz,ag,k,h0,h1,h=>absurd h0 (by simp)
theorem layK_of:∀ {l:List V} {o:Nat} {vs:List V} {k:List V→Prop},o + vs.length≤l.length→k (l.take o++vs++l.drop (o + vs.length))→layK l o vs k
 | l,0,[],k,_,h=>by
  have:layK l 0 [] k=k l:=by cases l <;> rfl
  rw [this];simpa using h
 | u :: l,0,v :: vs,k,hl,h=>layK_of (l:=l) (o:=0) (vs:=vs) (by simp at hl ⊢;omega) (by simpa using h)
 | u :: l,o + 1,vs,k,hl,h=>by
  refine layK_of (l:=l) (o:=o) (vs:=vs) (k:=fun r=>k (u :: r)) (by rw [List.length_cons] at hl;omega) ?_
  have e:o + 1 + vs.length=(o + vs.length) + 1:=by omega
  rw [e] at h
  simpa using h
 | [],0,v :: vs,k,hl,h=>absurd hl (by simp)
 | [],o + 1,vs,k,hl,h=>absurd hl (by simp)
theorem ldK_app {l m:List V} {o sz:Nat} {ag:Bool} {k:V→Prop} (ho:o < l.length∧o + agz ag sz≤l.length):∀ {p:List V},ldK l o sz ag k→ldK (p++l++m) (p.length + o) sz ag k:=by
 intro p h
 obtain ⟨h1,h2⟩:=ldK_ok h
 obtain ⟨hlt,ho⟩:=ho
 apply ldK_of
 ·simp only [List.length_append];omega
 ·simp only [List.length_append];cases ag <;> simp [agz] at ho ⊢ <;> omega
 ·have e:partV ag sz ((p++l++m).drop (p.length + o))=partV ag sz (l.drop o):=by
   rw [List.append_assoc,List.drop_append,List.drop_of_length_le (by omega),List.nil_append,Nat.add_sub_cancel_left,List.drop_append_of_le_length (by cases ag <;> simp [agz] at ho <;> omega)]
   cases ag with
   | true =>
    simp only [partV,if_true]
    rw [List.take_append_of_le_length (by simp [agz] at ho;rw [List.length_drop];omega)]
   | false =>
    simp only [partV,Bool.false_eq_true,if_false]
    simp [agz] at ho
    rw [List.getD_eq_getElem?_getD,List.getD_eq_getElem?_getD,List.getElem?_append_left (by rw [List.length_drop];omega)]
  rw [e];exact h2
theorem cellsM_split {α:Type} {f:α→V} {es:Nat} (hes:∀ a,(f a).cells.length=es):∀ {l:List α} {n:Nat} {x:α},l[n]?=some x→∃ p m,cellsM f l=p++(f x).cells++m∧p.length=n * es∧∀ y,cellsM f (l.set n y)=p++(f y).cells++m
 | [],n,x,h=>by simp at h
 | a :: l,0,x,h=>by
  simp only [List.getElem?_cons_zero,Option.some.injEq] at h
  subst h
  exact ⟨[],cellsM f l,rfl,by simp,fun y=>rfl⟩
 | a :: l,n + 1,x,h=>by
  obtain ⟨p,m,h1,h2,h3⟩:=cellsM_split hes (l:=l) (n:=n) (by simpa using h)
  have e:∀ (b:α) (r:List α),cellsM f (b :: r)=(f b).cells++cellsM f r:=fun b r=>by unfold cellsM;rw [List.flatMap_cons]
  refine ⟨(f a).cells++p,m,by rw [e,h1];simp only [List.append_assoc],by rw [List.length_append,hes,h2,Nat.succ_mul];omega,fun y=>?_⟩
  rw [List.set_cons_succ,e,h3];simp only [List.append_assoc]
theorem ldo_c {α:Type} {f:α→V} {l:List α} {n es off sz:Nat} {ag:Bool} {x:α} {k:V→Prop} (hx:l[n]?=some x) (hes:∀ a,(f a).cells.length=es) (o:Nat) (ho:off=n * es + o) (hs:o < es∧o + agz ag sz≤es) (h:ldK (f x).cells o sz ag k):ldK (cellsM f l) off sz ag k:=by
 obtain ⟨p,m,h1,h2,_⟩:=cellsM_split hes hx
 rw [h1,ho,← h2]
 exact ldK_app (by rw [hes];exact hs) h
theorem layK_app {l m vs:List V} {o:Nat} {k:List V→Prop}:∀ {p:List V},layK l o vs (fun l'=>k (p++l'++m))→o + vs.length≤l.length→layK (p++l++m) (p.length + o) vs k:=by
 intro p h hl
 obtain ⟨h1,h2⟩:=layK_ok h
 refine layK_of ?_ ?_
 ·simp only [List.length_append];omega
 ·have e:(p++l++m).take (p.length + o)++vs++(p++l++m).drop (p.length + o + vs.length)=p++(l.take o++vs++l.drop (o + vs.length))++m:=by
   rw [List.append_assoc p l m,List.take_append,List.take_of_length_le (by omega),Nat.add_sub_cancel_left,List.take_append_of_le_length (by omega),List.drop_append,List.drop_of_length_le (by omega),List.nil_append,Nat.add_assoc,Nat.add_sub_cancel_left,List.drop_append_of_le_length (by omega)]
   simp only [List.append_assoc]
  rw [e];exact h2
theorem sto_c {α:Type} {f:α→V} {l:List α} {n es off:Nat} {vs:List V} {x:α} {k:List V→Prop} (hx:l[n]?=some x) {x' : α} (hes:∀ a,(f a).cells.length=es) (o:Nat) (ho:off=n * es + o) (hs:o + vs.length≤es) (h' : layK (f x).cells o vs fun cs=>cs=(f x').cells) (h:k (cellsM f (l.set n x'))):layK (cellsM f l) off vs k:=by
 obtain ⟨p,m,h1,h2,h3⟩:=cellsM_split hes hx
 rw [h1,ho,← h2]
 refine layK_app ?_ (by rw [hes];exact hs)
 obtain ⟨g1,g2⟩:=layK_ok h'
 refine layK_of g1 ?_
 rw [g2,← h3];exact h
theorem ixt_c {s:ByteArray} {j:Int} {X:Int→Option β} {k:V→Prop} (H:(byte? s j).bind X=some r) (h:∀ x,X x=some r→k (.lit (.int .u8 x))):IxT s j k:=by
 obtain ⟨x,hx,H⟩:=bind_c H
 unfold byte? at hx
 split at hx
 ·rename_i h0
  simp only [Option.some.injEq] at hx
  subst hx
  exact ⟨h0.1,h0.2,h _ H⟩
 ·cases hx
theorem slt_c {s:ByteArray} {lo hi:Option Int} {X:ByteArray→Option β} {k:V→Prop} (H:(sub? s lo hi).bind X=some r) (h:∀ x,X x=some r→k (.lit (.string x))):SlT s lo hi k:=by
 obtain ⟨x,hx,H⟩:=bind_c H
 unfold sub? at hx
 split at hx
 ·rename_i h0
  simp only [Option.some.injEq] at hx
  subst hx
  exact ⟨h0.1,h0.2.1,h0.2.2,h _ H⟩
 ·cases hx
theorem cat_c {a b:ByteArray} {X:ByteArray→Option β} {k:V→Prop} (H:(cat? a b).bind X=some r) (h:∀ x,X x=some r→k (.lit (.string x))):Cat a b k:=by
 obtain ⟨x,hx,H⟩:=bind_c H
 unfold cat? at hx
 split at hx
 ·simp only [Option.some.injEq] at hx;subst hx;exact ⟨‹_›,h _ H⟩
 ·cases hx
theorem cut_map {α:Type} {f:α→V} {l x:List α} {lo hi:Option Int} (hx:cut? l lo hi=some x):0≤lo.getD 0∧lo.getD 0≤hi.getD (l.map f).length∧hi.getD (l.map f).length≤(l.map f).length∧((l.map f).drop (lo.getD 0).toNat).take ((hi.getD (l.map f).length).toNat - (lo.getD 0).toNat)=x.map f:=by
 unfold cut? at hx
 split at hx
 ·rename_i h0
  simp only [Option.some.injEq] at hx
  subst hx
  rw [List.length_map,← List.map_drop,← List.map_take]
  exact ⟨h0.1,h0.2.1,h0.2.2,rfl⟩
 ·cases hx
theorem slsE_c {α:Type} {f:α→V} {l:List α} {es:Nat} {full:Bool} {lo:Option Int} {X:List α→Option β} {k:V→Prop} (H:(cut? l lo none).bind X=some r) (hes:∀ a,(f a).cells.length=es) (h:∀ x,X x=some r→k (.sl (x.map f) full)):SlS es (l.map f) full lo none none k:=by
 obtain ⟨x,hx,H⟩:=bind_c H
 obtain ⟨h0,h1,h2,h3⟩:=cut_map (f:=f) hx
 refine SlS.E (mem_es hes l) h0 (by simpa using h1) ?_
 have e:(l.map f).drop (lo.getD 0).toNat=x.map f:=by
  rw [← h3,List.take_of_length_le]
  simp only [Option.getD_none,List.length_drop,Int.toNat_natCast];omega
 rw [e];exact h x H
theorem slsH_c {α:Type} {f:α→V} {l:List α} {es:Nat} {full:Bool} {lo:Option Int} {hi:Int} {X:List α→Option β} {k:V→Prop} (H:(cut? l lo (some hi)).bind X=some r) (hes:∀ a,(f a).cells.length=es) (h:∀ x,X x=some r→k (.sl (x.map f) false)):SlS es (l.map f) full lo (some hi) none k:=by
 obtain ⟨x,hx,H⟩:=bind_c H
 obtain ⟨h0,h1,h2,h3⟩:=cut_map (f:=f) hx
 refine SlS.H (mem_es hes l) h0 h1 h2 ?_
 have e:((l.map f).drop (lo.getD 0).toNat).take (hi.toNat - (lo.getD 0).toNat)=x.map f:=h3
 rw [e];exact h x H
theorem slsC_c {α:Type} {f:α→V} {l:List α} {es:Nat} {full:Bool} {lo:Option Int} {hi:Int} {X:List α→Option β} {k:V→Prop} (H:(cut? l lo (some hi)).bind X=some r) (hes:∀ a,(f a).cells.length=es) (h:∀ x,X x=some r→k (.sl (x.map f) true)):SlS es (l.map f) full lo (some hi) (some hi) k:=by
 obtain ⟨x,hx,H⟩:=bind_c H
 obtain ⟨h0,h1,h2,h3⟩:=cut_map (f:=f) hx
 refine SlS.C (mem_es hes l) h0 h1 h2 ?_
 have e:((l.map f).drop (lo.getD 0).toNat).take (hi.toNat - (lo.getD 0).toNat)=x.map f:=h3
 rw [e];exact h x H
theorem ask_c {α:Type} {enc:α→V} {m:Option α} {X:α→Option β} {f:Nat} {vs vs' : List V} {k:V→List Nat→List Nat→List Slot→Prop} (hc:CallsO P f vs' enc m) (H:m.bind X=some r) (hv:vs=vs') (h0:V.idlt.belowL 0 vs'=true) (h:∀ x,X x=some r→k (enc x) [] [] st):Ask P f vs st k:=by
 obtain ⟨x,hx,H⟩:=bind_c H
 exact Ask_V0 (hc x hx) hv h0 (h x H)
theorem askF_c {α:Type} {enc:α→V} {m:Option α} {X:α→Option β} {f:Nat} {vs vs' : List V} {rd:List Nat} {k:V→List Nat→List Nat→List Slot→Prop} (hc:CallsO P f vs' enc m) (H:m.bind X=some r) (ha:FzA st vs vs' rd) (h:∀ x,X x=some r→k (enc x) rd [] st):Ask P f vs st k:=by
 obtain ⟨x,hx,H⟩:=bind_c H
 exact Ask_V (hc x hx) ha (h x H)
theorem fza_ids:∀ {l:List V},V.idlt.belowL 0 l=true→FzA st l l []
 | [],_=>.nil
 | v :: l,h=>by
  simp only [V.idlt.belowL,Bool.and_eq_true] at h
  exact FzA.cons (r:=[]) (r':=[]) (.c (.id h.1)) (fza_ids h.2)
theorem fza_caps {l l' caps:List V} {rd:List Nat} (h:FzA st l l' rd) (hc:V.idlt.belowL 0 caps=true):FzA st (l++caps) (l'++caps) rd:=by
 induction h with
 | nil=>exact fza_ids hc
 | cons h _ ih=>exact .cons h ih
theorem askC_c {α β' : Type} {e1:α→V} {enc:β'→V} {f:α→Option β'} {a:α} {X:β'→Option β} {g:Nat} {caps:List V} {v:V} {rd:List Nat} {k:V→List Nat→List Nat→List Slot→Prop} (hc:Clo1 P g caps e1 enc f) (H:(f a).bind X=some r) (ha:FzA st [v] [e1 a] rd) (h:∀ x,X x=some r→k (enc x) rd [] st):Callable P g∧Ask P g ([v]++caps) st k :=
 ⟨hc.can,askF_c (hc.calls a) H (fza_caps ha hc.own) h⟩
theorem askC2_c {α α' β' : Type} {e1:α→V} {e2:α'→V} {enc:β'→V} {f:α→α'→Option β'} {a:α} {b:α'} {X:β'→Option β} {g:Nat} {caps:List V} {v v' : V} {rd:List Nat} {k:V→List Nat→List Nat→List Slot→Prop} (hc:Clo2 P g caps e1 e2 enc f) (H:(f a b).bind X=some r) (ha:FzA st [v,v'] [e1 a,e2 b] rd) (h:∀ x,X x=some r→k (enc x) rd [] st):Callable P g∧Ask P g ([v,v']++caps) st k :=
 ⟨hc.can,askF_c (hc.calls a b) H (fza_caps ha hc.own) h⟩
theorem fzown {α:Type} {f:α→V} {l:List α} {i es frz:Nat} {full:Bool} (hi:st[i]?=some (.live (cellsM f l) frz)) (hf:frz=(cellsM f l).length) (hes:∀ a,(f a).cells.length=es) (h0:∀ a,V.idlt.belowL 0 (f a).cells=true):FzC st (.osl i 0 l.length es full) (.sl (l.map f) false) [i]:=fzc_made hi rfl hf rfl hes h0
theorem fzagg {l l' : List V} {rd:List Nat} (h:FzL st l l' rd) (h1:l'.all V.one=true):FzV st (.agg l) (.agg l') rd:=.agg h (by simpa using h1)
structure FzQ (st:List Slot) (u v:V):Prop where
 out:∃ rd,FzR st u v rd
def resOneK (fr:List V) (st:List Slot) (x:ARes) (k:V→Prop):Prop :=
 match x with
 | .tmp t=>getK fr t k
 | .cell t sz ag=>getK fr t fun v=>match v with
  | .ptr i off=>sgetK st i fun cs _=>ldK cs off sz ag k
  | _=>False
def resK (fr:List V) (st:List Slot):List ARes→(List V→Prop)→Prop
 | [],k=>k []
 | x :: xs,k=>resOneK fr st x fun v=>resK fr st xs fun vs=>k (v :: vs)
def mkRK (vs:List V) (k:V→Prop):Prop :=
 match vs with
 | [v]=>k v
 | vs=>k (.tup vs)
theorem mkRK_eq (vs:List V) (k:V→Prop):mkRK vs k=k (mkR vs):=by
 match vs with
 | []=>rfl
 | [v]=>rfl
 | v :: u :: vs=>rfl
theorem resOneK_ok {fr:List V} {st:List Slot} {x:ARes} {k:V→Prop} (h:resOneK fr st x k):∃ v,ResOne fr st x v∧k v:=by
 cases x with
 | tmp t=>simp only [resOneK,getK_eq] at h;exact ⟨_,.tmp rfl,h⟩
 | cell t sz ag =>
  simp only [resOneK,getK_eq] at h
  split at h
  ·rename_i i off hv
   obtain ⟨cs,f,h1,h2⟩:=sgetK_ok h
   obtain ⟨h3,h4⟩:=ldK_ok h2
   exact ⟨_,.cell hv h1 h3,h4⟩
  ·exact h.elim
theorem resK_ok {fr:List V} {st:List Slot}:∀ {rs:List ARes} {k:List V→Prop},resK fr st rs k→∃ vs,ResL fr st rs vs∧k vs
 | [],k,h=>⟨[],.nil,h⟩
 | x :: xs,k,h=>by
  obtain ⟨v,h1,h⟩:=resOneK_ok h
  obtain ⟨vs,h2,h⟩:=resK_ok (rs:=xs) h
  exact ⟨v :: vs,.cons h1 h2,h⟩
theorem finR_c {rs:List ARes} {fr:List V} {α:Type} {enc:α→V} {x y:α} (H:some x=some y) (h:resK fr st rs fun vs=>mkRK vs fun v=>FzQ st v (enc x)):FinQ (Fin rs (enc y)) .ret fr st:=by
 cases H
 obtain ⟨vs,h1,h2⟩:=resK_ok h
 rw [mkRK_eq] at h2
 obtain ⟨rd,h2⟩:=h2.out
 exact ⟨.inr rfl,st,.refl,vs,rd,h1,h2⟩
theorem fin0_c {rs:List ARes} {e:AExit} {fr vs:List V} {α:Type} {enc:α→V} {x y:α} (H:some x=some y) (he:e=.normal∨e=.ret) (hr:ResL fr st rs vs) (hv:mkR vs=enc x) (h0:(mkR vs).idlt 0=true):FinQ (Fin rs (enc y)) e fr st:=by
 cases H;exact ⟨he,st,.refl,vs,[],hr,hv ▸ .v (.c (.id h0))⟩
theorem cellsM_app' {α:Type} (f:α→V) (a b:List α):cellsM f (a++b)=cellsM f a++cellsM f b:=by unfold cellsM;rw [List.flatMap_append]
theorem srcM {α:Type} {f:α→V} {es:Nat} (hes:∀ a,(f a).cells.length=es) (l:List α) (fu:Bool):SrcV st es (.sl (l.map f) fu) l.length (cellsM f l) []:=by
 have:=SrcV.sl (st:=st) (es:=es) (ys:=l.map f) (f:=fu) (fun y hy=>by obtain ⟨a,_,rfl⟩:=List.mem_map.1 hy;exact hes a)
 rwa [List.length_map,cellsM_map] at this
theorem srcOwn {α:Type} {f:α→V} {es i fz:Nat} (hes:∀ a,(f a).cells.length=es) {l:List α} {cs:List V} {fu:Bool} {n:Nat} (hi:st[i]?=some (.live cs fz)) (hc:cs=cellsM f l) (hn:n=l.length):SrcV st es (.osl i 0 n es fu) l.length (cellsM f l) [i]:=by
 subst hc hn
 have hl:=cellsM_len hes l
 have:=SrcV.osl (off:=0) (n:=l.length) (es:=es) (f:=fu) hi (by omega)
 rwa [List.drop_zero,← hl,List.take_length] at this
theorem app_len {α:Type} {F G L:List α} (h:app? F G=some L):L=F++G∧F.length + G.length≤1000000:=by
 unfold app? at h
 split at h
 ·simp only [Option.some.injEq] at h;exact ⟨h.symm,‹_›⟩
 ·cases h
theorem appN_c {α:Type} {f:α→V} {F G:List α} {id bytes es:Nat} {s x:V} {rd rd' : List Nat} {X:List α→Option β} {k:V→List Nat→List Nat→List Slot→Prop} (H:(app? F G).bind X=some r) (hes:∀ a,(f a).cells.length=es) (hs:SrcV st es s F.length (cellsM f F) rd) (hfu:s.full=true) (hx:SrcX st es x G.length (cellsM f G) rd')
  (hb:bytes≤1000) (hf:st[id]?=some .fresh) (hg:G≠[]) (h:∀ L,X L=some r→ssetK st id (.live (cellsM f L) (cellsM f L).length) fun st'=>k (.osl id 0 L.length es false) (rd++rd') [id] st'):App st id es bytes s x k:=by
 obtain ⟨L,hL,H⟩:=bind_c H
 obtain ⟨rfl,hn⟩:=app_len hL
 have:=h _ H
 rw [ssetK_eq] at this
 refine App.N hs hfu hx (List.length_pos_iff.2 hg) hn hb hf ?_
 rwa [cellsM_app',List.length_append] at this
theorem appO_c {α:Type} {f:α→V} {F G:List α} {i id bytes es fz:Nat} {x:V} {rd' : List Nat} {X:List α→Option β} {k:V→List Nat→List Nat→List Slot→Prop} (H:(app? F G).bind X=some r) (hes:∀ a,(f a).cells.length=es) (hi:st[i]?=some (.live (cellsM f F) fz)) (hz:fz≤(cellsM f F).length) (hx:SrcX st es x G.length (cellsM f G) rd')
  (hb:bytes≤1000) (hf:st[id]?=some .fresh) (hg:G≠[]) (h:∀ L,X L=some r→ssetK st i .dead fun st1=>ssetK st1 id (.live (cellsM f L) (cellsM f L).length) fun st'=>k (.osl id 0 L.length es false) (rd'++[i]) [i,id] st'):App st id es bytes (.osl i 0 F.length es false) x k:=by
 obtain ⟨L,hL,H⟩:=bind_c H
 obtain ⟨rfl,hn⟩:=app_len hL
 have:=h _ H
 rw [ssetK_eq,ssetK_eq] at this
 refine App.O hi (cellsM_len hes F) hz hx (List.length_pos_iff.2 hg) hn hb hf ?_
 rwa [cellsM_app',List.length_append] at this
theorem appP_c {α:Type} {f:α→V} {F G:List α} {i id bytes es fz:Nat} {x:V} {rd' : List Nat} {X:List α→Option β} {k:V→List Nat→List Nat→List Slot→Prop} (H:(app? F G).bind X=some r) (hes:∀ a,(f a).cells.length=es) (hi:st[i]?=some (.live (cellsM f F) fz)) (hz:fz=(cellsM f F).length) (hx:SrcX st es x G.length (cellsM f G) rd')
  (hb:bytes≤1000) (hf:st[id]?=some .fresh) (h0:∀ L,X L=some r→ssetK st i (.live (cellsM f L) (cellsM f L).length) fun st'=>k (.osl i 0 L.length es false) ([i]++rd') [] st') (h:∀ L,X L=some r→ssetK st i .dead fun st1=>ssetK st1 id (.live (cellsM f L) (cellsM f L).length) fun st'=>k (.osl id 0 L.length es false) (rd'++[i]) [i,id] st'):App st id es bytes (.osl i 0 F.length es false) x k:=by
 by_cases hg:G=[]
 ·obtain ⟨L,hL,H⟩:=bind_c H
  obtain ⟨rfl,hn⟩:=app_len hL
  subst hg hz
  have:=h0 _ H
  rw [ssetK_eq,List.append_nil] at this
  have e:st.set i (.live (cellsM f F) (cellsM f F).length)=st:=by
   apply List.ext_getElem?
   intro j
   rw [List.getElem?_set]
   split
   ·rename_i h;subst h
    split
    ·exact hi.symm
    ·rename_i h;exact absurd (List.getElem?_eq_some_iff.1 hi).1 h
   ·rfl
  rw [e] at this
  exact App.Z (srcOwn hes hi rfl rfl) hx this
 ·exact appO_c H hes hi (Nat.le_of_eq hz) hx hb hf hg h
theorem App.Os {id bytes es i n m frz:Nat} {cs ds' : List V} {x:V} {rd' : List Nat} {k:V→List Nat→List Nat→List Slot→Prop} (hi:st[i]?=some (.live cs frz)) (hl:cs.length=n * es) (hz:frz=0) (hx:SrcX st es x m ds' rd') (hk:0 < m) (hn:n + m≤1000000) (hb:bytes≤1000) (hf:st[id]?=some .fresh)
  (h:k (.osl id 0 (n + m) es false) (rd'++[i]) [i,id] ((st.set i .dead).set id (.live (cs++ds') 0))):App st id es bytes (.osl i 0 n es false) x k:=⟨.inr (.inr ⟨i,n,cs,frz,m,ds',rd',_,rfl,hi,hl,by omega,hx,hk,hn,hb,hf,by omega,Nat.zero_le _,h⟩)⟩
theorem finRz_c {rs:List ARes} {fr:List V} {α:Type} {enc:α→V} {x y:α} (is:List Nat) (H:some x=some y) (h:frzI is st fun st=>resK fr st rs fun vs=>mkRK vs fun v=>FzQ st v (enc x)):FinQ (Fin rs (enc y)) .ret fr st:=by
 cases H
 obtain ⟨st',hf,h⟩:=frzI_ok h
 obtain ⟨vs,h1,h2⟩:=resK_ok h
 rw [mkRK_eq] at h2
 obtain ⟨rd,h2⟩:=h2.out
 exact ⟨.inr rfl,st',hf,vs,rd,h1,h2⟩
end
theorem fb_ {fr:List V} {st:List Slot} {t:Nat} {x y:Bool} (H:some x=some y) (h:fr.getD t .any=V.b x:=by rfl):FinQ (Fin [.tmp t] (V.b y)) .ret fr st:=fin0_c (enc:=V.b) H (.inr rfl) (.cons (.tmp h) .nil) rfl rfl
theorem fi_ {fr:List V} {st:List Slot} {t:Nat} {x y:Int} (H:some x=some y) (h:fr.getD t .any=V.i x:=by rfl):FinQ (Fin [.tmp t] (V.i y)) .ret fr st:=fin0_c (enc:=V.i) H (.inr rfl) (.cons (.tmp h) .nil) rfl rfl
theorem fq_ {fr:List V} {st:List Slot} {t u:Nat} {x y:Int × Bool} (H:some x=some y) (h:fr.getD t .any=V.i x.1:=by rfl) (h2:fr.getD u .any=V.b x.2:=by rfl):FinQ (Fin [.tmp t,.tmp u] (.tup [V.i y.1,V.b y.2])) .ret fr st:=fin0_c (enc:=fun r:Int × Bool=>.tup [V.i r.1,V.b r.2]) H (.inr rfl) (.cons (.tmp h) (.cons (.tmp h2) .nil)) rfl rfl
abbrev O_ (d:Nat) (x:AOp) (c:Nat):AOper:=⟨some d,x,none,c⟩
abbrev t_ (n:Nat):Operand:=.tmp n
abbrev i_ (n:Int):Operand:=.const (.int .i64 n)
abbrev b_ (b:Bool):Operand:=.const (.bool b)
abbrev R_ (n:Nat) (l:List AOper):BCode:=.reg n l none 0 []
abbrev U_ (x:AOp) (c:Nat):AOper:=⟨none,x,none,c⟩
theorem lq_ {a b:Nat} {q:Prop} (h:q) (e:Nat.ble a b=true:=by rfl):a≤b∧q:=⟨Nat.le_of_ble_eq_true e,h⟩
end Go.Proofs.YtdoakplhalonfaaGreat

namespace Go.Proofs.YtdoakplhalonfaaGreat
open Go.RowKit
structure RuntimeBoundsError where
 x:Int
 y:Int
 signed:Bool
 code:Int
abbrev RuntimeBoundsError.v (x:RuntimeBoundsError):V:=.agg [.i x.x,.i x.y,.b x.signed,.y8 x.code]
structure RuntimeErrorAddressString where
 msg:ByteArray
 addr:Int
abbrev RuntimeErrorAddressString.v (x:RuntimeErrorAddressString):V:=.agg [.s x.msg,.lit (.int .u64 x.addr)]
structure SnapState where
 On:Bool
 Begun:Bool
 After:ByteArray
 Told:Int
abbrev SnapState.v (x:SnapState):V:=.agg [.b x.On,.b x.Begun,.s x.After,.i x.Told]
structure PresPres where
 On:Bool
 Show:Int
 Prio:Int
 Seq:Int
abbrev PresPres.v (x:PresPres):V:=.agg [.b x.On,.i x.Show,.i x.Prio,.i x.Seq]
structure MailEntry where
 Key:ByteArray
 P:PresPres
abbrev MailEntry.v (x:MailEntry):V:=.agg [.s x.Key,.b x.P.On,.i x.P.Show,.i x.P.Prio,.i x.P.Seq]
structure Ref27State where
 Mail:List MailEntry
 Snap:SnapState
 Sent:Int
 Lost:Int
abbrev Ref27State.v (x:Ref27State):V:=.agg [.sl (List.map MailEntry.v x.Mail) false,.b x.Snap.On,.b x.Snap.Begun,.s x.Snap.After,.i x.Snap.Told,.i x.Sent,.i x.Lost]
structure SnapEyes where
 Users:List ByteArray
 Keys:List ByteArray
abbrev SnapEyes.v (x:SnapEyes):V:=.agg [.sl (List.map V.s x.Users) false,.sl (List.map V.s x.Keys) false]
structure BookRow where
 User:ByteArray
 Res:ByteArray
 P:PresPres
abbrev BookRow.v (x:BookRow):V:=.agg [.s x.User,.s x.Res,.b x.P.On,.i x.P.Show,.i x.P.Prio,.i x.P.Seq]
structure BookState where
 Seq:Int
 Rows:List BookRow
abbrev BookState.v (x:BookState):V:=.agg [.i x.Seq,.sl (List.map BookRow.v x.Rows) false]
structure StanzaStanza where
 Kind:Int
 User:ByteArray
 Res:ByteArray
 Name:ByteArray
 Show:Int
 Prio:Int
 Code:Int
 N:Int
abbrev StanzaStanza.v (x:StanzaStanza):V:=.agg [.y8 x.Kind,.s x.User,.s x.Res,.s x.Name,.i x.Show,.i x.Prio,.i x.Code,.i x.N]
structure Law27Deed where
 Who:Int
 Show:Int
 Off:Bool
 Tell:Int
 Anew:Bool
abbrev Law27Deed.v (x:Law27Deed):V:=.agg [.y8 x.Who,.y8 x.Show,.b x.Off,.y8 x.Tell,.b x.Anew]
structure OutqCounter where
 sent:Int
abbrev OutqCounter.v (x:OutqCounter):V:=.agg [.i x.sent]
structure OutqTeller where
 counter:OutqCounter
 st:Ref27State
 eyes:SnapEyes
 book:BookState
abbrev OutqTeller.v (x:OutqTeller):V:=.agg [.i x.counter.sent,.sl (List.map MailEntry.v x.st.Mail) false,.b x.st.Snap.On,.b x.st.Snap.Begun,.s x.st.Snap.After,.i x.st.Snap.Told,.i x.st.Sent,.i x.st.Lost,.sl (List.map V.s x.eyes.Users) false,.sl (List.map V.s x.eyes.Keys) false,.i x.book.Seq,.sl (List.map BookRow.v x.book.Rows) false]
structure AddrAddr where
 Name:ByteArray
 Host:ByteArray
 Res:ByteArray
abbrev AddrAddr.v (x:AddrAddr):V:=.agg [.s x.Name,.s x.Host,.s x.Res]
structure UtfForm where
 from_:Int
 mark:Int
 bits:Int
abbrev UtfForm.v (x:UtfForm):V:=.agg [.i x.from_,.y8 x.mark,.y8 x.bits]
end Go.Proofs.YtdoakplhalonfaaGreat

namespace Go.Proofs.YtdoakplhalonfaaGreat
open Go.ChangeShapes Go.WideShapes Go.ChangeAt Go.RowKit Go.Joins Go.Deep
section
variable {H : Type} {enc : TypeId × Value → H} {P : Program} {W : World} {spare : Nat → Bool} {held : Bool} {fuel : Nat} {t e : TypeId} {cs : List Value} {y : DataW H × List MemPlace}
abbrev MW (W:World):Mem:=fun a=>W.cell? a
theorem repL_one {m:Mem} {bk:Bks} {c:Value} {v:V} (h:Rep m bk c v):RepL m bk [c] [v] :=
 ⟨rfl,fun j g1 g2=>match j,g1 with
  | 0,_=>h
  | j + 1,g=>absurd g (by simp)⟩
theorem repL_nil {m:Mem} {bk:Bks}:RepL m bk [] []:=⟨rfl,fun j g1 g2=>absurd g1 (by simp)⟩
theorem repL_app {m:Mem} {bk:Bks} {c1 c2:List Value} {v1 v2:List V} (h1:RepL m bk c1 v1) (h2:RepL m bk c2 v2):RepL m bk (c1++c2) (v1++v2):=by
 obtain ⟨e1,h1⟩:=h1
 obtain ⟨e2,h2⟩:=h2
 refine ⟨by rw [List.length_append,List.length_append,e1,e2],fun j g1 g2=>?_⟩
 rw [List.length_append] at g1
 by_cases h:j < c1.length
 ·rw [List.getElem_append_left h,List.getElem_append_left (by omega)]
  exact h1 j h _
 ·rw [List.getElem_append_right (by omega),List.getElem_append_right (by omega)]
  have:=h2 (j - c1.length) (by omega) (by omega)
  have e:j - v1.length=j - c1.length:=by omega
  simp only [e]
  exact this
theorem rd_int {k:IntKind} (ht:P.underlying t=some (.int k)) (h:DataW.trod enc P W 0 spare held fuel t cs=some y):∃ n,(Lit.int k n).wf=true∧RepL (MW W) noBk cs [.lit (.int k n)]:=by
 obtain ⟨n,rfl,_,wf⟩:=DataW.trod_int ht h
 exact ⟨n,wf,repL_one (.lit rfl)⟩
theorem rd_bool (ht:P.underlying t=some .bool) (h:DataW.trod enc P W 0 spare held fuel t cs=some y):∃ b,RepL (MW W) noBk cs [.lit (.bool b)]:=by
 obtain ⟨n,rfl,_⟩:=DataW.trod_bool ht h
 exact ⟨n,repL_one (.lit rfl)⟩
theorem rd_string (ht:P.underlying t=some .string) (h:DataW.trod enc P W 0 spare held fuel t cs=some y):∃ s,RepL (MW W) noBk cs [.lit (.string s)]:=by
 obtain ⟨n,rfl,_⟩:=DataW.trod_string ht h
 exact ⟨n,repL_one (.lit rfl)⟩
theorem rd_slice {α:Type} {f:α→V} {es:Nat} {wf:α→Prop} (ht:P.underlying t=some (.slice e)) (hes:∀ a,(f a).cells.length=es) (h1:∀ a,∀ v ∈ (f a).cells,v.one=true) (hp:0 < es) (hce:P.cellsOf e=es)
  (hel:∀ n cs y,DataW.trod enc P W 0 spare held n e cs=some y→∃ x,wf x∧RepL (MW W) noBk cs (f x).cells) (h:DataW.trod enc P W 0 spare held fuel t cs=some y):∃ l:List α,(∀ x ∈ l,wf x)∧RepL (MW W) noBk cs [.sl (l.map f) false]:=by
 rcases open_slice ht h with ⟨rfl,_⟩ | ⟨a,len,cap,m,n,D,Pl,rfl,_,hl,_,hm,_,hall⟩
 ·exact ⟨[],by simp,repL_one (.slnil fun e=>by cases e)⟩
 ·rcases Nat.eq_zero_or_pos len with rfl | hpos
  ·exact ⟨[],by simp,repL_one (.slnil fun e=>by cases e)⟩
  ·have hlm:len≤m:=by rw [hm];split <;> omega
   have hx:∀ i,i < len→∃ (x:{x:α // wf x}) (cs:List Value),W.cells? 0 (a.add (i * es)) es=some cs∧∀ j (hj:j < (f x.1).cells.length) (hj' : j < cs.length),Rep (fun p=>W.cell? p) noBk cs[j] (f x.1).cells[j]:=by
    intro i hi
    obtain ⟨cs',hc,hd⟩:=hall i (by omega)
    rw [hce] at hc
    obtain ⟨x,hw,hr⟩:=hel _ _ _ hd
    exact ⟨⟨x,hw⟩,cs',hc,fun j hj hj'=>hr.2 j hj' hj⟩
   obtain ⟨x0,_⟩:=hx 0 hpos
   haveI:Inhabited {x:α // wf x}:=⟨x0⟩
   obtain ⟨l,_,hr⟩:=rep_slice (f:=fun x:{x:α // wf x}=>f x.1) (fun a=>hes a.1) (fun a=>h1 a.1) hp hl hx
   refine ⟨l.map (·.1),?_,?_⟩
   ·intro x hx
    obtain ⟨y,_,rfl⟩:=List.mem_map.1 hx
    exact y.2
   ·rw [List.map_map];exact repL_one hr
theorem rep_aggL {m:Mem} {bk:Bks} {cs:Array Value} {vs:List V} (h:RepL m bk cs.toList vs) (h1:∀ u ∈ vs,u.one=true):Rep m bk (.agg cs) (.agg vs):=rep_agg h h1
theorem get_some {α:Type} {xs:List α} {n i:Nat} (h:xs.length=n) (hi:i < n):∃ y,xs[i]?=some y:=⟨xs[i],List.getElem?_eq_getElem (by omega)⟩
theorem callsO_true {f:FuncId} {args:List V} {m:Option Bool} (h:CallsO P f args V.b m) (hm:m=some true):CallsV P f args (.b true):=h true hm
end
end Go.Proofs.YtdoakplhalonfaaGreat

namespace Go.Proofs.YtdoakplhalonfaaGreat
open Go.RowKit
def _root_.Go.Code.ranges:Code→List Code
 | .rangeFunc f ps a b=>[.rangeFunc f ps a b]
 | .seq a b=>a.ranges++b.ranges
 | .cond _ a b=>a.ranges++b.ranges
 | .block _ a=>a.ranges
 | .loop a=>a.ranges
 | .scope a=>a.ranges
 | _=>[]
def rangeAt (fn:Func) (i:Nat):Code:=match fn.body with
 | some c=>c.ranges.getD i .skip
 | none=>.skip
def rangeAsg:Code→Code
 | .rangeFunc _ _ a _=>a
 | c=>c
def rangeBody:Code→Code
 | .rangeFunc _ _ _ b=>b
 | c=>c
structure RoundEnd (n0 id:Nat) (s:ByteArray) (J:List Slot→Prop) (Q:AExit→List V→List Slot→Prop) (fr:List V) (e:AExit) (st3:List Slot):Prop where
 out:st3[id]?=some (.live [.s s] 0)∧(e=.normal→∃ n sg st4,Wk n0 n sg fr fr st3 st4∧J st4)∧(e≠.normal→∀ s' : ByteArray,Q e fr (st3.set id (.live [.s s'] 0)))
structure BodyAt (P:Program) (y:BCode) (n0 id:Nat) (st1:List Slot) (J:List Slot→Prop) (Q:AExit→List V→List Slot→Prop) (fr fr1:List V) (st2:List Slot):Prop where
 same:st2[id]?=st1[id]?
 next:∀ s:ByteArray,wpC P st2.length y (fun e _ st3=>RoundEnd n0 id s J Q fr e st3) fr1 (st2.set id (.live [.s s] 0))
def asgQ (P:Program) (y:BCode) (n0 id:Nat) (st1:List Slot) (J:List Slot→Prop) (Q:AExit→List V→List Slot→Prop) (fr:List V):AExit→List V→List Slot→Prop:=fun e fr1 st2=>match e with
 | .normal=>BodyAt P y n0 id st1 J Q fr fr1 st2
 | _=>False
theorem range_c {P:Program} {n0:Nat} {α:Type} {g:Operand} {ps:Array Tmp} {assign body:Code} {x y:BCode} {Q:AExit→List V→List Slot→Prop} {fr:List V} {st:List Slot} {gf id:Nat} {caps:List V} {encs:α→List Value} {aen:α→List V} {xs:List α}
  (hmix:P.follows .mixedOrders=true) (hx:comp P assign=some x.er) (hy:comp P body=some y.er) (f1:x.er.flat=true) (f2:y.er.flat=true) (s1:assign.scopes=false) (s2:body.scopes=false)
  (eg:∀ args w,(callFunc gf args).run P w=.ok (.enter gf args) w) (hf:evO fr g=.clo (.func gf) caps) (hit:ItS P gf caps st id encs xs) (haen:∀ z (m:Mem) (bk:Bks),RepL m bk (encs z) (aen z)) (hps:∀ z,(encs z).length=ps.size)
  (J:List α→List Slot→Prop) (hJ:∀ pre st1 (s:ByteArray),J pre st1→J pre (st1.set id (.live [.s s] 0))) (hJt:∀ pre st1,J pre st1→∃ s:ByteArray,st1[id]?=some (.live [.s s] 0)) (h0:J [] st)
  (hround:∀ pre z post st1,xs=pre++z :: post→J pre st1→wpC P st1.length x (asgQ P y st.length id st1 (J (pre++[z])) Q fr) ((ps.toList.zip (aen z)).foldl (fun t x=>t.set x.1 x.2) fr) st1)
  (hdone:∀ st1,J xs st1→Q .normal fr st1):RawQ P n0 (.rangeFunc g ps assign body) Q fr st :=
 ⟨fun Q' hq B m0 bk0 w0 a w hg hmk _ hcn=>range_sound hmix hg (comp_ok hx) (comp_ok hy) f1 f2 s1 s2 eg hf hit haen hps J hJ hJt h0 (fun pre z post st1 hxs hj=>wpC_ok (fun e fr1 st2 h=>by
  cases e with
  | normal =>
   refine ⟨rfl,h.same,fun s=>wpC_ok (fun e fr3 st3 h=>?_) (h.next s)⟩
   exact ⟨h.out.1,h.out.2.1,fun he s'=>hq _ _ _ (h.out.2.2 he s')⟩
  | _=>exact h.elim) (hround pre z post st1 hxs hj)) (fun st1 hj=>hq _ _ _ (hdone st1 hj)) hcn hmk⟩
end Go.Proofs.YtdoakplhalonfaaGreat

namespace Go.Proofs.YtdoakplhalonfaaGreat
open Go.RowKit
def da139:BCode:=(.reg 1 [⟨(some 7),.al (.agg [(.lit (.string ⟨#[]⟩)),(.lit (.string ⟨#[]⟩)),(.lit (.bool false)),(.lit (.int .i64 0)),(.lit (.int .i64 0)),(.lit (.int .i64 0))]),none,0⟩,⟨none,.st 6 (.tmp 7) (.tmp 12),none,1⟩] none 0 [])
def db139:BCode:=(.block 1 (.reg 2 [⟨(some 13),.ld 1 false (.tmp 5),none,0⟩,⟨(some 14),.ld 6 true (.tmp 7),none,0⟩,⟨(some 15),.bs 6 1 [(.lit (.string ⟨#[]⟩)),(.lit (.string ⟨#[]⟩)),(.lit (.bool false)),(.lit (.int .i64 0)),(.lit (.int .i64 0)),(.lit (.int .i64 0))] [(0,(.tmp 14))],none,0⟩,⟨(some 16),.ap 6 64 (.tmp 13) (.tmp 15),none,1⟩,⟨none,.st 1 (.tmp 5) (.tmp 16),none,2⟩] none 0 []))
theorem rg139:rangeAt Tryz.f139 0=.rangeFunc (.tmp 10) #[11,12] (rangeAsg (rangeAt Tryz.f139 0)) (rangeBody (rangeAt Tryz.f139 0)):=by kernel_rfl
theorem da139_ok:comp Tryz.prog (rangeAsg (rangeAt Tryz.f139 0))=some da139.er:=by unfold da139;kernel_rfl
theorem db139_ok:comp Tryz.prog (rangeBody (rangeAt Tryz.f139 0))=some db139.er:=by unfold db139;kernel_rfl
theorem fl139:da139.er.flat=true∧db139.er.flat=true:=⟨rfl,rfl⟩
theorem sc139:(rangeAsg (rangeAt Tryz.f139 0)).scopes=false∧(rangeBody (rangeAt Tryz.f139 0)).scopes=false:=⟨by kernel_rfl,by kernel_rfl⟩
end Go.Proofs.YtdoakplhalonfaaGreat

