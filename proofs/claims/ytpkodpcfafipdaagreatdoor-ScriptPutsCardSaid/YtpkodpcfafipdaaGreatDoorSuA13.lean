/- A part of the proof: 15 texts joined. -/
import Derived.Test.YtpkodpcfafipdaaGreatDoorSuA12
import Derived.KernelRfl
import Derived.OpenShut
import Derived.Test.YtpkodpcfafipdaaGreatDoorSuA1
import Derived.Shelf.Spec.SlicesInsertGrow
import Derived.Test.YtpkodpcfafipdaaGreatDoorSuA11
import Derived.Test.YtpkodpcfafipdaaGreatDoorSuA7
set_option linter.all false
namespace Go.Proofs.YtpkodpcfafipdaaGreatDoor
open Go.RowKit
section
variable {P : Program} {n0 : Nat}
inductive BCode where
 | skip
 | reg (nc:Nat) (ops:List AOper) (bef:Option (List (List Nat))) (x:Nat) (fz:List Nat)
 | seq (a b:BCode)
 | join (a b:BCode)
 | cond (c:Operand) (a b:BCode)
 | block (id:Nat) (a:BCode)
 | loop (a:BCode)
 | exit (id:Nat)
 | ret
 | raw (c:Code)
def BCode.er:BCode→ACode
 | .skip=>.skip
 | .reg nc ops bef _ _=>.reg nc ops bef
 | .seq a b=>.seq a.er b.er
 | .join a b=>.seq a.er b.er
 | .cond c a b=>.cond c a.er b.er
 | .block id a=>.block id a.er
 | .loop a=>.loop a.er
 | .exit id=>.exit id
 | .ret=>.ret
 | .raw c=>.raw c
def ownId:V→Option Nat
 | .ptr i _=>some i
 | .osl i _ _ _ _=>some i
 | _=>none
def frzK (fr:List V):List Slot→List Nat→(List Slot→Prop)→Prop
 | st,[],k=>k st
 | st,t :: ts,k=>getK fr t fun v=>match ownId v with
  | some i=>sgetK st i fun cs f=>Nat.le f cs.length∧ssetK st i (.live cs cs.length) fun st'=>frzK fr st' ts k
  | none=>False
def frzI:List Nat→List Slot→(List Slot→Prop)→Prop
 | [],st,k=>k st
 | i :: is,st,k=>sgetK st i fun cs f=>Nat.le f cs.length∧ssetK st i (.live cs cs.length) fun st'=>frzI is st' k
theorem Frz.trans {st st1 st2:List Slot} (h:Frz st st1) (h2:Frz st1 st2):Frz st st2:=by
 induction h2 with
 | refl=>exact h
 | step _ hi h1 h2 ih=>exact .step ih hi h1 h2
theorem frzK_ok {fr:List V}:∀ {ts:List Nat} {st:List Slot} {k:List Slot→Prop},frzK fr st ts k→∃ st',Frz st st'∧k st'
 | [],st,k,h=>⟨st,.refl,h⟩
 | t :: ts,st,k,h=>by
  rw [frzK,getK_eq] at h
  split at h
  ·obtain ⟨cs,f,h1,h2,h3⟩:=sgetK_ok h
   rw [ssetK_eq] at h3
   obtain ⟨st',h4,h5⟩:=frzK_ok h3
   exact ⟨st',(Frz.step .refl h1 h2 (Nat.le_refl _)).trans h4,h5⟩
  ·exact h.elim
theorem frzI_ok:∀ {is:List Nat} {st:List Slot} {k:List Slot→Prop},frzI is st k→∃ st',Frz st st'∧k st'
 | [],st,k,h=>⟨st,.refl,h⟩
 | t :: ts,st,k,h=>by
  obtain ⟨cs,f,h1,h2,h3⟩:=sgetK_ok h
  rw [ssetK_eq] at h3
  obtain ⟨st',h4,h5⟩:=frzI_ok h3
  exact ⟨st',(Frz.step .refl h1 h2 (Nat.le_refl _)).trans h4,h5⟩
structure FootQ (bef:List (List Nat)) (fp:List (List Nat × List Nat)) (A:Prop):Prop where
 out:footB bef fp.reverse=true∧A
structure LoopQ (P:Program) (n0:Nat) (a:BCode) (Q:AExit→List V→List Slot→Prop) (fr:List V) (st:List Slot):Prop where
 out:∀ Q' : AExit→List V→List Slot→Prop,(∀ e fr st,Q e fr st→Q' e fr st)→AW P n0 (.loop a.er) Q' fr st
structure RawQ (P:Program) (n0:Nat) (c:Code) (Q:AExit→List V→List Slot→Prop) (fr:List V) (st:List Slot):Prop where
 out:∀ Q' : AExit→List V→List Slot→Prop,(∀ e fr st,Q e fr st→Q' e fr st)→AW P n0 (.raw c) Q' fr st
structure JoinQ (P:Program) (n0:Nat) (a b:BCode) (Q:AExit→List V→List Slot→Prop) (fr:List V) (st:List Slot):Prop where
 out:∀ Q' : AExit→List V→List Slot→Prop,(∀ e fr st,Q e fr st→Q' e fr st)→AW P n0 (.seq a.er b.er) Q' fr st
structure ArriveQ (n0:Nat) (J:List V→List Slot→Prop) (base:List V) (car:List Nat) (fr:List V) (st:List Slot):Prop where
 out:∃ k sg fr'' st'',Wk n0 k sg fr fr'' st st''∧∃ vals,J vals st''∧fr''=setF base car vals
structure FinQ (F:AExit→List V→List Slot→Prop) (e:AExit) (fr:List V) (st:List Slot):Prop where
 out:F e fr st
structure AgainQ (n0:Nat) (J:Nat→List V→List Slot→Prop) (n:Nat) (base:List V) (car:List Nat) (fr:List V) (st:List Slot):Prop where
 out:∃ n' k sg fr'' st'',n' < n∧Wk n0 k sg fr fr'' st st''∧∃ vals,J n' vals st''∧fr''=setF base car vals
def padK:List Slot→Nat→Nat→(List Slot→Nat→Prop)→Prop
 | s :: l,a,nc,k=>padK l (a + 1) nc fun l' n=>k (s :: l') n
 | [],a,nc,k=>rep nc fun l=>k l a
where rep:Nat→(List Slot→Prop)→Prop
 | 0,k=>k []
 | n + 1,k=>rep n fun l=>k (.fresh :: l)
theorem padK_rep:∀ (n:Nat) (k:List Slot→Prop),padK.rep n k=k (List.replicate n .fresh)
 | 0,k=>rfl
 | n + 1,k=>by rw [padK.rep,padK_rep n];rfl
theorem padK_eq:∀ (l:List Slot) (a nc:Nat) (k:List Slot→Nat→Prop),padK l a nc k=k (l++List.replicate nc .fresh) (a + l.length)
 | [],a,nc,k=>by rw [padK,padK_rep];simp
 | s :: l,a,nc,k=>by rw [padK,padK_eq l];simp [Nat.add_assoc,Nat.add_comm 1]
def footK (bef:Option (List (List Nat))) (fp:List (List Nat × List Nat)) (A:Prop):Prop :=
 match bef with
 | none=>A
 | some b=>FootQ b fp A
def exK (b:Bool) (A B:Prop):Prop :=
 match b with
 | true=>A
 | false=>B
abbrev OpsT:=List (List Nat × List Nat)→List V→List Slot→(List (List Nat × List Nat)→List V→List Slot→Prop)→Prop
def opsStep (P:Program) (base:Nat) (o:AOper) (ih:OpsT):OpsT:=fun fp fr st K =>
 match o with
 | ⟨d,op,none,c⟩=>wpOp P fr st (base + c) op fun fr v rd wr st'=>putK fr d v fun fr=>ih ((rd,wr) :: fp) fr st' K
 | ⟨d,op,some (t,w),c⟩=>getK fr t fun g=>match g with
  | .lit (.bool b)=>Tst b
   (setK fr t (.lit (.bool true)) fun fr=>match w with
    | true=>wpOp P fr st (base + c) op fun fr v rd wr st'=>putK fr d v fun fr=>ih ((rd,wr) :: fp) fr st' K
    | false=>putK fr d (.tup []) fun fr=>ih (([],[]) :: fp) fr st K)
   (setK fr t (.lit (.bool false)) fun fr=>match w with
    | false=>wpOp P fr st (base + c) op fun fr v rd wr st'=>putK fr d v fun fr=>ih ((rd,wr) :: fp) fr st' K
    | true=>putK fr d (.tup []) fun fr=>ih (([],[]) :: fp) fr st K)
  | .tup []=>putK fr d (.tup []) fun fr=>ih (([],[]) :: fp) fr st K
  | _=>False
def wqOps (P:Program) (base:Nat) (os:List AOper):OpsT:=List.rec (motive:=fun _=>OpsT) (fun fp fr st K=>K fp fr st) (fun o _ ih=>opsStep P base o ih) os
theorem wqOps_eq {P:Program} {base:Nat}:∀ os:List AOper,wqOps P base os=wpOps P base os
 | []=>rfl
 | o :: os=>by
  have ih:List.rec (motive:=fun _=>OpsT) (fun fp fr st K=>K fp fr st) (fun o _ ih=>opsStep P base o ih) os=wpOps P base os:=wqOps_eq os
  show opsStep P base o (List.rec (motive:=fun _=>OpsT) (fun fp fr st K=>K fp fr st) (fun o _ ih=>opsStep P base o ih) os)=wpOps P base (o :: os)
  rw [ih]
  obtain ⟨d,op,g,c⟩:=o
  cases g <;> rfl
abbrev CodeT:=(AExit→List V→List Slot→Prop)→List V→List Slot→Prop
def thenQ (b:CodeT) (Q:AExit→List V→List Slot→Prop):AExit→List V→List Slot→Prop:=fun e fr st=>match e with
 | .normal=>b Q fr st
 | e=>Q e fr st
def blockQ (id:Nat) (Q:AExit→List V→List Slot→Prop):AExit→List V→List Slot→Prop:=fun e fr st=>match e with
 | .exit j=>exK (Nat.beq j id) (Q .normal fr st) (Q (.exit j) fr st)
 | e=>Q e fr st
def condK (fr:List V) (st:List Slot) (c:Operand) (a b:CodeT) (Q:AExit→List V→List Slot→Prop):Prop:=opK fr c fun v=>match v with
 | .lit (.bool t)=>Tst t (Setb fr c true fun fr=>a Q fr st) (Setb fr c false fun fr=>b Q fr st)
 | _=>False
def wpC (P:Program) (n0:Nat) (c:BCode):CodeT:=BCode.rec (motive:=fun _=>CodeT)
 (fun Q fr st=>Q .normal fr st)
 (fun nc ops bef x fz Q fr st=>frzK fr st fz fun st=>padK st 0 (nc + x) fun st' n=>wqOps P n ops [] fr st' fun fp fr st=>footK bef fp (Q .normal fr st))
 (fun _ _ a b Q fr st=>a (thenQ b Q) fr st)
 (fun a b _ _ Q fr st=>JoinQ P n0 a b Q fr st)
 (fun c _ _ a b Q fr st=>condK fr st c a b Q)
 (fun id _ a Q fr st=>a (blockQ id Q) fr st)
 (fun a _ Q fr st=>LoopQ P n0 a Q fr st)
 (fun id Q fr st=>Q (.exit id) fr st)
 (fun Q fr st=>Q .ret fr st)
 (fun c Q fr st=>RawQ P n0 c Q fr st) c
theorem wpC_ok:∀ {c:BCode} {Q Q' : AExit→List V→List Slot→Prop} {fr:List V} {st:List Slot},(∀ e fr st,Q e fr st→Q' e fr st)→wpC P n0 c Q fr st→AW P n0 c.er Q' fr st
 | .skip,Q,Q',fr,st,hq,h=>hq _ _ _ h
 | .reg nc ops none x fz,Q,Q',fr,st,hq,h=>by
  obtain ⟨st',hf,h⟩:=frzK_ok (k:=fun st=>padK st 0 (nc + x) fun st' n=>wqOps P n ops [] fr st' fun fp fr st=>footK none fp (Q .normal fr st)) h
  simp only [padK_eq,Nat.zero_add,footK,wqOps_eq] at h
  exact ⟨st',x,hf,AOps_mono (fun _ _ _ h=>hq _ _ _ h) (wpOps_ok h)⟩
 | .reg nc ops (some bef) x fz,Q,Q',fr,st,hq,h=>by
  obtain ⟨st',hf,h⟩:=frzK_ok (k:=fun st=>padK st 0 (nc + x) fun st' n=>wqOps P n ops [] fr st' fun fp fr st=>footK (some bef) fp (Q .normal fr st)) h
  simp only [padK_eq,Nat.zero_add,footK,wqOps_eq] at h
  exact ⟨st',x,hf,AOps_mono (fun _ _ _ h=>⟨h.out.1,hq _ _ _ h.out.2⟩) (wpOps_ok h)⟩
 | .seq a b,Q,Q',fr,st,hq,h=>by
  refine wpC_ok (c:=a) (Q:=thenQ (wpC P n0 b) Q) (fun e fr st h=>?_) h
  cases e with
  | normal=>exact .inl (wpC_ok (c:=b) hq h)
  | _=>exact hq _ _ _ h
 | .join a b,Q,Q',fr,st,hq,h=>JoinQ.out h Q' hq
 | .cond c a b,Q,Q',fr,st,hq,h=>by
  change condK fr st c (wpC P n0 a) (wpC P n0 b) Q at h
  simp only [condK,opK_eq] at h
  split at h
  ·rename_i t hc
   refine ⟨t,hc,fun e=>?_,fun e=>?_⟩
   ·subst e;exact wpC_ok hq (setb_ok (K:=fun fr=>wpC P n0 a Q fr st) hc (h.out.1 rfl))
   ·subst e;exact wpC_ok hq (setb_ok (K:=fun fr=>wpC P n0 b Q fr st) hc (h.out.2 rfl))
  ·exact h.elim
 | .block id a,Q,Q',fr,st,hq,h=>by
  refine wpC_ok (c:=a) (Q:=blockQ id Q) (fun e fr st h=>?_) h
  cases e with
  | exit j =>
   by_cases hj:j=id
   ·have:Nat.beq j id=true:=by rw [hj];exact Nat.beq_refl id
    simp only [blockQ,this,exK] at h
    simp only [hj,if_true];exact hq _ _ _ h
   ·have:Nat.beq j id=false:=Bool.eq_false_iff.2 fun e=>hj (Nat.eq_of_beq_eq_true e)
    simp only [blockQ,this,exK] at h
    simp only [hj,if_false];exact hq _ _ _ h
  | _=>exact hq _ _ _ h
 | .loop a,Q,Q',fr,st,hq,h=>LoopQ.out h Q' hq
 | .exit id,Q,Q',fr,st,hq,h=>hq _ _ _ h
 | .ret,Q,Q',fr,st,hq,h=>hq _ _ _ h
 | .raw c,Q,Q',fr,st,hq,h=>RawQ.out h Q' hq
def setsK:List V→List Nat→List V→(List V→Prop)→Prop
 | fr,t :: ts,v :: vs,k=>setK fr t v fun fr=>setsK fr ts vs k
 | fr,_,_,k=>k fr
theorem setsK_eq:∀ (ts:List Nat) (fr vs:List V) (k:List V→Prop),setsK fr ts vs k=k (setF fr ts vs)
 | t :: ts,fr,v :: vs,k=>by rw [setsK,setK_eq,setsK_eq ts];rfl
 | [],fr,vs,k=>by simp [setsK,setF]
 | t :: ts,fr,[],k=>by simp [setsK,setF]
def maskK:List V→List Nat→(List V→Prop)→Prop
 | fr,t :: ts,k=>setK fr t .any fun fr=>maskK fr ts k
 | fr,[],k=>k fr
theorem maskK_eq:∀ (ts:List Nat) (fr:List V) (k:List V→Prop),maskK fr ts k=k (maskF ts fr)
 | t :: ts,fr,k=>by rw [maskK,setK_eq,maskK_eq ts];rfl
 | [],fr,k=>rfl
def againK (n0:Nat) (J:Nat→List V→List Slot→Prop) (n:Nat) (base:List V) (car:List Nat) (Q:AExit→List V→List Slot→Prop):AExit→List V→List Slot→Prop :=
 fun e fr st=>match e with
 | .normal=>AgainQ n0 J n base car fr st
 | e=>Q e fr st
theorem renL_at {sg:List Nat}:∀ (l:List V) (t:Nat) (h:t < l.length),(V.ren.renL sg l)[t]'(by rw [renL_len];exact h)=(l[t]).ren sg
 | v :: l,0,_=>rfl
 | v :: l,t + 1,h=>by simp only [V.ren.renL,List.getElem_cons_succ];exact renL_at l t (Nat.lt_of_succ_lt_succ h)
theorem maskF_len:∀ (ts:List Nat) (fr:List V),(maskF ts fr).length=fr.length
 | [],fr=>rfl
 | t :: ts,fr=>by rw [maskF,maskF_len ts,List.length_set]
theorem maskF_at:∀ (ts:List Nat) (fr:List V) (t:Nat) (h1:t < (maskF ts fr).length) (h2:t < fr.length),(maskF ts fr)[t]=.any∨(maskF ts fr)[t]=fr[t]
 | [],fr,t,h1,h2=>.inr rfl
 | u :: ts,fr,t,h1,h2=>by
  have:=maskF_at ts (fr.set u .any) t h1 (by rw [List.length_set];exact h2)
  rcases this with h | h
  ·exact .inl h
  ·by_cases e:u=t
   ·left
    show (maskF ts (fr.set u .any))[t]=.any
    rw [h];subst e;simp
   ·right
    show (maskF ts (fr.set u .any))[t]=fr[t]
    rw [h,List.getElem_set_ne e]
theorem wk_mask {n:Nat} {sg junk:List Nat} {fr fr' : List V} {st st' : List Slot} (h0:n0≤n) (hfx:((List.range n0).all fun i=>sgm sg i == i)=true) (hm:V.ren.renL sg fr'=maskF junk fr) (hid:V.idlt.belowL n fr'=true) (hl:st'.length=n) (hb:wkB n sg st 0 st'):Wk n0 n sg fr fr' st st':=by
 obtain ⟨g1,g2⟩:=wkB_ok hb
 simp only [Nat.zero_add] at g1 g2
 have hlen:fr'.length=fr.length:=by rw [← renL_len (sg:=sg) fr',hm,maskF_len]
 refine ⟨h0,fun i hi=>?_,hlen,fun t h1 h2=>?_,hl,fun i cs f h=>⟨(g1 i cs f h).1,(g1 i cs f h).2.1⟩,g2,fun i j ci fi cj fj hi hj e=>?_⟩
 ·simp only [List.all_eq_true,List.mem_range,beq_iff_eq] at hfx
  exact hfx i hi
 ·have e:=renL_at (sg:=sg) fr' t h1
  have e2:(V.ren.renL sg fr')[t]'(by rw [renL_len];exact h1)=(maskF junk fr)[t]'(by rw [maskF_len];exact h2):=by simp only [hm]
  rw [e] at e2
  rcases maskF_at junk fr t (by rw [maskF_len];exact h2) h2 with g | g
  ·left
   rw [g] at e2
   cases hv:fr'[t] <;> rw [hv] at e2 <;> simp [V.ren] at e2
  ·exact .inr ⟨by rw [e2,g],belowL_get hid t h1⟩
 ·have li:=(List.getElem?_eq_some_iff.1 hi).1
  have lj:=(List.getElem?_eq_some_iff.1 hj).1
  rcases Nat.lt_trichotomy i j with h | h | h
  ·exact absurd e ((g1 i ci fi hi).2.2 j h lj)
  ·exact h
  ·exact absurd e.symm ((g1 j cj fj hj).2.2 i h li)
variable {Q : AExit → List V → List Slot → Prop} {fr : List V} {st : List Slot}
theorem loop_c {a:BCode} (car junk junk0:List Nat) (J:Nat→List V→List Slot→Prop) (n1 k0:Nat) (sg0:List Nat) {vals0:List V} {st0:List Slot} (h0:J n1 vals0 st0) (hn:n0≤k0) (hfx:((List.range n0).all fun i=>sgm sg0 i == i)=true)
  (hm:V.ren.renL sg0 (setF (maskF junk fr) car vals0)=maskF junk0 fr) (hid:V.idlt.belowL k0 (setF (maskF junk fr) car vals0)=true) (hl:st0.length=k0) (hb:wkB k0 sg0 st 0 st0)
  (hr:∀ n vals st,J n vals st→maskK fr junk fun base=>setsK base car vals fun fr'=>wpC P n0 a (againK n0 J n base car Q) fr' st):LoopQ P n0 a Q fr st:=by
 refine ⟨fun Q' hq=>w_loop car junk J n1 k0 sg0 vals0 (wk_mask hn hfx hm hid hl hb) h0 fun n vals st hj=>?_⟩
 have:=hr n vals st hj
 rw [maskK_eq,setsK_eq] at this
 refine wpC_ok (fun e fr st h=>?_) this
 cases e with
 | normal=>exact h.out
 | _=>exact hq _ _ _ h
theorem again_c {J:Nat→List V→List Slot→Prop} {n:Nat} {base:List V} {car:List Nat} (junk:List Nat) (n' k:Nat) (sg:List Nat) {vals' : List V} {st'' : List Slot} (hJ:J n' vals' st'') (hlt:n' < n) (hn:n0≤k) (hfx:((List.range n0).all fun i=>sgm sg i == i)=true)
  (hm:V.ren.renL sg (setF base car vals')=maskF junk fr) (hid:V.idlt.belowL k (setF base car vals')=true) (hl:st''.length=k) (hb:wkB k sg st 0 st''):AgainQ n0 J n base car fr st :=
 ⟨n',k,sg,_,st'',hlt,wk_mask hn hfx hm hid hl hb,vals',hJ,rfl⟩
def joinK (n0:Nat) (J:List V→List Slot→Prop) (base:List V) (car:List Nat) (Q:AExit→List V→List Slot→Prop):AExit→List V→List Slot→Prop :=
 fun e fr st=>match e with
 | .normal=>ArriveQ n0 J base car fr st
 | e=>Q e fr st
theorem join_c {a b:BCode} (car junk:List Nat) (J:List V→List Slot→Prop) (ha:maskK fr junk fun base=>wpC P n0 a (joinK n0 J base car Q) fr st)
  (hb:∀ vals st,J vals st→maskK fr junk fun base=>setsK base car vals fun fr'=>wpC P n0 b Q fr' st):JoinQ P n0 a b Q fr st:=by
 rw [maskK_eq] at ha
 refine ⟨fun Q' hq=>wpC_ok (fun e fr' st' h=>?_) ha⟩
 cases e with
 | normal =>
  obtain ⟨k,sg,fr'',st'',hw,vals,hj,rfl⟩:=h.out
  have:=hb vals st'' hj
  rw [maskK_eq,setsK_eq] at this
  exact .inr ⟨k,sg,_,st'',hw,wpC_ok hq this⟩
 | _=>exact hq _ _ _ h
theorem arrive_c {J:List V→List Slot→Prop} {base:List V} {car:List Nat} (junk:List Nat) (k:Nat) (sg:List Nat) {vals' : List V} {st'' : List Slot} (hJ:J vals' st'') (hn:n0≤k) (hfx:((List.range n0).all fun i=>sgm sg i == i)=true)
  (hm:V.ren.renL sg (setF base car vals')=maskF junk fr) (hid:V.idlt.belowL k (setF base car vals')=true) (hl:st''.length=k) (hb:wkB k sg st 0 st''):ArriveQ n0 J base car fr st :=
 ⟨k,sg,_,st'',wk_mask hn hfx hm hid hl hb,vals',hJ,rfl⟩
def initK:List V→Nat→(List V→Prop)→Prop
 | [],n,k=>rep n k
 | v :: l,n + 1,k=>initK l n fun r=>k (v :: r)
 | _ :: _,0,_=>False
where rep:Nat→(List V→Prop)→Prop
 | 0,k=>k []
 | n + 1,k=>rep n fun l=>k (.tup [] :: l)
theorem initK_rep:∀ (n:Nat) (k:List V→Prop),initK.rep n k=k (List.replicate n (.tup []))
 | 0,k=>rfl
 | n + 1,k=>by rw [initK.rep,initK_rep n];rfl
theorem initK_ok:∀ {l:List V} {n:Nat} {k:List V→Prop},initK l n k→k (l++List.replicate (n - l.length) (.tup []))
 | [],n,k,h=>by rw [initK,initK_rep] at h;simpa using h
 | v :: l,n + 1,k,h=>by
  have:=initK_ok (l:=l) (n:=n) h
  simpa using this
 | _ :: _,0,k,h=>h.elim
end
def CallsO {α:Type} (P:Program) (f:FuncId) (args:List V) (enc:α→V) (m:Option α):Prop:=∀ v,m=some v→CallsV P f args (enc v)
theorem callsO_comp {α:Type} {enc:α→V} {m:Option α} {P:Program} {f:FuncId} {fn:Func} {ac:BCode} {n:Nat} {rs:List ARes} {args:List V} (hmix:P.follows .mixedOrders=true) (hf:P.funcs[f]?=some fn) (hc:compF P fn=some (ac.er,n,rs))
  (h:∀ r,m=some r→initK args n fun fr=>wpC P 0 ac (FinQ (Fin rs (enc r))) fr []):CallsO P f args enc m:=fun r hr =>
 callsV_comp hmix hf hc (wpC_ok (fun _ _ _ h=>h.out) (initK_ok (h r hr)))
structure Clo1 {α β:Type} (P:Program) (g:Nat) (caps:List V) (e1:α→V) (enc:β→V) (f:α→Option β):Prop where
 can:Callable P g
 own:V.idlt.belowL 0 caps=true
 calls:∀ a,CallsO P g (e1 a :: caps) enc (f a)
structure Clo2 {α α' β:Type} (P:Program) (g:Nat) (caps:List V) (e1:α→V) (e2:α'→V) (enc:β→V) (f:α→α'→Option β):Prop where
 can:Callable P g
 own:V.idlt.belowL 0 caps=true
 calls:∀ a b,CallsO P g (e1 a :: e2 b :: caps) enc (f a b)
def fuel:Nat:=100000000
abbrev w64 (r:Int):Int:=IntKind.i64.wrap r
def at? {α:Type} (l:List α) (j:Int):Option α:=if 0≤j then l[j.toNat]? else none
def byte? (s:ByteArray) (j:Int):Option Int:=if h:0≤j∧j.toNat < s.size then some (s[j.toNat]'h.2).toNat else none
def sub? (s:ByteArray) (lo hi:Option Int):Option ByteArray:=if 0≤lo.getD 0∧lo.getD 0≤hi.getD s.size∧hi.getD s.size≤s.size then some (s.extract (lo.getD 0).toNat (hi.getD s.size).toNat) else none
def cat? (a b:ByteArray):Option ByteArray:=if a.size + b.size≤4611686018427387904 then some (a++b) else none
def app? {α:Type} (a b:List α):Option (List α):=if a.length + b.length≤1000000 then some (a++b) else none
def pos? (b:Int):Option Unit:=if 0≤b then some () else none
def text? (l:List Int):Option ByteArray:=if l.all (fun b=>decide (0≤b) && decide (b≤255)) then some ⟨(l.map fun b=>UInt8.ofNat b.toNat).toArray⟩ else none
def bytesI (s:ByteArray):List Int:=s.data.toList.map fun b=>(b.toNat:Int)
theorem flatMap_one {α:Type} (g:α→V):∀ l:List α,(l.flatMap fun a=>[g a])=l.map g
 | []=>rfl
 | a :: l=>by rw [List.flatMap_cons,flatMap_one g l];rfl
abbrev V.y8 (n:Int):V:=.lit (.int .u8 n)
abbrev andI (k:IntKind) (a b:Int):Int:=k.wrap (BitVec.ofInt k.bits a &&& BitVec.ofInt k.bits b).toNat
abbrev orI (k:IntKind) (a b:Int):Int:=k.wrap (BitVec.ofInt k.bits a ||| BitVec.ofInt k.bits b).toNat
abbrev xorI (k:IntKind) (a b:Int):Int:=k.wrap (BitVec.ofInt k.bits a ^^^ BitVec.ofInt k.bits b).toNat
abbrev andNotI (k:IntKind) (a b:Int):Int:=k.wrap (BitVec.ofInt k.bits a &&& ~~~ BitVec.ofInt k.bits b).toNat
abbrev shlI (k:IntKind) (a b:Int):Int:=k.wrap (a * 2 ^ (min b.toNat k.bits))
abbrev shrI (k:IntKind) (a b:Int):Int:=a.fdiv (2 ^ (min b.toNat k.bits))
def arr? {α:Type} (n:Nat) (l:List α) (j:Int):Option α:=if l.length=n then at? l j else none
theorem bytesI_V (s:ByteArray):s.data.toList.map byteV=(bytesI s).map V.y8:=by
 unfold bytesI;rw [List.map_map];rfl
theorem text_ok {l:List Int} {s:ByteArray} (h:text? l=some s):l.map V.y8=s.data.toList.map byteV:=by
 unfold text? at h
 split at h
 ·rename_i hc
  simp only [Option.some.injEq] at h
  subst h
  simp only [List.all_eq_true,Bool.and_eq_true,decide_eq_true_eq] at hc
  simp only [List.map_map]
  apply List.map_congr_left
  intro b hb
  have:=hc b hb
  simp only [Function.comp,byteV,V.y8,UInt8.toNat_ofNat']
  congr 2
  omega
 ·cases h
section
variable {β : Type} {r : β} {A B : Prop} {P : Program} {st : List Slot}
theorem bind_c {α:Type} {m:Option α} {X:α→Option β} (H:m.bind X=some r):∃ v,m=some v∧X v=some r:=by
 cases m with
 | none=>cases H
 | some v=>exact ⟨v,rfl,H⟩
theorem join0_c {α:Type} {m:Option α} {X:α→Option β} (H:m.bind X=some r):∃ K:α→Option β,K=X∧∃ v,m=some v∧K v=some r:=by
 obtain ⟨v,h1,h2⟩:=bind_c H
 exact ⟨X,rfl,v,h1,h2⟩
theorem tst_c {b:Bool} {X Y:Option β} (H:(bif b then X else Y)=some r) (h1:b=true→X=some r→A) (h2:b=false→Y=some r→B):Tst b A B:=by
 cases b with
 | true=>exact ⟨fun e=>h1 e H,fun e=>(by cases e)⟩
 | false=>exact ⟨fun e=>(by cases e),fun e=>h2 e H⟩
theorem tst_d {b:Bool} {X Y:Option β} (H:(bif b then X else Y)=some r) (h2:b=false→Y=some r→B) (h1:b=true→X=some r→A):Tst b A B:=tst_c H h1 h2
theorem ixs_c {α:Type} {f:α→V} {l:List α} {j:Int} {es:Nat} {X:α→Option β} {k:V→Prop} (H:(at? l j).bind X=some r) (hes:∀ a,(f a).cells.length=es) (h:∀ x,X x=some r→k (.eptr (f x).cells)):IxS es (l.map f) j k:=by
 obtain ⟨x,hx,H⟩:=bind_c H
 unfold at? at hx
 split at hx
 ·rename_i h0
  obtain ⟨h1,rfl⟩:=List.getElem?_eq_some_iff.1 hx
  exact IxS.M h0 h1 hes (h _ H)
 ·cases hx
theorem at_inv {α:Type} {l:List α} {j:Int} {x:α} (h:at? l j=some x):0≤j∧j.toNat < l.length∧l[j.toNat]?=some x:=by
 unfold at? at h
 split at h
 ·obtain ⟨h1,_⟩:=List.getElem?_eq_some_iff.1 h
  exact ⟨‹_›,h1,h⟩
 ·cases h
theorem ixa_c {α:Type} {l:List α} {n:Nat} {j:Int} {X:α→Option β} {k:Nat→Prop} (H:(arr? n l j).bind X=some r) (h:∀ x,l[j.toNat]?=some x→X x=some r→k j.toNat):IxO n j k:=by
 obtain ⟨x,hx,H⟩:=bind_c H
 unfold arr? at hx
 split at hx
 ·rename_i hn
  obtain ⟨h0,h1,h2⟩:=at_inv hx
  exact ⟨h0,hn ▸ h1,h x h2 H⟩
 ·cases hx
theorem layK_of:∀ {l:List V} {o:Nat} {vs:List V} {k:List V→Prop},o + vs.length≤l.length→k (l.take o++vs++l.drop (o + vs.length))→layK l o vs k
 | l,0,[],k,_,h=>by
  have:layK l 0 [] k=k l:=by cases l <;> rfl
  rw [this];simpa using h
 | u :: l,0,v :: vs,k,hl,h=>layK_of (l:=l) (o:=0) (vs:=vs) (by simp at hl ⊢;omega) (by simpa using h)
 | u :: l,o + 1,vs,k,hl,h=>by
  refine layK_of (l:=l) (o:=o) (vs:=vs) (k:=fun r=>k (u :: r)) (by rw [List.length_cons] at hl;omega) ?_
  have e:o + 1 + vs.length=(o + vs.length) + 1:=by omega
  rw [e] at h
  simpa using h
 | [],0,v :: vs,k,hl,h=>absurd hl (by simp)
 | [],o + 1,vs,k,hl,h=>absurd hl (by simp)
theorem cellsM_split {α:Type} {f:α→V} {es:Nat} (hes:∀ a,(f a).cells.length=es):∀ {l:List α} {n:Nat} {x:α},l[n]?=some x→∃ p m,cellsM f l=p++(f x).cells++m∧p.length=n * es∧∀ y,cellsM f (l.set n y)=p++(f y).cells++m
 | [],n,x,h=>by simp at h
 | a :: l,0,x,h=>by
  simp only [List.getElem?_cons_zero,Option.some.injEq] at h
  subst h
  exact ⟨[],cellsM f l,rfl,by simp,fun y=>rfl⟩
 | a :: l,n + 1,x,h=>by
  obtain ⟨p,m,h1,h2,h3⟩:=cellsM_split hes (l:=l) (n:=n) (by simpa using h)
  have e:∀ (b:α) (r:List α),cellsM f (b :: r)=(f b).cells++cellsM f r:=fun b r=>by unfold cellsM;rw [List.flatMap_cons]
  refine ⟨(f a).cells++p,m,by rw [e,h1];simp only [List.append_assoc],by rw [List.length_append,hes,h2,Nat.succ_mul];omega,fun y=>?_⟩
  rw [List.set_cons_succ,e,h3];simp only [List.append_assoc]
theorem layK_app {l m vs:List V} {o:Nat} {k:List V→Prop}:∀ {p:List V},layK l o vs (fun l'=>k (p++l'++m))→o + vs.length≤l.length→layK (p++l++m) (p.length + o) vs k:=by
 intro p h hl
 obtain ⟨h1,h2⟩:=layK_ok h
 refine layK_of ?_ ?_
 ·simp only [List.length_append];omega
 ·have e:(p++l++m).take (p.length + o)++vs++(p++l++m).drop (p.length + o + vs.length)=p++(l.take o++vs++l.drop (o + vs.length))++m:=by
   rw [List.append_assoc p l m,List.take_append,List.take_of_length_le (by omega),Nat.add_sub_cancel_left,List.take_append_of_le_length (by omega),List.drop_append,List.drop_of_length_le (by omega),List.nil_append,Nat.add_assoc,Nat.add_sub_cancel_left,List.drop_append_of_le_length (by omega)]
   simp only [List.append_assoc]
  rw [e];exact h2
theorem sto_c {α:Type} {f:α→V} {l:List α} {n es off:Nat} {vs:List V} {x:α} {k:List V→Prop} (hx:l[n]?=some x) {x' : α} (hes:∀ a,(f a).cells.length=es) (o:Nat) (ho:off=n * es + o) (hs:o + vs.length≤es) (h' : layK (f x).cells o vs fun cs=>cs=(f x').cells) (h:k (cellsM f (l.set n x'))):layK (cellsM f l) off vs k:=by
 obtain ⟨p,m,h1,h2,h3⟩:=cellsM_split hes hx
 rw [h1,ho,← h2]
 refine layK_app ?_ (by rw [hes];exact hs)
 obtain ⟨g1,g2⟩:=layK_ok h'
 refine layK_of g1 ?_
 rw [g2,← h3];exact h
theorem ixt_c {s:ByteArray} {j:Int} {X:Int→Option β} {k:V→Prop} (H:(byte? s j).bind X=some r) (h:∀ x,X x=some r→k (.lit (.int .u8 x))):IxT s j k:=by
 obtain ⟨x,hx,H⟩:=bind_c H
 unfold byte? at hx
 split at hx
 ·rename_i h0
  simp only [Option.some.injEq] at hx
  subst hx
  exact ⟨h0.1,h0.2,h _ H⟩
 ·cases hx
theorem slt_c {s:ByteArray} {lo hi:Option Int} {X:ByteArray→Option β} {k:V→Prop} (H:(sub? s lo hi).bind X=some r) (h:∀ x,X x=some r→k (.lit (.string x))):SlT s lo hi k:=by
 obtain ⟨x,hx,H⟩:=bind_c H
 unfold sub? at hx
 split at hx
 ·rename_i h0
  simp only [Option.some.injEq] at hx
  subst hx
  exact ⟨h0.1,h0.2.1,h0.2.2,h _ H⟩
 ·cases hx
theorem cat_c {a b:ByteArray} {X:ByteArray→Option β} {k:V→Prop} (H:(cat? a b).bind X=some r) (h:∀ x,X x=some r→k (.lit (.string x))):Cat a b k:=by
 obtain ⟨x,hx,H⟩:=bind_c H
 unfold cat? at hx
 split at hx
 ·simp only [Option.some.injEq] at hx;subst hx;exact ⟨‹_›,h _ H⟩
 ·cases hx
theorem pos_c {b:Int} {X:Unit→Option β} (H:(pos? b).bind X=some r):0≤b∧X ()=some r:=by
 obtain ⟨x,hx,H⟩:=bind_c H
 unfold pos? at hx
 split at hx
 ·exact ⟨‹_›,H⟩
 ·cases hx
theorem ask_c {α:Type} {enc:α→V} {m:Option α} {X:α→Option β} {f:Nat} {vs vs' : List V} {k:V→List Nat→List Nat→List Slot→Prop} (hc:CallsO P f vs' enc m) (H:m.bind X=some r) (hv:vs=vs') (h0:V.idlt.belowL 0 vs'=true) (h:∀ x,X x=some r→k (enc x) [] [] st):Ask P f vs st k:=by
 obtain ⟨x,hx,H⟩:=bind_c H
 exact Ask_V0 (hc x hx) hv h0 (h x H)
theorem askF_c {α:Type} {enc:α→V} {m:Option α} {X:α→Option β} {f:Nat} {vs vs' : List V} {rd:List Nat} {k:V→List Nat→List Nat→List Slot→Prop} (hc:CallsO P f vs' enc m) (H:m.bind X=some r) (ha:FzA st vs vs' rd) (h:∀ x,X x=some r→k (enc x) rd [] st):Ask P f vs st k:=by
 obtain ⟨x,hx,H⟩:=bind_c H
 exact Ask_V (hc x hx) ha (h x H)
theorem fzown {α:Type} {f:α→V} {l:List α} {i es frz:Nat} {full:Bool} (hi:st[i]?=some (.live (cellsM f l) frz)) (hf:frz=(cellsM f l).length) (hes:∀ a,(f a).cells.length=es) (h0:∀ a,V.idlt.belowL 0 (f a).cells=true):FzC st (.osl i 0 l.length es full) (.sl (l.map f) false) [i]:=fzc_made hi rfl hf rfl hes h0
structure FzQ (st:List Slot) (u v:V):Prop where
 out:∃ rd,FzR st u v rd
def resOneK (fr:List V) (st:List Slot) (x:ARes) (k:V→Prop):Prop :=
 match x with
 | .tmp t=>getK fr t k
 | .cell t sz ag=>getK fr t fun v=>match v with
  | .ptr i off=>sgetK st i fun cs _=>ldK cs off sz ag k
  | _=>False
def resK (fr:List V) (st:List Slot):List ARes→(List V→Prop)→Prop
 | [],k=>k []
 | x :: xs,k=>resOneK fr st x fun v=>resK fr st xs fun vs=>k (v :: vs)
def mkRK (vs:List V) (k:V→Prop):Prop :=
 match vs with
 | [v]=>k v
 | vs=>k (.tup vs)
theorem mkRK_eq (vs:List V) (k:V→Prop):mkRK vs k=k (mkR vs):=by
 match vs with
 | []=>rfl
 | [v]=>rfl
 | v :: u :: vs=>rfl
theorem resOneK_ok {fr:List V} {st:List Slot} {x:ARes} {k:V→Prop} (h:resOneK fr st x k):∃ v,ResOne fr st x v∧k v:=by
 cases x with
 | tmp t=>simp only [resOneK,getK_eq] at h;exact ⟨_,.tmp rfl,h⟩
 | cell t sz ag =>
  simp only [resOneK,getK_eq] at h
  split at h
  ·rename_i i off hv
   obtain ⟨cs,f,h1,h2⟩:=sgetK_ok h
   obtain ⟨h3,h4⟩:=ldK_ok h2
   exact ⟨_,.cell hv h1 h3,h4⟩
  ·exact h.elim
theorem resK_ok {fr:List V} {st:List Slot}:∀ {rs:List ARes} {k:List V→Prop},resK fr st rs k→∃ vs,ResL fr st rs vs∧k vs
 | [],k,h=>⟨[],.nil,h⟩
 | x :: xs,k,h=>by
  obtain ⟨v,h1,h⟩:=resOneK_ok h
  obtain ⟨vs,h2,h⟩:=resK_ok (rs:=xs) h
  exact ⟨v :: vs,.cons h1 h2,h⟩
theorem finR_c {rs:List ARes} {fr:List V} {α:Type} {enc:α→V} {x y:α} (H:some x=some y) (h:resK fr st rs fun vs=>mkRK vs fun v=>FzQ st v (enc x)):FinQ (Fin rs (enc y)) .ret fr st:=by
 cases H
 obtain ⟨vs,h1,h2⟩:=resK_ok h
 rw [mkRK_eq] at h2
 obtain ⟨rd,h2⟩:=h2.out
 exact ⟨.inr rfl,st,.refl,vs,rd,h1,h2⟩
theorem fin0_c {rs:List ARes} {e:AExit} {fr vs:List V} {α:Type} {enc:α→V} {x y:α} (H:some x=some y) (he:e=.normal∨e=.ret) (hr:ResL fr st rs vs) (hv:mkR vs=enc x) (h0:(mkR vs).idlt 0=true):FinQ (Fin rs (enc y)) e fr st:=by
 cases H;exact ⟨he,st,.refl,vs,[],hr,hv ▸ .v (.c (.id h0))⟩
theorem cellsM_app' {α:Type} (f:α→V) (a b:List α):cellsM f (a++b)=cellsM f a++cellsM f b:=by unfold cellsM;rw [List.flatMap_append]
theorem srcM {α:Type} {f:α→V} {es:Nat} (hes:∀ a,(f a).cells.length=es) (l:List α) (fu:Bool):SrcV st es (.sl (l.map f) fu) l.length (cellsM f l) []:=by
 have:=SrcV.sl (st:=st) (es:=es) (ys:=l.map f) (f:=fu) (fun y hy=>by obtain ⟨a,_,rfl⟩:=List.mem_map.1 hy;exact hes a)
 rwa [List.length_map,cellsM_map] at this
theorem srcOwn {α:Type} {f:α→V} {es i fz:Nat} (hes:∀ a,(f a).cells.length=es) {l:List α} {cs:List V} {fu:Bool} {n:Nat} (hi:st[i]?=some (.live cs fz)) (hc:cs=cellsM f l) (hn:n=l.length):SrcV st es (.osl i 0 n es fu) l.length (cellsM f l) [i]:=by
 subst hc hn
 have hl:=cellsM_len hes l
 have:=SrcV.osl (off:=0) (n:=l.length) (es:=es) (f:=fu) hi (by omega)
 rwa [List.drop_zero,← hl,List.take_length] at this
theorem srcText (s:ByteArray):SrcX st 1 (.lit (.string s)) (bytesI s).length (cellsM V.y8 (bytesI s)) []:=by
 have h:=SrcX.str (st:=st) (es:=1) (s:=s) rfl
 have e:(bytesI s).length=s.size:=by unfold bytesI;simp
 have e2:cellsM V.y8 (bytesI s)=s.data.toList.map byteV:=by
  unfold cellsM bytesI
  rw [List.flatMap_map]
  exact flatMap_one (fun b:UInt8=>V.y8 b.toNat) _
 rw [e,e2];exact h
theorem app_len {α:Type} {F G L:List α} (h:app? F G=some L):L=F++G∧F.length + G.length≤1000000:=by
 unfold app? at h
 split at h
 ·simp only [Option.some.injEq] at h;exact ⟨h.symm,‹_›⟩
 ·cases h
theorem appN_c {α:Type} {f:α→V} {F G:List α} {id bytes es:Nat} {s x:V} {rd rd' : List Nat} {X:List α→Option β} {k:V→List Nat→List Nat→List Slot→Prop} (H:(app? F G).bind X=some r) (hes:∀ a,(f a).cells.length=es) (hs:SrcV st es s F.length (cellsM f F) rd) (hfu:s.full=true) (hx:SrcX st es x G.length (cellsM f G) rd')
  (hb:bytes≤1000) (hf:st[id]?=some .fresh) (hg:G≠[]) (h:∀ L,X L=some r→ssetK st id (.live (cellsM f L) (cellsM f L).length) fun st'=>k (.osl id 0 L.length es false) (rd++rd') [id] st'):App st id es bytes s x k:=by
 obtain ⟨L,hL,H⟩:=bind_c H
 obtain ⟨rfl,hn⟩:=app_len hL
 have:=h _ H
 rw [ssetK_eq] at this
 refine App.N hs hfu hx (List.length_pos_iff.2 hg) hn hb hf ?_
 rwa [cellsM_app',List.length_append] at this
theorem appO_c {α:Type} {f:α→V} {F G:List α} {i id bytes es fz:Nat} {x:V} {rd' : List Nat} {X:List α→Option β} {k:V→List Nat→List Nat→List Slot→Prop} (H:(app? F G).bind X=some r) (hes:∀ a,(f a).cells.length=es) (hi:st[i]?=some (.live (cellsM f F) fz)) (hz:fz≤(cellsM f F).length) (hx:SrcX st es x G.length (cellsM f G) rd')
  (hb:bytes≤1000) (hf:st[id]?=some .fresh) (hg:G≠[]) (h:∀ L,X L=some r→ssetK st i .dead fun st1=>ssetK st1 id (.live (cellsM f L) (cellsM f L).length) fun st'=>k (.osl id 0 L.length es false) (rd'++[i]) [i,id] st'):App st id es bytes (.osl i 0 F.length es false) x k:=by
 obtain ⟨L,hL,H⟩:=bind_c H
 obtain ⟨rfl,hn⟩:=app_len hL
 have:=h _ H
 rw [ssetK_eq,ssetK_eq] at this
 refine App.O hi (cellsM_len hes F) hz hx (List.length_pos_iff.2 hg) hn hb hf ?_
 rwa [cellsM_app',List.length_append] at this
theorem appP_c {α:Type} {f:α→V} {F G:List α} {i id bytes es fz:Nat} {x:V} {rd' : List Nat} {X:List α→Option β} {k:V→List Nat→List Nat→List Slot→Prop} (H:(app? F G).bind X=some r) (hes:∀ a,(f a).cells.length=es) (hi:st[i]?=some (.live (cellsM f F) fz)) (hz:fz=(cellsM f F).length) (hx:SrcX st es x G.length (cellsM f G) rd')
  (hb:bytes≤1000) (hf:st[id]?=some .fresh) (h0:∀ L,X L=some r→ssetK st i (.live (cellsM f L) (cellsM f L).length) fun st'=>k (.osl i 0 L.length es false) ([i]++rd') [] st') (h:∀ L,X L=some r→ssetK st i .dead fun st1=>ssetK st1 id (.live (cellsM f L) (cellsM f L).length) fun st'=>k (.osl id 0 L.length es false) (rd'++[i]) [i,id] st'):App st id es bytes (.osl i 0 F.length es false) x k:=by
 by_cases hg:G=[]
 ·obtain ⟨L,hL,H⟩:=bind_c H
  obtain ⟨rfl,hn⟩:=app_len hL
  subst hg hz
  have:=h0 _ H
  rw [ssetK_eq,List.append_nil] at this
  have e:st.set i (.live (cellsM f F) (cellsM f F).length)=st:=by
   apply List.ext_getElem?
   intro j
   rw [List.getElem?_set]
   split
   ·rename_i h;subst h
    split
    ·exact hi.symm
    ·rename_i h;exact absurd (List.getElem?_eq_some_iff.1 hi).1 h
   ·rfl
  rw [e] at this
  exact App.Z (srcOwn hes hi rfl rfl) hx this
 ·exact appO_c H hes hi (Nat.le_of_eq hz) hx hb hf hg h
theorem appD_c {α:Type} {f:α→V} {F G:List α} {i n id bytes es fz:Nat} {fu:Bool} {x:V} {rd' : List Nat} {X:List α→Option β} {k:V→List Nat→List Nat→List Slot→Prop} (H:(app? F G).bind X=some r) (hes:∀ a,(f a).cells.length=es) (hi:st[i]?=some (.live (cellsM f F) fz)) (hz:fz=(cellsM f F).length) (hn:n=F.length) (hfu:fu=true) (hx:SrcX st es x G.length (cellsM f G) rd')
  (hb:bytes≤1000) (hf:st[id]?=some .fresh) (h0:∀ L,X L=some r→ssetK st i (.live (cellsM f L) (cellsM f L).length) fun st'=>k (.osl i 0 L.length es fu) ([i]++rd') [] st') (h:∀ L,X L=some r→ssetK st id (.live (cellsM f L) (cellsM f L).length) fun st'=>k (.osl id 0 L.length es false) ([i]++rd') [id] st'):App st id es bytes (.osl i 0 n es fu) x k:=by
 subst hn
 by_cases hg:G=[]
 ·obtain ⟨L,hL,H⟩:=bind_c H
  obtain ⟨rfl,hn⟩:=app_len hL
  subst hg hz
  have:=h0 _ H
  rw [ssetK_eq,List.append_nil] at this
  have e:st.set i (.live (cellsM f F) (cellsM f F).length)=st:=by
   apply List.ext_getElem?
   intro j
   rw [List.getElem?_set]
   split
   ·rename_i h;subst h
    split
    ·exact hi.symm
    ·rename_i h;exact absurd (List.getElem?_eq_some_iff.1 hi).1 h
   ·rfl
  rw [e] at this
  exact App.Z (srcOwn hes hi rfl rfl) hx this
 ·exact appN_c H hes (srcOwn hes hi rfl rfl) (by rw [hfu];rfl) hx hb hf hg h
def mk? {α:Type} (n:Int) (x:α):Option (List α):=if 0≤n∧n≤1000000 then some (List.replicate n.toNat x) else none
theorem mks_cells {α:Type} {f:α→V} {x:α} {z:List V} (hz:(f x).cells=z) (h1:z.length=1):∀ n:Nat,((List.range (n * 1)).map fun k=>z.getD (k % 1) .any)=cellsM f (List.replicate n x)
 | 0=>rfl
 | n + 1=>by
  have ih:=mks_cells hz h1 n
  rw [Nat.mul_one] at ih ⊢
  rw [List.range_succ,List.map_append,ih,List.replicate_succ',cellsM_app',List.map_cons,List.map_nil]
  congr 1
  obtain ⟨v,rfl⟩:=List.length_eq_one_iff.1 h1
  unfold cellsM
  rw [List.flatMap_cons,List.flatMap_nil,hz,Nat.mod_one];rfl
theorem mks_c {α:Type} {f:α→V} {x0:α} {n:Int} {bytes:Nat} {z:List V} {X:List α→Option β} {k:Nat→List V→Bool→Prop} (H:(mk? n x0).bind X=some r) (hz:(f x0).cells=z) (h1:z.length=1) (hb:bytes≤1000) (h:∀ L,X L=some r→k L.length (cellsM f L) true):Mks 1 bytes z n n k:=by
 obtain ⟨L,hL,H⟩:=bind_c H
 unfold mk? at hL
 split at hL
 ·rename_i hn
  simp only [Option.some.injEq] at hL
  subst hL
  have:=h _ H
  rw [List.length_replicate] at this
  refine ⟨hn.1,Int.le_refl _,hn.2,hb,?_⟩
  rw [mks_cells hz h1,decide_eq_true rfl]
  exact this
 ·cases hL
theorem App.Os {id bytes es i n m frz:Nat} {cs ds' : List V} {x:V} {rd' : List Nat} {k:V→List Nat→List Nat→List Slot→Prop} (hi:st[i]?=some (.live cs frz)) (hl:cs.length=n * es) (hz:frz=0) (hx:SrcX st es x m ds' rd') (hk:0 < m) (hn:n + m≤1000000) (hb:bytes≤1000) (hf:st[id]?=some .fresh)
  (h:k (.osl id 0 (n + m) es false) (rd'++[i]) [i,id] ((st.set i .dead).set id (.live (cs++ds') 0))):App st id es bytes (.osl i 0 n es false) x k:=⟨.inr (.inr ⟨i,n,cs,frz,m,ds',rd',_,rfl,hi,hl,by omega,hx,hk,hn,hb,hf,by omega,Nat.zero_le _,h⟩)⟩
theorem finRz_c {rs:List ARes} {fr:List V} {α:Type} {enc:α→V} {x y:α} (is:List Nat) (H:some x=some y) (h:frzI is st fun st=>resK fr st rs fun vs=>mkRK vs fun v=>FzQ st v (enc x)):FinQ (Fin rs (enc y)) .ret fr st:=by
 cases H
 obtain ⟨st',hf,h⟩:=frzI_ok h
 obtain ⟨vs,h1,h2⟩:=resK_ok h
 rw [mkRK_eq] at h2
 obtain ⟨rd,h2⟩:=h2.out
 exact ⟨.inr rfl,st',hf,vs,rd,h1,h2⟩
theorem b2sI_c {l:List Int} {f:Bool} {X:ByteArray→Option β} {k:V→List Nat→Prop} (H:(text? l).bind X=some r) (h:∀ s,X s=some r→k (.lit (.string s)) []):B2S st (.sl (l.map V.y8) f) k:=by
 obtain ⟨s,hs,H⟩:=bind_c H
 have e:=text_ok hs
 rw [e]
 have e2:s=⟨s.data.toList.toArray⟩:=by cases s;simp
 have:=h s H
 rw [e2] at this
 exact B2S.I this
theorem b2sO_c {l:List Int} {i n fz:Nat} {f:Bool} {cs:List V} {X:ByteArray→Option β} {k:V→List Nat→Prop} (H:(text? l).bind X=some r) (hi:st[i]?=some (.live cs fz)) (hc:cs=cellsM V.y8 l) (hn:n=l.length) (h:∀ s,X s=some r→k (.lit (.string s)) [i]):B2S st (.osl i 0 n 1 f) k:=by
 obtain ⟨s,hs,H⟩:=bind_c H
 have e:=text_ok hs
 have e2:s=⟨s.data.toList.toArray⟩:=by cases s;simp
 have e3:cellsM V.y8 l=l.map V.y8:=by exact flatMap_one V.y8 l
 have:=h s H
 rw [e2] at this
 refine B2S.O hi ?_ (by rw [hc,e3,e]) this
 have:=congrArg List.length e
 simpa [hn] using this
end
theorem fb_ {fr:List V} {st:List Slot} {t:Nat} {x y:Bool} (H:some x=some y) (h:fr.getD t .any=V.b x:=by rfl):FinQ (Fin [.tmp t] (V.b y)) .ret fr st:=fin0_c (enc:=V.b) H (.inr rfl) (.cons (.tmp h) .nil) rfl rfl
theorem fi_ {fr:List V} {st:List Slot} {t:Nat} {x y:Int} (H:some x=some y) (h:fr.getD t .any=V.i x:=by rfl):FinQ (Fin [.tmp t] (V.i y)) .ret fr st:=fin0_c (enc:=V.i) H (.inr rfl) (.cons (.tmp h) .nil) rfl rfl
theorem fq_ {fr:List V} {st:List Slot} {t u:Nat} {x y:Int × Bool} (H:some x=some y) (h:fr.getD t .any=V.i x.1:=by rfl) (h2:fr.getD u .any=V.b x.2:=by rfl):FinQ (Fin [.tmp t,.tmp u] (.tup [V.i y.1,V.b y.2])) .ret fr st:=fin0_c (enc:=fun r:Int × Bool=>.tup [V.i r.1,V.b r.2]) H (.inr rfl) (.cons (.tmp h) (.cons (.tmp h2) .nil)) rfl rfl
abbrev O_ (d:Nat) (x:AOp) (c:Nat):AOper:=⟨some d,x,none,c⟩
abbrev t_ (n:Nat):Operand:=.tmp n
abbrev i_ (n:Int):Operand:=.const (.int .i64 n)
abbrev b_ (b:Bool):Operand:=.const (.bool b)
abbrev R_ (n:Nat) (l:List AOper):BCode:=.reg n l none 0 []
abbrev U_ (x:AOp) (c:Nat):AOper:=⟨none,x,none,c⟩
theorem lq_ {a b:Nat} {q:Prop} (h:q) (e:Nat.ble a b=true:=by rfl):a≤b∧q:=⟨Nat.le_of_ble_eq_true e,h⟩
end Go.Proofs.YtpkodpcfafipdaaGreatDoor

namespace Go.Proofs.YtpkodpcfafipdaaGreatDoor
open Go.RowKit
structure RuntimeBoundsError where
 x:Int
 y:Int
 signed:Bool
 code:Int
abbrev RuntimeBoundsError.v (x:RuntimeBoundsError):V:=.agg [.i x.x,.i x.y,.b x.signed,.y8 x.code]
structure RuntimeErrorAddressString where
 msg:ByteArray
 addr:Int
abbrev RuntimeErrorAddressString.v (x:RuntimeErrorAddressString):V:=.agg [.s x.msg,.lit (.int .u64 x.addr)]
structure StanzaStanza where
 Kind:Int
 User:ByteArray
 Res:ByteArray
 Name:ByteArray
 Show:Int
 Prio:Int
 Code:Int
 N:Int
abbrev StanzaStanza.v (x:StanzaStanza):V:=.agg [.y8 x.Kind,.s x.User,.s x.Res,.s x.Name,.i x.Show,.i x.Prio,.i x.Code,.i x.N]
structure BrokerStep where
 Kind:Int
 Conn:Int
 N:Int
 Text:ByteArray
abbrev BrokerStep.v (x:BrokerStep):V:=.agg [.y8 x.Kind,.i x.Conn,.i x.N,.s x.Text]
structure ScriptShape where
 name:ByteArray
 conn:Bool
 wide:Int
 text:Bool
abbrev ScriptShape.v (x:ScriptShape):V:=.agg [.s x.name,.b x.conn,.i x.wide,.b x.text]
structure OctetRead where
 S:ByteArray
 At:Int
 Bad:Int
abbrev OctetRead.v (x:OctetRead):V:=.agg [.s x.S,.i x.At,.i x.Bad]
structure AddrAddr where
 Name:ByteArray
 Host:ByteArray
 Res:ByteArray
abbrev AddrAddr.v (x:AddrAddr):V:=.agg [.s x.Name,.s x.Host,.s x.Res]
structure UtfForm where
 from_:Int
 mark:Int
 bits:Int
abbrev UtfForm.v (x:UtfForm):V:=.agg [.i x.from_,.y8 x.mark,.y8 x.bits]
end Go.Proofs.YtpkodpcfafipdaaGreatDoor

namespace Go.Proofs.YtpkodpcfafipdaaGreatDoor
open Go.ChangeShapes Go.WideShapes Go.ChangeAt Go.RowKit Go.Joins Go.Deep
section
variable {H : Type} {enc : TypeId × Value → H} {P : Program} {W : World} {spare : Nat → Bool} {held : Bool} {fuel : Nat} {t e : TypeId} {cs : List Value} {y : DataW H × List MemPlace}
abbrev MW (W:World):Mem:=fun a=>W.cell? a
theorem repL_one {m:Mem} {bk:Bks} {c:Value} {v:V} (h:Rep m bk c v):RepL m bk [c] [v] :=
 ⟨rfl,fun j g1 g2=>match j,g1 with
  | 0,_=>h
  | j + 1,g=>absurd g (by simp)⟩
theorem repL_nil {m:Mem} {bk:Bks}:RepL m bk [] []:=⟨rfl,fun j g1 g2=>absurd g1 (by simp)⟩
theorem repL_app {m:Mem} {bk:Bks} {c1 c2:List Value} {v1 v2:List V} (h1:RepL m bk c1 v1) (h2:RepL m bk c2 v2):RepL m bk (c1++c2) (v1++v2):=by
 obtain ⟨e1,h1⟩:=h1
 obtain ⟨e2,h2⟩:=h2
 refine ⟨by rw [List.length_append,List.length_append,e1,e2],fun j g1 g2=>?_⟩
 rw [List.length_append] at g1
 by_cases h:j < c1.length
 ·rw [List.getElem_append_left h,List.getElem_append_left (by omega)]
  exact h1 j h _
 ·rw [List.getElem_append_right (by omega),List.getElem_append_right (by omega)]
  have:=h2 (j - c1.length) (by omega) (by omega)
  have e:j - v1.length=j - c1.length:=by omega
  simp only [e]
  exact this
theorem rd_int {k:IntKind} (ht:P.underlying t=some (.int k)) (h:DataW.trod enc P W 0 spare held fuel t cs=some y):∃ n,(Lit.int k n).wf=true∧RepL (MW W) noBk cs [.lit (.int k n)]:=by
 obtain ⟨n,rfl,_,wf⟩:=DataW.trod_int ht h
 exact ⟨n,wf,repL_one (.lit rfl)⟩
theorem rd_string (ht:P.underlying t=some .string) (h:DataW.trod enc P W 0 spare held fuel t cs=some y):∃ s,RepL (MW W) noBk cs [.lit (.string s)]:=by
 obtain ⟨n,rfl,_⟩:=DataW.trod_string ht h
 exact ⟨n,repL_one (.lit rfl)⟩
theorem rd_slice {α:Type} {f:α→V} {es:Nat} {wf:α→Prop} (ht:P.underlying t=some (.slice e)) (hes:∀ a,(f a).cells.length=es) (h1:∀ a,∀ v ∈ (f a).cells,v.one=true) (hp:0 < es) (hce:P.cellsOf e=es)
  (hel:∀ n cs y,DataW.trod enc P W 0 spare held n e cs=some y→∃ x,wf x∧RepL (MW W) noBk cs (f x).cells) (h:DataW.trod enc P W 0 spare held fuel t cs=some y):∃ l:List α,(∀ x ∈ l,wf x)∧RepL (MW W) noBk cs [.sl (l.map f) false]:=by
 rcases open_slice ht h with ⟨rfl,_⟩ | ⟨a,len,cap,m,n,D,Pl,rfl,_,hl,_,hm,_,hall⟩
 ·exact ⟨[],by simp,repL_one (.slnil fun e=>by cases e)⟩
 ·rcases Nat.eq_zero_or_pos len with rfl | hpos
  ·exact ⟨[],by simp,repL_one (.slnil fun e=>by cases e)⟩
  ·have hlm:len≤m:=by rw [hm];split <;> omega
   have hx:∀ i,i < len→∃ (x:{x:α // wf x}) (cs:List Value),W.cells? 0 (a.add (i * es)) es=some cs∧∀ j (hj:j < (f x.1).cells.length) (hj' : j < cs.length),Rep (fun p=>W.cell? p) noBk cs[j] (f x.1).cells[j]:=by
    intro i hi
    obtain ⟨cs',hc,hd⟩:=hall i (by omega)
    rw [hce] at hc
    obtain ⟨x,hw,hr⟩:=hel _ _ _ hd
    exact ⟨⟨x,hw⟩,cs',hc,fun j hj hj'=>hr.2 j hj' hj⟩
   obtain ⟨x0,_⟩:=hx 0 hpos
   haveI:Inhabited {x:α // wf x}:=⟨x0⟩
   obtain ⟨l,_,hr⟩:=rep_slice (f:=fun x:{x:α // wf x}=>f x.1) (fun a=>hes a.1) (fun a=>h1 a.1) hp hl hx
   refine ⟨l.map (·.1),?_,?_⟩
   ·intro x hx
    obtain ⟨y,_,rfl⟩:=List.mem_map.1 hx
    exact y.2
   ·rw [List.map_map];exact repL_one hr
theorem get_some {α:Type} {xs:List α} {n i:Nat} (h:xs.length=n) (hi:i < n):∃ y,xs[i]?=some y:=⟨xs[i],List.getElem?_eq_getElem (by omega)⟩
theorem callsO_true {f:FuncId} {args:List V} {m:Option Bool} (h:CallsO P f args V.b m) (hm:m=some true):CallsV P f args (.b true):=h true hm
end
end Go.Proofs.YtpkodpcfafipdaaGreatDoor

namespace Go.Proofs.YtpkodpcfafipdaaGreatDoor
open Go.RowKit
theorem callsO_if {α:Type} {P:Program} {f:FuncId} {args:List V} {enc:α→V} {c:Prop} [Decidable c] {v:α} (h:c→CallsV P f args (enc v)):CallsO P f args enc (if c then some v else none):=by
 intro r hr
 split at hr
 ·cases hr;exact h ‹_›
 ·cases hr
end Go.Proofs.YtpkodpcfafipdaaGreatDoor

namespace Go.Proofs.YtpkodpcfafipdaaGreatDoor
open Go.RowKit
structure InsRoads (P:Program) (k:FuncId) (es:Nat) (E:TypeId):Prop where
 shift:∀ (b n c i vb voff vc:Nat) (cs vs:List Value) (w:World) (tA tB:TypeId) (kA kB:Nat),i < n→n + 1≤c→n + 1≤1000000→vb≠b→cs.length=n * es→vs.length=es →
  (∀ j v,cs[j]?=some v→w.cell? ⟨b,j,none⟩=some v)→(∀ j,j < (n + 1) * es→(w.cell? ⟨b,j,none⟩).isSome=true)→(∀ j,j < (n + 1) * es→w.frozen? ⟨b,j,none⟩=false) →
  (∀ j v,vs[j]?=some v→w.cell? ⟨vb,voff + j,none⟩=some v)→(∀ v ∈ cs,v.oneCell'=true)→(∀ v ∈ vs,v.oneCell'=true) →
  w.shape? vb=some (tA,kA)→w.shape? b=some (tB,kB)→kA≠0→kB≠0→w.frozen? ⟨b,kB,none⟩=false →
  Calls P k #[.slice (some ⟨b,0,none⟩) n c,.int .i64 i,.slice (some ⟨vb,voff,none⟩) 1 vc] w fun e w' =>
   e=.returned (.slice (some ⟨b,0,none⟩) (n + 1) c)∧w'=(w.drew.setCells b ((i + 1) * es) (cs.drop (i * es))).setCells b (i * es) vs
 end_room:∀ (b n c vb voff vc:Nat) (vs:List Value) (w:World),n + 1≤c→n + 1≤1000000→vs.length=es →
  (∀ j,j < es→(w.cell? ⟨b,n * es + j,none⟩).isSome=true)→(∀ j,j < es→w.frozen? ⟨b,n * es + j,none⟩=false) →
  (∀ j v,vs[j]?=some v→w.cell? ⟨vb,voff + j,none⟩=some v)→(∀ v ∈ vs,v.oneCell'=true) →
  Calls P k #[.slice (some ⟨b,0,none⟩) n c,.int .i64 n,.slice (some ⟨vb,voff,none⟩) 1 vc] w fun e w' =>
   e=.returned (.slice (some ⟨b,0,none⟩) (n + 1) c)∧w'=w.setCells b (n * es) vs
 end_grow:∀ (base:Option Addr) (n c vb voff vc:Nat) (cs vs:List Value) (w:World),n≤c→c < n + 1→n + 1≤1000000→cs.length=n * es→vs.length=es→(base=none→n=0) →
  (∀ a,base=some a→∀ j v,cs[j]?=some v→w.cell? (a.add j)=some v)→(∀ j v,vs[j]?=some v→w.cell? ⟨vb,voff + j,none⟩=some v)→(∀ v ∈ vs,v.oneCell'=true) →
  Calls P k #[.slice base n c,.int .i64 n,.slice (some ⟨vb,voff,none⟩) 1 vc] w fun e w' =>
   ∃ zs:Array Value,e=.returned (.slice (some ⟨w.heap.size,0,none⟩) (n + 1) (grownCap w (n + 1) c E))∧w'=w.drew.alloc (.cells ((cs++vs).toArray++zs) E)
 grow:∀ (b n c i vb voff vc:Nat) (cs vs:List Value) (w:World),i < n→n≤c→c < n + 1→n + 1≤1000000→cs.length=n * es→vs.length=es →
  (∀ j v,cs[j]?=some v→w.cell? ⟨b,j,none⟩=some v)→(∀ j v,vs[j]?=some v→w.cell? ⟨vb,voff + j,none⟩=some v)→(∀ v ∈ cs,v.oneCell'=true)→(∀ v ∈ vs,v.oneCell'=true) →
  Calls P k #[.slice (some ⟨b,0,none⟩) n c,.int .i64 i,.slice (some ⟨vb,voff,none⟩) 1 vc] w fun e w' =>
   ∃ ROW:Array Value,(n + 1) * es≤ROW.size∧(∀ (j:Nat) (v:Value),(cs.take (i * es))[j]?=some v→ROW[j]?=some v)∧e=.returned (.slice (some ⟨w.heap.size,0,none⟩) (n + 1) (grownCap w (n + 1) c E)) ∧
    w'=(((w.alloc (.cells ROW E)).drew.setCells w.heap.size (i * es) vs).drew).setCells w.heap.size ((i + 1) * es) (cs.drop (i * es))
end Go.Proofs.YtpkodpcfafipdaaGreatDoor

namespace Go.Proofs.YtpkodpcfafipdaaGreatDoor
open Go.RowKit
structure CloRoads (P:Program) (k:FuncId) (es:Nat) (E:TypeId):Prop where
 some_:∀ (A:Addr) (n c:Nat) (cs:List Value) (w:World),0 < n→n≤1000000→cs.length=n * es→(∀ j v,cs[j]?=some v→w.cell? (A.add j)=some v)→(∀ v ∈ cs,v.oneCell'=true) →
  Calls P k #[.slice (some A) n c] w fun e w'=>∃ ZS:Array Value,e=.returned (.slice (some ⟨w.heap.size + 1,0,none⟩) n (grownCap (w.alloc (.cells #[] E)) n 0 E))∧w'=(w.alloc (.cells #[] E)).drew.alloc (.cells (cs.toArray++ZS) E)∧grownCap (w.alloc (.cells #[] E)) n 0 E * es≤(cs.toArray++ZS).size
 zero_:∀ (A:Addr) (c:Nat) (w:World),Calls P k #[.slice (some A) 0 c] w fun e w'=>e=.returned (.slice (some ⟨w.heap.size,0,none⟩) 0 0)∧∃ q,w'=(w.alloc (.cells #[] E)).drewN q
 nil_:∀ (n c:Nat) (w:World),Calls P k #[.slice none n c] w fun e w'=>e=.returned (.slice none 0 0)∧w'=w
section
variable {β : Type} {r : β} {P : Program} {st : List Slot}
end
def V.litD:V→Bool
 | .lit _=>true
 | .agg cs | .tup cs=>litL cs
 | .sl [] _=>true
 | _=>false
where litL:List V→Bool
 | []=>true
 | v :: vs=>v.litD && litL vs
theorem litL_get:∀ {l:List V},V.litD.litL l=true→∀ j (h:j < l.length),l[j].litD=true
 | v :: l,h,0,_=>by simp [V.litD.litL] at h;simpa using h.1
 | v :: l,h,j + 1,hj=>by simp [V.litD.litL] at h;simpa using litL_get h.2 j (by simpa using hj)
theorem Rep.litD {m:Mem} {bk:Bks} {c:Value} {v:V} (h:Rep m bk c v):v.litD=true→∀ (m' : Mem) (bk' : Bks),Rep m' bk' c v:=by
 induction h with
 | lit h=>intro _ _ _;exact .lit h
 | agg hl h1 _ ih=>intro hv m' bk';exact .agg hl h1 fun j a b=>ih j a b (litL_get (by simpa [V.litD] using hv) j b) m' bk'
 | tup hl _ ih=>intro hv m' bk';exact .tup hl fun j a b=>ih j a b (litL_get (by simpa [V.litD] using hv) j b) m' bk'
 | @sl bk b o n cap es full xs us hn hc hf hes h1 hm h _ =>
  intro hv m' bk'
  cases xs with
  | nil=>exact .sl (us:=us) hn hc hf hes h1 (fun k hk=>absurd hk (by simp)) (fun k hk=>absurd hk (by simp))
  | cons x xs=>simp [V.litD] at hv
 | slnil hf=>intro _ _ _;exact .slnil hf
 | _=>intro hv;simp [V.litD] at hv
end Go.Proofs.YtpkodpcfafipdaaGreatDoor

namespace Go.Proofs.YtpkodpcfafipdaaGreatDoor
open Go.RowKit
def Slot.ren (sg:List Nat):Slot→Slot
 | .live cs f=>.live (V.ren.renL sg cs) f
 | s=>s
end Go.Proofs.YtpkodpcfafipdaaGreatDoor

namespace Go.Proofs.YtpkodpcfafipdaaGreatDoor
open Go.RowKit
mutual
theorem litD_idlt:∀ v:V,v.litD=true→v.idlt 0=true
 | .lit _,_=>rfl
 | .agg cs,h=>litL_idlt cs h
 | .tup cs,h=>litL_idlt cs h
 | .sl _ _,_=>rfl
 | .osl _ _ _ _ _,h=>by simp [V.litD] at h
 | .ptr _ _,h=>by simp [V.litD] at h
 | .eptr _,_=>rfl
 | .clo _ cs,h=>by simp [V.litD] at h
 | .any,_=>rfl
theorem litL_idlt:∀ l:List V,V.litD.litL l=true→V.idlt.belowL 0 l=true
 | [],_=>rfl
 | v :: l,h=>by
  simp only [V.litD.litL,Bool.and_eq_true] at h
  simp only [V.idlt.belowL,Bool.and_eq_true]
  exact ⟨litD_idlt v h.1,litL_idlt l h.2⟩
end
inductive FzT (st:List Slot) (i:Nat):List V→List V→List Nat→Prop
 | nil:FzT st i [] [] []
 | id {v l l' r} (h:v.idlt 0=true) (t:FzT st i l l' r):FzT st i (v :: l) (v :: l') r
 | ptr {j cs us frz l l' r} (hj:st[j]?=some (.live cs frz)) (hne:j≠i) (h:SlWL cs us) (t:FzT st i l l' r):FzT st i (.ptr j 0 :: l) (.eptr us :: l') (j :: r)
theorem FzT.congr {st st2:List Slot} {i:Nat} {l l' : List V} {r:List Nat} (h:FzT st i l l' r):(∀ k,k ∈ r→st2[k]?=st[k]?)→FzT st2 i l l' r:=by
 induction h with
 | nil=>exact fun _=>.nil
 | id h _ ih=>exact fun hst=>.id h (ih hst)
 | ptr hj hne h _ ih=>exact fun hst=>.ptr ((hst _ (by simp)).trans hj) hne h (ih fun k hk=>hst k (by simp [hk]))
theorem FzT.rep {B:Kp} {m0 m mb:Mem} {bk bk' : Bks} {w:World} {st:List Slot} {i:Nat} {l l' : List V} {r:List Nat} (h:FzT st i l l' r) (hsim:Sim B m0 m bk w st) (mle:∀ a u,m a=some u→mb a=some u)
  (hmb:∀ (j:Nat) (c:List V) (g:Nat) (x:Nat × Nat),j≠i→st[j]?=some (.live c g)→bk j=some x→∀ a:Addr,a.block=x.1→mb a=w.cell? a):∀ {cs:List Value},RepL m bk cs l→RepL mb bk' cs l':=by
 induction h with
 | nil=>intro cs h;exact ⟨h.1,fun j _ h2=>absurd h2 (by simp)⟩
 | @id v l l' r h0 t ih =>
  intro cs hr
  cases cs with
  | nil=>have:=hr.1;simp at this
  | cons c cs =>
   have g0:=hr.2 0 (by simp) (by simp)
   have ih':=@ih cs ⟨by simpa using hr.1,fun j h1 h2=>hr.2 (j + 1) (Nat.succ_lt_succ h1) (Nat.succ_lt_succ h2)⟩
   refine ⟨by simpa using ih'.1,fun j h1 h2=>?_⟩
   cases j with
   | zero=>exact (Rep.zero g0 h0).mono mle fun _ _ h=>h
   | succ j=>exact ih'.2 j (Nat.lt_of_succ_lt_succ h1) (Nat.lt_of_succ_lt_succ h2)
 | @ptr j csj us frz l l' r hj hne hw t ih =>
  intro cs hr
  cases cs with
  | nil=>have:=hr.1;simp at this
  | cons c cs =>
   have g0:=hr.2 0 (by simp) (by simp)
   have ih':=@ih cs ⟨by simpa using hr.1,fun j h1 h2=>hr.2 (j + 1) (Nat.succ_lt_succ h1) (Nat.succ_lt_succ h2)⟩
   refine ⟨by simpa using ih'.1,fun k h1 h2=>?_⟩
   cases k with
   | succ k=>exact ih'.2 k (Nat.lt_of_succ_lt_succ h1) (Nat.lt_of_succ_lt_succ h2)
   | zero =>
    have gg:∀ c,Rep m bk c (.ptr j 0)→Rep mb bk' c (.eptr us):=fun c g0=>by
     cases g0 with
     | @ptr _ _ b sz _ hb =>
     obtain ⟨arr,t,lo,hi',hlv,hrep⟩:=sim_live hsim hj hb
     obtain ⟨hl,hat⟩:=hw.at
     refine .eptr (us:=fun k=>arr.getD k undef) (fun u hu=>?_) (fun k hk=>?_) (fun k hk=>?_)
     ·obtain ⟨k,hk,rfl⟩:=List.getElem_of_mem hu
      exact (hat k (by omega) hk).one (hlv.one _ (List.getElem_mem _))
     ·obtain ⟨u,g1,g2⟩:=hlv.rep k (by omega)
      rw [hmb j _ _ _ hne hj hb _ rfl,Nat.zero_add]
      simp only [World.cell?,hlv.heap,Array.getD_eq_getD_getElem?,g1];rfl
     ·obtain ⟨u,g1,g2⟩:=hlv.rep k (by omega)
      have e:arr.getD k undef=u:=by simp [Array.getD_eq_getD_getElem?,g1]
      rw [e]
      exact ((hat k (by omega) hk).rep g2).mono mle fun _ _ h=>h
    exact gg _ g0
end Go.Proofs.YtpkodpcfafipdaaGreatDoor

namespace Go.Proofs.YtpkodpcfafipdaaGreatDoor
open Go.RowKit
structure DelRoads (P:Program) (k:FuncId) (es:Nat):Prop where
 main:∀ (b n c i j:Nat) (cs:List Value) (w:World),i < j→j≤n→n≤c→n≤1000000→cs.length=n * es→(∀ t v,cs[t]?=some v→w.cell? ⟨b,t,none⟩=some v)→(∀ t,t < n * es→w.frozen? ⟨b,t,none⟩=false)→(∀ v ∈ cs,v.oneCell'=true) →
  Calls P k #[.slice (some ⟨b,0,none⟩) n c,.int .i64 i,.int .i64 j] w fun e w'=>∃ zs:List Value,zs.length=(j - i) * es∧(∀ v ∈ zs,v.oneCell'=true)∧e=.returned (.slice (some ⟨b,0,none⟩) (n - (j - i)) c)∧w'=(w.drew.setCells b (i * es) (cs.drop (j * es))).setCells b ((n - (j - i)) * es) zs
end Go.Proofs.YtpkodpcfafipdaaGreatDoor

namespace Go.Proofs.YtpkodpcfafipdaaGreatDoor
open Go.RowKit
theorem callsR_c {P:Program} {f:FuncId} {fn:Func} {ac:BCode} {n n0:Nat} {rs:List ARes} {args:List V} {v:V} {st st' : List Slot} (hmix:P.follows .mixedOrders=true) (hf:P.funcs[f]?=some fn) (hc:compF P fn=some (ac.er,n,rs)) (hn0:st.length=n0)
  (h:initK args n fun fr=>wpC P n0 ac (FinQ (FinR st rs v st')) fr st):CallsS P f args st v st' :=
 callsR_comp hmix hf hc hn0 (wpC_ok (fun _ _ _ h=>h.out) (initK_ok h))
section
variable {β : Type} {r : β} {P : Program} {st : List Slot}
end
end Go.Proofs.YtpkodpcfafipdaaGreatDoor

namespace Go.Proofs.YtpkodpcfafipdaaGreatDoor
open Go.RowKit
def tru? (m:Option Bool):Option Bool:=if m=some true then some true else none
theorem tru_of {m:Option Bool} {r:Bool} (h:tru? m=some r):r=true∧m=some true:=by
 unfold tru? at h
 split at h
 ·exact ⟨(Option.some.inj h).symm,‹_›⟩
 ·cases h
theorem tru_ok {m:Option Bool} (h:m=some true):tru? m=some true:=if_pos h
theorem tru_closed {P:Program} {k:FuncId} {vs:List V} {m:Option Bool} (h:CallsO P k vs V.b (tru? m)) (hm:m=some true):CallsO P k vs V.b m:=fun v hv=>by
 rw [hm] at hv
 cases hv
 exact h true (tru_ok hm)
theorem tstT_c {b:Bool} {A B:Prop} {X:Option Bool} (H:(bif b then X else some false)=some true) (h:b=true→X=some true→A):Tst b A B :=
 tst_c H h fun _ h=>by cases h
theorem mksA_c {β:Type} {r:β} {α:Type} {f:α→V} {x0:α} {n:Int} {bytes:Nat} {z:List V} {X:List α→Option β} {k:Nat→List V→Bool→Prop} (H:(mk? n x0).bind X=some r) (hz:(f x0).cells=z) (h1:z.length=1) (hb:bytes≤1000) (h:∀ L,X L=some r→k n.toNat (cellsM f L) true):Mks 1 bytes z n n k :=
 mks_c (X:=fun L=>if L.length=n.toNat then X L else none) (r:=r) (by
  obtain ⟨L,hL,H'⟩:=bind_c H
  rw [hL]
  unfold mk? at hL
  split at hL
  ·simp only [Option.some.injEq] at hL
   subst hL
   simpa using H'
  ·cases hL) hz h1 hb fun L hL=>by
  by_cases e:L.length=n.toNat
  ·rw [if_pos e] at hL;rw [e];exact h L hL
  ·rw [if_neg e] at hL;cases hL
def lenG? {α:Type} (n:Nat) (l:List α):Option Unit:=if n=l.length then some () else none
theorem lenG_c {β α:Type} {r:β} {n:Nat} {l:List α} {X:Unit→Option β} (H:(lenG? n l).bind X=some r):∃ u:Unit,n=l.length∧X u=some r:=by
 obtain ⟨u,hu,H⟩:=bind_c H
 unfold lenG? at hu
 split at hu
 ·exact ⟨u,‹_›,H⟩
 ·cases hu
structure GrowRoads (P:Program) (k:FuncId) (es:Nat) (E:TypeId):Prop where
 some_:∀ (b:Option Addr) (n:Nat) (w:World),0 < n→n≤1000000→Calls P k #[.slice b 0 0,.int .i64 n] w fun e w'=>∃ (ZS:Array Value) (c:Nat),e=.returned (.slice (some ⟨w.heap.size,0,none⟩) 0 c)∧w'=w.drew.alloc (.cells ZS E)∧c * es≤ZS.size
 zero_:∀ (b:Option Addr) (w:World),Calls P k #[.slice b 0 0,.int .i64 0] w fun e w'=>e=.returned (.slice b 0 0)∧w'=w
end Go.Proofs.YtpkodpcfafipdaaGreatDoor

namespace Go.Proofs.YtpkodpcfafipdaaGreatDoor
open Go.RowKit
def p_octet_wide (a0:Int):Option (Bool) :=
 bif (a0 == (1:Int)) then
  some true
 else
 bif (a0 == (2:Int)) then
  some true
 else
 bif (a0 == (4:Int)) then
  some true
 else
 bif (a0 == (6:Int)) then
  some true
 else
 some false
def p_octet_Lay_l1 (a1:Int) (z15:Int) (z16:Int) (z18:Int):Nat→Int→(List Int)→Option ((Int × (List Int)))
 | 0,_,_=>none
 | n + 1,y19,y20 =>
  bif (decide (y19 < z18)) then
   (pos? (w64 ((8:Int) * y19))).bind fun x22 =>
   (arr? (Int.toNat a1) y20 (w64 (w64 (z16 - (1:Int)) - y19))).bind fun x23 =>
   p_octet_Lay_l1 a1 z15 z16 z18 n (w64 (y19 + (1:Int))) (List.set y20 (Int.toNat (w64 (w64 (z16 - (1:Int)) - y19))) (IntKind.wrap .u8 (shrI .i64 z15 (w64 ((8:Int) * y19)))))
  else
  some (y19,y20)
def p_octet_Lay (a0:Int) (a1:Int):Option ((List Int) × Int) :=
 (p_octet_wide a1).bind fun v1 =>
 bif v1 then
  bif (decide (a0 < (0:Int))) then
   some ([],(8:Int))
  else
  (pos? (w64 ((8:Int) * a1))).bind fun x4 =>
  bif ((shrI .i64 a0 (w64 ((8:Int) * a1))) != (0:Int)) then
   some ([],(8:Int))
  else
  (mk? a1 (0:Int)).bind fun l6 =>
  (p_octet_Lay_l1 a1 a0 a1 a1 fuel (0:Int) l6).bind fun q26 =>
  (lenG? (Int.toNat a1) q26.2).bind fun _ =>
  some (q26.2,(0:Int))
 else
 some ([],(2:Int))
def p_frame_Put (a0:ByteArray):Option (ByteArray × Int) :=
 bif (a0.toList == (⟨#[]⟩ : ByteArray).toList) then
  some ((⟨#[]⟩ : ByteArray),(4:Int))
 else
 bif (decide ((128:Int) < (a0.size:Int))) then
  some ((⟨#[]⟩ : ByteArray),(5:Int))
 else
 (p_octet_Lay (a0.size:Int) (2:Int)).bind fun v3 =>
 (text? v3.1).bind fun s4 =>
 (cat? s4 a0).bind fun s5 =>
 some (s5,v3.2)
end Go.Proofs.YtpkodpcfafipdaaGreatDoor

namespace Go.Proofs.YtpkodpcfafipdaaGreatDoor
open Go.RowKit
abbrev V.u8 (k:UInt8):V:=.lit (.int .u8 k.toNat)
theorem has_v (k:UInt8):CallsV Tryz.prog 71 [.u8 k] (.s (ba (hasN k.toNat))) :=
 callsV_old #[.int .u8 k.toNat] (fun _ _ h=>lits_eq (vs:=[.int .u8 k.toNat]) h) (fun w _=>ret_of (has_c k w)) fun _=>.lit rfl
theorem known_v (k:UInt8):CallsV Tryz.prog 72 [.u8 k] (.b (knownN k.toNat)) :=
 callsV_old #[.int .u8 k.toNat] (fun _ _ h=>lits_eq (vs:=[.int .u8 k.toNat]) h) (fun w _=>ret_of (known_c k w)) fun _=>.lit rfl
theorem stzIn_v (n a b:Int):CallsV Tryz.prog 74 [.i n,.i a,.i b] (.b (decide (a≤n) && decide (n≤b))) :=
 callsV_old #[.int .i64 n,.int .i64 a,.int .i64 b] (fun _ _ h=>lits_eq (vs:=[.int .i64 n,.int .i64 a,.int .i64 b]) h) (fun w _=>ret_of (stzIn_c n a b w)) fun _=>.lit rfl
def StzD.l (s:StzD):List Value:=[.int .u8 s.kind.toNat,.string s.user,.string s.res,.string s.name,.int .i64 s.show_,.int .i64 s.prio,.int .i64 s.code,.int .i64 s.n]
def stzV (s:StzD):V:=.agg [.u8 s.kind,.s s.user,.s s.res,.s s.name,.i s.show_,.i s.prio,.i s.code,.i s.n]
theorem refStzCheck_v (s:StzD) (hu:s.user.size≤100000) (hr:s.res.size≤100000) (hn:s.name.size≤100000):CallsV Tryz.prog 63 [stzV s] (.i (checkS s)) :=
 callsV_old #[.agg s.arr] (fun m c h=>by
  have h1:c.size=1:=h.1
  have h0:=h.2 0 (by omega) (by simp)
  have e:=agg_lits (vs:=s.l) (show Rep m noBk c[0] (.agg (s.l.map V.lit)) from h0)
  apply Array.ext
  ·simpa using h1
  ·intro i g1 g2
   have:i=0:=by omega
   subst this
   rw [e];rfl) (fun w _=>refStzCheck_c s w hu hr hn) fun _=>.lit rfl
end Go.Proofs.YtpkodpcfafipdaaGreatDoor

namespace Go.Proofs.YtpkodpcfafipdaaGreatDoor
open Go.RowKit
def ac78:ACode:=(.seq (.reg 0 [⟨(some 4),.mv (.const (.pointer none)),none,0⟩,⟨(some 5),.mv (.const (.int .i64 0)),none,0⟩] none) (.seq (.seq (.reg 0 [⟨(some 6),.mv (.tmp 1),none,0⟩] none) (.block 0 (.seq (.reg 0 [⟨(some 8),.bin .eql (.tmp 6) (.const (.int .u8 117)),none,0⟩,⟨(some 7),.mv (.tmp 8),none,0⟩] none) (.cond (.tmp 7) (.seq (.reg 0 [⟨(some 9),.mv (.tmp 0),none,0⟩,⟨(some 10),.nc (.tmp 9),none,0⟩,⟨(some 11),.fa 1 (.tmp 10),none,0⟩,⟨(some 4),.mv (.tmp 11),none,0⟩,⟨(some 5),.mv (.const (.int .i64 33)),none,0⟩] none) .ret) (.seq (.reg 0 [⟨(some 13),.bin .eql (.tmp 6) (.const (.int .u8 114)),none,0⟩,⟨(some 12),.mv (.tmp 13),none,0⟩] none) (.cond (.tmp 12) (.seq (.reg 0 [⟨(some 14),.mv (.tmp 0),none,0⟩,⟨(some 15),.nc (.tmp 14),none,0⟩,⟨(some 16),.fa 2 (.tmp 15),none,0⟩,⟨(some 4),.mv (.tmp 16),none,0⟩,⟨(some 5),.mv (.const (.int .i64 12)),none,0⟩] none) .ret) (.seq (.reg 0 [⟨(some 18),.bin .eql (.tmp 6) (.const (.int .u8 109)),none,0⟩,⟨(some 17),.mv (.tmp 18),none,0⟩] none) (.cond (.tmp 17) (.seq (.reg 0 [⟨(some 19),.mv (.tmp 0),none,0⟩,⟨(some 20),.nc (.tmp 19),none,0⟩,⟨(some 21),.fa 3 (.tmp 20),none,0⟩,⟨(some 4),.mv (.tmp 21),none,0⟩,⟨(some 5),.mv (.const (.int .i64 24)),none,0⟩] none) .ret) .skip)))))))) (.seq (.reg 0 [⟨(some 4),.mv (.const (.pointer none)),none,0⟩,⟨(some 5),.mv (.const (.int .i64 0)),none,0⟩] none) .ret)))
theorem ac78_ok:compF Tryz.prog Tryz.f78=some (ac78,22,[.tmp 4,.tmp 5]):=by unfold ac78;kernel_rfl
def ac79:ACode:=(.seq (.reg 0 [⟨(some 4),.mv (.const (.pointer none)),none,0⟩,⟨(some 5),.mv (.const (.int .i64 0)),none,0⟩,⟨(some 6),.mv (.const (.int .i64 0)),none,0⟩] none) (.seq (.seq (.reg 0 [⟨(some 7),.mv (.tmp 1),none,0⟩] none) (.block 0 (.seq (.reg 0 [⟨(some 9),.bin .eql (.tmp 7) (.const (.int .u8 115)),none,0⟩,⟨(some 8),.mv (.tmp 9),none,0⟩] none) (.cond (.tmp 8) (.seq (.reg 0 [⟨(some 10),.mv (.tmp 0),none,0⟩,⟨(some 11),.nc (.tmp 10),none,0⟩,⟨(some 12),.fa 4 (.tmp 11),none,0⟩,⟨(some 4),.mv (.tmp 12),none,0⟩,⟨(some 5),.mv (.const (.int .i64 1)),none,0⟩,⟨(some 6),.mv (.const (.int .i64 0)),none,0⟩] none) .ret) (.seq (.reg 0 [⟨(some 14),.bin .eql (.tmp 7) (.const (.int .u8 112)),none,0⟩,⟨(some 13),.mv (.tmp 14),none,0⟩] none) (.cond (.tmp 13) (.seq (.reg 0 [⟨(some 15),.mv (.tmp 0),none,0⟩,⟨(some 16),.nc (.tmp 15),none,0⟩,⟨(some 17),.fa 5 (.tmp 16),none,0⟩,⟨(some 4),.mv (.tmp 17),none,0⟩,⟨(some 5),.mv (.const (.int .i64 1)),none,0⟩,⟨(some 6),.mv (.const (.int .i64 128)),none,0⟩] none) .ret) (.seq (.reg 0 [⟨(some 19),.bin .eql (.tmp 7) (.const (.int .u8 99)),none,0⟩,⟨(some 18),.mv (.tmp 19),none,0⟩] none) (.cond (.tmp 18) (.seq (.reg 0 [⟨(some 20),.mv (.tmp 0),none,0⟩,⟨(some 21),.nc (.tmp 20),none,0⟩,⟨(some 22),.fa 6 (.tmp 21),none,0⟩,⟨(some 4),.mv (.tmp 22),none,0⟩,⟨(some 5),.mv (.const (.int .i64 1)),none,0⟩,⟨(some 6),.mv (.const (.int .i64 0)),none,0⟩] none) .ret) .skip)))))))) (.seq (.reg 0 [⟨(some 23),.mv (.tmp 0),none,0⟩,⟨(some 24),.nc (.tmp 23),none,0⟩,⟨(some 25),.fa 7 (.tmp 24),none,0⟩,⟨(some 4),.mv (.tmp 25),none,0⟩,⟨(some 5),.mv (.const (.int .i64 6)),none,0⟩,⟨(some 6),.mv (.const (.int .i64 0)),none,0⟩] none) .ret)))
theorem ac79_ok:compF Tryz.prog Tryz.f79=some (ac79,26,[.tmp 4,.tmp 5,.tmp 6]):=by unfold ac79;kernel_rfl
def ac59:ACode:=(.seq (.reg 1 [⟨(some 10),.mv (.tmp 0),none,0⟩,⟨(some 11),.nc (.tmp 10),none,0⟩,⟨(some 12),.fa 0 (.tmp 11),none,0⟩,⟨(some 13),.ld 1 false (.tmp 12),none,0⟩,⟨(some 14),.cl 71 [(.tmp 13)],none,0⟩,⟨(some 15),.s2b (.tmp 14),none,0⟩,⟨(some 16),.lens (.tmp 15),none,1⟩,⟨(some 17),.mv (.const (.int .i64 0)),none,1⟩] none) (.block 0 (.loop (.seq (.reg 0 [⟨(some 18),.bin .lss (.tmp 17) (.tmp 16),none,0⟩] none) (.seq (.cond (.tmp 18) .skip (.exit 0)) (.seq (.block 1 (.seq (.reg 0 [⟨(some 19),.ixs 1 (.tmp 15) (.tmp 17),none,0⟩,⟨(some 20),.ld 1 false (.tmp 19),none,0⟩,⟨(some 7),.mv (.tmp 20),none,0⟩] none) (.seq (.reg 0 [⟨(some 22),.mv (.tmp 0),none,0⟩,⟨(some 23),.mv (.tmp 7),none,0⟩,⟨(some 24),.cl 78 [(.tmp 22),(.tmp 23)],none,0⟩,⟨(some 21),.mv (.tmp 24),none,0⟩,⟨(some 25),.ex (.tmp 21) 0,none,0⟩,⟨(some 26),.ex (.tmp 21) 1,none,0⟩,⟨(some 8),.mv (.tmp 25),none,0⟩,⟨(some 9),.mv (.tmp 26),none,0⟩] none) (.seq (.reg 0 [⟨(some 27),.mv (.tmp 8),none,0⟩,⟨(some 28),.eqp true (.tmp 27) (.const (.pointer none)),none,0⟩] none) (.cond (.tmp 28) (.reg 0 [⟨(some 29),.mv (.tmp 1),none,0⟩,⟨(some 30),.mv (.tmp 8),none,0⟩,⟨(some 31),.mv (.tmp 9),none,0⟩,⟨(some 32),.cv (.tmp 29) [(.tmp 30),(.tmp 31)],none,0⟩] none) (.reg 0 [⟨(some 33),.mv (.tmp 2),none,0⟩,⟨(some 34),.mv (.tmp 0),none,0⟩,⟨(some 35),.mv (.tmp 7),none,0⟩,⟨(some 36),.cl 79 [(.tmp 34),(.tmp 35)],none,0⟩,⟨(some 37),.ex (.tmp 36) 0,none,0⟩,⟨(some 38),.ex (.tmp 36) 1,none,0⟩,⟨(some 39),.ex (.tmp 36) 2,none,0⟩,⟨(some 40),.cv (.tmp 33) [(.tmp 37),(.tmp 38),(.tmp 39)],none,0⟩] none)))))) (.reg 0 [⟨(some 41),.bin .add (.tmp 17) (.const (.int .i64 1)),none,0⟩,⟨(some 17),.mv (.tmp 41),none,0⟩] none)))))))
theorem ac59_ok:compF Tryz.prog Tryz.f59=some (ac59,42,[]):=by unfold ac59;kernel_rfl
def ac93:ACode:=(.reg 0 [⟨(some 4),.mv (.tmp 0),none,0⟩,⟨(some 5),.nc (.tmp 4),none,0⟩,⟨none,.st 1 (.tmp 5) (.const (.string ⟨#[]⟩)),none,0⟩] none)
theorem ac93_ok:compF Tryz.prog Tryz.f93=some (ac93,6,[]):=by unfold ac93;kernel_rfl
def ac94:ACode:=(.reg 0 [⟨(some 6),.mv (.tmp 0),none,0⟩,⟨(some 7),.nc (.tmp 6),none,0⟩,⟨none,.st 1 (.tmp 7) (.const (.int .i64 0)),none,0⟩] none)
theorem ac94_ok:compF Tryz.prog Tryz.f94=some (ac94,8,[]):=by unfold ac94;kernel_rfl
def ac73:ACode:=(.seq (.reg 1 [⟨(some 1),.bx (.tmp 0),none,0⟩,⟨(some 2),.mv (.const (.bool false)),none,1⟩] none) (.seq (.reg 0 [⟨(some 3),.cl 59 [(.tmp 1),(.func 93),(.func 94)],none,0⟩] none) (.seq (.reg 0 [⟨(some 4),.ld 8 true (.tmp 1),none,0⟩,⟨(some 5),.fa 0 (.tmp 1),none,0⟩,⟨(some 6),.ld 1 false (.tmp 5),none,0⟩,⟨(some 7),.bd [(.lit (.int .u8 0)),(.lit (.string ⟨#[]⟩)),(.lit (.string ⟨#[]⟩)),(.lit (.string ⟨#[]⟩)),(.lit (.int .i64 0)),(.lit (.int .i64 0)),(.lit (.int .i64 0)),(.lit (.int .i64 0))] [(0,1,(.tmp 6))],none,0⟩,⟨(some 8),.eqa false [1,2,2,2,1,1,1,1] (.tmp 4) (.tmp 7),none,0⟩,⟨(some 2),.mv (.tmp 8),none,0⟩] none) .ret)))
theorem ac73_ok:compF Tryz.prog Tryz.f73=some (ac73,9,[.tmp 2]):=by unfold ac73;kernel_rfl
def ac58:ACode:=(.seq (.reg 1 [⟨(some 1),.bx (.tmp 0),none,0⟩,⟨(some 2),.mv (.const (.int .i64 0)),none,1⟩] none) (.seq (.reg 0 [⟨(some 4),.fa 0 (.tmp 1),none,0⟩,⟨(some 5),.ld 1 false (.tmp 4),none,0⟩,⟨(some 6),.cl 71 [(.tmp 5)],none,0⟩,⟨(some 3),.mv (.tmp 6),none,0⟩] none) (.seq (.block 0 (.seq (.reg 0 [⟨(some 8),.fa 0 (.tmp 1),none,0⟩,⟨(some 9),.ld 1 false (.tmp 8),none,0⟩,⟨(some 10),.cl 72 [(.tmp 9)],none,0⟩,⟨(some 11),.un .not (.tmp 10),none,0⟩,⟨(some 7),.mv (.tmp 11),none,0⟩] none) (.cond (.tmp 7) (.seq (.reg 0 [⟨(some 2),.mv (.const (.int .i64 12)),none,0⟩] none) .ret) (.seq (.reg 0 [⟨(some 13),.ld 8 true (.tmp 1),none,0⟩,⟨(some 14),.cl 73 [(.tmp 13)],none,0⟩,⟨(some 15),.un .not (.tmp 14),none,0⟩,⟨(some 12),.mv (.tmp 15),none,0⟩] none) (.cond (.tmp 12) (.seq (.reg 0 [⟨(some 2),.mv (.const (.int .i64 4)),none,0⟩] none) .ret) (.seq (.seq (.reg 0 [⟨(some 17),.fa 4 (.tmp 1),none,0⟩,⟨(some 18),.ld 1 false (.tmp 17),none,0⟩,⟨(some 19),.cl 74 [(.tmp 18),(.const (.int .i64 0)),(.const (.int .i64 63))],none,0⟩,⟨(some 20),.un .not (.tmp 19),none,0⟩,⟨(some 16),.mv (.tmp 20),none,0⟩] none) (.cond (.tmp 16) .skip (.seq (.reg 0 [⟨(some 21),.fa 5 (.tmp 1),none,0⟩,⟨(some 22),.ld 1 false (.tmp 21),none,0⟩,⟨(some 23),.cl 74 [(.tmp 22),(.const (.int .i64 (-128))),(.const (.int .i64 127))],none,0⟩,⟨(some 24),.un .not (.tmp 23),none,0⟩,⟨(some 16),.mv (.tmp 24),none,0⟩] none) (.cond (.tmp 16) .skip (.seq (.reg 0 [⟨(some 25),.fa 6 (.tmp 1),none,0⟩,⟨(some 26),.ld 1 false (.tmp 25),none,0⟩,⟨(some 27),.cl 74 [(.tmp 26),(.const (.int .i64 0)),(.const (.int .i64 255))],none,0⟩,⟨(some 28),.un .not (.tmp 27),none,0⟩,⟨(some 16),.mv (.tmp 28),none,0⟩] none) (.cond (.tmp 16) .skip (.reg 0 [⟨(some 29),.fa 7 (.tmp 1),none,0⟩,⟨(some 30),.ld 1 false (.tmp 29),none,0⟩,⟨(some 31),.cl 74 [(.tmp 30),(.const (.int .i64 0)),(.const (.int .i64 281474976710655))],none,0⟩,⟨(some 32),.un .not (.tmp 31),none,0⟩,⟨(some 16),.mv (.tmp 32),none,0⟩] none))))))) (.cond (.tmp 16) (.seq (.reg 0 [⟨(some 2),.mv (.const (.int .i64 8)),none,0⟩] none) .ret) (.seq (.reg 0 [⟨(some 34),.fa 3 (.tmp 1),none,0⟩,⟨(some 35),.ld 1 false (.tmp 34),none,0⟩,⟨(some 36),.lent (.tmp 35),none,0⟩,⟨(some 37),.bin .gtr (.tmp 36) (.const (.int .i64 24)),none,0⟩,⟨(some 33),.mv (.tmp 37),none,0⟩] none) (.cond (.tmp 33) (.seq (.reg 0 [⟨(some 2),.mv (.const (.int .i64 5)),none,0⟩] none) .ret) (.seq (.seq (.reg 0 [⟨(some 39),.fa 3 (.tmp 1),none,0⟩,⟨(some 40),.ld 1 false (.tmp 39),none,0⟩,⟨(some 41),.cl 75 [(.tmp 40)],none,0⟩,⟨(some 42),.un .not (.tmp 41),none,0⟩,⟨(some 38),.mv (.tmp 42),none,0⟩] none) (.cond (.tmp 38) .skip (.reg 0 [⟨(some 43),.mv (.tmp 3),none,0⟩,⟨(some 44),.bin .neq (.tmp 43) (.const (.string ⟨#[]⟩)),none,0⟩,⟨(some 45),.mv (.tmp 44),none,0⟩,⟨(some 46),.mv (.tmp 3),(some (45,true)),0⟩,⟨(some 47),.ixt (.tmp 46) (.const (.int .i64 0)),(some (45,true)),0⟩,⟨(some 48),.bin .eql (.tmp 47) (.const (.int .u8 117)),(some (45,true)),0⟩,⟨(some 49),.pick (.tmp 45) (.tmp 48) (.const (.bool false)),none,0⟩,⟨(some 50),.mv (.tmp 49),none,0⟩,⟨(some 51),.fa 1 (.tmp 1),(some (50,true)),0⟩,⟨(some 52),.ld 1 false (.tmp 51),(some (50,true)),0⟩,⟨(some 53),.cl 76 [(.tmp 52)],(some (50,true)),0⟩,⟨(some 54),.un .not (.tmp 53),(some (50,true)),0⟩,⟨(some 55),.pick (.tmp 50) (.tmp 54) (.const (.bool false)),none,0⟩,⟨(some 38),.mv (.tmp 55),none,0⟩] none))) (.cond (.tmp 38) (.seq (.reg 0 [⟨(some 2),.mv (.const (.int .i64 11)),none,0⟩] none) .ret) .skip))))))))))) (.seq (.reg 0 [⟨(some 56),.fa 2 (.tmp 1),none,0⟩,⟨(some 57),.ld 1 false (.tmp 56),none,0⟩,⟨(some 58),.cl 77 [(.tmp 57)],none,0⟩,⟨(some 2),.mv (.tmp 58),none,0⟩] none) .ret))))
theorem ac58_ok:compF Tryz.prog Tryz.f58=some (ac58,59,[.tmp 2]):=by unfold ac58;kernel_rfl
end Go.Proofs.YtpkodpcfafipdaaGreatDoor

namespace Go.Proofs.YtpkodpcfafipdaaGreatDoor
open Go.RowKit
def zeroF (s:StzD) (c:UInt8):StzD:=if c=117 then { s with user:=⟨#[]⟩ } else if c=114 then { s with res:=⟨#[]⟩ } else if c=109 then { s with name:=⟨#[]⟩ } else if c=115 then { s with show_:=0 } else if c=112 then { s with prio:=0 } else if c=99 then { s with code:=0 } else { s with n:=0 }
def letV (c:UInt8):V:=if c=117 then .tup [.ptr 0 1,.i 33] else if c=114 then .tup [.ptr 0 2,.i 12] else if c=109 then .tup [.ptr 0 3,.i 24] else .tup [.lit (.pointer none),.i 0]
def numbV (c:UInt8):V:=if c=115 then .tup [.ptr 0 4,.i 1,.i 0] else if c=112 then .tup [.ptr 0 5,.i 1,.i 128] else if c=99 then .tup [.ptr 0 6,.i 1,.i 0] else .tup [.ptr 0 7,.i 6,.i 0]
theorem bytes_idlt (l:List UInt8):V.idlt.belowL 0 (l.map byteV)=true:=belowL_mem fun v hv=>by
 obtain ⟨b,_,rfl⟩:=List.mem_map.1 hv;rfl
attribute [local irreducible] AW Fin FinR seqQ blkQ regQ loopQ CallsV CallsS Callable
theorem text_s (c:UInt8) (s:StzD) (l:List UInt8) (hc:c=117∨c=114∨c=109∨c=115∨c=112∨c=99∨c=110):CallsS Tryz.prog 78 [.ptr 0 0,.u8 c] [.live (stzV s).cells 0] (letV c) [.live (stzV s).cells 0]:=by
 have hid:=bytes_idlt l
 refine callsR_comp mix Tryz.func78 ac78_ok rfl ?_
 unfold ac78
 simp only [List.length_cons,List.length_nil,List.replicate_succ,List.replicate_zero,List.cons_append,List.nil_append,Nat.reduceAdd,Nat.reduceSub]
 rcases hc with rfl | rfl | rfl | rfl | rfl | rfl | rfl
 all_goals (repeat' (first | ((try simp only [Nat.reduceAdd,Nat.reduceMul,Nat.zero_add,Nat.add_zero,Int.toNat_natCast,Int.reduceToNat,stzV]);refine hK' _ _ _ ?_;clear hK' K';first | refine q_regT ?_ | refine q_regD rfl ?_) | first | refine w_seq ?_ | refine q_seqN ?_ | (refine w_reg (by (try simp only [List.length_cons,List.length_nil,Nat.reduceAdd]);rfl) (by (try simp only [List.replicate_succ,List.replicate_zero,List.cons_append,List.nil_append,List.append_nil]);rfl) (fun K' hK'=>wpOps_ok ?_);conv=>whnf) | (refine w_condTst rfl ?_;(repeat refine Tst.not ?_);(first | refine Tst.T ?_ | refine Tst.F ?_ | refine Tst.decT (by assumption) ?_ | refine Tst.decF (by assumption) ?_ | refine Tst.eqT (by assumption) ?_ | refine Tst.eqF (by assumption) ?_ | refine Tst.neT (by assumption) ?_ | refine Tst.neF (by assumption) ?_ | refine Tst.isT (by assumption) ?_ | refine Tst.isF (by assumption) ?_ | refine Tst.dec (fun hb=>?_) (fun hb=>?_) | refine Tst.eqI (fun hb=>?_) (fun hb=>?_) | refine Tst.neI (fun hb=>?_) (fun hb=>?_) | refine Tst.not ?_ | refine Tst.any (fun hb=>?_) (fun hb=>?_)) <;> conv=>whnf) | refine w_ret ?_ | refine w_skip ?_ | refine w_blk ?_ | refine w_exit ?_ | refine q_seqR ?_ | refine q_seqE ?_ | refine q_blkN ?_ | refine q_blkR ?_ | refine q_blkH ?_ | refine q_blkE rfl ?_ | refine q_loopR ?_ | refine q_loopE ?_ | fail | first | (refine LenQ.ok ?_;conv=>whnf) | ((first | refine Tst.T ?_ | refine Tst.F ?_ | refine Tst.decT (by assumption) ?_ | refine Tst.decF (by assumption) ?_ | refine Tst.eqT (by assumption) ?_ | refine Tst.eqF (by assumption) ?_ | refine Tst.neT (by assumption) ?_ | refine Tst.neF (by assumption) ?_ | refine Tst.isT (by assumption) ?_ | refine Tst.isF (by assumption) ?_ | refine Tst.dec (fun hb=>?_) (fun hb=>?_) | refine Tst.eqI (fun hb=>?_) (fun hb=>?_) | refine Tst.neI (fun hb=>?_) (fun hb=>?_) | refine Tst.not ?_ | refine Tst.any (fun hb=>?_) (fun hb=>?_)) <;> conv=>whnf) | (refine Ari.ok (by omega) ?_;conv=>whnf) | (refine IxO.ok (by omega) (by omega) ?_;conv=>whnf) | (refine IxS.M (by omega) (by omega) (fun _=>rfl) ?_;conv=>whnf) | (refine ⟨Nat.le_of_ble_eq_true rfl,?_⟩;conv=>whnf) | (refine ⟨rfl,?_⟩;conv=>whnf) | (refine Cat.ok (by omega) ?_;conv=>whnf)))
 all_goals exact f_R0 (by simp) (ResL.cons (ResOne.tmp rfl) (ResL.cons (ResOne.tmp rfl) ResL.nil)) rfl rfl rfl rfl (by repeat' (first | exact trivial | refine wkS_f ?_ | refine wkS_d ?_ | refine ⟨rfl,?_⟩ | refine wkS_live0 (by assumption) ?_))
theorem number_s (c:UInt8) (s:StzD) (l:List UInt8) (hc:c=115∨c=112∨c=99∨c=110):CallsS Tryz.prog 79 [.ptr 0 0,.u8 c] [.live (stzV s).cells 0] (numbV c) [.live (stzV s).cells 0]:=by
 have hid:=bytes_idlt l
 refine callsR_comp mix Tryz.func79 ac79_ok rfl ?_
 unfold ac79
 simp only [List.length_cons,List.length_nil,List.replicate_succ,List.replicate_zero,List.cons_append,List.nil_append,Nat.reduceAdd,Nat.reduceSub]
 rcases hc with rfl | rfl | rfl | rfl
 all_goals (repeat' (first | ((try simp only [Nat.reduceAdd,Nat.reduceMul,Nat.zero_add,Nat.add_zero,Int.toNat_natCast,Int.reduceToNat,stzV]);refine hK' _ _ _ ?_;clear hK' K';first | refine q_regT ?_ | refine q_regD rfl ?_) | first | refine w_seq ?_ | refine q_seqN ?_ | (refine w_reg (by (try simp only [List.length_cons,List.length_nil,Nat.reduceAdd]);rfl) (by (try simp only [List.replicate_succ,List.replicate_zero,List.cons_append,List.nil_append,List.append_nil]);rfl) (fun K' hK'=>wpOps_ok ?_);conv=>whnf) | (refine w_condTst rfl ?_;(repeat refine Tst.not ?_);(first | refine Tst.T ?_ | refine Tst.F ?_ | refine Tst.decT (by assumption) ?_ | refine Tst.decF (by assumption) ?_ | refine Tst.eqT (by assumption) ?_ | refine Tst.eqF (by assumption) ?_ | refine Tst.neT (by assumption) ?_ | refine Tst.neF (by assumption) ?_ | refine Tst.isT (by assumption) ?_ | refine Tst.isF (by assumption) ?_ | refine Tst.dec (fun hb=>?_) (fun hb=>?_) | refine Tst.eqI (fun hb=>?_) (fun hb=>?_) | refine Tst.neI (fun hb=>?_) (fun hb=>?_) | refine Tst.not ?_ | refine Tst.any (fun hb=>?_) (fun hb=>?_)) <;> conv=>whnf) | refine w_ret ?_ | refine w_skip ?_ | refine w_blk ?_ | refine w_exit ?_ | refine q_seqR ?_ | refine q_seqE ?_ | refine q_blkN ?_ | refine q_blkR ?_ | refine q_blkH ?_ | refine q_blkE rfl ?_ | refine q_loopR ?_ | refine q_loopE ?_ | fail | first | (refine LenQ.ok ?_;conv=>whnf) | ((first | refine Tst.T ?_ | refine Tst.F ?_ | refine Tst.decT (by assumption) ?_ | refine Tst.decF (by assumption) ?_ | refine Tst.eqT (by assumption) ?_ | refine Tst.eqF (by assumption) ?_ | refine Tst.neT (by assumption) ?_ | refine Tst.neF (by assumption) ?_ | refine Tst.isT (by assumption) ?_ | refine Tst.isF (by assumption) ?_ | refine Tst.dec (fun hb=>?_) (fun hb=>?_) | refine Tst.eqI (fun hb=>?_) (fun hb=>?_) | refine Tst.neI (fun hb=>?_) (fun hb=>?_) | refine Tst.not ?_ | refine Tst.any (fun hb=>?_) (fun hb=>?_)) <;> conv=>whnf) | (refine Ari.ok (by omega) ?_;conv=>whnf) | (refine IxO.ok (by omega) (by omega) ?_;conv=>whnf) | (refine IxS.M (by omega) (by omega) (fun _=>rfl) ?_;conv=>whnf) | (refine ⟨Nat.le_of_ble_eq_true rfl,?_⟩;conv=>whnf) | (refine ⟨rfl,?_⟩;conv=>whnf) | (refine Cat.ok (by omega) ?_;conv=>whnf)))
 all_goals exact f_R0 (by simp) (ResL.cons (ResOne.tmp rfl) (ResL.cons (ResOne.tmp rfl) (ResL.cons (ResOne.tmp rfl) ResL.nil))) rfl rfl rfl rfl (by repeat' (first | exact trivial | refine wkS_f ?_ | refine wkS_d ?_ | refine ⟨rfl,?_⟩ | refine wkS_live0 (by assumption) ?_))
theorem bare1_s (s s' : StzD) (l:List UInt8) (off:Nat) (m:Int) (h:off=1∧s'={ s with user:=⟨#[]⟩ }∨off=2∧s'={ s with res:=⟨#[]⟩ }∨off=3∧s'={ s with name:=⟨#[]⟩ }):CallsS Tryz.prog 93 [.ptr 0 off,.i m] [.live (stzV s).cells 0] (.tup []) [.live (stzV s').cells 0]:=by
 have hid:=bytes_idlt l
 refine callsR_comp mix Tryz.func93 ac93_ok rfl ?_
 unfold ac93
 simp only [List.length_cons,List.length_nil,List.replicate_succ,List.replicate_zero,List.cons_append,List.nil_append,Nat.reduceAdd,Nat.reduceSub]
 rcases h with ⟨rfl,rfl⟩ | ⟨rfl,rfl⟩ | ⟨rfl,rfl⟩
 all_goals (repeat' (first | ((try simp only [Nat.reduceAdd,Nat.reduceMul,Nat.zero_add,Nat.add_zero,Int.toNat_natCast,Int.reduceToNat,stzV]);refine hK' _ _ _ ?_;clear hK' K';first | refine q_regT ?_ | refine q_regD rfl ?_) | first | refine w_seq ?_ | refine q_seqN ?_ | (refine w_reg (by (try simp only [List.length_cons,List.length_nil,Nat.reduceAdd]);rfl) (by (try simp only [List.replicate_succ,List.replicate_zero,List.cons_append,List.nil_append,List.append_nil]);rfl) (fun K' hK'=>wpOps_ok ?_);conv=>whnf) | (refine w_condTst rfl ?_;(repeat refine Tst.not ?_);(first | refine Tst.T ?_ | refine Tst.F ?_ | refine Tst.decT (by assumption) ?_ | refine Tst.decF (by assumption) ?_ | refine Tst.eqT (by assumption) ?_ | refine Tst.eqF (by assumption) ?_ | refine Tst.neT (by assumption) ?_ | refine Tst.neF (by assumption) ?_ | refine Tst.isT (by assumption) ?_ | refine Tst.isF (by assumption) ?_ | refine Tst.dec (fun hb=>?_) (fun hb=>?_) | refine Tst.eqI (fun hb=>?_) (fun hb=>?_) | refine Tst.neI (fun hb=>?_) (fun hb=>?_) | refine Tst.not ?_ | refine Tst.any (fun hb=>?_) (fun hb=>?_)) <;> conv=>whnf) | refine w_ret ?_ | refine w_skip ?_ | refine w_blk ?_ | refine w_exit ?_ | refine q_seqR ?_ | refine q_seqE ?_ | refine q_blkN ?_ | refine q_blkR ?_ | refine q_blkH ?_ | refine q_blkE rfl ?_ | refine q_loopR ?_ | refine q_loopE ?_ | fail | first | (refine LenQ.ok ?_;conv=>whnf) | ((first | refine Tst.T ?_ | refine Tst.F ?_ | refine Tst.decT (by assumption) ?_ | refine Tst.decF (by assumption) ?_ | refine Tst.eqT (by assumption) ?_ | refine Tst.eqF (by assumption) ?_ | refine Tst.neT (by assumption) ?_ | refine Tst.neF (by assumption) ?_ | refine Tst.isT (by assumption) ?_ | refine Tst.isF (by assumption) ?_ | refine Tst.dec (fun hb=>?_) (fun hb=>?_) | refine Tst.eqI (fun hb=>?_) (fun hb=>?_) | refine Tst.neI (fun hb=>?_) (fun hb=>?_) | refine Tst.not ?_ | refine Tst.any (fun hb=>?_) (fun hb=>?_)) <;> conv=>whnf) | (refine Ari.ok (by omega) ?_;conv=>whnf) | (refine IxO.ok (by omega) (by omega) ?_;conv=>whnf) | (refine IxS.M (by omega) (by omega) (fun _=>rfl) ?_;conv=>whnf) | (refine ⟨Nat.le_of_ble_eq_true rfl,?_⟩;conv=>whnf) | (refine ⟨rfl,?_⟩;conv=>whnf) | (refine Cat.ok (by omega) ?_;conv=>whnf)))
 all_goals exact f_R0 (by simp) .nil rfl rfl rfl rfl (by repeat' (first | exact trivial | refine wkS_f ?_ | refine wkS_d ?_ | refine ⟨rfl,?_⟩ | refine wkS_live0 (by assumption) ?_))
theorem bare2_s (s s' : StzD) (l:List UInt8) (off:Nat) (m m' : Int) (h:off=4∧s'={ s with show_:=0 }∨off=5∧s'={ s with prio:=0 }∨off=6∧s'={ s with code:=0 }∨off=7∧s'={ s with n:=0 }):CallsS Tryz.prog 94 [.ptr 0 off,.i m,.i m'] [.live (stzV s).cells 0] (.tup []) [.live (stzV s').cells 0]:=by
 have hid:=bytes_idlt l
 refine callsR_comp mix Tryz.func94 ac94_ok rfl ?_
 unfold ac94
 simp only [List.length_cons,List.length_nil,List.replicate_succ,List.replicate_zero,List.cons_append,List.nil_append,Nat.reduceAdd,Nat.reduceSub]
 rcases h with ⟨rfl,rfl⟩ | ⟨rfl,rfl⟩ | ⟨rfl,rfl⟩ | ⟨rfl,rfl⟩
 all_goals (repeat' (first | ((try simp only [Nat.reduceAdd,Nat.reduceMul,Nat.zero_add,Nat.add_zero,Int.toNat_natCast,Int.reduceToNat,stzV]);refine hK' _ _ _ ?_;clear hK' K';first | refine q_regT ?_ | refine q_regD rfl ?_) | first | refine w_seq ?_ | refine q_seqN ?_ | (refine w_reg (by (try simp only [List.length_cons,List.length_nil,Nat.reduceAdd]);rfl) (by (try simp only [List.replicate_succ,List.replicate_zero,List.cons_append,List.nil_append,List.append_nil]);rfl) (fun K' hK'=>wpOps_ok ?_);conv=>whnf) | (refine w_condTst rfl ?_;(repeat refine Tst.not ?_);(first | refine Tst.T ?_ | refine Tst.F ?_ | refine Tst.decT (by assumption) ?_ | refine Tst.decF (by assumption) ?_ | refine Tst.eqT (by assumption) ?_ | refine Tst.eqF (by assumption) ?_ | refine Tst.neT (by assumption) ?_ | refine Tst.neF (by assumption) ?_ | refine Tst.isT (by assumption) ?_ | refine Tst.isF (by assumption) ?_ | refine Tst.dec (fun hb=>?_) (fun hb=>?_) | refine Tst.eqI (fun hb=>?_) (fun hb=>?_) | refine Tst.neI (fun hb=>?_) (fun hb=>?_) | refine Tst.not ?_ | refine Tst.any (fun hb=>?_) (fun hb=>?_)) <;> conv=>whnf) | refine w_ret ?_ | refine w_skip ?_ | refine w_blk ?_ | refine w_exit ?_ | refine q_seqR ?_ | refine q_seqE ?_ | refine q_blkN ?_ | refine q_blkR ?_ | refine q_blkH ?_ | refine q_blkE rfl ?_ | refine q_loopR ?_ | refine q_loopE ?_ | fail | first | (refine LenQ.ok ?_;conv=>whnf) | ((first | refine Tst.T ?_ | refine Tst.F ?_ | refine Tst.decT (by assumption) ?_ | refine Tst.decF (by assumption) ?_ | refine Tst.eqT (by assumption) ?_ | refine Tst.eqF (by assumption) ?_ | refine Tst.neT (by assumption) ?_ | refine Tst.neF (by assumption) ?_ | refine Tst.isT (by assumption) ?_ | refine Tst.isF (by assumption) ?_ | refine Tst.dec (fun hb=>?_) (fun hb=>?_) | refine Tst.eqI (fun hb=>?_) (fun hb=>?_) | refine Tst.neI (fun hb=>?_) (fun hb=>?_) | refine Tst.not ?_ | refine Tst.any (fun hb=>?_) (fun hb=>?_)) <;> conv=>whnf) | (refine Ari.ok (by omega) ?_;conv=>whnf) | (refine IxO.ok (by omega) (by omega) ?_;conv=>whnf) | (refine IxS.M (by omega) (by omega) (fun _=>rfl) ?_;conv=>whnf) | (refine ⟨Nat.le_of_ble_eq_true rfl,?_⟩;conv=>whnf) | (refine ⟨rfl,?_⟩;conv=>whnf) | (refine Cat.ok (by omega) ?_;conv=>whnf)))
 all_goals exact f_R0 (by simp) .nil rfl rfl rfl rfl (by repeat' (first | exact trivial | refine wkS_f ?_ | refine wkS_d ?_ | refine ⟨rfl,?_⟩ | refine wkS_live0 (by assumption) ?_))
theorem bare1_ok:Callable Tryz.prog 93:=callable_comp Tryz.func93 ac93_ok (by kernel_rfl)
theorem bare2_ok:Callable Tryz.prog 94:=callable_comp Tryz.func94 ac94_ok (by kernel_rfl)
end Go.Proofs.YtpkodpcfafipdaaGreatDoor

