/- A part of the proof: 6 texts joined. -/
import Derived.Test.YthnihifblmnkdaaGreatPdA11
import Derived.KernelRfl
import Derived.OpenShut
import Derived.Test.YthnihifblmnkdaaGreatPdA5
import Derived.TacticsIn
set_option linter.all false
namespace Go.Proofs.YthnihifblmnkdaaGreat
open Go.RowKit
section
variable {P : Program} {n0 : Nat}
inductive BCode where
 | skip
 | reg (nc:Nat) (ops:List AOper) (bef:Option (List (List Nat))) (x:Nat) (fz:List Nat)
 | seq (a b:BCode)
 | join (a b:BCode)
 | cond (c:Operand) (a b:BCode)
 | block (id:Nat) (a:BCode)
 | loop (a:BCode)
 | exit (id:Nat)
 | ret
 | raw (c:Code)
def BCode.er:BCode→ACode
 | .skip=>.skip
 | .reg nc ops bef _ _=>.reg nc ops bef
 | .seq a b=>.seq a.er b.er
 | .join a b=>.seq a.er b.er
 | .cond c a b=>.cond c a.er b.er
 | .block id a=>.block id a.er
 | .loop a=>.loop a.er
 | .exit id=>.exit id
 | .ret=>.ret
 | .raw c=>.raw c
def ownId:V→Option Nat
 | .ptr i _=>some i
 | .osl i _ _ _ _=>some i
 | _=>none
def frzK (fr:List V):List Slot→List Nat→(List Slot→Prop)→Prop
 | st,[],k=>k st
 | st,t :: ts,k=>getK fr t fun v=>match ownId v with
  | some i=>sgetK st i fun cs f=>Nat.le f cs.length∧ssetK st i (.live cs cs.length) fun st'=>frzK fr st' ts k
  | none=>False
def frzI:List Nat→List Slot→(List Slot→Prop)→Prop
 | [],st,k=>k st
 | i :: is,st,k=>sgetK st i fun cs f=>Nat.le f cs.length∧ssetK st i (.live cs cs.length) fun st'=>frzI is st' k
theorem Frz.trans {st st1 st2:List Slot} (h:Frz st st1) (h2:Frz st1 st2):Frz st st2:=by
 induction h2 with
 | refl=>exact h
 | step _ hi h1 h2 ih=>exact .step ih hi h1 h2
theorem frzK_ok {fr:List V}:∀ {ts:List Nat} {st:List Slot} {k:List Slot→Prop},frzK fr st ts k→∃ st',Frz st st'∧k st'
 | [],st,k,h=>⟨st,.refl,h⟩
 | t :: ts,st,k,h=>by
  rw [frzK,getK_eq] at h
  split at h
  ·obtain ⟨cs,f,h1,h2,h3⟩:=sgetK_ok h
   rw [ssetK_eq] at h3
   obtain ⟨st',h4,h5⟩:=frzK_ok h3
   exact ⟨st',(Frz.step .refl h1 h2 (Nat.le_refl _)).trans h4,h5⟩
  ·exact h.elim
theorem frzI_ok:∀ {is:List Nat} {st:List Slot} {k:List Slot→Prop},frzI is st k→∃ st',Frz st st'∧k st'
 | [],st,k,h=>⟨st,.refl,h⟩
 | t :: ts,st,k,h=>by
  obtain ⟨cs,f,h1,h2,h3⟩:=sgetK_ok h
  rw [ssetK_eq] at h3
  obtain ⟨st',h4,h5⟩:=frzI_ok h3
  exact ⟨st',(Frz.step .refl h1 h2 (Nat.le_refl _)).trans h4,h5⟩
structure FootQ (bef:List (List Nat)) (fp:List (List Nat × List Nat)) (A:Prop):Prop where
 out:footB bef fp.reverse=true∧A
structure LoopQ (P:Program) (n0:Nat) (a:BCode) (Q:AExit→List V→List Slot→Prop) (fr:List V) (st:List Slot):Prop where
 out:∀ Q' : AExit→List V→List Slot→Prop,(∀ e fr st,Q e fr st→Q' e fr st)→AW P n0 (.loop a.er) Q' fr st
structure RawQ (P:Program) (n0:Nat) (c:Code) (Q:AExit→List V→List Slot→Prop) (fr:List V) (st:List Slot):Prop where
 out:∀ Q' : AExit→List V→List Slot→Prop,(∀ e fr st,Q e fr st→Q' e fr st)→AW P n0 (.raw c) Q' fr st
structure JoinQ (P:Program) (n0:Nat) (a b:BCode) (Q:AExit→List V→List Slot→Prop) (fr:List V) (st:List Slot):Prop where
 out:∀ Q' : AExit→List V→List Slot→Prop,(∀ e fr st,Q e fr st→Q' e fr st)→AW P n0 (.seq a.er b.er) Q' fr st
structure ArriveQ (n0:Nat) (J:List V→List Slot→Prop) (base:List V) (car:List Nat) (fr:List V) (st:List Slot):Prop where
 out:∃ k sg fr'' st'',Wk n0 k sg fr fr'' st st''∧∃ vals,J vals st''∧fr''=setF base car vals
structure FinQ (F:AExit→List V→List Slot→Prop) (e:AExit) (fr:List V) (st:List Slot):Prop where
 out:F e fr st
structure AgainQ (n0:Nat) (J:Nat→List V→List Slot→Prop) (n:Nat) (base:List V) (car:List Nat) (fr:List V) (st:List Slot):Prop where
 out:∃ n' k sg fr'' st'',n' < n∧Wk n0 k sg fr fr'' st st''∧∃ vals,J n' vals st''∧fr''=setF base car vals
def padK:List Slot→Nat→Nat→(List Slot→Nat→Prop)→Prop
 | s :: l,a,nc,k=>padK l (a + 1) nc fun l' n=>k (s :: l') n
 | [],a,nc,k=>rep nc fun l=>k l a
where rep:Nat→(List Slot→Prop)→Prop
 | 0,k=>k []
 | n + 1,k=>rep n fun l=>k (.fresh :: l)
theorem padK_rep:∀ (n:Nat) (k:List Slot→Prop),padK.rep n k=k (List.replicate n .fresh)
 | 0,k=>rfl
 | n + 1,k=>by rw [padK.rep,padK_rep n];rfl
theorem padK_eq:∀ (l:List Slot) (a nc:Nat) (k:List Slot→Nat→Prop),padK l a nc k=k (l++List.replicate nc .fresh) (a + l.length)
 | [],a,nc,k=>by rw [padK,padK_rep];simp
 | s :: l,a,nc,k=>by rw [padK,padK_eq l];simp [Nat.add_assoc,Nat.add_comm 1]
def footK (bef:Option (List (List Nat))) (fp:List (List Nat × List Nat)) (A:Prop):Prop :=
 match bef with
 | none=>A
 | some b=>FootQ b fp A
def exK (b:Bool) (A B:Prop):Prop :=
 match b with
 | true=>A
 | false=>B
abbrev OpsT:=List (List Nat × List Nat)→List V→List Slot→(List (List Nat × List Nat)→List V→List Slot→Prop)→Prop
def opsStep (P:Program) (base:Nat) (o:AOper) (ih:OpsT):OpsT:=fun fp fr st K =>
 match o with
 | ⟨d,op,none,c⟩=>wpOp P fr st (base + c) op fun fr v rd wr st'=>putK fr d v fun fr=>ih ((rd,wr) :: fp) fr st' K
 | ⟨d,op,some (t,w),c⟩=>getK fr t fun g=>match g with
  | .lit (.bool b)=>Tst b
   (setK fr t (.lit (.bool true)) fun fr=>match w with
    | true=>wpOp P fr st (base + c) op fun fr v rd wr st'=>putK fr d v fun fr=>ih ((rd,wr) :: fp) fr st' K
    | false=>putK fr d (.tup []) fun fr=>ih (([],[]) :: fp) fr st K)
   (setK fr t (.lit (.bool false)) fun fr=>match w with
    | false=>wpOp P fr st (base + c) op fun fr v rd wr st'=>putK fr d v fun fr=>ih ((rd,wr) :: fp) fr st' K
    | true=>putK fr d (.tup []) fun fr=>ih (([],[]) :: fp) fr st K)
  | .tup []=>putK fr d (.tup []) fun fr=>ih (([],[]) :: fp) fr st K
  | _=>False
def wqOps (P:Program) (base:Nat) (os:List AOper):OpsT:=List.rec (motive:=fun _=>OpsT) (fun fp fr st K=>K fp fr st) (fun o _ ih=>opsStep P base o ih) os
theorem wqOps_eq {P:Program} {base:Nat}:∀ os:List AOper,wqOps P base os=wpOps P base os
 | []=>rfl
 | o :: os=>by
  have ih:List.rec (motive:=fun _=>OpsT) (fun fp fr st K=>K fp fr st) (fun o _ ih=>opsStep P base o ih) os=wpOps P base os:=wqOps_eq os
  show opsStep P base o (List.rec (motive:=fun _=>OpsT) (fun fp fr st K=>K fp fr st) (fun o _ ih=>opsStep P base o ih) os)=wpOps P base (o :: os)
  rw [ih]
  obtain ⟨d,op,g,c⟩:=o
  cases g <;> rfl
abbrev CodeT:=(AExit→List V→List Slot→Prop)→List V→List Slot→Prop
def thenQ (b:CodeT) (Q:AExit→List V→List Slot→Prop):AExit→List V→List Slot→Prop:=fun e fr st=>match e with
 | .normal=>b Q fr st
 | e=>Q e fr st
def blockQ (id:Nat) (Q:AExit→List V→List Slot→Prop):AExit→List V→List Slot→Prop:=fun e fr st=>match e with
 | .exit j=>exK (Nat.beq j id) (Q .normal fr st) (Q (.exit j) fr st)
 | e=>Q e fr st
def condK (fr:List V) (st:List Slot) (c:Operand) (a b:CodeT) (Q:AExit→List V→List Slot→Prop):Prop:=opK fr c fun v=>match v with
 | .lit (.bool t)=>Tst t (Setb fr c true fun fr=>a Q fr st) (Setb fr c false fun fr=>b Q fr st)
 | _=>False
def wpC (P:Program) (n0:Nat) (c:BCode):CodeT:=BCode.rec (motive:=fun _=>CodeT)
 (fun Q fr st=>Q .normal fr st)
 (fun nc ops bef x fz Q fr st=>frzK fr st fz fun st=>padK st 0 (nc + x) fun st' n=>wqOps P n ops [] fr st' fun fp fr st=>footK bef fp (Q .normal fr st))
 (fun _ _ a b Q fr st=>a (thenQ b Q) fr st)
 (fun a b _ _ Q fr st=>JoinQ P n0 a b Q fr st)
 (fun c _ _ a b Q fr st=>condK fr st c a b Q)
 (fun id _ a Q fr st=>a (blockQ id Q) fr st)
 (fun a _ Q fr st=>LoopQ P n0 a Q fr st)
 (fun id Q fr st=>Q (.exit id) fr st)
 (fun Q fr st=>Q .ret fr st)
 (fun c Q fr st=>RawQ P n0 c Q fr st) c
theorem wpC_ok:∀ {c:BCode} {Q Q' : AExit→List V→List Slot→Prop} {fr:List V} {st:List Slot},(∀ e fr st,Q e fr st→Q' e fr st)→wpC P n0 c Q fr st→AW P n0 c.er Q' fr st
 | .skip,Q,Q',fr,st,hq,h=>hq _ _ _ h
 | .reg nc ops none x fz,Q,Q',fr,st,hq,h=>by
  obtain ⟨st',hf,h⟩:=frzK_ok (k:=fun st=>padK st 0 (nc + x) fun st' n=>wqOps P n ops [] fr st' fun fp fr st=>footK none fp (Q .normal fr st)) h
  simp only [padK_eq,Nat.zero_add,footK,wqOps_eq] at h
  exact ⟨st',x,hf,AOps_mono (fun _ _ _ h=>hq _ _ _ h) (wpOps_ok h)⟩
 | .reg nc ops (some bef) x fz,Q,Q',fr,st,hq,h=>by
  obtain ⟨st',hf,h⟩:=frzK_ok (k:=fun st=>padK st 0 (nc + x) fun st' n=>wqOps P n ops [] fr st' fun fp fr st=>footK (some bef) fp (Q .normal fr st)) h
  simp only [padK_eq,Nat.zero_add,footK,wqOps_eq] at h
  exact ⟨st',x,hf,AOps_mono (fun _ _ _ h=>⟨h.out.1,hq _ _ _ h.out.2⟩) (wpOps_ok h)⟩
 | .seq a b,Q,Q',fr,st,hq,h=>by
  refine wpC_ok (c:=a) (Q:=thenQ (wpC P n0 b) Q) (fun e fr st h=>?_) h
  cases e with
  | normal=>exact .inl (wpC_ok (c:=b) hq h)
  | _=>exact hq _ _ _ h
 | .join a b,Q,Q',fr,st,hq,h=>JoinQ.out h Q' hq
 | .cond c a b,Q,Q',fr,st,hq,h=>by
  change condK fr st c (wpC P n0 a) (wpC P n0 b) Q at h
  simp only [condK,opK_eq] at h
  split at h
  ·rename_i t hc
   refine ⟨t,hc,fun e=>?_,fun e=>?_⟩
   ·subst e;exact wpC_ok hq (setb_ok (K:=fun fr=>wpC P n0 a Q fr st) hc (h.out.1 rfl))
   ·subst e;exact wpC_ok hq (setb_ok (K:=fun fr=>wpC P n0 b Q fr st) hc (h.out.2 rfl))
  ·exact h.elim
 | .block id a,Q,Q',fr,st,hq,h=>by
  refine wpC_ok (c:=a) (Q:=blockQ id Q) (fun e fr st h=>?_) h
  cases e with
  | exit j =>
   by_cases hj:j=id
   ·have:Nat.beq j id=true:=by rw [hj];exact Nat.beq_refl id
    simp only [blockQ,this,exK] at h
    simp only [hj,if_true];exact hq _ _ _ h
   ·have:Nat.beq j id=false:=Bool.eq_false_iff.2 fun e=>hj (Nat.eq_of_beq_eq_true e)
    simp only [blockQ,this,exK] at h
    simp only [hj,if_false];exact hq _ _ _ h
  | _=>exact hq _ _ _ h
 | .loop a,Q,Q',fr,st,hq,h=>LoopQ.out h Q' hq
 | .exit id,Q,Q',fr,st,hq,h=>hq _ _ _ h
 | .ret,Q,Q',fr,st,hq,h=>hq _ _ _ h
 | .raw c,Q,Q',fr,st,hq,h=>RawQ.out h Q' hq
def setsK:List V→List Nat→List V→(List V→Prop)→Prop
 | fr,t :: ts,v :: vs,k=>setK fr t v fun fr=>setsK fr ts vs k
 | fr,_,_,k=>k fr
theorem setsK_eq:∀ (ts:List Nat) (fr vs:List V) (k:List V→Prop),setsK fr ts vs k=k (setF fr ts vs)
 | t :: ts,fr,v :: vs,k=>by rw [setsK,setK_eq,setsK_eq ts];rfl
 | [],fr,vs,k=>by simp [setsK,setF]
 | t :: ts,fr,[],k=>by simp [setsK,setF]
def maskK:List V→List Nat→(List V→Prop)→Prop
 | fr,t :: ts,k=>setK fr t .any fun fr=>maskK fr ts k
 | fr,[],k=>k fr
theorem maskK_eq:∀ (ts:List Nat) (fr:List V) (k:List V→Prop),maskK fr ts k=k (maskF ts fr)
 | t :: ts,fr,k=>by rw [maskK,setK_eq,maskK_eq ts];rfl
 | [],fr,k=>rfl
def againK (n0:Nat) (J:Nat→List V→List Slot→Prop) (n:Nat) (base:List V) (car:List Nat) (Q:AExit→List V→List Slot→Prop):AExit→List V→List Slot→Prop :=
 fun e fr st=>match e with
 | .normal=>AgainQ n0 J n base car fr st
 | e=>Q e fr st
theorem renL_at {sg:List Nat}:∀ (l:List V) (t:Nat) (h:t < l.length),(V.ren.renL sg l)[t]'(by rw [renL_len];exact h)=(l[t]).ren sg
 | v :: l,0,_=>rfl
 | v :: l,t + 1,h=>by simp only [V.ren.renL,List.getElem_cons_succ];exact renL_at l t (Nat.lt_of_succ_lt_succ h)
theorem maskF_len:∀ (ts:List Nat) (fr:List V),(maskF ts fr).length=fr.length
 | [],fr=>rfl
 | t :: ts,fr=>by rw [maskF,maskF_len ts,List.length_set]
theorem maskF_at:∀ (ts:List Nat) (fr:List V) (t:Nat) (h1:t < (maskF ts fr).length) (h2:t < fr.length),(maskF ts fr)[t]=.any∨(maskF ts fr)[t]=fr[t]
 | [],fr,t,h1,h2=>.inr rfl
 | u :: ts,fr,t,h1,h2=>by
  have:=maskF_at ts (fr.set u .any) t h1 (by rw [List.length_set];exact h2)
  rcases this with h | h
  ·exact .inl h
  ·by_cases e:u=t
   ·left
    show (maskF ts (fr.set u .any))[t]=.any
    rw [h];subst e;simp
   ·right
    show (maskF ts (fr.set u .any))[t]=fr[t]
    rw [h,List.getElem_set_ne e]
theorem wk_mask {n:Nat} {sg junk:List Nat} {fr fr' : List V} {st st' : List Slot} (h0:n0≤n) (hfx:((List.range n0).all fun i=>sgm sg i == i)=true) (hm:V.ren.renL sg fr'=maskF junk fr) (hid:V.idlt.belowL n fr'=true) (hl:st'.length=n) (hb:wkB n sg st 0 st'):Wk n0 n sg fr fr' st st':=by
 obtain ⟨g1,g2⟩:=wkB_ok hb
 simp only [Nat.zero_add] at g1 g2
 have hlen:fr'.length=fr.length:=by rw [← renL_len (sg:=sg) fr',hm,maskF_len]
 refine ⟨h0,fun i hi=>?_,hlen,fun t h1 h2=>?_,hl,fun i cs f h=>⟨(g1 i cs f h).1,(g1 i cs f h).2.1⟩,g2,fun i j ci fi cj fj hi hj e=>?_⟩
 ·simp only [List.all_eq_true,List.mem_range,beq_iff_eq] at hfx
  exact hfx i hi
 ·have e:=renL_at (sg:=sg) fr' t h1
  have e2:(V.ren.renL sg fr')[t]'(by rw [renL_len];exact h1)=(maskF junk fr)[t]'(by rw [maskF_len];exact h2):=by simp only [hm]
  rw [e] at e2
  rcases maskF_at junk fr t (by rw [maskF_len];exact h2) h2 with g | g
  ·left
   rw [g] at e2
   cases hv:fr'[t] <;> rw [hv] at e2 <;> simp [V.ren] at e2
  ·exact .inr ⟨by rw [e2,g],belowL_get hid t h1⟩
 ·have li:=(List.getElem?_eq_some_iff.1 hi).1
  have lj:=(List.getElem?_eq_some_iff.1 hj).1
  rcases Nat.lt_trichotomy i j with h | h | h
  ·exact absurd e ((g1 i ci fi hi).2.2 j h lj)
  ·exact h
  ·exact absurd e.symm ((g1 j cj fj hj).2.2 i h li)
variable {Q : AExit → List V → List Slot → Prop} {fr : List V} {st : List Slot}
theorem loop_c {a:BCode} (car junk junk0:List Nat) (J:Nat→List V→List Slot→Prop) (n1 k0:Nat) (sg0:List Nat) {vals0:List V} {st0:List Slot} (h0:J n1 vals0 st0) (hn:n0≤k0) (hfx:((List.range n0).all fun i=>sgm sg0 i == i)=true)
  (hm:V.ren.renL sg0 (setF (maskF junk fr) car vals0)=maskF junk0 fr) (hid:V.idlt.belowL k0 (setF (maskF junk fr) car vals0)=true) (hl:st0.length=k0) (hb:wkB k0 sg0 st 0 st0)
  (hr:∀ n vals st,J n vals st→maskK fr junk fun base=>setsK base car vals fun fr'=>wpC P n0 a (againK n0 J n base car Q) fr' st):LoopQ P n0 a Q fr st:=by
 refine ⟨fun Q' hq=>w_loop car junk J n1 k0 sg0 vals0 (wk_mask hn hfx hm hid hl hb) h0 fun n vals st hj=>?_⟩
 have:=hr n vals st hj
 rw [maskK_eq,setsK_eq] at this
 refine wpC_ok (fun e fr st h=>?_) this
 cases e with
 | normal=>exact h.out
 | _=>exact hq _ _ _ h
theorem again_c {J:Nat→List V→List Slot→Prop} {n:Nat} {base:List V} {car:List Nat} (junk:List Nat) (n' k:Nat) (sg:List Nat) {vals' : List V} {st'' : List Slot} (hJ:J n' vals' st'') (hlt:n' < n) (hn:n0≤k) (hfx:((List.range n0).all fun i=>sgm sg i == i)=true)
  (hm:V.ren.renL sg (setF base car vals')=maskF junk fr) (hid:V.idlt.belowL k (setF base car vals')=true) (hl:st''.length=k) (hb:wkB k sg st 0 st''):AgainQ n0 J n base car fr st :=
 ⟨n',k,sg,_,st'',hlt,wk_mask hn hfx hm hid hl hb,vals',hJ,rfl⟩
def joinK (n0:Nat) (J:List V→List Slot→Prop) (base:List V) (car:List Nat) (Q:AExit→List V→List Slot→Prop):AExit→List V→List Slot→Prop :=
 fun e fr st=>match e with
 | .normal=>ArriveQ n0 J base car fr st
 | e=>Q e fr st
theorem join_c {a b:BCode} (car junk:List Nat) (J:List V→List Slot→Prop) (ha:maskK fr junk fun base=>wpC P n0 a (joinK n0 J base car Q) fr st)
  (hb:∀ vals st,J vals st→maskK fr junk fun base=>setsK base car vals fun fr'=>wpC P n0 b Q fr' st):JoinQ P n0 a b Q fr st:=by
 rw [maskK_eq] at ha
 refine ⟨fun Q' hq=>wpC_ok (fun e fr' st' h=>?_) ha⟩
 cases e with
 | normal =>
  obtain ⟨k,sg,fr'',st'',hw,vals,hj,rfl⟩:=h.out
  have:=hb vals st'' hj
  rw [maskK_eq,setsK_eq] at this
  exact .inr ⟨k,sg,_,st'',hw,wpC_ok hq this⟩
 | _=>exact hq _ _ _ h
theorem arrive_c {J:List V→List Slot→Prop} {base:List V} {car:List Nat} (junk:List Nat) (k:Nat) (sg:List Nat) {vals' : List V} {st'' : List Slot} (hJ:J vals' st'') (hn:n0≤k) (hfx:((List.range n0).all fun i=>sgm sg i == i)=true)
  (hm:V.ren.renL sg (setF base car vals')=maskF junk fr) (hid:V.idlt.belowL k (setF base car vals')=true) (hl:st''.length=k) (hb:wkB k sg st 0 st''):ArriveQ n0 J base car fr st :=
 ⟨k,sg,_,st'',wk_mask hn hfx hm hid hl hb,vals',hJ,rfl⟩
def initK:List V→Nat→(List V→Prop)→Prop
 | [],n,k=>rep n k
 | v :: l,n + 1,k=>initK l n fun r=>k (v :: r)
 | _ :: _,0,_=>False
where rep:Nat→(List V→Prop)→Prop
 | 0,k=>k []
 | n + 1,k=>rep n fun l=>k (.tup [] :: l)
theorem initK_rep:∀ (n:Nat) (k:List V→Prop),initK.rep n k=k (List.replicate n (.tup []))
 | 0,k=>rfl
 | n + 1,k=>by rw [initK.rep,initK_rep n];rfl
theorem initK_ok:∀ {l:List V} {n:Nat} {k:List V→Prop},initK l n k→k (l++List.replicate (n - l.length) (.tup []))
 | [],n,k,h=>by rw [initK,initK_rep] at h;simpa using h
 | v :: l,n + 1,k,h=>by
  have:=initK_ok (l:=l) (n:=n) h
  simpa using this
 | _ :: _,0,k,h=>h.elim
end
def CallsO {α:Type} (P:Program) (f:FuncId) (args:List V) (enc:α→V) (m:Option α):Prop:=∀ v,m=some v→CallsV P f args (enc v)
theorem callsO_comp {α:Type} {enc:α→V} {m:Option α} {P:Program} {f:FuncId} {fn:Func} {ac:BCode} {n:Nat} {rs:List ARes} {args:List V} (hmix:P.follows .mixedOrders=true) (hf:P.funcs[f]?=some fn) (hc:compF P fn=some (ac.er,n,rs))
  (h:∀ r,m=some r→initK args n fun fr=>wpC P 0 ac (FinQ (Fin rs (enc r))) fr []):CallsO P f args enc m:=fun r hr =>
 callsV_comp hmix hf hc (wpC_ok (fun _ _ _ h=>h.out) (initK_ok (h r hr)))
structure Clo1 {α β:Type} (P:Program) (g:Nat) (caps:List V) (e1:α→V) (enc:β→V) (f:α→Option β):Prop where
 can:Callable P g
 own:V.idlt.belowL 0 caps=true
 calls:∀ a,CallsO P g (e1 a :: caps) enc (f a)
structure Clo2 {α α' β:Type} (P:Program) (g:Nat) (caps:List V) (e1:α→V) (e2:α'→V) (enc:β→V) (f:α→α'→Option β):Prop where
 can:Callable P g
 own:V.idlt.belowL 0 caps=true
 calls:∀ a b,CallsO P g (e1 a :: e2 b :: caps) enc (f a b)
def fuel:Nat:=100000000
abbrev w64 (r:Int):Int:=IntKind.i64.wrap r
def at? {α:Type} (l:List α) (j:Int):Option α:=if 0≤j then l[j.toNat]? else none
def byte? (s:ByteArray) (j:Int):Option Int:=if h:0≤j∧j.toNat < s.size then some (s[j.toNat]'h.2).toNat else none
def sub? (s:ByteArray) (lo hi:Option Int):Option ByteArray:=if 0≤lo.getD 0∧lo.getD 0≤hi.getD s.size∧hi.getD s.size≤s.size then some (s.extract (lo.getD 0).toNat (hi.getD s.size).toNat) else none
def cut? {α:Type} (l:List α) (lo hi:Option Int):Option (List α):=if 0≤lo.getD 0∧lo.getD 0≤hi.getD l.length∧hi.getD l.length≤l.length then some ((l.drop (lo.getD 0).toNat).take ((hi.getD l.length).toNat - (lo.getD 0).toNat)) else none
def cat? (a b:ByteArray):Option ByteArray:=if a.size + b.size≤4611686018427387904 then some (a++b) else none
def app? {α:Type} (a b:List α):Option (List α):=if a.length + b.length≤1000000 then some (a++b) else none
def pos? (b:Int):Option Unit:=if 0≤b then some () else none
def text? (l:List Int):Option ByteArray:=if l.all (fun b=>decide (0≤b) && decide (b≤255)) then some ⟨(l.map fun b=>UInt8.ofNat b.toNat).toArray⟩ else none
theorem flatMap_one {α:Type} (g:α→V):∀ l:List α,(l.flatMap fun a=>[g a])=l.map g
 | []=>rfl
 | a :: l=>by rw [List.flatMap_cons,flatMap_one g l];rfl
abbrev V.y8 (n:Int):V:=.lit (.int .u8 n)
abbrev andI (k:IntKind) (a b:Int):Int:=k.wrap (BitVec.ofInt k.bits a &&& BitVec.ofInt k.bits b).toNat
abbrev orI (k:IntKind) (a b:Int):Int:=k.wrap (BitVec.ofInt k.bits a ||| BitVec.ofInt k.bits b).toNat
abbrev xorI (k:IntKind) (a b:Int):Int:=k.wrap (BitVec.ofInt k.bits a ^^^ BitVec.ofInt k.bits b).toNat
abbrev andNotI (k:IntKind) (a b:Int):Int:=k.wrap (BitVec.ofInt k.bits a &&& ~~~ BitVec.ofInt k.bits b).toNat
abbrev shlI (k:IntKind) (a b:Int):Int:=k.wrap (a * 2 ^ (min b.toNat k.bits))
abbrev shrI (k:IntKind) (a b:Int):Int:=a.fdiv (2 ^ (min b.toNat k.bits))
def arr? {α:Type} (n:Nat) (l:List α) (j:Int):Option α:=if l.length=n then at? l j else none
theorem text_ok {l:List Int} {s:ByteArray} (h:text? l=some s):l.map V.y8=s.data.toList.map byteV:=by
 unfold text? at h
 split at h
 ·rename_i hc
  simp only [Option.some.injEq] at h
  subst h
  simp only [List.all_eq_true,Bool.and_eq_true,decide_eq_true_eq] at hc
  simp only [List.map_map]
  apply List.map_congr_left
  intro b hb
  have:=hc b hb
  simp only [Function.comp,byteV,V.y8,UInt8.toNat_ofNat']
  congr 2
  omega
 ·cases h
section
variable {β : Type} {r : β} {A B : Prop} {P : Program} {st : List Slot}
theorem bind_c {α:Type} {m:Option α} {X:α→Option β} (H:m.bind X=some r):∃ v,m=some v∧X v=some r:=by
 cases m with
 | none=>cases H
 | some v=>exact ⟨v,rfl,H⟩
theorem join0_c {α:Type} {m:Option α} {X:α→Option β} (H:m.bind X=some r):∃ K:α→Option β,K=X∧∃ v,m=some v∧K v=some r:=by
 obtain ⟨v,h1,h2⟩:=bind_c H
 exact ⟨X,rfl,v,h1,h2⟩
theorem tst_c {b:Bool} {X Y:Option β} (H:(bif b then X else Y)=some r) (h1:b=true→X=some r→A) (h2:b=false→Y=some r→B):Tst b A B:=by
 cases b with
 | true=>exact ⟨fun e=>h1 e H,fun e=>(by cases e)⟩
 | false=>exact ⟨fun e=>(by cases e),fun e=>h2 e H⟩
theorem tst_d {b:Bool} {X Y:Option β} (H:(bif b then X else Y)=some r) (h2:b=false→Y=some r→B) (h1:b=true→X=some r→A):Tst b A B:=tst_c H h1 h2
theorem ixs_c {α:Type} {f:α→V} {l:List α} {j:Int} {es:Nat} {X:α→Option β} {k:V→Prop} (H:(at? l j).bind X=some r) (hes:∀ a,(f a).cells.length=es) (h:∀ x,X x=some r→k (.eptr (f x).cells)):IxS es (l.map f) j k:=by
 obtain ⟨x,hx,H⟩:=bind_c H
 unfold at? at hx
 split at hx
 ·rename_i h0
  obtain ⟨h1,rfl⟩:=List.getElem?_eq_some_iff.1 hx
  exact IxS.M h0 h1 hes (h _ H)
 ·cases hx
theorem at_inv {α:Type} {l:List α} {j:Int} {x:α} (h:at? l j=some x):0≤j∧j.toNat < l.length∧l[j.toNat]?=some x:=by
 unfold at? at h
 split at h
 ·obtain ⟨h1,_⟩:=List.getElem?_eq_some_iff.1 h
  exact ⟨‹_›,h1,h⟩
 ·cases h
theorem ixo_c {α:Type} {l:List α} {j:Int} {X:α→Option β} {k:Nat→Prop} (H:(at? l j).bind X=some r) (h:∀ x,l[j.toNat]?=some x→X x=some r→k j.toNat):IxO l.length j k:=by
 obtain ⟨x,hx,H⟩:=bind_c H
 obtain ⟨h0,h1,h2⟩:=at_inv hx
 exact ⟨h0,h1,h x h2 H⟩
theorem ixa_c {α:Type} {l:List α} {n:Nat} {j:Int} {X:α→Option β} {k:Nat→Prop} (H:(arr? n l j).bind X=some r) (h:∀ x,l[j.toNat]?=some x→X x=some r→k j.toNat):IxO n j k:=by
 obtain ⟨x,hx,H⟩:=bind_c H
 unfold arr? at hx
 split at hx
 ·rename_i hn
  obtain ⟨h0,h1,h2⟩:=at_inv hx
  exact ⟨h0,hn ▸ h1,h x h2 H⟩
 ·cases hx
theorem takeK_of:∀ {l:List V} {n:Nat} {k:List V→Prop},n≤l.length→k (l.take n)→takeK l n k
 | l,0,k,_,h=>by cases l <;> exact h
 | [],n + 1,k,hn,h=>absurd hn (by simp)
 | v :: l,n + 1,k,hn,h=>takeK_of (l:=l) (n:=n) (by simpa using hn) h
theorem ldK_of:∀ {l:List V} {o sz:Nat} {ag:Bool} {k:V→Prop},o < l.length→o + agz ag sz≤l.length→k (partV ag sz (l.drop o))→ldK l o sz ag k
 | v :: l,0,sz,true,k,h0,h1,h=>takeK_of (by simpa [agz] using h1) h
 | v :: l,0,sz,false,k,h0,h1,h=>h
 | v :: l,o + 1,sz,ag,k,h0,h1,h=>ldK_of (l:=l) (o:=o) (by simpa using h0) (by rw [List.length_cons] at h1;omega) h
 | [],o,sz,ag,k,h0,h1,h=>absurd h0 (by simp)
theorem layK_of:∀ {l:List V} {o:Nat} {vs:List V} {k:List V→Prop},o + vs.length≤l.length→k (l.take o++vs++l.drop (o + vs.length))→layK l o vs k
 | l,0,[],k,_,h=>by
  have:layK l 0 [] k=k l:=by cases l <;> rfl
  rw [this];simpa using h
 | u :: l,0,v :: vs,k,hl,h=>layK_of (l:=l) (o:=0) (vs:=vs) (by simp at hl ⊢;omega) (by simpa using h)
 | u :: l,o + 1,vs,k,hl,h=>by
  refine layK_of (l:=l) (o:=o) (vs:=vs) (k:=fun r=>k (u :: r)) (by rw [List.length_cons] at hl;omega) ?_
  have e:o + 1 + vs.length=(o + vs.length) + 1:=by omega
  rw [e] at h
  simpa using h
 | [],0,v :: vs,k,hl,h=>absurd hl (by simp)
 | [],o + 1,vs,k,hl,h=>absurd hl (by simp)
theorem ldK_app {l m:List V} {o sz:Nat} {ag:Bool} {k:V→Prop} (ho:o < l.length∧o + agz ag sz≤l.length):∀ {p:List V},ldK l o sz ag k→ldK (p++l++m) (p.length + o) sz ag k:=by
 intro p h
 obtain ⟨h1,h2⟩:=ldK_ok h
 obtain ⟨hlt,ho⟩:=ho
 apply ldK_of
 ·simp only [List.length_append];omega
 ·simp only [List.length_append];cases ag <;> simp [agz] at ho ⊢ <;> omega
 ·have e:partV ag sz ((p++l++m).drop (p.length + o))=partV ag sz (l.drop o):=by
   rw [List.append_assoc,List.drop_append,List.drop_of_length_le (by omega),List.nil_append,Nat.add_sub_cancel_left,List.drop_append_of_le_length (by cases ag <;> simp [agz] at ho <;> omega)]
   cases ag with
   | true =>
    simp only [partV,if_true]
    rw [List.take_append_of_le_length (by simp [agz] at ho;rw [List.length_drop];omega)]
   | false =>
    simp only [partV,Bool.false_eq_true,if_false]
    simp [agz] at ho
    rw [List.getD_eq_getElem?_getD,List.getD_eq_getElem?_getD,List.getElem?_append_left (by rw [List.length_drop];omega)]
  rw [e];exact h2
theorem cellsM_split {α:Type} {f:α→V} {es:Nat} (hes:∀ a,(f a).cells.length=es):∀ {l:List α} {n:Nat} {x:α},l[n]?=some x→∃ p m,cellsM f l=p++(f x).cells++m∧p.length=n * es∧∀ y,cellsM f (l.set n y)=p++(f y).cells++m
 | [],n,x,h=>by simp at h
 | a :: l,0,x,h=>by
  simp only [List.getElem?_cons_zero,Option.some.injEq] at h
  subst h
  exact ⟨[],cellsM f l,rfl,by simp,fun y=>rfl⟩
 | a :: l,n + 1,x,h=>by
  obtain ⟨p,m,h1,h2,h3⟩:=cellsM_split hes (l:=l) (n:=n) (by simpa using h)
  have e:∀ (b:α) (r:List α),cellsM f (b :: r)=(f b).cells++cellsM f r:=fun b r=>by unfold cellsM;rw [List.flatMap_cons]
  refine ⟨(f a).cells++p,m,by rw [e,h1];simp only [List.append_assoc],by rw [List.length_append,hes,h2,Nat.succ_mul];omega,fun y=>?_⟩
  rw [List.set_cons_succ,e,h3];simp only [List.append_assoc]
theorem ldo_c {α:Type} {f:α→V} {l:List α} {n es off sz:Nat} {ag:Bool} {x:α} {k:V→Prop} (hx:l[n]?=some x) (hes:∀ a,(f a).cells.length=es) (o:Nat) (ho:off=n * es + o) (hs:o < es∧o + agz ag sz≤es) (h:ldK (f x).cells o sz ag k):ldK (cellsM f l) off sz ag k:=by
 obtain ⟨p,m,h1,h2,_⟩:=cellsM_split hes hx
 rw [h1,ho,← h2]
 exact ldK_app (by rw [hes];exact hs) h
theorem layK_app {l m vs:List V} {o:Nat} {k:List V→Prop}:∀ {p:List V},layK l o vs (fun l'=>k (p++l'++m))→o + vs.length≤l.length→layK (p++l++m) (p.length + o) vs k:=by
 intro p h hl
 obtain ⟨h1,h2⟩:=layK_ok h
 refine layK_of ?_ ?_
 ·simp only [List.length_append];omega
 ·have e:(p++l++m).take (p.length + o)++vs++(p++l++m).drop (p.length + o + vs.length)=p++(l.take o++vs++l.drop (o + vs.length))++m:=by
   rw [List.append_assoc p l m,List.take_append,List.take_of_length_le (by omega),Nat.add_sub_cancel_left,List.take_append_of_le_length (by omega),List.drop_append,List.drop_of_length_le (by omega),List.nil_append,Nat.add_assoc,Nat.add_sub_cancel_left,List.drop_append_of_le_length (by omega)]
   simp only [List.append_assoc]
  rw [e];exact h2
theorem sto_c {α:Type} {f:α→V} {l:List α} {n es off:Nat} {vs:List V} {x:α} {k:List V→Prop} (hx:l[n]?=some x) {x' : α} (hes:∀ a,(f a).cells.length=es) (o:Nat) (ho:off=n * es + o) (hs:o + vs.length≤es) (h' : layK (f x).cells o vs fun cs=>cs=(f x').cells) (h:k (cellsM f (l.set n x'))):layK (cellsM f l) off vs k:=by
 obtain ⟨p,m,h1,h2,h3⟩:=cellsM_split hes hx
 rw [h1,ho,← h2]
 refine layK_app ?_ (by rw [hes];exact hs)
 obtain ⟨g1,g2⟩:=layK_ok h'
 refine layK_of g1 ?_
 rw [g2,← h3];exact h
theorem ixt_c {s:ByteArray} {j:Int} {X:Int→Option β} {k:V→Prop} (H:(byte? s j).bind X=some r) (h:∀ x,X x=some r→k (.lit (.int .u8 x))):IxT s j k:=by
 obtain ⟨x,hx,H⟩:=bind_c H
 unfold byte? at hx
 split at hx
 ·rename_i h0
  simp only [Option.some.injEq] at hx
  subst hx
  exact ⟨h0.1,h0.2,h _ H⟩
 ·cases hx
theorem cat_c {a b:ByteArray} {X:ByteArray→Option β} {k:V→Prop} (H:(cat? a b).bind X=some r) (h:∀ x,X x=some r→k (.lit (.string x))):Cat a b k:=by
 obtain ⟨x,hx,H⟩:=bind_c H
 unfold cat? at hx
 split at hx
 ·simp only [Option.some.injEq] at hx;subst hx;exact ⟨‹_›,h _ H⟩
 ·cases hx
theorem cut_map {α:Type} {f:α→V} {l x:List α} {lo hi:Option Int} (hx:cut? l lo hi=some x):0≤lo.getD 0∧lo.getD 0≤hi.getD (l.map f).length∧hi.getD (l.map f).length≤(l.map f).length∧((l.map f).drop (lo.getD 0).toNat).take ((hi.getD (l.map f).length).toNat - (lo.getD 0).toNat)=x.map f:=by
 unfold cut? at hx
 split at hx
 ·rename_i h0
  simp only [Option.some.injEq] at hx
  subst hx
  rw [List.length_map,← List.map_drop,← List.map_take]
  exact ⟨h0.1,h0.2.1,h0.2.2,rfl⟩
 ·cases hx
theorem slsE_c {α:Type} {f:α→V} {l:List α} {es:Nat} {full:Bool} {lo:Option Int} {X:List α→Option β} {k:V→Prop} (H:(cut? l lo none).bind X=some r) (hes:∀ a,(f a).cells.length=es) (h:∀ x,X x=some r→k (.sl (x.map f) full)):SlS es (l.map f) full lo none none k:=by
 obtain ⟨x,hx,H⟩:=bind_c H
 obtain ⟨h0,h1,h2,h3⟩:=cut_map (f:=f) hx
 refine SlS.E (mem_es hes l) h0 (by simpa using h1) ?_
 have e:(l.map f).drop (lo.getD 0).toNat=x.map f:=by
  rw [← h3,List.take_of_length_le]
  simp only [Option.getD_none,List.length_drop,Int.toNat_natCast];omega
 rw [e];exact h x H
theorem slsH_c {α:Type} {f:α→V} {l:List α} {es:Nat} {full:Bool} {lo:Option Int} {hi:Int} {X:List α→Option β} {k:V→Prop} (H:(cut? l lo (some hi)).bind X=some r) (hes:∀ a,(f a).cells.length=es) (h:∀ x,X x=some r→k (.sl (x.map f) false)):SlS es (l.map f) full lo (some hi) none k:=by
 obtain ⟨x,hx,H⟩:=bind_c H
 obtain ⟨h0,h1,h2,h3⟩:=cut_map (f:=f) hx
 refine SlS.H (mem_es hes l) h0 h1 h2 ?_
 have e:((l.map f).drop (lo.getD 0).toNat).take (hi.toNat - (lo.getD 0).toNat)=x.map f:=h3
 rw [e];exact h x H
theorem slsC_c {α:Type} {f:α→V} {l:List α} {es:Nat} {full:Bool} {lo:Option Int} {hi:Int} {X:List α→Option β} {k:V→Prop} (H:(cut? l lo (some hi)).bind X=some r) (hes:∀ a,(f a).cells.length=es) (h:∀ x,X x=some r→k (.sl (x.map f) true)):SlS es (l.map f) full lo (some hi) (some hi) k:=by
 obtain ⟨x,hx,H⟩:=bind_c H
 obtain ⟨h0,h1,h2,h3⟩:=cut_map (f:=f) hx
 refine SlS.C (mem_es hes l) h0 h1 h2 ?_
 have e:((l.map f).drop (lo.getD 0).toNat).take (hi.toNat - (lo.getD 0).toNat)=x.map f:=h3
 rw [e];exact h x H
theorem pos_c {b:Int} {X:Unit→Option β} (H:(pos? b).bind X=some r):0≤b∧X ()=some r:=by
 obtain ⟨x,hx,H⟩:=bind_c H
 unfold pos? at hx
 split at hx
 ·exact ⟨‹_›,H⟩
 ·cases hx
theorem ask_c {α:Type} {enc:α→V} {m:Option α} {X:α→Option β} {f:Nat} {vs vs' : List V} {k:V→List Nat→List Nat→List Slot→Prop} (hc:CallsO P f vs' enc m) (H:m.bind X=some r) (hv:vs=vs') (h0:V.idlt.belowL 0 vs'=true) (h:∀ x,X x=some r→k (enc x) [] [] st):Ask P f vs st k:=by
 obtain ⟨x,hx,H⟩:=bind_c H
 exact Ask_V0 (hc x hx) hv h0 (h x H)
theorem askF_c {α:Type} {enc:α→V} {m:Option α} {X:α→Option β} {f:Nat} {vs vs' : List V} {rd:List Nat} {k:V→List Nat→List Nat→List Slot→Prop} (hc:CallsO P f vs' enc m) (H:m.bind X=some r) (ha:FzA st vs vs' rd) (h:∀ x,X x=some r→k (enc x) rd [] st):Ask P f vs st k:=by
 obtain ⟨x,hx,H⟩:=bind_c H
 exact Ask_V (hc x hx) ha (h x H)
theorem fza_ids:∀ {l:List V},V.idlt.belowL 0 l=true→FzA st l l []
 | [],_=>.nil
 | v :: l,h=>by
  simp only [V.idlt.belowL,Bool.and_eq_true] at h
  exact FzA.cons (r:=[]) (r':=[]) (.c (.id h.1)) (fza_ids h.2)
theorem fza_caps {l l' caps:List V} {rd:List Nat} (h:FzA st l l' rd) (hc:V.idlt.belowL 0 caps=true):FzA st (l++caps) (l'++caps) rd:=by
 induction h with
 | nil=>exact fza_ids hc
 | cons h _ ih=>exact .cons h ih
theorem askC_c {α β' : Type} {e1:α→V} {enc:β'→V} {f:α→Option β'} {a:α} {X:β'→Option β} {g:Nat} {caps:List V} {v:V} {rd:List Nat} {k:V→List Nat→List Nat→List Slot→Prop} (hc:Clo1 P g caps e1 enc f) (H:(f a).bind X=some r) (ha:FzA st [v] [e1 a] rd) (h:∀ x,X x=some r→k (enc x) rd [] st):Callable P g∧Ask P g ([v]++caps) st k :=
 ⟨hc.can,askF_c (hc.calls a) H (fza_caps ha hc.own) h⟩
theorem askC2_c {α α' β' : Type} {e1:α→V} {e2:α'→V} {enc:β'→V} {f:α→α'→Option β'} {a:α} {b:α'} {X:β'→Option β} {g:Nat} {caps:List V} {v v' : V} {rd:List Nat} {k:V→List Nat→List Nat→List Slot→Prop} (hc:Clo2 P g caps e1 e2 enc f) (H:(f a b).bind X=some r) (ha:FzA st [v,v'] [e1 a,e2 b] rd) (h:∀ x,X x=some r→k (enc x) rd [] st):Callable P g∧Ask P g ([v,v']++caps) st k :=
 ⟨hc.can,askF_c (hc.calls a b) H (fza_caps ha hc.own) h⟩
theorem fzown {α:Type} {f:α→V} {l:List α} {i es frz:Nat} {full:Bool} (hi:st[i]?=some (.live (cellsM f l) frz)) (hf:frz=(cellsM f l).length) (hes:∀ a,(f a).cells.length=es) (h0:∀ a,V.idlt.belowL 0 (f a).cells=true):FzC st (.osl i 0 l.length es full) (.sl (l.map f) false) [i]:=fzc_made hi rfl hf rfl hes h0
theorem fzagg {l l' : List V} {rd:List Nat} (h:FzL st l l' rd) (h1:l'.all V.one=true):FzV st (.agg l) (.agg l') rd:=.agg h (by simpa using h1)
structure FzQ (st:List Slot) (u v:V):Prop where
 out:∃ rd,FzR st u v rd
def resOneK (fr:List V) (st:List Slot) (x:ARes) (k:V→Prop):Prop :=
 match x with
 | .tmp t=>getK fr t k
 | .cell t sz ag=>getK fr t fun v=>match v with
  | .ptr i off=>sgetK st i fun cs _=>ldK cs off sz ag k
  | _=>False
def resK (fr:List V) (st:List Slot):List ARes→(List V→Prop)→Prop
 | [],k=>k []
 | x :: xs,k=>resOneK fr st x fun v=>resK fr st xs fun vs=>k (v :: vs)
def mkRK (vs:List V) (k:V→Prop):Prop :=
 match vs with
 | [v]=>k v
 | vs=>k (.tup vs)
theorem mkRK_eq (vs:List V) (k:V→Prop):mkRK vs k=k (mkR vs):=by
 match vs with
 | []=>rfl
 | [v]=>rfl
 | v :: u :: vs=>rfl
theorem resOneK_ok {fr:List V} {st:List Slot} {x:ARes} {k:V→Prop} (h:resOneK fr st x k):∃ v,ResOne fr st x v∧k v:=by
 cases x with
 | tmp t=>simp only [resOneK,getK_eq] at h;exact ⟨_,.tmp rfl,h⟩
 | cell t sz ag =>
  simp only [resOneK,getK_eq] at h
  split at h
  ·rename_i i off hv
   obtain ⟨cs,f,h1,h2⟩:=sgetK_ok h
   obtain ⟨h3,h4⟩:=ldK_ok h2
   exact ⟨_,.cell hv h1 h3,h4⟩
  ·exact h.elim
theorem resK_ok {fr:List V} {st:List Slot}:∀ {rs:List ARes} {k:List V→Prop},resK fr st rs k→∃ vs,ResL fr st rs vs∧k vs
 | [],k,h=>⟨[],.nil,h⟩
 | x :: xs,k,h=>by
  obtain ⟨v,h1,h⟩:=resOneK_ok h
  obtain ⟨vs,h2,h⟩:=resK_ok (rs:=xs) h
  exact ⟨v :: vs,.cons h1 h2,h⟩
theorem finR_c {rs:List ARes} {fr:List V} {α:Type} {enc:α→V} {x y:α} (H:some x=some y) (h:resK fr st rs fun vs=>mkRK vs fun v=>FzQ st v (enc x)):FinQ (Fin rs (enc y)) .ret fr st:=by
 cases H
 obtain ⟨vs,h1,h2⟩:=resK_ok h
 rw [mkRK_eq] at h2
 obtain ⟨rd,h2⟩:=h2.out
 exact ⟨.inr rfl,st,.refl,vs,rd,h1,h2⟩
theorem fin0_c {rs:List ARes} {e:AExit} {fr vs:List V} {α:Type} {enc:α→V} {x y:α} (H:some x=some y) (he:e=.normal∨e=.ret) (hr:ResL fr st rs vs) (hv:mkR vs=enc x) (h0:(mkR vs).idlt 0=true):FinQ (Fin rs (enc y)) e fr st:=by
 cases H;exact ⟨he,st,.refl,vs,[],hr,hv ▸ .v (.c (.id h0))⟩
theorem cellsM_app' {α:Type} (f:α→V) (a b:List α):cellsM f (a++b)=cellsM f a++cellsM f b:=by unfold cellsM;rw [List.flatMap_append]
theorem srcM {α:Type} {f:α→V} {es:Nat} (hes:∀ a,(f a).cells.length=es) (l:List α) (fu:Bool):SrcV st es (.sl (l.map f) fu) l.length (cellsM f l) []:=by
 have:=SrcV.sl (st:=st) (es:=es) (ys:=l.map f) (f:=fu) (fun y hy=>by obtain ⟨a,_,rfl⟩:=List.mem_map.1 hy;exact hes a)
 rwa [List.length_map,cellsM_map] at this
theorem srcOwn {α:Type} {f:α→V} {es i fz:Nat} (hes:∀ a,(f a).cells.length=es) {l:List α} {cs:List V} {fu:Bool} {n:Nat} (hi:st[i]?=some (.live cs fz)) (hc:cs=cellsM f l) (hn:n=l.length):SrcV st es (.osl i 0 n es fu) l.length (cellsM f l) [i]:=by
 subst hc hn
 have hl:=cellsM_len hes l
 have:=SrcV.osl (off:=0) (n:=l.length) (es:=es) (f:=fu) hi (by omega)
 rwa [List.drop_zero,← hl,List.take_length] at this
theorem app_len {α:Type} {F G L:List α} (h:app? F G=some L):L=F++G∧F.length + G.length≤1000000:=by
 unfold app? at h
 split at h
 ·simp only [Option.some.injEq] at h;exact ⟨h.symm,‹_›⟩
 ·cases h
theorem appN_c {α:Type} {f:α→V} {F G:List α} {id bytes es:Nat} {s x:V} {rd rd' : List Nat} {X:List α→Option β} {k:V→List Nat→List Nat→List Slot→Prop} (H:(app? F G).bind X=some r) (hes:∀ a,(f a).cells.length=es) (hs:SrcV st es s F.length (cellsM f F) rd) (hfu:s.full=true) (hx:SrcX st es x G.length (cellsM f G) rd')
  (hb:bytes≤1000) (hf:st[id]?=some .fresh) (hg:G≠[]) (h:∀ L,X L=some r→ssetK st id (.live (cellsM f L) (cellsM f L).length) fun st'=>k (.osl id 0 L.length es false) (rd++rd') [id] st'):App st id es bytes s x k:=by
 obtain ⟨L,hL,H⟩:=bind_c H
 obtain ⟨rfl,hn⟩:=app_len hL
 have:=h _ H
 rw [ssetK_eq] at this
 refine App.N hs hfu hx (List.length_pos_iff.2 hg) hn hb hf ?_
 rwa [cellsM_app',List.length_append] at this
theorem appX_c {α:Type} {f:α→V} {F G:List α} {id bytes es:Nat} {x:V} {rd' : List Nat} {fu:Bool} {X:List α→Option β} {k:V→List Nat→List Nat→List Slot→Prop} (H:(app? F G).bind X=some r) (hes:∀ a,(f a).cells.length=es) (hfu:fu=true) (hx:SrcX st es x G.length (cellsM f G) rd')
  (hb:bytes≤1000) (hf:st[id]?=some .fresh) (h0:∀ L,X L=some r→k (.sl (L.map f) fu) ([]++rd') [] st) (h:∀ L,X L=some r→ssetK st id (.live (cellsM f L) (cellsM f L).length) fun st'=>k (.osl id 0 L.length es false) ([]++rd') [id] st'):App st id es bytes (.sl (F.map f) fu) x k:=by
 by_cases hg:G=[]
 ·obtain ⟨L,hL,H⟩:=bind_c H
  obtain ⟨rfl,hn⟩:=app_len hL
  subst hg
  have:=h0 _ H
  rw [List.append_nil] at this
  exact App.Z (srcM hes F fu) hx this
 ·exact appN_c H hes (srcM hes F fu) hfu hx hb hf hg h
theorem appO_c {α:Type} {f:α→V} {F G:List α} {i id bytes es fz:Nat} {x:V} {rd' : List Nat} {X:List α→Option β} {k:V→List Nat→List Nat→List Slot→Prop} (H:(app? F G).bind X=some r) (hes:∀ a,(f a).cells.length=es) (hi:st[i]?=some (.live (cellsM f F) fz)) (hz:fz≤(cellsM f F).length) (hx:SrcX st es x G.length (cellsM f G) rd')
  (hb:bytes≤1000) (hf:st[id]?=some .fresh) (hg:G≠[]) (h:∀ L,X L=some r→ssetK st i .dead fun st1=>ssetK st1 id (.live (cellsM f L) (cellsM f L).length) fun st'=>k (.osl id 0 L.length es false) (rd'++[i]) [i,id] st'):App st id es bytes (.osl i 0 F.length es false) x k:=by
 obtain ⟨L,hL,H⟩:=bind_c H
 obtain ⟨rfl,hn⟩:=app_len hL
 have:=h _ H
 rw [ssetK_eq,ssetK_eq] at this
 refine App.O hi (cellsM_len hes F) hz hx (List.length_pos_iff.2 hg) hn hb hf ?_
 rwa [cellsM_app',List.length_append] at this
theorem appP_c {α:Type} {f:α→V} {F G:List α} {i id bytes es fz:Nat} {x:V} {rd' : List Nat} {X:List α→Option β} {k:V→List Nat→List Nat→List Slot→Prop} (H:(app? F G).bind X=some r) (hes:∀ a,(f a).cells.length=es) (hi:st[i]?=some (.live (cellsM f F) fz)) (hz:fz=(cellsM f F).length) (hx:SrcX st es x G.length (cellsM f G) rd')
  (hb:bytes≤1000) (hf:st[id]?=some .fresh) (h0:∀ L,X L=some r→ssetK st i (.live (cellsM f L) (cellsM f L).length) fun st'=>k (.osl i 0 L.length es false) ([i]++rd') [] st') (h:∀ L,X L=some r→ssetK st i .dead fun st1=>ssetK st1 id (.live (cellsM f L) (cellsM f L).length) fun st'=>k (.osl id 0 L.length es false) (rd'++[i]) [i,id] st'):App st id es bytes (.osl i 0 F.length es false) x k:=by
 by_cases hg:G=[]
 ·obtain ⟨L,hL,H⟩:=bind_c H
  obtain ⟨rfl,hn⟩:=app_len hL
  subst hg hz
  have:=h0 _ H
  rw [ssetK_eq,List.append_nil] at this
  have e:st.set i (.live (cellsM f F) (cellsM f F).length)=st:=by
   apply List.ext_getElem?
   intro j
   rw [List.getElem?_set]
   split
   ·rename_i h;subst h
    split
    ·exact hi.symm
    ·rename_i h;exact absurd (List.getElem?_eq_some_iff.1 hi).1 h
   ·rfl
  rw [e] at this
  exact App.Z (srcOwn hes hi rfl rfl) hx this
 ·exact appO_c H hes hi (Nat.le_of_eq hz) hx hb hf hg h
theorem App.Os {id bytes es i n m frz:Nat} {cs ds' : List V} {x:V} {rd' : List Nat} {k:V→List Nat→List Nat→List Slot→Prop} (hi:st[i]?=some (.live cs frz)) (hl:cs.length=n * es) (hz:frz=0) (hx:SrcX st es x m ds' rd') (hk:0 < m) (hn:n + m≤1000000) (hb:bytes≤1000) (hf:st[id]?=some .fresh)
  (h:k (.osl id 0 (n + m) es false) (rd'++[i]) [i,id] ((st.set i .dead).set id (.live (cs++ds') 0))):App st id es bytes (.osl i 0 n es false) x k:=⟨.inr (.inr ⟨i,n,cs,frz,m,ds',rd',_,rfl,hi,hl,by omega,hx,hk,hn,hb,hf,by omega,Nat.zero_le _,h⟩)⟩
theorem finRz_c {rs:List ARes} {fr:List V} {α:Type} {enc:α→V} {x y:α} (is:List Nat) (H:some x=some y) (h:frzI is st fun st=>resK fr st rs fun vs=>mkRK vs fun v=>FzQ st v (enc x)):FinQ (Fin rs (enc y)) .ret fr st:=by
 cases H
 obtain ⟨st',hf,h⟩:=frzI_ok h
 obtain ⟨vs,h1,h2⟩:=resK_ok h
 rw [mkRK_eq] at h2
 obtain ⟨rd,h2⟩:=h2.out
 exact ⟨.inr rfl,st',hf,vs,rd,h1,h2⟩
theorem b2sO_c {l:List Int} {i n fz:Nat} {f:Bool} {cs:List V} {X:ByteArray→Option β} {k:V→List Nat→Prop} (H:(text? l).bind X=some r) (hi:st[i]?=some (.live cs fz)) (hc:cs=cellsM V.y8 l) (hn:n=l.length) (h:∀ s,X s=some r→k (.lit (.string s)) [i]):B2S st (.osl i 0 n 1 f) k:=by
 obtain ⟨s,hs,H⟩:=bind_c H
 have e:=text_ok hs
 have e2:s=⟨s.data.toList.toArray⟩:=by cases s;simp
 have e3:cellsM V.y8 l=l.map V.y8:=by exact flatMap_one V.y8 l
 have:=h s H
 rw [e2] at this
 refine B2S.O hi ?_ (by rw [hc,e3,e]) this
 have:=congrArg List.length e
 simpa [hn] using this
end
theorem fb_ {fr:List V} {st:List Slot} {t:Nat} {x y:Bool} (H:some x=some y) (h:fr.getD t .any=V.b x:=by rfl):FinQ (Fin [.tmp t] (V.b y)) .ret fr st:=fin0_c (enc:=V.b) H (.inr rfl) (.cons (.tmp h) .nil) rfl rfl
theorem fi_ {fr:List V} {st:List Slot} {t:Nat} {x y:Int} (H:some x=some y) (h:fr.getD t .any=V.i x:=by rfl):FinQ (Fin [.tmp t] (V.i y)) .ret fr st:=fin0_c (enc:=V.i) H (.inr rfl) (.cons (.tmp h) .nil) rfl rfl
theorem fq_ {fr:List V} {st:List Slot} {t u:Nat} {x y:Int × Bool} (H:some x=some y) (h:fr.getD t .any=V.i x.1:=by rfl) (h2:fr.getD u .any=V.b x.2:=by rfl):FinQ (Fin [.tmp t,.tmp u] (.tup [V.i y.1,V.b y.2])) .ret fr st:=fin0_c (enc:=fun r:Int × Bool=>.tup [V.i r.1,V.b r.2]) H (.inr rfl) (.cons (.tmp h) (.cons (.tmp h2) .nil)) rfl rfl
abbrev O_ (d:Nat) (x:AOp) (c:Nat):AOper:=⟨some d,x,none,c⟩
abbrev t_ (n:Nat):Operand:=.tmp n
abbrev i_ (n:Int):Operand:=.const (.int .i64 n)
abbrev b_ (b:Bool):Operand:=.const (.bool b)
abbrev R_ (n:Nat) (l:List AOper):BCode:=.reg n l none 0 []
abbrev U_ (x:AOp) (c:Nat):AOper:=⟨none,x,none,c⟩
theorem lq_ {a b:Nat} {q:Prop} (h:q) (e:Nat.ble a b=true:=by rfl):a≤b∧q:=⟨Nat.le_of_ble_eq_true e,h⟩
end Go.Proofs.YthnihifblmnkdaaGreat

namespace Go.Proofs.YthnihifblmnkdaaGreat
open Go.RowKit
structure RuntimeBoundsError where
 x:Int
 y:Int
 signed:Bool
 code:Int
abbrev RuntimeBoundsError.v (x:RuntimeBoundsError):V:=.agg [.i x.x,.i x.y,.b x.signed,.y8 x.code]
structure RuntimeErrorAddressString where
 msg:ByteArray
 addr:Int
abbrev RuntimeErrorAddressString.v (x:RuntimeErrorAddressString):V:=.agg [.s x.msg,.lit (.int .u64 x.addr)]
structure SnapState where
 On:Bool
 Begun:Bool
 After:ByteArray
 Told:Int
abbrev SnapState.v (x:SnapState):V:=.agg [.b x.On,.b x.Begun,.s x.After,.i x.Told]
structure PresPres where
 On:Bool
 Show:Int
 Prio:Int
 Seq:Int
abbrev PresPres.v (x:PresPres):V:=.agg [.b x.On,.i x.Show,.i x.Prio,.i x.Seq]
structure MailEntry where
 Key:ByteArray
 P:PresPres
abbrev MailEntry.v (x:MailEntry):V:=.agg [.s x.Key,.b x.P.On,.i x.P.Show,.i x.P.Prio,.i x.P.Seq]
structure Ref27State where
 Mail:List MailEntry
 Snap:SnapState
 Sent:Int
 Lost:Int
abbrev Ref27State.v (x:Ref27State):V:=.agg [.sl (List.map MailEntry.v x.Mail) false,.b x.Snap.On,.b x.Snap.Begun,.s x.Snap.After,.i x.Snap.Told,.i x.Sent,.i x.Lost]
structure SnapEyes where
 Users:List ByteArray
 Keys:List ByteArray
abbrev SnapEyes.v (x:SnapEyes):V:=.agg [.sl (List.map V.s x.Users) false,.sl (List.map V.s x.Keys) false]
structure BookRow where
 User:ByteArray
 Res:ByteArray
 P:PresPres
abbrev BookRow.v (x:BookRow):V:=.agg [.s x.User,.s x.Res,.b x.P.On,.i x.P.Show,.i x.P.Prio,.i x.P.Seq]
structure BookState where
 Seq:Int
 Rows:List BookRow
abbrev BookState.v (x:BookState):V:=.agg [.i x.Seq,.sl (List.map BookRow.v x.Rows) false]
structure Law27Deed where
 Who:Int
 Show:Int
 Off:Bool
 Tell:Int
 Anew:Bool
abbrev Law27Deed.v (x:Law27Deed):V:=.agg [.y8 x.Who,.y8 x.Show,.b x.Off,.y8 x.Tell,.b x.Anew]
structure StanzaStanza where
 Kind:Int
 User:ByteArray
 Res:ByteArray
 Name:ByteArray
 Show:Int
 Prio:Int
 Code:Int
 N:Int
abbrev StanzaStanza.v (x:StanzaStanza):V:=.agg [.y8 x.Kind,.s x.User,.s x.Res,.s x.Name,.i x.Show,.i x.Prio,.i x.Code,.i x.N]
structure OutqCounter where
 sent:Int
abbrev OutqCounter.v (x:OutqCounter):V:=.agg [.i x.sent]
structure OutqTeller where
 counter:OutqCounter
 st:Ref27State
 eyes:SnapEyes
 book:BookState
abbrev OutqTeller.v (x:OutqTeller):V:=.agg [.i x.counter.sent,.sl (List.map MailEntry.v x.st.Mail) false,.b x.st.Snap.On,.b x.st.Snap.Begun,.s x.st.Snap.After,.i x.st.Snap.Told,.i x.st.Sent,.i x.st.Lost,.sl (List.map V.s x.eyes.Users) false,.sl (List.map V.s x.eyes.Keys) false,.i x.book.Seq,.sl (List.map BookRow.v x.book.Rows) false]
structure AddrAddr where
 Name:ByteArray
 Host:ByteArray
 Res:ByteArray
abbrev AddrAddr.v (x:AddrAddr):V:=.agg [.s x.Name,.s x.Host,.s x.Res]
structure UtfForm where
 from_:Int
 mark:Int
 bits:Int
abbrev UtfForm.v (x:UtfForm):V:=.agg [.i x.from_,.y8 x.mark,.y8 x.bits]
end Go.Proofs.YthnihifblmnkdaaGreat

namespace Go.Proofs.YthnihifblmnkdaaGreat
open Go.ChangeShapes Go.WideShapes Go.ChangeAt Go.RowKit Go.Joins Go.Deep
section
variable {H : Type} {enc : TypeId × Value → H} {P : Program} {W : World} {spare : Nat → Bool} {held : Bool} {fuel : Nat} {t e : TypeId} {cs : List Value} {y : DataW H × List MemPlace}
abbrev MW (W:World):Mem:=fun a=>W.cell? a
theorem repL_one {m:Mem} {bk:Bks} {c:Value} {v:V} (h:Rep m bk c v):RepL m bk [c] [v] :=
 ⟨rfl,fun j g1 g2=>match j,g1 with
  | 0,_=>h
  | j + 1,g=>absurd g (by simp)⟩
theorem repL_nil {m:Mem} {bk:Bks}:RepL m bk [] []:=⟨rfl,fun j g1 g2=>absurd g1 (by simp)⟩
theorem repL_app {m:Mem} {bk:Bks} {c1 c2:List Value} {v1 v2:List V} (h1:RepL m bk c1 v1) (h2:RepL m bk c2 v2):RepL m bk (c1++c2) (v1++v2):=by
 obtain ⟨e1,h1⟩:=h1
 obtain ⟨e2,h2⟩:=h2
 refine ⟨by rw [List.length_append,List.length_append,e1,e2],fun j g1 g2=>?_⟩
 rw [List.length_append] at g1
 by_cases h:j < c1.length
 ·rw [List.getElem_append_left h,List.getElem_append_left (by omega)]
  exact h1 j h _
 ·rw [List.getElem_append_right (by omega),List.getElem_append_right (by omega)]
  have:=h2 (j - c1.length) (by omega) (by omega)
  have e:j - v1.length=j - c1.length:=by omega
  simp only [e]
  exact this
theorem rd_int {k:IntKind} (ht:P.underlying t=some (.int k)) (h:DataW.trod enc P W 0 spare held fuel t cs=some y):∃ n,(Lit.int k n).wf=true∧RepL (MW W) noBk cs [.lit (.int k n)]:=by
 obtain ⟨n,rfl,_,wf⟩:=DataW.trod_int ht h
 exact ⟨n,wf,repL_one (.lit rfl)⟩
theorem rd_bool (ht:P.underlying t=some .bool) (h:DataW.trod enc P W 0 spare held fuel t cs=some y):∃ b,RepL (MW W) noBk cs [.lit (.bool b)]:=by
 obtain ⟨n,rfl,_⟩:=DataW.trod_bool ht h
 exact ⟨n,repL_one (.lit rfl)⟩
theorem rd_slice {α:Type} {f:α→V} {es:Nat} {wf:α→Prop} (ht:P.underlying t=some (.slice e)) (hes:∀ a,(f a).cells.length=es) (h1:∀ a,∀ v ∈ (f a).cells,v.one=true) (hp:0 < es) (hce:P.cellsOf e=es)
  (hel:∀ n cs y,DataW.trod enc P W 0 spare held n e cs=some y→∃ x,wf x∧RepL (MW W) noBk cs (f x).cells) (h:DataW.trod enc P W 0 spare held fuel t cs=some y):∃ l:List α,(∀ x ∈ l,wf x)∧RepL (MW W) noBk cs [.sl (l.map f) false]:=by
 rcases open_slice ht h with ⟨rfl,_⟩ | ⟨a,len,cap,m,n,D,Pl,rfl,_,hl,_,hm,_,hall⟩
 ·exact ⟨[],by simp,repL_one (.slnil fun e=>by cases e)⟩
 ·rcases Nat.eq_zero_or_pos len with rfl | hpos
  ·exact ⟨[],by simp,repL_one (.slnil fun e=>by cases e)⟩
  ·have hlm:len≤m:=by rw [hm];split <;> omega
   have hx:∀ i,i < len→∃ (x:{x:α // wf x}) (cs:List Value),W.cells? 0 (a.add (i * es)) es=some cs∧∀ j (hj:j < (f x.1).cells.length) (hj' : j < cs.length),Rep (fun p=>W.cell? p) noBk cs[j] (f x.1).cells[j]:=by
    intro i hi
    obtain ⟨cs',hc,hd⟩:=hall i (by omega)
    rw [hce] at hc
    obtain ⟨x,hw,hr⟩:=hel _ _ _ hd
    exact ⟨⟨x,hw⟩,cs',hc,fun j hj hj'=>hr.2 j hj' hj⟩
   obtain ⟨x0,_⟩:=hx 0 hpos
   haveI:Inhabited {x:α // wf x}:=⟨x0⟩
   obtain ⟨l,_,hr⟩:=rep_slice (f:=fun x:{x:α // wf x}=>f x.1) (fun a=>hes a.1) (fun a=>h1 a.1) hp hl hx
   refine ⟨l.map (·.1),?_,?_⟩
   ·intro x hx
    obtain ⟨y,_,rfl⟩:=List.mem_map.1 hx
    exact y.2
   ·rw [List.map_map];exact repL_one hr
theorem rep_aggL {m:Mem} {bk:Bks} {cs:Array Value} {vs:List V} (h:RepL m bk cs.toList vs) (h1:∀ u ∈ vs,u.one=true):Rep m bk (.agg cs) (.agg vs):=rep_agg h h1
theorem get_some {α:Type} {xs:List α} {n i:Nat} (h:xs.length=n) (hi:i < n):∃ y,xs[i]?=some y:=⟨xs[i],List.getElem?_eq_getElem (by omega)⟩
theorem repAr2 {m:Mem} {a b:Value} {x y:V} (h1:Rep m noBk a x) (h2:Rep m noBk b y):RepA m noBk #[a,b] [x,y] :=
 ⟨rfl,fun j g1 g2=>match j,g1 with
  | 0,_=>h1
  | 1,_=>h2
  | j + 2,g=>absurd g (by simp)⟩
theorem callsO_true {f:FuncId} {args:List V} {m:Option Bool} (h:CallsO P f args V.b m) (hm:m=some true):CallsV P f args (.b true):=h true hm
theorem okWide_arr {w:World} {r:Reach} {base n:Nat} {v:Value} (ht:P.underlying t=some (.array n e)) (h:Value.okWide P w r base t v):∃ cs,v=.agg cs∧cs.size=P.cellsOf t:=by
 simp only [Value.okWide,ht] at h
 obtain ⟨cs,h1,h2,_⟩:=h
 exact ⟨cs,h1,h2⟩
end
end Go.Proofs.YthnihifblmnkdaaGreat

namespace Go.Proofs.YthnihifblmnkdaaGreat
open Go.RowKit
def _root_.Go.Code.scopes:Code→Bool
 | .scope _=>true
 | .seq a b=>a.scopes || b.scopes
 | .cond _ a b=>a.scopes || b.scopes
 | .block _ a=>a.scopes
 | _=>false
section
variable {P : Program}
theorem callsIn_round {l n:Nat} {f:FuncId} {args:Array Value} {w:World} {R:Ending→World→Prop} (h:Calls P f args w R):CallsIn (Fence.wide.inRound l) n P f args w R:=by
 have:=(callsIn_wide (n:=n)).2 h
 exact ⟨trivial,fun cs hr=>this.2 cs hr⟩
theorem rowsIn_round {l n:Nat} {row:String} {args:Array Value} {w:World} {R:Value→World→Prop} (h:Rows P row args w R):RowsIn (Fence.wide.inRound l) n P row args w R :=
 fun c cs _=>let ⟨v,w',r,s⟩:=h c cs;⟨v,w',r,stepsIn_wide.2 s⟩
theorem cop_defer {o:Op} {t:TypeId} {ao:AOp} (h:Cop P o t ao):∀ c,o≠.defer c:=by
 intro c e
 subst e
 cases h
theorem upon_in {l n:Nat} {o:Oper} {a:Act} {w:World} {next next' : Act→World→Prop} {Q:Exit→Act→World→Prop} (hd:∀ c,o.op≠.defer c) (hn:∀ a w,next a w→next' a w) (h:o.wp P a w next Q):o.wpIn (Fence.wide.inRound l) n P a w next' Q:=by
 refine ⟨fun _ _=>trivial,?_⟩
 rw [Fence.inRound_round,Oper.semAt_some l _ _ hd]
 unfold Oper.wp at h
 generalize (execOp a.eval o).run P w=r at h
 cases r with
 | ok x w' =>
  cases x with
  | enter f args =>
   refine ⟨fun hh=>by simp [Fence.wide] at hh,callsIn_round (Calls.mono h fun e w'' he=>?_)⟩
   cases e <;> first | exact hn _ _ he | exact he
  | row row args=>exact ⟨fun hh=>by simp [Fence.wide] at hh,rowsIn_round (Rows.mono h fun _ _ he=>hn _ _ he)⟩
  | _=>first | exact hn _ _ h | exact h.elim
 | halt x w'=>cases x <;> exact h
theorem wpOps_in {l n:Nat} {ops:Array Oper} {Q:Exit→Act→World→Prop} (hQ:¬ LetsOut Q) (hd:∀ (i:Nat) (o:Oper),ops[i]?=some o→∀ c,o.op≠.defer c):∀ (L:List Nat) (a:Act) (w:World),Go.wpOps P ops Q L a w→wpOpsIn (Fence.wide.inRound l) n P ops Q L a w
 | [],a,w,h=>h
 | i :: rest,a,w,h=>by
  unfold Go.wpOps at h
  unfold wpOpsIn
  cases ho:ops[i]? with
  | none=>rw [ho] at h;exact wpOps_in hQ hd rest a w h
  | some o =>
   rw [ho] at h
   simp only at h ⊢
   split at h
   ·rename_i hw
    rw [if_pos hw]
    rcases h with h | ⟨_,h⟩
    ·exact upon_in (hd i o ho) (fun a w=>wpOps_in hQ hd rest a w) h
    ·exact absurd h hQ
   ·rename_i hw
    rw [if_neg hw]
    exact ⟨fun _ _=>trivial,wpOps_in hQ hd rest _ w h⟩
end
section
variable {P : Program} {w0 : Org} {B : Nat} {m0 : Mem} {bk0 : Bks} {l n : Nat}
theorem postC_out {Q:AExit→List V→List Slot→Prop}:¬ LetsOut (PostC B m0 bk0 w0 Q):=by
 rintro ⟨a,w,ae,fr,st,h,_⟩
 cases h
theorem match_defer {ops:Array Oper} {aos:List AOper} (hn:ops.size=aos.length) (hm:∀ j (h:j < aos.length) (o:Oper),ops[j]?=some o→MatchOp P ops o aos[j]):∀ (i:Nat) (o:Oper),ops[i]?=some o→∀ c,o.op≠.defer c:=fun i o ho =>
 cop_defer (hm i (by have:=(Array.getElem?_eq_some_iff.1 ho).1;omega) o ho).1
theorem reg_drawIn {ops:Array Oper} {aos:List AOper} {bef:List (List Nat)} {fps:List (List Nat × List Nat)} {base id:Nat} {Q:AExit→List V→List Slot→Prop} (hmix:P.follows .mixedOrders=true) (hreg:RegOK ops aos bef) (hfoot:FootOK bef fps) (hg:GM m0) (hn:ops.size=aos.length) (hmatch:∀ j (h:j < aos.length) (o:Oper),ops[j]?=some o→MatchOp P ops o aos[j])
  {fr fr' : List V} {st st' : List Slot} (hrun:Run P base aos fr st fps fr' st') {a:Act} {w:World} (hcn:Cn B m0 bk0 w0 a w fr st) (hQ:Q .normal fr' st'):(Code.region id ops true).wpIn (Fence.wide.inRound l) n P (PostC B m0 bk0 w0 Q) a w:=by
 obtain ⟨F,S,ht,h1,h2,h3,h4⟩:=run_trace hrun
 refine wpIn_region_draw fun t=>wpOps_in postC_out (match_defer hn hmatch) _ _ _ ?_
 simp only [Region.schedule,hmix,Bool.true_or,if_true]
 refine wpAny_sound ops.size t _ a _ (reg_any hreg hfoot ht hg hn hmatch (by rw [h3,h4];exact fun a w hc=>⟨.normal,fr',st',rfl,hc,hQ⟩) ops.size _ a _ ?_ ⟨fun j hj=>?_,by simp,fr,st,hcn.drew,by rw [h1],by rw [h2],fun t _=>by rw [h1],fun t i _ hl=>?_,fun k=>⟨0,Nat.zero_le _,by rw [h2],fun i hi _=>?_⟩⟩)
 ·exact Nat.le_trans (List.countP_le_length) (by simp)
 ·have:=listed_lt hj
  rw [Array.getD,dif_pos this] at hj
  simp at hj
 ·have:=listed_lt hl
  rw [Array.getD,dif_pos this] at hl
  simp at hl
 ·constructor
  ·intro hl
   have:=listed_lt hl
   rw [Array.getD,dif_pos this] at hl
   simp at hl
  ·omega
def ACode.flat:ACode→Bool
 | .loop _=>false
 | .seq a b=>a.flat && b.flat
 | .cond _ a b=>a.flat && b.flat
 | .block _ a=>a.flat
 | .raw _=>false
 | _=>true
theorem aw_soundIn {n0:Nat} (hk0:∀ id x,bk0 id=some x→id < n0) (hmix:P.follows .mixedOrders=true) (hg:GM m0) {c:Code} {ac:ACode} (hm:MatchC P c ac):ac.flat=true→c.scopes=false→∀ (Q:AExit→List V→List Slot→Prop) (fr:List V) (st:List Slot) (a:Act) (w:World),Cn B m0 bk0 w0 a w fr st→AW P n0 ac Q fr st→c.wpIn (Fence.wide.inRound l) n P (PostC B m0 bk0 w0 Q) a w:=by
 induction hm with
 | skip=>intro _ _ Q fr st a w hc h;exact wpIn_skip ⟨.normal,fr,st,rfl,hc,h⟩
 | label=>intro _ _ Q fr st a w hc h;exact wpIn_label ⟨.normal,fr,st,rfl,hc,h⟩
 | @regT id ops aos nc hn hm =>
  intro _ _ Q fr st a w hc h
  obtain ⟨st0,xr,hf,h⟩:=h
  obtain ⟨fps,fr',st',hr,hk⟩:=aops_run h
  refine wpIn_region (wpOps_in postC_out (match_defer hn hm) _ _ _ ?_)
  have:=run_text (ops:=ops) (Q:=PostC B m0 bk0 w0 Q) hg aos 0 _ _ _ _ _ a w hr (by omega) (fun j h o ho=>hm j h o (by simpa using ho)) ((hc.frz hf).room (nc + xr)) fun a w hc'=>⟨.normal,fr',st',rfl,hc',hk⟩
  rw [← hn] at this
  rw [List.range_eq_range']
  exact this
 | @regD id ops aos nc bef hn hm hr =>
  intro _ _ Q fr st a w hc h
  obtain ⟨st0,xr,hf,h⟩:=h
  obtain ⟨fps,fr',st',hrun,hk1,hk⟩:=aops_run h
  simp only [List.append_nil,List.reverse_reverse] at hk1
  exact reg_drawIn hmix hr (footB_ok hk1) hg hn hm hrun ((hc.frz hf).room (nc + xr)) hk
 | seq _ _ ih1 ih2 =>
  intro hfl hsc Q fr st a w hc h
  simp only [ACode.flat,Bool.and_eq_true] at hfl
  simp only [Code.scopes,Bool.or_eq_false_iff] at hsc
  refine wpIn_seq (Go.wpIn_mono (ih1 hfl.1 hsc.1 _ fr st a w hc h) ?_)
  rintro e a w ⟨ae,fr,st,h1,h2,h3⟩
  cases e <;> simp only [exitOf,Option.some.injEq,reduceCtorEq] at h1 <;> subst h1
  ·rcases h3 with h3 | ⟨k,sg,fr',st',hw,h3⟩
   ·exact ih2 hfl.2 hsc.2 Q fr st a w h2 h3
   ·exact ih2 hfl.2 hsc.2 Q fr' st' a w (Cn.wk hk0 h2 hw) h3
  ·exact ⟨_,fr,st,rfl,h2,h3⟩
  ·exact ⟨_,fr,st,rfl,h2,h3⟩
 | @cond c x y _ _ _ _ ih1 ih2 =>
  intro hfl hsc Q fr st a w hc h
  simp only [ACode.flat,Bool.and_eq_true] at hfl
  simp only [Code.scopes,Bool.or_eq_false_iff] at hsc
  obtain ⟨t,he,h1,h2⟩:=h
  have hv:a.eval c=.bool t:=by
   obtain ⟨m,bk,_,hfr,_,_⟩:=hc
   exact (he ▸ hfr.ev c).int
  exact wpIn_cond_split hv (fun e=>ih1 hfl.1 hsc.1 Q fr st a w hc (h1 e)) (fun e=>ih2 hfl.2 hsc.2 Q fr st a w hc (h2 e))
 | @block id x y _ ih =>
  intro hfl hsc Q fr st a w hc h
  refine wpIn_block (Go.wpIn_mono (ih hfl hsc _ fr st a w hc h) ?_)
  rintro e a w ⟨ae,fr,st,h1,h2,h3⟩
  cases e <;> simp only [exitOf,Option.some.injEq,reduceCtorEq] at h1 <;> subst h1
  ·exact ⟨_,fr,st,rfl,h2,h3⟩
  ·rename_i j
   by_cases e:j=id
   ·simp only [e,if_true,Exit.inBlock] at h3 ⊢
    exact ⟨_,fr,st,rfl,h2,h3⟩
   ·simp only [e,if_false,Exit.inBlock] at h3 ⊢
    exact ⟨_,fr,st,rfl,h2,h3⟩
  ·exact ⟨_,fr,st,rfl,h2,h3⟩
 | loop=>intro hfl;cases hfl
 | raw=>intro hfl;cases hfl
 | scope=>intro _ hsc;cases hsc
 | exit=>intro _ _ Q fr st a w hc h;exact wpIn_exit ⟨_,fr,st,rfl,hc,h⟩
 | ret=>intro _ _ Q fr st a w hc h;exact wpIn_ret ⟨_,fr,st,rfl,hc,h⟩
end
section
variable {P : Program} {w0 : Org} {w W W' : World} {B bs id sz : Nat} {m0 m : Mem} {bk bk0 : Bks} {a : Act} {fr : List V} {st : List Slot} {s : ByteArray}
theorem rep_lit1' {m:Mem} {bk:Bks} {c v:Value} (h:Rep m bk c (.lit v)):c=v:=by cases h;rfl
theorem text_block (hsim:Sim B m0 m bk w st) (hid:st[id]?=some (.live [.s s] 0)) (hbk:bk id=some (bs,sz)):B≤bs∧(∀ k,m ⟨bs,k,none⟩=none)∧∃ arr T lo hi,w.heap[bs]?=some (.cells arr T (lo,hi))∧arr.size=sz∧arr[0]?=some (.string s)∧hi≤lo:=by
 obtain ⟨b,sz',arr,t,lo,hi,hl⟩:=hsim.blk id _ _ hid
 have e:some (b,sz')=some (bs,sz):=by rw [← hl.at_,hbk]
 simp only [Option.some.injEq,Prod.mk.injEq] at e
 obtain ⟨rfl,rfl⟩:=e
 obtain ⟨u,h1,h2⟩:=hl.rep 0 (by simp)
 have h3:u=.string s:=rep_lit1' h2
 exact ⟨hl.own,fun k=>hl.mu k (Nat.zero_le _),arr,t,lo,hi,hl.heap,hl.size,by rw [h1,h3],hl.free⟩
theorem Sim.keepC {N:Nat} (hsim:Sim B m0 m bk W st) (hk:KeepC N B bs W W') (hid:st[id]?=some (.live [.s s] 0)) (hbk:bk id=some (bs,sz)):∃ s',Sim B m0 m bk W' (st.set id (.live [.s s'] 0)):=by
 obtain ⟨hB,hmu,arr,T,lo,hi,hb,hsz,h0,hfree⟩:=text_block hsim hid hbk
 obtain ⟨arr',s',hb',hsz',h0'⟩:=hk.self.self arr s T (lo,hi) hb h0
 have hlt:=(List.getElem?_eq_some_iff.1 hid).1
 have old:∀ (k:Nat) (cs:List V) (f:Nat),(st.set id (.live [.s s'] 0))[k]?=some (.live cs f)→∃ cs f,st[k]?=some (.live cs f):=fun k cs f h=>by
  by_cases e:k=id
  ·subst e;exact ⟨_,_,hid⟩
  ·rw [List.getElem?_set,if_neg (fun e2=>e e2.symm)] at h;exact ⟨_,_,h⟩
 refine ⟨s',⟨Nat.le_trans hsim.base hk.size,fun a u hu=>?_,hsim.ext,hsim.old,fun k cs f h=>?_,fun i j ci fi cj fj x y h1 h2 hx hy he=>?_,fun k h=>?_⟩⟩
 ·have hc:=hsim.mem a u hu
  by_cases e:a.block=bs
  ·exfalso
   unfold World.cell? at hc
   rw [e,hb] at hc
   simp only at hc
   split at hc
   ·cases hc
   ·rename_i hsp
    have:a=⟨bs,a.off,none⟩:=by
     obtain ⟨b,o,sp⟩:=a
     simp only at e hsp
     subst e
     cases sp <;> simp at hsp ⊢
    rw [this,hmu] at hu;cases hu
  ·cases ho:W.heap[a.block]? with
   | none=>unfold World.cell? at hc;rw [ho] at hc;cases hc
   | some o =>
    cases o with
    | cells c t f =>
     rw [← hc]
     unfold World.cell?
     rw [ho,hk.cells _ _ _ _ e ho]
    | _=>unfold World.cell? at hc;rw [ho] at hc;cases hc
 ·by_cases e:k=id
  ·subst e
   rw [List.getElem?_set,if_pos rfl,if_pos hlt] at h
   simp only [Option.some.injEq,Slot.live.injEq] at h
   obtain ⟨rfl,rfl⟩:=h
   have hp:0 < sz:=by rw [← hsz];exact (Array.getElem?_eq_some_iff.1 h0).1
   exact ⟨bs,sz,arr',T,lo,hi,⟨hbk,hB,hb',hsz'.trans hsz,hfree,Nat.succ_le_of_lt hp,(fun u hu=>by simp at hu;subst hu;rfl),fun j hj=>by
    have:j=0:=by simp at hj;exact hj
    subst this;exact ⟨.string s',h0',.lit rfl⟩,fun j _=>hmu j,fun j hj=>absurd hj (Nat.not_lt_zero _)⟩⟩
  ·rw [List.getElem?_set,if_neg (fun e2=>e e2.symm)] at h
   obtain ⟨b,sz,arr,t,lo',hi',hl⟩:=hsim.blk k cs f h
   have hne:b≠bs:=fun e2=>e (hsim.inj k id _ _ _ _ _ _ h hid hl.at_ hbk e2)
   exact ⟨b,sz,arr,t,lo',hi',⟨hl.at_,hl.own,hk.cells _ _ _ _ hne hl.heap,hl.size,hl.free,hl.fit,hl.one,hl.rep,hl.mu,hl.fz⟩⟩
 ·obtain ⟨_,_,g1⟩:=old _ _ _ h1
  obtain ⟨_,_,g2⟩:=old _ _ _ h2
  exact hsim.inj i j _ _ _ _ x y g1 g2 hx hy he
 ·refine hsim.nb k ?_
  by_cases e:k=id
  ·subst e
   rw [List.getElem?_set,if_pos rfl,if_pos hlt] at h
   rcases h with h | h <;> cases h
  ·rwa [List.getElem?_set,if_neg (fun e2=>e e2.symm)] at h
theorem Cn.keepC (h:Cn B m0 bk0 w0 a W fr st) (hk:KeepC w0.world.heap.size B bs W W') (hid:st[id]?=some (.live [.s s] 0)) (hbk:bk0 id=some (bs,sz)) (hd:a.defers=[]):∃ s',Cn B m0 bk0 w0 a W' fr (st.set id (.live [.s s'] 0)):=by
 obtain ⟨m,bk,hsim,hfr,_,hb,hbkm⟩:=h
 have hbk':=hbkm _ _ hbk
 obtain ⟨hB,hmu,arr,T,lo,hi,hbb,hsz,ht0,_⟩:=text_block hsim hid hbk'
 obtain ⟨arr',s2,hs2,hsz2,_⟩:=hk.self.self arr s T (lo,hi) hbb ht0
 obtain ⟨s',hs⟩:=hsim.keepC hk hid hbk'
 refine ⟨s',m,bk,hs,hfr,by rw [hd];exact .nil,⟨hk.below (Nat.le_refl _) hb.toBelow,fun k c t lo' hi' h0=>?_,fun k o h0 h1=>?_⟩,hbkm⟩
 ·obtain ⟨c',g1,g2⟩:=hb.shp k c t lo' hi' h0
  by_cases e:k=bs
  ·subst e
   rw [hbb] at g1
   injection g1 with g1
   injection g1 with e1 e2 e3
   subst e1 e2
   injection e3 with e3 e4
   subst e3 e4
   exact ⟨_,hs2,by rw [← g2];exact hsz2⟩
  ·exact ⟨c',hk.cells _ _ _ _ e g1,g2⟩
 ·exact hk.oth k o (Array.getElem?_eq_some_iff.1 h0).1 (hb.oth k o h0 h1) h1
end
section
variable {P : Program} {w0 : Org} {w W W' : World} {B bs id sz : Nat} {m0 m : Mem} {bk bk0 : Bks} {a : Act} {fr : List V} {st : List Slot} {s : ByteArray}
theorem FrRep.set1 {tmps:Array Value} (h:FrRep m bk tmps fr) {c:Value} {v:V} (hv:Rep m bk c v) (d:Nat):FrRep m bk (tmps.setIfInBounds d c) (fr.set d v) :=
 FrRep.put (a:={ tmps:=tmps,defers:=[] }) h hv (some d)
theorem FrRep.params:∀ (ps:List Nat) (cs:List Value) (vs:List V) {tmps:Array Value} {fr:List V},FrRep m bk tmps fr→RepL m bk cs vs→FrRep m bk ((ps.zip cs).foldl (fun t x=>t.setIfInBounds x.1 x.2) tmps) ((ps.zip vs).foldl (fun t x=>t.set x.1 x.2) fr)
 | [],_,_,_,_,h,_=>h
 | p :: ps,[],[],_,_,h,_=>h
 | p :: ps,c :: cs,v :: vs,_,_,h,hr=>by
  have h0:=hr.2 0 (by simp) (by simp)
  exact FrRep.params ps cs vs (h.set1 h0 p) ⟨by have:=hr.1;simpa using this,fun j h1 h2=>hr.2 (j + 1) (by simpa using h1) (by simpa using h2)⟩
 | p :: ps,[],v :: vs,_,_,h,hr=>by have:=hr.1;simp at this
 | p :: ps,c :: cs,[],_,_,h,hr=>by have:=hr.1;simp at this
theorem Cn.rebase (h:Cn B m0 bk0 w0 a W fr st):∃ m1 bk1,Sim B m1 m1 bk1 W st∧FrRep m1 bk1 a.tmps fr∧(∀ u v,m0 u=some v→m1 u=some v)∧(∀ i x,bk0 i=some x→bk1 i=some x)∧(∀ i x,bk1 i=some x→i < st.length) ∧
  (∀ a2 W2 fr2 st2,Cn B m1 bk1 ⟨W,false⟩ a2 W2 fr2 st2→Cn B m0 bk0 w0 a2 W2 fr2 st2):=by
 obtain ⟨m,bk,hsim,hfr,hd,hb,hbk⟩:=h
 refine ⟨m,bk,⟨hsim.base,hsim.mem,fun _ _ h=>h,fun _ _ h=>.inl h,hsim.blk,hsim.inj,hsim.nb⟩,hfr,hsim.ext,hbk,fun i x hx=>?_,?_⟩
 ·rcases Nat.lt_or_ge i st.length with g | g
  ·exact g
  ·rw [hsim.nb i (.inl (List.getElem?_eq_none g))] at hx;cases hx
 ·rintro a2 W2 fr2 st2 ⟨m2,bk2,q1,q2,q3,q4,q5⟩
  have hd2:a2.defers=[]:=q3.none
  refine ⟨m2,bk2,⟨q1.base,q1.mem,fun u v h=>q1.ext u v (hsim.ext u v h),fun u v h=>?_,q1.blk,q1.inj,q1.nb⟩,q2,by rw [hd2];exact .nil,hb.trans q4,fun i x h=>q5 i x (hbk i x h)⟩
  rcases q1.old u v h with g | g
  ·exact hsim.old u v g
  ·exact .inr g
theorem Cn.start {m1:Mem} {bk1:Bks} {tmps:Array Value} (hs:Sim B m1 m1 bk1 W st) (hf:FrRep m1 bk1 tmps fr)  : Cn B m1 bk1 ⟨W,false⟩ { tmps:=tmps,defers:=[] } W fr st:=⟨m1,bk1,hs,hf,.nil,Bel.refl _ _,fun _ _ h=>h⟩
theorem Cn.frame {m1:Mem} {bk1:Bks} {a2:Act} {fr2:List V} {tmps:Array Value} (h:Cn B m1 bk1 ⟨W,false⟩ a2 W' fr2 st) (hf:FrRep m1 bk1 tmps fr):Cn B m1 bk1 ⟨W,false⟩ { tmps:=tmps,defers:=[] } W' fr st:=by
 obtain ⟨m2,bk2,q1,q2,q3,q4,q5⟩:=h
 exact ⟨m2,bk2,q1,hf.mono q1.ext q5,.nil,q4,q5⟩
theorem Cn.bel (h:Cn B m0 bk0 w0 a W fr st):Bel B w0.world W:=by
 obtain ⟨m,bk,hsim,hfr,hd,hb,hbk⟩:=h
 exact hb
theorem Cn.base (h:Cn B m0 bk0 w0 a W fr st):B≤W.heap.size:=by
 obtain ⟨m,bk,hsim,hfr,hd,hb,hbk⟩:=h
 exact hsim.base
theorem keepsOthers_bel (h:Bel B W W'):KeepsOthers W W':=⟨h.size,h.oth⟩
theorem Cn.fast (h:Cn B m0 bk0 w0 a W fr st) {k:Nat} {arr:Array Value} {T:TypeId} {f:Nat × Nat} (hk:w0.world.heap[k]?=some (.cells arr T f)) (hm:∀ t,t < arr.size→m0 ⟨k,t,none⟩=arr[t]?):W.heap[k]?=some (.cells arr T f):=by
 obtain ⟨m,bk,hsim,hfr,hd,hb,hbk⟩:=h
 obtain ⟨c',g1,g2⟩:=hb.shp k arr T f.1 f.2 hk
 have:c'=arr:=by
  apply Array.ext g2
  intro i h1 h2
  have e:=hsim.mem ⟨k,i,none⟩ arr[i] (hsim.ext _ _ (by rw [hm i h2,Array.getElem?_eq_getElem h2]))
  simp only [World.cell?,g1] at e
  simpa [h1] using e
 rw [g1,this]
theorem Cn.text (h:Cn B m0 bk0 w0 a W fr st) (hid:st[id]?=some (.live [.s s] 0)) (hbk:bk0 id=some (bs,sz)):∃ arr T lo hi,W.heap[bs]?=some (.cells arr T (lo,hi))∧arr.size=sz∧arr[0]?=some (.string s):=by
 obtain ⟨m,bk,hsim,hfr,hd,hb,hbkm⟩:=h
 obtain ⟨_,_,arr,T,lo,hi,g,g1,g2,_⟩:=text_block hsim hid (hbkm _ _ hbk)
 exact ⟨arr,T,lo,hi,g,g1,g2⟩
end
section
variable {P : Program} {w0 : Org} {w W W' : World} {B bs id sz : Nat} {m0 m : Mem} {bk bk0 : Bks} {a : Act} {fr : List V} {st : List Slot} {s : ByteArray}
theorem Cn.keepP {W0:World} (h:Cn B m0 bk0 w0 a W0 fr st) (hgr:W0.grownBy W (some bs)) (hse:SelfS bs W0 W) (hbB:B≤bs) (hid:st[id]?=some (.live [.s s] 0)) (hbk:bk0 id=some (bs,sz)) (hd:a.defers=[]) :
  ∃ (s' : ByteArray) (m1:Mem) (bk1:Bks),Sim B m1 m1 bk1 W (st.set id (.live [.s s'] 0))∧FrRep m1 bk1 a.tmps fr∧(∀ u v,m0 u=some v→m1 u=some v)∧(∀ i x,bk0 i=some x→bk1 i=some x)∧(∀ i x,bk1 i=some x→i < (st.set id (.live [.s s'] 0)).length) ∧
   (∀ a2 W2 fr2 st2,Cn B m1 bk1 ⟨W,false⟩ a2 W2 fr2 st2→Cn B m0 bk0 w0 a2 W2 fr2 st2)∧(∀ k,W0.heap.size≤k→∀ t u,W.cell? ⟨k,t,none⟩=some u→m1 ⟨k,t,none⟩=some u)∧(∀ u v,m1 u=some v→m0 u=some v∨B≤u.block):=by
 obtain ⟨s1,hc1⟩:=h.keepC (KeepC.of_grown hgr hse h.base hbB) hid hbk hd
 have hbel:=hc1.bel
 obtain ⟨m,bk,hsim,hfr,hdf,hb,hbkm⟩:=h
 have hkc:KeepC w0.world.heap.size B bs W0 W:=KeepC.of_grown hgr hse hsim.base hbB
 obtain ⟨s',hs⟩:=hsim.keepC hkc hid (hbkm _ _ hbk)
 let m1:Mem:=fun x=>if W0.heap.size≤x.block then W.cell? x else m x
 have mge:∀ x,W0.heap.size≤x.block→m1 x=W.cell? x:=fun x h=>if_pos h
 have mlt:∀ x,¬ W0.heap.size≤x.block→m1 x=m x:=fun x h=>if_neg h
 have mle:∀ x u,m x=some u→m1 x=some u:=fun x u hu=>by
  by_cases ho:W0.heap.size≤x.block
  ·rw [mge x ho];exact hs.mem x u hu
  ·rw [mlt x ho];exact hu
 have lows:∀ k c g,(st.set id (.live [.s s'] 0))[k]?=some (.live c g)→∀ x,bk k=some x→x.1 < W0.heap.size:=fun k c g hk x hx=>by
  have:∃ c g,st[k]?=some (.live c g):=by
   by_cases e:k=id
   ·subst e;exact ⟨_,_,hid⟩
   ·rw [List.getElem?_set,if_neg (fun e2=>e e2.symm)] at hk;exact ⟨_,_,hk⟩
  obtain ⟨c2,g2,h2⟩:=this
  obtain ⟨b,sz,arr,t,lo,hi,hl⟩:=hsim.blk k c2 g2 h2
  rw [hl.at_] at hx
  injection hx with hx
  subst hx
  exact lt_of_some hl.heap
 have hnb:∀ i x,bk i=some x→i < (st.set id (.live [.s s'] 0)).length:=fun i x hx=>by
  rcases Nat.lt_or_ge i (st.set id (.live [.s s'] 0)).length with g | g
  ·exact g
  ·rw [hs.nb i (.inl (List.getElem?_eq_none g))] at hx;cases hx
 have hold:∀ u v,m1 u=some v→m0 u=some v∨B≤u.block:=fun u v g=>by
  by_cases ho:W0.heap.size≤u.block
  ·exact .inr (Nat.le_trans hsim.base ho)
  ·rw [mlt u ho] at g
   exact hs.old u v g
 refine ⟨s',m1,bk,⟨hs.base,fun x u hu=>?_,fun _ _ h=>h,fun _ _ h=>.inl h,fun k c g hk=>?_,hs.inj,hs.nb⟩,hfr.mono mle fun _ _ h=>h,fun u v h=>mle _ _ (hs.ext u v h),hbkm,hnb,?_,fun k hk t u hu=>by rw [mge _ hk];exact hu,hold⟩
 ·by_cases ho:W0.heap.size≤x.block
  ·rw [mge x ho] at hu;exact hu
  ·rw [mlt x ho] at hu;exact hs.mem x u hu
 ·obtain ⟨b,sz,arr,t,lo,hi,hl⟩:=hs.blk k c g hk
  have hlt:=lows k c g hk _ hl.at_
  simp only at hlt
  exact ⟨b,sz,arr,t,lo,hi,⟨hl.at_,hl.own,hl.heap,hl.size,hl.free,hl.fit,hl.one,fun j hj=>by
   obtain ⟨u,q1,q2⟩:=hl.rep j hj
   exact ⟨u,q1,q2.mono mle fun _ _ h=>h⟩,fun j hj=>by rw [mlt _ (by simp only;omega)];exact hl.mu j hj,fun j hj=>by rw [mlt _ (by simp only;omega)];exact hl.fz j hj⟩⟩
 ·rintro a2 W2 fr2 st2 ⟨m2,bk2,q1,q2,q3,q4,q5⟩
  have hd2:a2.defers=[]:=q3.none
  refine ⟨m2,bk2,⟨q1.base,q1.mem,fun u v h=>q1.ext u v (mle _ _ (hs.ext u v h)),fun u v h=>?_,q1.blk,q1.inj,q1.nb⟩,q2,by rw [hd2];exact .nil,hbel.trans q4,fun i x h=>q5 i x (hbkm i x h)⟩
  rcases q1.old u v h with g | g
  ·exact hold u v g
  ·exact .inr g
theorem Cn.keepR {m1:Mem} {bk1:Bks} {w1:Org} (h:Cn B m1 bk1 w1 a W fr st) (hk:KeepC w0.world.heap.size B bs W W') (hid:st[id]?=some (.live [.s s] 0)) (hbk:bk1 id=some (bs,sz)) (hb:Bel B w0.world W') (hm:∀ u v,m0 u=some v→m1 u=some v) (hb2:∀ i x,bk0 i=some x→bk1 i=some x) (hold:∀ u v,m1 u=some v→m0 u=some v∨B≤u.block) :
  ∃ (s' : ByteArray) (m3:Mem) (bk3:Bks),Sim B m3 m3 bk3 W' (st.set id (.live [.s s'] 0))∧FrRep m3 bk3 a.tmps fr∧(∀ u v,m1 u=some v→m3 u=some v)∧(∀ i x,bk1 i=some x→bk3 i=some x)∧(∀ i x,bk3 i=some x→i < st.length) ∧
   (∀ a2 W2 fr2 st2,Cn B m3 bk3 ⟨W',false⟩ a2 W2 fr2 st2→Cn B m0 bk0 w0 a2 W2 fr2 st2):=by
 obtain ⟨m,bk,hsim,hfr,hdf,_,hbkm⟩:=h
 obtain ⟨s',hs⟩:=hsim.keepC hk hid (hbkm _ _ hbk)
 refine ⟨s',m,bk,⟨hs.base,hs.mem,fun _ _ h=>h,fun _ _ h=>.inl h,hs.blk,hs.inj,hs.nb⟩,hfr,hs.ext,hbkm,fun i x hx=>?_,?_⟩
 ·rcases Nat.lt_or_ge i st.length with g | g
  ·exact g
  ·rw [hsim.nb i (.inl (List.getElem?_eq_none g))] at hx;cases hx
 ·rintro a2 W2 fr2 st2 ⟨m2,bk2,q1,q2,q3,q4,q5⟩
  have hd2:a2.defers=[]:=q3.none
  refine ⟨m2,bk2,⟨q1.base,q1.mem,fun u v h=>q1.ext u v (hs.ext u v (hm u v h)),fun u v h=>?_,q1.blk,q1.inj,q1.nb⟩,q2,by rw [hd2];exact .nil,hb.trans q4,fun i x h=>q5 i x (hbkm i x (hb2 i x h))⟩
  rcases q1.old u v h with g | g
  ·rcases hs.old u v g with g | g
   ·exact hold u v g
   ·exact .inr g
  ·exact .inr g
end
def ItS {α:Type} (P:Program) (gf:Nat) (caps:List V) (st:List Slot) (id:Nat) (encs:α→List Value) (xs:List α):Prop :=
 ∀ (B:Nat) (m0 m:Mem) (bk:Bks) (w:World) (lb:Array Value),GM m→Sim B m0 m bk w st→RepA m bk lb caps →
  ∃ (bs sz:Nat),bk id=some (bs,sz)∧bs < w.heap.size ∧
   IterC P gf lb bs m B (fun x=>(encs x).toArray) xs (fun W=>W.heap[bs]?=w.heap[bs]?∧∀ a u,m a=some u→W.cell? a=some u)
theorem set_self {l:List Slot} {i:Nat} {x:Slot} (h:l[i]?=some x):l.set i x=l:=by
 obtain ⟨h1,h2⟩:=List.getElem?_eq_some_iff.1 h
 rw [← h2,List.set_getElem_self]
theorem params_eq (ps:Array Nat) (cs:Array Value) (tmps:Array Value):(ps.zip cs).foldl (fun t (x:Nat × Value)=>t.setIfInBounds x.1 x.2) tmps=(ps.toList.zip cs.toList).foldl (fun t x=>t.setIfInBounds x.1 x.2) tmps:=by
 rw [← Array.foldl_toList,Array.toList_zip]
theorem range_sound {P:Program} {B:Nat} {m0:Mem} {bk0:Bks} {w0:Org} {α:Type} (hmix:P.follows .mixedOrders=true) (hg:GM m0) {g:Operand} {ps:Array Tmp} {assign body:Code} {x y:ACode} (h1:MatchC P assign x) (h2:MatchC P body y) (f1:x.flat=true) (f2:y.flat=true) (s1:assign.scopes=false) (s2' : body.scopes=false)
  {gf id:Nat} {caps:List V} {encs:α→List Value} {aen:α→List V} {xs:List α} {fr:List V} {st:List Slot} {a:Act} {w:World} {Q:AExit→List V→List Slot→Prop}
  (eg:∀ args w,(callFunc gf args).run P w=.ok (.enter gf args) w) (hf:evO fr g=.clo (.func gf) caps) (hit:ItS P gf caps st id encs xs) (haen:∀ z (m:Mem) (bk:Bks),RepL m bk (encs z) (aen z)) (hps:∀ z,(encs z).length=ps.size)
  (J:List α→List Slot→Prop) (hJ:∀ pre st1 (s:ByteArray),J pre st1→J pre (st1.set id (.live [.s s] 0))) (hJt:∀ pre st1,J pre st1→∃ s:ByteArray,st1[id]?=some (.live [.s s] 0)) (h0:J [] st)
  (hround:∀ pre z post st1,xs=pre++z :: post→J pre st1→AW P st1.length x (fun e fr1 st2=>e=.normal∧st2[id]?=st1[id]?∧∀ s:ByteArray,AW P st2.length y (fun e _ st3=>st3[id]?=some (.live [.s s] 0)∧(e=.normal→∃ n sg st4,Wk st.length n sg fr fr st3 st4∧J (pre++[z]) st4)∧(e≠.normal→∀ s' : ByteArray,Q e fr (st3.set id (.live [.s s'] 0)))) fr1 (st2.set id (.live [.s s] 0))) ((ps.toList.zip (aen z)).foldl (fun t x=>t.set x.1 x.2) fr) st1)
  (hdone:∀ st1,J xs st1→Q .normal fr st1)
  (hcn:Cn B m0 bk0 w0 a w fr st) (hmk:w0.mark=true):(Code.rangeFunc g ps assign body).wp P (PostC B m0 bk0 w0 Q) a w:=by
 obtain ⟨m,bk,hsim,hfr,hm,hbk,hlen,hback⟩:=hcn.rebase
 have hgm:GM m:=by obtain ⟨n,hn⟩:=hg;exact ⟨n,hm _ _ hn⟩
 obtain ⟨lb,hge,hlb⟩ : ∃ lb,a.eval g=.func (.func gf) #[] lb∧RepA m bk lb caps:=by
  have:=hfr.ev g
  rw [hf] at this
  generalize a.eval g=c at this
  cases this with
  | clo _ hl h=>exact ⟨_,rfl,hl,h⟩
 obtain ⟨bs,sz,hbs,hlt,hI⟩:=hit B m m bk w lb hgm hsim hlb
 obtain ⟨sA,hsA⟩:=hJt _ _ h0
 have hB:=(text_block hsim hsA hbs).1
 -- what a piece of the walk leaves,told from where it began
 have keepK:∀ {W W1:World} {a1 a2:Act} {fr1 fr2:List V} {sta stb:List Slot} {s:ByteArray},Cn B m bk ⟨w,false⟩ a1 W fr1 sta→Cn B m bk ⟨w,false⟩ a2 W1 fr2 stb→Bel B W W1→sta[id]?=some (.live [.s s] 0)→stb[id]?=some (.live [.s s] 0)→(∀ (arr:Array Value) (s:ByteArray) (t:TypeId) (f:Nat × Nat),W.heap[bs]?=some (.cells arr t f)→arr[0]?=some (.string s)→∃ arr' : Array Value,W1.heap[bs]?=some (.cells arr' t f)∧arr'.size=arr.size∧arr'[0]?=some (.string s))∧(∀ u v,m u=some v→W.cell? u=some v→W1.cell? u=some v):=by
  intro W W1 a1 a2 fr1 fr2 sta stb s hc1 hc2 hb hs1 hs2
  refine ⟨fun arr s' t f h1 h2=>?_,fun a u hm _=>by obtain ⟨m2,bk2,q1,_,_,_,_⟩:=hc2;exact q1.mem a u (q1.ext a u hm)⟩
  obtain ⟨a1,T,lo,hi,g1,g2,g3⟩:=hc1.text hs1 hbs
  obtain ⟨a2,T',lo',hi',k1,k2,k3⟩:=hc2.text hs2 hbs
  rw [g1] at h1
  injection h1 with h1
  injection h1 with e1 e2 e3
  subst e1 e2 e3
  obtain ⟨c',x1,x2⟩:=hb.shp _ _ _ _ _ g1
  rw [k1] at x1
  injection x1 with x1
  injection x1 with y1 y2 y3
  subst y2
  rw [y3] at k1
  rw [g3] at h2
  simp only [Option.some.injEq,Value.string.injEq] at h2
  subst h2
  exact ⟨a2,k1,by rw [k2,g2],k3⟩
 have fin:∀ (D:Nat) (W:World) (st1:List Slot),Cn B m bk ⟨w,false⟩ { tmps:=a.tmps,defers:=[] } W fr st1→W.heap[D]?=some (.deferred (some []))→w.heap.size≤D→w0.mark=true→Cn B m0 bk0 w0 { a with defers:={ target:=.collected D,args:=#[] } :: a.defers } W fr st1:=by
  intro D W st1 hc hD hDs hmk
  have h1:=hcn.bel.size
  obtain ⟨m2,bk2,q1,q2,q3,q4,q5⟩:=hback _ _ _ _ hc
  exact ⟨m2,bk2,q1,q2,hcn.defers.cons hc.bel hmk hD hDs (Nat.le_trans h1 hDs) (Nat.le_trans hsim.base hDs),q4,q5⟩
 refine (wpIn_wide (n:=3)).1 (rangeIter (gf:=gf) (lb:=lb) hge eg (bs:=bs) (B:=B) hI (fun z=>by simpa using hps z) hsim.base hB hlt (fun W' hbW=>⟨hbW.block _ hlt,fun a u hm=>cell_keep (hbW.block _ (World.block_lt_of_cell? w a (hsim.mem a u hm))) (hsim.mem a u hm)⟩)
  (fun pre W=>∃ st1,Cn B m bk ⟨w,false⟩ { tmps:=a.tmps,defers:=[] } W fr st1∧J pre st1)
  (fun c _ W=>∃ e st1,Cn B m bk ⟨w,false⟩ { tmps:=a.tmps,defers:=[] } W fr st1∧(∀ s' : ByteArray,Q e fr (st1.set id (.live [.s s'] 0)))∧((c=.ret∧e=.ret)∨∃ j,c=.exit j∧e=.exit j)∧∃ s:ByteArray,st1[id]?=some (.live [.s s] 0))
  ?stI ?stIx ⟨st,Cn.start hsim hfr,h0⟩ ?round ?done ?stop)
 case stI =>
  rintro pre W W' ⟨st1,hc,hj⟩ hk
  obtain ⟨s,hs⟩:=hJt _ _ hj
  obtain ⟨s',hc'⟩:=hc.keepC hk hs hbs rfl
  exact ⟨_,hc',hJ _ _ _ hj⟩
 case stIx =>
  rintro c pre W W' ⟨e,st1,hc,hq,hce,s,hs⟩ hk
  obtain ⟨s',hc'⟩:=hc.keepC hk hs hbs rfl
  refine ⟨e,_,hc',fun s2=>?_,hce,s',?_⟩
  ·rw [List.set_set];exact hq s2
  ·rw [List.getElem?_set,if_pos rfl,if_pos (List.getElem?_eq_some_iff.1 hs).1]
 case done =>
  rintro D W ⟨st1,hc,hj⟩ hD hDs
  exact ⟨.normal,fr,st1,rfl,fin D W st1 hc hD hDs hmk,hdone _ hj⟩
 case stop =>
  rintro D c pre post W hx ⟨e,st1,hc,hq,hce,s,hs⟩ hD hDs
  have hq':=hq s
  rw [set_self hs] at hq'
  rcases hce with ⟨rfl,rfl⟩ | ⟨j,rfl,rfl⟩
  ·exact wpIn_ret ⟨.ret,fr,st1,rfl,fin D W st1 hc hD hDs hmk,hq'⟩
  ·exact wpIn_exit ⟨.exit j,fr,st1,rfl,fin D W st1 hc hD hDs hmk,hq'⟩
 case round =>
  rintro l pre z post W0 W hx ⟨st0,hc0,hj0⟩ hgr hse hBW hsz
  obtain ⟨s0,hs0⟩:=hJt _ _ hj0
  obtain ⟨sx,m1,bk1,r1,r2,r3,r4,r5,r6,r7,r8⟩:=hc0.keepP hgr hse hB hs0 hbs rfl
  have hj:=hJ _ _ sx hj0
  generalize hst1:st0.set id (.live [.s sx] 0)=st1 at hj r1 r5
  obtain ⟨s,hs⟩:=hJt _ _ hj
  have hr:=hround pre z post st1 hx hj
  have hc:=r6 _ _ _ _ (Cn.start r1 r2)
  have hg1:GM m1:=by obtain ⟨n,hn⟩:=hgm;exact ⟨n,r3 _ _ hn⟩
  have prv:∀ k c t f,W0.heap.size≤k→W.heap[k]?=some (.cells c t f)→∀ i,i < c.size→m1 ⟨k,i,none⟩=c[i]?:=fun k c t f h1 h2 i hi=>by
   have:W.cell? ⟨k,i,none⟩=some c[i]:=by simp [World.cell?,h2,hi]
   rw [r7 k h1 i _ this,Array.getElem?_eq_getElem hi]
  have hcp:=Cn.start r1 (FrRep.params ps.toList (encs z) (aen z) r2 (haen z m1 bk1))
  have ha:=aw_soundIn (l:=l) (n:=3 - 1 - 1) r5 hmix hg1 h1 f1 s1 _ _ st1 _ W hcp hr
  have e:=params_eq ps (encs z).toArray a.tmps
  simp only at e
  rw [← e] at ha
  refine Go.wpIn_mono ha ?_
  rintro e a1 W1 ⟨ae,fr1,st2,q1,q2,q3,q4,q5⟩
  subst q3
  have he:e=.normal:=by cases e <;> simp only [exitOf,Option.some.injEq,reduceCtorEq] at q1 <;> rfl
  subst he
  have hb1:Bel B W W1:=q2.bel
  have hc1:=r6 _ _ _ _ (q2.frame r2)
  have hs2:st2[id]?=some (.live [.s s] 0):=q4.trans hs
  have pS:∀ k c t f,Since W0 W k→W.heap[k]?=some (.cells c t f)→W1.heap[k]?=some (.cells c t f):=fun k c t f hs h=>q2.fast (w0:=⟨W,false⟩) h (prv k c t f hs.1 h)
  have kk1:=keepK hc hc1 hb1 hs hs2
  refine ⟨keepsOthers_bel hb1,⟨hb1.toBelow,kk1.1,kk1.2,pS⟩,fun W2 hk hsz2=>?_⟩
  -- the body
  have hc1a:=r6 _ _ _ _ q2
  have hd1:a1.defers=[]:=by
   obtain ⟨_,_,_,_,hd,_,_⟩:=q2
   exact hd.none
  obtain ⟨s2a,hc2a⟩:=hc1a.keepC hk hs2 hbs hd1
  obtain ⟨s2,m3,bk3,t1,t2,t3,t4,t5,t6⟩:=q2.keepR (w0:=⟨w,false⟩) (m0:=m) (bk0:=bk) hk hs2 (r4 _ _ hbs) hc2a.bel r3 r4 r8
  have hs22:(st2.set id (.live [.s s2] 0))[id]?=some (.live [.s s2] 0):=by rw [List.getElem?_set,if_pos rfl,if_pos (List.getElem?_eq_some_iff.1 hs2).1]
  have hc2:=t6 _ _ _ _ (Cn.start t1 t2)
  have hg3:GM m3:=by obtain ⟨n,hn⟩:=hgm;exact ⟨n,t3 _ _ (r3 _ _ hn)⟩
  have hb:=aw_soundIn (l:=l) (n:=3 - 1 - 1) t5 hmix hg3 h2 f2 s2' _ _ _ _ W2 (Cn.start t1 t2) (q5 s2)
  have ea:a1={ tmps:=a1.tmps,defers:=[] }:=by
   cases a1;simp only at hd1;rw [hd1]
  rw [ea]
  refine Go.wpIn_mono hb ?_
  rintro e3 a3 W3 ⟨ae3,fr3,st3,p1,p2,p3,p4,p5⟩
  have hc3:=t6 _ _ _ _ (p2.frame (hfr.mono (fun u v h=>t3 u v (r3 u v h)) (fun i x h=>t4 i x (r4 i x h))))
  have hb3:Bel B W2 W3:=p2.bel
  have hko:=keepsOthers_bel hb3
  have kk3:=keepK hc2 hc3 hb3 hs22 p3
  have hkk:KeepK B bs m (Since W0 W) W2 W3:=⟨hb3.toBelow,kk3.1,kk3.2,fun k c t f hs h=>by
   obtain ⟨h0,c0,t0,f0,hw⟩:=hs
   have e1:=pS k c0 t0 f0 ⟨h0,_,_,_,hw⟩ hw
   have hkb:k≠bs:=by
    rintro rfl
    obtain ⟨a0,T,lo,hi,g,_⟩:=hc0.text hs0 hbs
    have:=lt_of_some g
    omega
   have e2:=hk.cells _ _ _ _ hkb e1
   rw [h] at e2
   injection e2 with e2
   injection e2 with x1 x2 x3
   subst x1 x2 x3
   exact p2.fast (w0:=⟨W2,false⟩) h fun i hi=>by
    have:=prv k c t f h0 hw i hi
    have hc3' : m1 ⟨k,i,none⟩=some c[i]:=by rw [this,Array.getElem?_eq_getElem hi]
    rw [t3 _ _ hc3',Array.getElem?_eq_getElem hi]⟩
  cases e3 <;> simp only [exitOf,Option.some.injEq,reduceCtorEq] at p1 <;> subst p1
  ·obtain ⟨nn,sg,st4,hw,hj4⟩:=p4 rfl
   exact ⟨hko,hkk,st4,Cn.wk hlen hc3 hw,hj4⟩
  ·exact ⟨hko,_,st3,hc3,p5 (by simp),.inr ⟨_,rfl,rfl⟩,s2,p3⟩
  ·exact ⟨hko,_,st3,hc3,p5 (by simp),.inl ⟨rfl,rfl⟩,s2,p3⟩
end Go.Proofs.YthnihifblmnkdaaGreat

namespace Go.Proofs.YthnihifblmnkdaaGreat
open Go.RowKit
def _root_.Go.Code.ranges:Code→List Code
 | .rangeFunc f ps a b=>[.rangeFunc f ps a b]
 | .seq a b=>a.ranges++b.ranges
 | .cond _ a b=>a.ranges++b.ranges
 | .block _ a=>a.ranges
 | .loop a=>a.ranges
 | .scope a=>a.ranges
 | _=>[]
def rangeAt (fn:Func) (i:Nat):Code:=match fn.body with
 | some c=>c.ranges.getD i .skip
 | none=>.skip
def rangeAsg:Code→Code
 | .rangeFunc _ _ a _=>a
 | c=>c
def rangeBody:Code→Code
 | .rangeFunc _ _ _ b=>b
 | c=>c
structure RoundEnd (n0 id:Nat) (s:ByteArray) (J:List Slot→Prop) (Q:AExit→List V→List Slot→Prop) (fr:List V) (e:AExit) (st3:List Slot):Prop where
 out:st3[id]?=some (.live [.s s] 0)∧(e=.normal→∃ n sg st4,Wk n0 n sg fr fr st3 st4∧J st4)∧(e≠.normal→∀ s' : ByteArray,Q e fr (st3.set id (.live [.s s'] 0)))
structure BodyAt (P:Program) (y:BCode) (n0 id:Nat) (st1:List Slot) (J:List Slot→Prop) (Q:AExit→List V→List Slot→Prop) (fr fr1:List V) (st2:List Slot):Prop where
 same:st2[id]?=st1[id]?
 next:∀ s:ByteArray,wpC P st2.length y (fun e _ st3=>RoundEnd n0 id s J Q fr e st3) fr1 (st2.set id (.live [.s s] 0))
def asgQ (P:Program) (y:BCode) (n0 id:Nat) (st1:List Slot) (J:List Slot→Prop) (Q:AExit→List V→List Slot→Prop) (fr:List V):AExit→List V→List Slot→Prop:=fun e fr1 st2=>match e with
 | .normal=>BodyAt P y n0 id st1 J Q fr fr1 st2
 | _=>False
theorem range_c {P:Program} {n0:Nat} {α:Type} {g:Operand} {ps:Array Tmp} {assign body:Code} {x y:BCode} {Q:AExit→List V→List Slot→Prop} {fr:List V} {st:List Slot} {gf id:Nat} {caps:List V} {encs:α→List Value} {aen:α→List V} {xs:List α}
  (hmix:P.follows .mixedOrders=true) (hx:comp P assign=some x.er) (hy:comp P body=some y.er) (f1:x.er.flat=true) (f2:y.er.flat=true) (s1:assign.scopes=false) (s2:body.scopes=false)
  (eg:∀ args w,(callFunc gf args).run P w=.ok (.enter gf args) w) (hf:evO fr g=.clo (.func gf) caps) (hit:ItS P gf caps st id encs xs) (haen:∀ z (m:Mem) (bk:Bks),RepL m bk (encs z) (aen z)) (hps:∀ z,(encs z).length=ps.size)
  (J:List α→List Slot→Prop) (hJ:∀ pre st1 (s:ByteArray),J pre st1→J pre (st1.set id (.live [.s s] 0))) (hJt:∀ pre st1,J pre st1→∃ s:ByteArray,st1[id]?=some (.live [.s s] 0)) (h0:J [] st)
  (hround:∀ pre z post st1,xs=pre++z :: post→J pre st1→wpC P st1.length x (asgQ P y st.length id st1 (J (pre++[z])) Q fr) ((ps.toList.zip (aen z)).foldl (fun t x=>t.set x.1 x.2) fr) st1)
  (hdone:∀ st1,J xs st1→Q .normal fr st1):RawQ P n0 (.rangeFunc g ps assign body) Q fr st :=
 ⟨fun Q' hq B m0 bk0 w0 a w hg hmk _ hcn=>range_sound hmix hg (comp_ok hx) (comp_ok hy) f1 f2 s1 s2 eg hf hit haen hps J hJ hJt h0 (fun pre z post st1 hxs hj=>wpC_ok (fun e fr1 st2 h=>by
  cases e with
  | normal =>
   refine ⟨rfl,h.same,fun s=>wpC_ok (fun e fr3 st3 h=>?_) (h.next s)⟩
   exact ⟨h.out.1,h.out.2.1,fun he s'=>hq _ _ _ (h.out.2.2 he s')⟩
  | _=>exact h.elim) (hround pre z post st1 hxs hj)) (fun st1 hj=>hq _ _ _ (hdone st1 hj)) hcn hmk⟩
end Go.Proofs.YthnihifblmnkdaaGreat

namespace Go.Proofs.YthnihifblmnkdaaGreat
open Go.RowKit
def da119:BCode:=(.reg 1 [⟨(some 7),.al (.agg [(.lit (.string ⟨#[]⟩)),(.lit (.string ⟨#[]⟩)),(.lit (.bool false)),(.lit (.int .i64 0)),(.lit (.int .i64 0)),(.lit (.int .i64 0))]),none,0⟩,⟨none,.st 6 (.tmp 7) (.tmp 12),none,1⟩] none 0 [])
def db119:BCode:=(.block 1 (.reg 2 [⟨(some 13),.ld 1 false (.tmp 5),none,0⟩,⟨(some 14),.ld 6 true (.tmp 7),none,0⟩,⟨(some 15),.bs 6 1 [(.lit (.string ⟨#[]⟩)),(.lit (.string ⟨#[]⟩)),(.lit (.bool false)),(.lit (.int .i64 0)),(.lit (.int .i64 0)),(.lit (.int .i64 0))] [(0,(.tmp 14))],none,0⟩,⟨(some 16),.ap 6 64 (.tmp 13) (.tmp 15),none,1⟩,⟨none,.st 1 (.tmp 5) (.tmp 16),none,2⟩] none 0 []))
theorem rg119:rangeAt Tryz.f119 0=.rangeFunc (.tmp 10) #[11,12] (rangeAsg (rangeAt Tryz.f119 0)) (rangeBody (rangeAt Tryz.f119 0)):=by kernel_rfl
theorem da119_ok:comp Tryz.prog (rangeAsg (rangeAt Tryz.f119 0))=some da119.er:=by unfold da119;kernel_rfl
theorem db119_ok:comp Tryz.prog (rangeBody (rangeAt Tryz.f119 0))=some db119.er:=by unfold db119;kernel_rfl
theorem fl119:da119.er.flat=true∧db119.er.flat=true:=⟨rfl,rfl⟩
theorem sc119:(rangeAsg (rangeAt Tryz.f119 0)).scopes=false∧(rangeBody (rangeAt Tryz.f119 0)).scopes=false:=⟨by kernel_rfl,by kernel_rfl⟩
end Go.Proofs.YthnihifblmnkdaaGreat

