/- A part of the proof: 6 texts joined. -/
import Derived.Test.YtpmoioopjbfhkaaGreatWeA5
import Derived.KernelRfl
import Derived.OpenShut
import Derived.Test.YtpmoioopjbfhkaaGreatWdA1
import Derived.Shelf.Spec.SlicesInsertGrow
set_option linter.all false
namespace Go.Proofs.YtpmoioopjbfhkaaGreat
open Go.RowKit
section
variable {P : Program} {n0 : Nat}
inductive BCode where
 | skip
 | reg (nc:Nat) (ops:List AOper) (bef:Option (List (List Nat))) (x:Nat) (fz:List Nat)
 | seq (a b:BCode)
 | join (a b:BCode)
 | cond (c:Operand) (a b:BCode)
 | block (id:Nat) (a:BCode)
 | loop (a:BCode)
 | exit (id:Nat)
 | ret
 | raw (c:Code)
def BCode.er:BCode→ACode
 | .skip=>.skip
 | .reg nc ops bef _ _=>.reg nc ops bef
 | .seq a b=>.seq a.er b.er
 | .join a b=>.seq a.er b.er
 | .cond c a b=>.cond c a.er b.er
 | .block id a=>.block id a.er
 | .loop a=>.loop a.er
 | .exit id=>.exit id
 | .ret=>.ret
 | .raw c=>.raw c
def ownId:V→Option Nat
 | .ptr i _=>some i
 | .osl i _ _ _ _=>some i
 | _=>none
def frzK (fr:List V):List Slot→List Nat→(List Slot→Prop)→Prop
 | st,[],k=>k st
 | st,t :: ts,k=>getK fr t fun v=>match ownId v with
  | some i=>sgetK st i fun cs f=>Nat.le f cs.length∧ssetK st i (.live cs cs.length) fun st'=>frzK fr st' ts k
  | none=>False
def frzI:List Nat→List Slot→(List Slot→Prop)→Prop
 | [],st,k=>k st
 | i :: is,st,k=>sgetK st i fun cs f=>Nat.le f cs.length∧ssetK st i (.live cs cs.length) fun st'=>frzI is st' k
theorem Frz.trans {st st1 st2:List Slot} (h:Frz st st1) (h2:Frz st1 st2):Frz st st2:=by
 induction h2 with
 | refl=>exact h
 | step _ hi h1 h2 ih=>exact .step ih hi h1 h2
theorem frzK_ok {fr:List V}:∀ {ts:List Nat} {st:List Slot} {k:List Slot→Prop},frzK fr st ts k→∃ st',Frz st st'∧k st'
 | [],st,k,h=>⟨st,.refl,h⟩
 | t :: ts,st,k,h=>by
  rw [frzK,getK_eq] at h
  split at h
  ·obtain ⟨cs,f,h1,h2,h3⟩:=sgetK_ok h
   rw [ssetK_eq] at h3
   obtain ⟨st',h4,h5⟩:=frzK_ok h3
   exact ⟨st',(Frz.step .refl h1 h2 (Nat.le_refl _)).trans h4,h5⟩
  ·exact h.elim
theorem frzI_ok:∀ {is:List Nat} {st:List Slot} {k:List Slot→Prop},frzI is st k→∃ st',Frz st st'∧k st'
 | [],st,k,h=>⟨st,.refl,h⟩
 | t :: ts,st,k,h=>by
  obtain ⟨cs,f,h1,h2,h3⟩:=sgetK_ok h
  rw [ssetK_eq] at h3
  obtain ⟨st',h4,h5⟩:=frzI_ok h3
  exact ⟨st',(Frz.step .refl h1 h2 (Nat.le_refl _)).trans h4,h5⟩
structure FootQ (bef:List (List Nat)) (fp:List (List Nat × List Nat)) (A:Prop):Prop where
 out:footB bef fp.reverse=true∧A
structure LoopQ (P:Program) (n0:Nat) (a:BCode) (Q:AExit→List V→List Slot→Prop) (fr:List V) (st:List Slot):Prop where
 out:∀ Q' : AExit→List V→List Slot→Prop,(∀ e fr st,Q e fr st→Q' e fr st)→AW P n0 (.loop a.er) Q' fr st
structure RawQ (P:Program) (n0:Nat) (c:Code) (Q:AExit→List V→List Slot→Prop) (fr:List V) (st:List Slot):Prop where
 out:∀ Q' : AExit→List V→List Slot→Prop,(∀ e fr st,Q e fr st→Q' e fr st)→AW P n0 (.raw c) Q' fr st
structure JoinQ (P:Program) (n0:Nat) (a b:BCode) (Q:AExit→List V→List Slot→Prop) (fr:List V) (st:List Slot):Prop where
 out:∀ Q' : AExit→List V→List Slot→Prop,(∀ e fr st,Q e fr st→Q' e fr st)→AW P n0 (.seq a.er b.er) Q' fr st
structure ArriveQ (n0:Nat) (J:List V→List Slot→Prop) (base:List V) (car:List Nat) (fr:List V) (st:List Slot):Prop where
 out:∃ k sg fr'' st'',Wk n0 k sg fr fr'' st st''∧∃ vals,J vals st''∧fr''=setF base car vals
structure FinQ (F:AExit→List V→List Slot→Prop) (e:AExit) (fr:List V) (st:List Slot):Prop where
 out:F e fr st
structure AgainQ (n0:Nat) (J:Nat→List V→List Slot→Prop) (n:Nat) (base:List V) (car:List Nat) (fr:List V) (st:List Slot):Prop where
 out:∃ n' k sg fr'' st'',n' < n∧Wk n0 k sg fr fr'' st st''∧∃ vals,J n' vals st''∧fr''=setF base car vals
def padK:List Slot→Nat→Nat→(List Slot→Nat→Prop)→Prop
 | s :: l,a,nc,k=>padK l (a + 1) nc fun l' n=>k (s :: l') n
 | [],a,nc,k=>rep nc fun l=>k l a
where rep:Nat→(List Slot→Prop)→Prop
 | 0,k=>k []
 | n + 1,k=>rep n fun l=>k (.fresh :: l)
theorem padK_rep:∀ (n:Nat) (k:List Slot→Prop),padK.rep n k=k (List.replicate n .fresh)
 | 0,k=>rfl
 | n + 1,k=>by rw [padK.rep,padK_rep n];rfl
theorem padK_eq:∀ (l:List Slot) (a nc:Nat) (k:List Slot→Nat→Prop),padK l a nc k=k (l++List.replicate nc .fresh) (a + l.length)
 | [],a,nc,k=>by rw [padK,padK_rep];simp
 | s :: l,a,nc,k=>by rw [padK,padK_eq l];simp [Nat.add_assoc,Nat.add_comm 1]
def footK (bef:Option (List (List Nat))) (fp:List (List Nat × List Nat)) (A:Prop):Prop :=
 match bef with
 | none=>A
 | some b=>FootQ b fp A
def exK (b:Bool) (A B:Prop):Prop :=
 match b with
 | true=>A
 | false=>B
abbrev OpsT:=List (List Nat × List Nat)→List V→List Slot→(List (List Nat × List Nat)→List V→List Slot→Prop)→Prop
def opsStep (P:Program) (base:Nat) (o:AOper) (ih:OpsT):OpsT:=fun fp fr st K =>
 match o with
 | ⟨d,op,none,c⟩=>wpOp P fr st (base + c) op fun fr v rd wr st'=>putK fr d v fun fr=>ih ((rd,wr) :: fp) fr st' K
 | ⟨d,op,some (t,w),c⟩=>getK fr t fun g=>match g with
  | .lit (.bool b)=>Tst b
   (setK fr t (.lit (.bool true)) fun fr=>match w with
    | true=>wpOp P fr st (base + c) op fun fr v rd wr st'=>putK fr d v fun fr=>ih ((rd,wr) :: fp) fr st' K
    | false=>putK fr d (.tup []) fun fr=>ih (([],[]) :: fp) fr st K)
   (setK fr t (.lit (.bool false)) fun fr=>match w with
    | false=>wpOp P fr st (base + c) op fun fr v rd wr st'=>putK fr d v fun fr=>ih ((rd,wr) :: fp) fr st' K
    | true=>putK fr d (.tup []) fun fr=>ih (([],[]) :: fp) fr st K)
  | .tup []=>putK fr d (.tup []) fun fr=>ih (([],[]) :: fp) fr st K
  | _=>False
def wqOps (P:Program) (base:Nat) (os:List AOper):OpsT:=List.rec (motive:=fun _=>OpsT) (fun fp fr st K=>K fp fr st) (fun o _ ih=>opsStep P base o ih) os
theorem wqOps_eq {P:Program} {base:Nat}:∀ os:List AOper,wqOps P base os=wpOps P base os
 | []=>rfl
 | o :: os=>by
  have ih:List.rec (motive:=fun _=>OpsT) (fun fp fr st K=>K fp fr st) (fun o _ ih=>opsStep P base o ih) os=wpOps P base os:=wqOps_eq os
  show opsStep P base o (List.rec (motive:=fun _=>OpsT) (fun fp fr st K=>K fp fr st) (fun o _ ih=>opsStep P base o ih) os)=wpOps P base (o :: os)
  rw [ih]
  obtain ⟨d,op,g,c⟩:=o
  cases g <;> rfl
abbrev CodeT:=(AExit→List V→List Slot→Prop)→List V→List Slot→Prop
def thenQ (b:CodeT) (Q:AExit→List V→List Slot→Prop):AExit→List V→List Slot→Prop:=fun e fr st=>match e with
 | .normal=>b Q fr st
 | e=>Q e fr st
def blockQ (id:Nat) (Q:AExit→List V→List Slot→Prop):AExit→List V→List Slot→Prop:=fun e fr st=>match e with
 | .exit j=>exK (Nat.beq j id) (Q .normal fr st) (Q (.exit j) fr st)
 | e=>Q e fr st
def condK (fr:List V) (st:List Slot) (c:Operand) (a b:CodeT) (Q:AExit→List V→List Slot→Prop):Prop:=opK fr c fun v=>match v with
 | .lit (.bool t)=>Tst t (Setb fr c true fun fr=>a Q fr st) (Setb fr c false fun fr=>b Q fr st)
 | _=>False
def wpC (P:Program) (n0:Nat) (c:BCode):CodeT:=BCode.rec (motive:=fun _=>CodeT)
 (fun Q fr st=>Q .normal fr st)
 (fun nc ops bef x fz Q fr st=>frzK fr st fz fun st=>padK st 0 (nc + x) fun st' n=>wqOps P n ops [] fr st' fun fp fr st=>footK bef fp (Q .normal fr st))
 (fun _ _ a b Q fr st=>a (thenQ b Q) fr st)
 (fun a b _ _ Q fr st=>JoinQ P n0 a b Q fr st)
 (fun c _ _ a b Q fr st=>condK fr st c a b Q)
 (fun id _ a Q fr st=>a (blockQ id Q) fr st)
 (fun a _ Q fr st=>LoopQ P n0 a Q fr st)
 (fun id Q fr st=>Q (.exit id) fr st)
 (fun Q fr st=>Q .ret fr st)
 (fun c Q fr st=>RawQ P n0 c Q fr st) c
theorem wpC_ok:∀ {c:BCode} {Q Q' : AExit→List V→List Slot→Prop} {fr:List V} {st:List Slot},(∀ e fr st,Q e fr st→Q' e fr st)→wpC P n0 c Q fr st→AW P n0 c.er Q' fr st
 | .skip,Q,Q',fr,st,hq,h=>hq _ _ _ h
 | .reg nc ops none x fz,Q,Q',fr,st,hq,h=>by
  obtain ⟨st',hf,h⟩:=frzK_ok (k:=fun st=>padK st 0 (nc + x) fun st' n=>wqOps P n ops [] fr st' fun fp fr st=>footK none fp (Q .normal fr st)) h
  simp only [padK_eq,Nat.zero_add,footK,wqOps_eq] at h
  exact ⟨st',x,hf,AOps_mono (fun _ _ _ h=>hq _ _ _ h) (wpOps_ok h)⟩
 | .reg nc ops (some bef) x fz,Q,Q',fr,st,hq,h=>by
  obtain ⟨st',hf,h⟩:=frzK_ok (k:=fun st=>padK st 0 (nc + x) fun st' n=>wqOps P n ops [] fr st' fun fp fr st=>footK (some bef) fp (Q .normal fr st)) h
  simp only [padK_eq,Nat.zero_add,footK,wqOps_eq] at h
  exact ⟨st',x,hf,AOps_mono (fun _ _ _ h=>⟨h.out.1,hq _ _ _ h.out.2⟩) (wpOps_ok h)⟩
 | .seq a b,Q,Q',fr,st,hq,h=>by
  refine wpC_ok (c:=a) (Q:=thenQ (wpC P n0 b) Q) (fun e fr st h=>?_) h
  cases e with
  | normal=>exact .inl (wpC_ok (c:=b) hq h)
  | _=>exact hq _ _ _ h
 | .join a b,Q,Q',fr,st,hq,h=>JoinQ.out h Q' hq
 | .cond c a b,Q,Q',fr,st,hq,h=>by
  change condK fr st c (wpC P n0 a) (wpC P n0 b) Q at h
  simp only [condK,opK_eq] at h
  split at h
  ·rename_i t hc
   refine ⟨t,hc,fun e=>?_,fun e=>?_⟩
   ·subst e;exact wpC_ok hq (setb_ok (K:=fun fr=>wpC P n0 a Q fr st) hc (h.out.1 rfl))
   ·subst e;exact wpC_ok hq (setb_ok (K:=fun fr=>wpC P n0 b Q fr st) hc (h.out.2 rfl))
  ·exact h.elim
 | .block id a,Q,Q',fr,st,hq,h=>by
  refine wpC_ok (c:=a) (Q:=blockQ id Q) (fun e fr st h=>?_) h
  cases e with
  | exit j =>
   by_cases hj:j=id
   ·have:Nat.beq j id=true:=by rw [hj];exact Nat.beq_refl id
    simp only [blockQ,this,exK] at h
    simp only [hj,if_true];exact hq _ _ _ h
   ·have:Nat.beq j id=false:=Bool.eq_false_iff.2 fun e=>hj (Nat.eq_of_beq_eq_true e)
    simp only [blockQ,this,exK] at h
    simp only [hj,if_false];exact hq _ _ _ h
  | _=>exact hq _ _ _ h
 | .loop a,Q,Q',fr,st,hq,h=>LoopQ.out h Q' hq
 | .exit id,Q,Q',fr,st,hq,h=>hq _ _ _ h
 | .ret,Q,Q',fr,st,hq,h=>hq _ _ _ h
 | .raw c,Q,Q',fr,st,hq,h=>RawQ.out h Q' hq
def setsK:List V→List Nat→List V→(List V→Prop)→Prop
 | fr,t :: ts,v :: vs,k=>setK fr t v fun fr=>setsK fr ts vs k
 | fr,_,_,k=>k fr
theorem setsK_eq:∀ (ts:List Nat) (fr vs:List V) (k:List V→Prop),setsK fr ts vs k=k (setF fr ts vs)
 | t :: ts,fr,v :: vs,k=>by rw [setsK,setK_eq,setsK_eq ts];rfl
 | [],fr,vs,k=>by simp [setsK,setF]
 | t :: ts,fr,[],k=>by simp [setsK,setF]
def maskK:List V→List Nat→(List V→Prop)→Prop
 | fr,t :: ts,k=>setK fr t .any fun fr=>maskK fr ts k
 | fr,[],k=>k fr
theorem maskK_eq:∀ (ts:List Nat) (fr:List V) (k:List V→Prop),maskK fr ts k=k (maskF ts fr)
 | t :: ts,fr,k=>by rw [maskK,setK_eq,maskK_eq ts];rfl
 | [],fr,k=>rfl
def againK (n0:Nat) (J:Nat→List V→List Slot→Prop) (n:Nat) (base:List V) (car:List Nat) (Q:AExit→List V→List Slot→Prop):AExit→List V→List Slot→Prop :=
 fun e fr st=>match e with
 | .normal=>AgainQ n0 J n base car fr st
 | e=>Q e fr st
theorem renL_at {sg:List Nat}:∀ (l:List V) (t:Nat) (h:t < l.length),(V.ren.renL sg l)[t]'(by rw [renL_len];exact h)=(l[t]).ren sg
 | v :: l,0,_=>rfl
 | v :: l,t + 1,h=>by simp only [V.ren.renL,List.getElem_cons_succ];exact renL_at l t (Nat.lt_of_succ_lt_succ h)
theorem maskF_len:∀ (ts:List Nat) (fr:List V),(maskF ts fr).length=fr.length
 | [],fr=>rfl
 | t :: ts,fr=>by rw [maskF,maskF_len ts,List.length_set]
theorem maskF_at:∀ (ts:List Nat) (fr:List V) (t:Nat) (h1:t < (maskF ts fr).length) (h2:t < fr.length),(maskF ts fr)[t]=.any∨(maskF ts fr)[t]=fr[t]
 | [],fr,t,h1,h2=>.inr rfl
 | u :: ts,fr,t,h1,h2=>by
  have:=maskF_at ts (fr.set u .any) t h1 (by rw [List.length_set];exact h2)
  rcases this with h | h
  ·exact .inl h
  ·by_cases e:u=t
   ·left
    show (maskF ts (fr.set u .any))[t]=.any
    rw [h];subst e;simp
   ·right
    show (maskF ts (fr.set u .any))[t]=fr[t]
    rw [h,List.getElem_set_ne e]
theorem wk_mask {n:Nat} {sg junk:List Nat} {fr fr' : List V} {st st' : List Slot} (h0:n0≤n) (hfx:((List.range n0).all fun i=>sgm sg i == i)=true) (hm:V.ren.renL sg fr'=maskF junk fr) (hid:V.idlt.belowL n fr'=true) (hl:st'.length=n) (hb:wkB n sg st 0 st'):Wk n0 n sg fr fr' st st':=by
 obtain ⟨g1,g2⟩:=wkB_ok hb
 simp only [Nat.zero_add] at g1 g2
 have hlen:fr'.length=fr.length:=by rw [← renL_len (sg:=sg) fr',hm,maskF_len]
 refine ⟨h0,fun i hi=>?_,hlen,fun t h1 h2=>?_,hl,fun i cs f h=>⟨(g1 i cs f h).1,(g1 i cs f h).2.1⟩,g2,fun i j ci fi cj fj hi hj e=>?_⟩
 ·simp only [List.all_eq_true,List.mem_range,beq_iff_eq] at hfx
  exact hfx i hi
 ·have e:=renL_at (sg:=sg) fr' t h1
  have e2:(V.ren.renL sg fr')[t]'(by rw [renL_len];exact h1)=(maskF junk fr)[t]'(by rw [maskF_len];exact h2):=by simp only [hm]
  rw [e] at e2
  rcases maskF_at junk fr t (by rw [maskF_len];exact h2) h2 with g | g
  ·left
   rw [g] at e2
   cases hv:fr'[t] <;> rw [hv] at e2 <;> simp [V.ren] at e2
  ·exact .inr ⟨by rw [e2,g],belowL_get hid t h1⟩
 ·have li:=(List.getElem?_eq_some_iff.1 hi).1
  have lj:=(List.getElem?_eq_some_iff.1 hj).1
  rcases Nat.lt_trichotomy i j with h | h | h
  ·exact absurd e ((g1 i ci fi hi).2.2 j h lj)
  ·exact h
  ·exact absurd e.symm ((g1 j cj fj hj).2.2 i h li)
variable {Q : AExit → List V → List Slot → Prop} {fr : List V} {st : List Slot}
theorem loop_c {a:BCode} (car junk junk0:List Nat) (J:Nat→List V→List Slot→Prop) (n1 k0:Nat) (sg0:List Nat) {vals0:List V} {st0:List Slot} (h0:J n1 vals0 st0) (hn:n0≤k0) (hfx:((List.range n0).all fun i=>sgm sg0 i == i)=true)
  (hm:V.ren.renL sg0 (setF (maskF junk fr) car vals0)=maskF junk0 fr) (hid:V.idlt.belowL k0 (setF (maskF junk fr) car vals0)=true) (hl:st0.length=k0) (hb:wkB k0 sg0 st 0 st0)
  (hr:∀ n vals st,J n vals st→maskK fr junk fun base=>setsK base car vals fun fr'=>wpC P n0 a (againK n0 J n base car Q) fr' st):LoopQ P n0 a Q fr st:=by
 refine ⟨fun Q' hq=>w_loop car junk J n1 k0 sg0 vals0 (wk_mask hn hfx hm hid hl hb) h0 fun n vals st hj=>?_⟩
 have:=hr n vals st hj
 rw [maskK_eq,setsK_eq] at this
 refine wpC_ok (fun e fr st h=>?_) this
 cases e with
 | normal=>exact h.out
 | _=>exact hq _ _ _ h
theorem again_c {J:Nat→List V→List Slot→Prop} {n:Nat} {base:List V} {car:List Nat} (junk:List Nat) (n' k:Nat) (sg:List Nat) {vals' : List V} {st'' : List Slot} (hJ:J n' vals' st'') (hlt:n' < n) (hn:n0≤k) (hfx:((List.range n0).all fun i=>sgm sg i == i)=true)
  (hm:V.ren.renL sg (setF base car vals')=maskF junk fr) (hid:V.idlt.belowL k (setF base car vals')=true) (hl:st''.length=k) (hb:wkB k sg st 0 st''):AgainQ n0 J n base car fr st :=
 ⟨n',k,sg,_,st'',hlt,wk_mask hn hfx hm hid hl hb,vals',hJ,rfl⟩
def joinK (n0:Nat) (J:List V→List Slot→Prop) (base:List V) (car:List Nat) (Q:AExit→List V→List Slot→Prop):AExit→List V→List Slot→Prop :=
 fun e fr st=>match e with
 | .normal=>ArriveQ n0 J base car fr st
 | e=>Q e fr st
theorem join_c {a b:BCode} (car junk:List Nat) (J:List V→List Slot→Prop) (ha:maskK fr junk fun base=>wpC P n0 a (joinK n0 J base car Q) fr st)
  (hb:∀ vals st,J vals st→maskK fr junk fun base=>setsK base car vals fun fr'=>wpC P n0 b Q fr' st):JoinQ P n0 a b Q fr st:=by
 rw [maskK_eq] at ha
 refine ⟨fun Q' hq=>wpC_ok (fun e fr' st' h=>?_) ha⟩
 cases e with
 | normal =>
  obtain ⟨k,sg,fr'',st'',hw,vals,hj,rfl⟩:=h.out
  have:=hb vals st'' hj
  rw [maskK_eq,setsK_eq] at this
  exact .inr ⟨k,sg,_,st'',hw,wpC_ok hq this⟩
 | _=>exact hq _ _ _ h
theorem arrive_c {J:List V→List Slot→Prop} {base:List V} {car:List Nat} (junk:List Nat) (k:Nat) (sg:List Nat) {vals' : List V} {st'' : List Slot} (hJ:J vals' st'') (hn:n0≤k) (hfx:((List.range n0).all fun i=>sgm sg i == i)=true)
  (hm:V.ren.renL sg (setF base car vals')=maskF junk fr) (hid:V.idlt.belowL k (setF base car vals')=true) (hl:st''.length=k) (hb:wkB k sg st 0 st''):ArriveQ n0 J base car fr st :=
 ⟨k,sg,_,st'',wk_mask hn hfx hm hid hl hb,vals',hJ,rfl⟩
def initK:List V→Nat→(List V→Prop)→Prop
 | [],n,k=>rep n k
 | v :: l,n + 1,k=>initK l n fun r=>k (v :: r)
 | _ :: _,0,_=>False
where rep:Nat→(List V→Prop)→Prop
 | 0,k=>k []
 | n + 1,k=>rep n fun l=>k (.tup [] :: l)
theorem initK_rep:∀ (n:Nat) (k:List V→Prop),initK.rep n k=k (List.replicate n (.tup []))
 | 0,k=>rfl
 | n + 1,k=>by rw [initK.rep,initK_rep n];rfl
theorem initK_ok:∀ {l:List V} {n:Nat} {k:List V→Prop},initK l n k→k (l++List.replicate (n - l.length) (.tup []))
 | [],n,k,h=>by rw [initK,initK_rep] at h;simpa using h
 | v :: l,n + 1,k,h=>by
  have:=initK_ok (l:=l) (n:=n) h
  simpa using this
 | _ :: _,0,k,h=>h.elim
end
def CallsO {α:Type} (P:Program) (f:FuncId) (args:List V) (enc:α→V) (m:Option α):Prop:=∀ v,m=some v→CallsV P f args (enc v)
theorem callsO_comp {α:Type} {enc:α→V} {m:Option α} {P:Program} {f:FuncId} {fn:Func} {ac:BCode} {n:Nat} {rs:List ARes} {args:List V} (hmix:P.follows .mixedOrders=true) (hf:P.funcs[f]?=some fn) (hc:compF P fn=some (ac.er,n,rs))
  (h:∀ r,m=some r→initK args n fun fr=>wpC P 0 ac (FinQ (Fin rs (enc r))) fr []):CallsO P f args enc m:=fun r hr =>
 callsV_comp hmix hf hc (wpC_ok (fun _ _ _ h=>h.out) (initK_ok (h r hr)))
structure Clo1 {α β:Type} (P:Program) (g:Nat) (caps:List V) (e1:α→V) (enc:β→V) (f:α→Option β):Prop where
 can:Callable P g
 own:V.idlt.belowL 0 caps=true
 calls:∀ a,CallsO P g (e1 a :: caps) enc (f a)
structure Clo2 {α α' β:Type} (P:Program) (g:Nat) (caps:List V) (e1:α→V) (e2:α'→V) (enc:β→V) (f:α→α'→Option β):Prop where
 can:Callable P g
 own:V.idlt.belowL 0 caps=true
 calls:∀ a b,CallsO P g (e1 a :: e2 b :: caps) enc (f a b)
def fuel:Nat:=100000000
abbrev w64 (r:Int):Int:=IntKind.i64.wrap r
def at? {α:Type} (l:List α) (j:Int):Option α:=if 0≤j then l[j.toNat]? else none
def cut? {α:Type} (l:List α) (lo hi:Option Int):Option (List α):=if 0≤lo.getD 0∧lo.getD 0≤hi.getD l.length∧hi.getD l.length≤l.length then some ((l.drop (lo.getD 0).toNat).take ((hi.getD l.length).toNat - (lo.getD 0).toNat)) else none
def app? {α:Type} (a b:List α):Option (List α):=if a.length + b.length≤1000000 then some (a++b) else none
def ne0? (b:Int):Option Unit:=if b≠0 then some () else none
abbrev V.y8 (n:Int):V:=.lit (.int .u8 n)
abbrev andI (k:IntKind) (a b:Int):Int:=k.wrap (BitVec.ofInt k.bits a &&& BitVec.ofInt k.bits b).toNat
abbrev orI (k:IntKind) (a b:Int):Int:=k.wrap (BitVec.ofInt k.bits a ||| BitVec.ofInt k.bits b).toNat
abbrev xorI (k:IntKind) (a b:Int):Int:=k.wrap (BitVec.ofInt k.bits a ^^^ BitVec.ofInt k.bits b).toNat
abbrev andNotI (k:IntKind) (a b:Int):Int:=k.wrap (BitVec.ofInt k.bits a &&& ~~~ BitVec.ofInt k.bits b).toNat
abbrev shlI (k:IntKind) (a b:Int):Int:=k.wrap (a * 2 ^ (min b.toNat k.bits))
abbrev shrI (k:IntKind) (a b:Int):Int:=a.fdiv (2 ^ (min b.toNat k.bits))
section
variable {β : Type} {r : β} {A B : Prop} {P : Program} {st : List Slot}
theorem bind_c {α:Type} {m:Option α} {X:α→Option β} (H:m.bind X=some r):∃ v,m=some v∧X v=some r:=by
 cases m with
 | none=>cases H
 | some v=>exact ⟨v,rfl,H⟩
theorem join0_c {α:Type} {m:Option α} {X:α→Option β} (H:m.bind X=some r):∃ K:α→Option β,K=X∧∃ v,m=some v∧K v=some r:=by
 obtain ⟨v,h1,h2⟩:=bind_c H
 exact ⟨X,rfl,v,h1,h2⟩
theorem tst_c {b:Bool} {X Y:Option β} (H:(bif b then X else Y)=some r) (h1:b=true→X=some r→A) (h2:b=false→Y=some r→B):Tst b A B:=by
 cases b with
 | true=>exact ⟨fun e=>h1 e H,fun e=>(by cases e)⟩
 | false=>exact ⟨fun e=>(by cases e),fun e=>h2 e H⟩
theorem tst_d {b:Bool} {X Y:Option β} (H:(bif b then X else Y)=some r) (h2:b=false→Y=some r→B) (h1:b=true→X=some r→A):Tst b A B:=tst_c H h1 h2
theorem ixs_c {α:Type} {f:α→V} {l:List α} {j:Int} {es:Nat} {X:α→Option β} {k:V→Prop} (H:(at? l j).bind X=some r) (hes:∀ a,(f a).cells.length=es) (h:∀ x,X x=some r→k (.eptr (f x).cells)):IxS es (l.map f) j k:=by
 obtain ⟨x,hx,H⟩:=bind_c H
 unfold at? at hx
 split at hx
 ·rename_i h0
  obtain ⟨h1,rfl⟩:=List.getElem?_eq_some_iff.1 hx
  exact IxS.M h0 h1 hes (h _ H)
 ·cases hx
theorem at_inv {α:Type} {l:List α} {j:Int} {x:α} (h:at? l j=some x):0≤j∧j.toNat < l.length∧l[j.toNat]?=some x:=by
 unfold at? at h
 split at h
 ·obtain ⟨h1,_⟩:=List.getElem?_eq_some_iff.1 h
  exact ⟨‹_›,h1,h⟩
 ·cases h
theorem ixo_c {α:Type} {l:List α} {j:Int} {X:α→Option β} {k:Nat→Prop} (H:(at? l j).bind X=some r) (h:∀ x,l[j.toNat]?=some x→X x=some r→k j.toNat):IxO l.length j k:=by
 obtain ⟨x,hx,H⟩:=bind_c H
 obtain ⟨h0,h1,h2⟩:=at_inv hx
 exact ⟨h0,h1,h x h2 H⟩
theorem takeK_of:∀ {l:List V} {n:Nat} {k:List V→Prop},n≤l.length→k (l.take n)→takeK l n k
 | l,0,k,_,h=>by cases l <;> exact h
 | [],n + 1,k,hn,h=>absurd hn (by simp)
 | v :: l,n + 1,k,hn,h=>takeK_of (l:=l) (n:=n) (by simpa using hn) h
theorem ldK_of:∀ {l:List V} {o sz:Nat} {ag:Bool} {k:V→Prop},o < l.length→o + agz ag sz≤l.length→k (partV ag sz (l.drop o))→ldK l o sz ag k
 | v :: l,0,sz,true,k,h0,h1,h=>takeK_of (by simpa [agz] using h1) h
 | v :: l,0,sz,false,k,h0,h1,h=>h
 | v :: l,o + 1,sz,ag,k,h0,h1,h=>ldK_of (l:=l) (o:=o) (by simpa using h0) (by rw [List.length_cons] at h1;omega) h
 | [],o,sz,ag,k,h0,h1,h=>absurd h0 (by simp)
theorem layK_of:∀ {l:List V} {o:Nat} {vs:List V} {k:List V→Prop},o + vs.length≤l.length→k (l.take o++vs++l.drop (o + vs.length))→layK l o vs k
 | l,0,[],k,_,h=>by
  have:layK l 0 [] k=k l:=by cases l <;> rfl
  rw [this];simpa using h
 | u :: l,0,v :: vs,k,hl,h=>layK_of (l:=l) (o:=0) (vs:=vs) (by simp at hl ⊢;omega) (by simpa using h)
 | u :: l,o + 1,vs,k,hl,h=>by
  refine layK_of (l:=l) (o:=o) (vs:=vs) (k:=fun r=>k (u :: r)) (by rw [List.length_cons] at hl;omega) ?_
  have e:o + 1 + vs.length=(o + vs.length) + 1:=by omega
  rw [e] at h
  simpa using h
 | [],0,v :: vs,k,hl,h=>absurd hl (by simp)
 | [],o + 1,vs,k,hl,h=>absurd hl (by simp)
theorem ldK_app {l m:List V} {o sz:Nat} {ag:Bool} {k:V→Prop} (ho:o < l.length∧o + agz ag sz≤l.length):∀ {p:List V},ldK l o sz ag k→ldK (p++l++m) (p.length + o) sz ag k:=by
 intro p h
 obtain ⟨h1,h2⟩:=ldK_ok h
 obtain ⟨hlt,ho⟩:=ho
 apply ldK_of
 ·simp only [List.length_append];omega
 ·simp only [List.length_append];cases ag <;> simp [agz] at ho ⊢ <;> omega
 ·have e:partV ag sz ((p++l++m).drop (p.length + o))=partV ag sz (l.drop o):=by
   rw [List.append_assoc,List.drop_append,List.drop_of_length_le (by omega),List.nil_append,Nat.add_sub_cancel_left,List.drop_append_of_le_length (by cases ag <;> simp [agz] at ho <;> omega)]
   cases ag with
   | true =>
    simp only [partV,if_true]
    rw [List.take_append_of_le_length (by simp [agz] at ho;rw [List.length_drop];omega)]
   | false =>
    simp only [partV,Bool.false_eq_true,if_false]
    simp [agz] at ho
    rw [List.getD_eq_getElem?_getD,List.getD_eq_getElem?_getD,List.getElem?_append_left (by rw [List.length_drop];omega)]
  rw [e];exact h2
theorem cellsM_split {α:Type} {f:α→V} {es:Nat} (hes:∀ a,(f a).cells.length=es):∀ {l:List α} {n:Nat} {x:α},l[n]?=some x→∃ p m,cellsM f l=p++(f x).cells++m∧p.length=n * es∧∀ y,cellsM f (l.set n y)=p++(f y).cells++m
 | [],n,x,h=>by simp at h
 | a :: l,0,x,h=>by
  simp only [List.getElem?_cons_zero,Option.some.injEq] at h
  subst h
  exact ⟨[],cellsM f l,rfl,by simp,fun y=>rfl⟩
 | a :: l,n + 1,x,h=>by
  obtain ⟨p,m,h1,h2,h3⟩:=cellsM_split hes (l:=l) (n:=n) (by simpa using h)
  have e:∀ (b:α) (r:List α),cellsM f (b :: r)=(f b).cells++cellsM f r:=fun b r=>by unfold cellsM;rw [List.flatMap_cons]
  refine ⟨(f a).cells++p,m,by rw [e,h1];simp only [List.append_assoc],by rw [List.length_append,hes,h2,Nat.succ_mul];omega,fun y=>?_⟩
  rw [List.set_cons_succ,e,h3];simp only [List.append_assoc]
theorem ldo_c {α:Type} {f:α→V} {l:List α} {n es off sz:Nat} {ag:Bool} {x:α} {k:V→Prop} (hx:l[n]?=some x) (hes:∀ a,(f a).cells.length=es) (o:Nat) (ho:off=n * es + o) (hs:o < es∧o + agz ag sz≤es) (h:ldK (f x).cells o sz ag k):ldK (cellsM f l) off sz ag k:=by
 obtain ⟨p,m,h1,h2,_⟩:=cellsM_split hes hx
 rw [h1,ho,← h2]
 exact ldK_app (by rw [hes];exact hs) h
theorem layK_app {l m vs:List V} {o:Nat} {k:List V→Prop}:∀ {p:List V},layK l o vs (fun l'=>k (p++l'++m))→o + vs.length≤l.length→layK (p++l++m) (p.length + o) vs k:=by
 intro p h hl
 obtain ⟨h1,h2⟩:=layK_ok h
 refine layK_of ?_ ?_
 ·simp only [List.length_append];omega
 ·have e:(p++l++m).take (p.length + o)++vs++(p++l++m).drop (p.length + o + vs.length)=p++(l.take o++vs++l.drop (o + vs.length))++m:=by
   rw [List.append_assoc p l m,List.take_append,List.take_of_length_le (by omega),Nat.add_sub_cancel_left,List.take_append_of_le_length (by omega),List.drop_append,List.drop_of_length_le (by omega),List.nil_append,Nat.add_assoc,Nat.add_sub_cancel_left,List.drop_append_of_le_length (by omega)]
   simp only [List.append_assoc]
  rw [e];exact h2
theorem sto_c {α:Type} {f:α→V} {l:List α} {n es off:Nat} {vs:List V} {x:α} {k:List V→Prop} (hx:l[n]?=some x) {x' : α} (hes:∀ a,(f a).cells.length=es) (o:Nat) (ho:off=n * es + o) (hs:o + vs.length≤es) (h' : layK (f x).cells o vs fun cs=>cs=(f x').cells) (h:k (cellsM f (l.set n x'))):layK (cellsM f l) off vs k:=by
 obtain ⟨p,m,h1,h2,h3⟩:=cellsM_split hes hx
 rw [h1,ho,← h2]
 refine layK_app ?_ (by rw [hes];exact hs)
 obtain ⟨g1,g2⟩:=layK_ok h'
 refine layK_of g1 ?_
 rw [g2,← h3];exact h
theorem ixg_c {α:Type} {f:α→V} {T:List α} {n:Nat} {j:Int} {cs:List V} {X:α→Option β} {k:V→Prop} (H:(at? T j).bind X=some r) (hn:n=T.length) (hc:cs=T.map f) (h:∀ x,X x=some r→k (f x)):IxO n j fun i=>ldK cs (i * 1) 1 false k:=by
 obtain ⟨x,hx,H⟩:=bind_c H
 obtain ⟨h0,h1,h2⟩:=at_inv hx
 refine ⟨h0,hn ▸ h1,?_⟩
 subst hc
 obtain ⟨h3,h4⟩:=List.getElem?_eq_some_iff.1 h2
 exact ldK_E j.toNat (Nat.mul_one _) h3 (by rw [h4];exact h x H)
theorem cut_map {α:Type} {f:α→V} {l x:List α} {lo hi:Option Int} (hx:cut? l lo hi=some x):0≤lo.getD 0∧lo.getD 0≤hi.getD (l.map f).length∧hi.getD (l.map f).length≤(l.map f).length∧((l.map f).drop (lo.getD 0).toNat).take ((hi.getD (l.map f).length).toNat - (lo.getD 0).toNat)=x.map f:=by
 unfold cut? at hx
 split at hx
 ·rename_i h0
  simp only [Option.some.injEq] at hx
  subst hx
  rw [List.length_map,← List.map_drop,← List.map_take]
  exact ⟨h0.1,h0.2.1,h0.2.2,rfl⟩
 ·cases hx
theorem slsE_c {α:Type} {f:α→V} {l:List α} {es:Nat} {full:Bool} {lo:Option Int} {X:List α→Option β} {k:V→Prop} (H:(cut? l lo none).bind X=some r) (hes:∀ a,(f a).cells.length=es) (h:∀ x,X x=some r→k (.sl (x.map f) full)):SlS es (l.map f) full lo none none k:=by
 obtain ⟨x,hx,H⟩:=bind_c H
 obtain ⟨h0,h1,h2,h3⟩:=cut_map (f:=f) hx
 refine SlS.E (mem_es hes l) h0 (by simpa using h1) ?_
 have e:(l.map f).drop (lo.getD 0).toNat=x.map f:=by
  rw [← h3,List.take_of_length_le]
  simp only [Option.getD_none,List.length_drop,Int.toNat_natCast];omega
 rw [e];exact h x H
theorem slsH_c {α:Type} {f:α→V} {l:List α} {es:Nat} {full:Bool} {lo:Option Int} {hi:Int} {X:List α→Option β} {k:V→Prop} (H:(cut? l lo (some hi)).bind X=some r) (hes:∀ a,(f a).cells.length=es) (h:∀ x,X x=some r→k (.sl (x.map f) false)):SlS es (l.map f) full lo (some hi) none k:=by
 obtain ⟨x,hx,H⟩:=bind_c H
 obtain ⟨h0,h1,h2,h3⟩:=cut_map (f:=f) hx
 refine SlS.H (mem_es hes l) h0 h1 h2 ?_
 have e:((l.map f).drop (lo.getD 0).toNat).take (hi.toNat - (lo.getD 0).toNat)=x.map f:=h3
 rw [e];exact h x H
theorem ne0_c {b:Int} {X:Unit→Option β} {k:Prop} (H:(ne0? b).bind X=some r) (h:X ()=some r→k):b≠0∧k:=by
 obtain ⟨x,hx,H⟩:=bind_c H
 unfold ne0? at hx
 split at hx
 ·exact ⟨‹_›,h H⟩
 ·cases hx
theorem ask_c {α:Type} {enc:α→V} {m:Option α} {X:α→Option β} {f:Nat} {vs vs' : List V} {k:V→List Nat→List Nat→List Slot→Prop} (hc:CallsO P f vs' enc m) (H:m.bind X=some r) (hv:vs=vs') (h0:V.idlt.belowL 0 vs'=true) (h:∀ x,X x=some r→k (enc x) [] [] st):Ask P f vs st k:=by
 obtain ⟨x,hx,H⟩:=bind_c H
 exact Ask_V0 (hc x hx) hv h0 (h x H)
theorem askF_c {α:Type} {enc:α→V} {m:Option α} {X:α→Option β} {f:Nat} {vs vs' : List V} {rd:List Nat} {k:V→List Nat→List Nat→List Slot→Prop} (hc:CallsO P f vs' enc m) (H:m.bind X=some r) (ha:FzA st vs vs' rd) (h:∀ x,X x=some r→k (enc x) rd [] st):Ask P f vs st k:=by
 obtain ⟨x,hx,H⟩:=bind_c H
 exact Ask_V (hc x hx) ha (h x H)
theorem fza_ids:∀ {l:List V},V.idlt.belowL 0 l=true→FzA st l l []
 | [],_=>.nil
 | v :: l,h=>by
  simp only [V.idlt.belowL,Bool.and_eq_true] at h
  exact FzA.cons (r:=[]) (r':=[]) (.c (.id h.1)) (fza_ids h.2)
theorem fza_caps {l l' caps:List V} {rd:List Nat} (h:FzA st l l' rd) (hc:V.idlt.belowL 0 caps=true):FzA st (l++caps) (l'++caps) rd:=by
 induction h with
 | nil=>exact fza_ids hc
 | cons h _ ih=>exact .cons h ih
theorem askC_c {α β' : Type} {e1:α→V} {enc:β'→V} {f:α→Option β'} {a:α} {X:β'→Option β} {g:Nat} {caps:List V} {v:V} {rd:List Nat} {k:V→List Nat→List Nat→List Slot→Prop} (hc:Clo1 P g caps e1 enc f) (H:(f a).bind X=some r) (ha:FzA st [v] [e1 a] rd) (h:∀ x,X x=some r→k (enc x) rd [] st):Callable P g∧Ask P g ([v]++caps) st k :=
 ⟨hc.can,askF_c (hc.calls a) H (fza_caps ha hc.own) h⟩
theorem askC2_c {α α' β' : Type} {e1:α→V} {e2:α'→V} {enc:β'→V} {f:α→α'→Option β'} {a:α} {b:α'} {X:β'→Option β} {g:Nat} {caps:List V} {v v' : V} {rd:List Nat} {k:V→List Nat→List Nat→List Slot→Prop} (hc:Clo2 P g caps e1 e2 enc f) (H:(f a b).bind X=some r) (ha:FzA st [v,v'] [e1 a,e2 b] rd) (h:∀ x,X x=some r→k (enc x) rd [] st):Callable P g∧Ask P g ([v,v']++caps) st k :=
 ⟨hc.can,askF_c (hc.calls a b) H (fza_caps ha hc.own) h⟩
theorem fzown {α:Type} {f:α→V} {l:List α} {i es frz:Nat} {full:Bool} (hi:st[i]?=some (.live (cellsM f l) frz)) (hf:frz=(cellsM f l).length) (hes:∀ a,(f a).cells.length=es) (h0:∀ a,V.idlt.belowL 0 (f a).cells=true):FzC st (.osl i 0 l.length es full) (.sl (l.map f) false) [i]:=fzc_made hi rfl hf rfl hes h0
theorem fzagg {l l' : List V} {rd:List Nat} (h:FzL st l l' rd) (h1:l'.all V.one=true):FzV st (.agg l) (.agg l') rd:=.agg h (by simpa using h1)
structure FzQ (st:List Slot) (u v:V):Prop where
 out:∃ rd,FzR st u v rd
def resOneK (fr:List V) (st:List Slot) (x:ARes) (k:V→Prop):Prop :=
 match x with
 | .tmp t=>getK fr t k
 | .cell t sz ag=>getK fr t fun v=>match v with
  | .ptr i off=>sgetK st i fun cs _=>ldK cs off sz ag k
  | _=>False
def resK (fr:List V) (st:List Slot):List ARes→(List V→Prop)→Prop
 | [],k=>k []
 | x :: xs,k=>resOneK fr st x fun v=>resK fr st xs fun vs=>k (v :: vs)
def mkRK (vs:List V) (k:V→Prop):Prop :=
 match vs with
 | [v]=>k v
 | vs=>k (.tup vs)
theorem mkRK_eq (vs:List V) (k:V→Prop):mkRK vs k=k (mkR vs):=by
 match vs with
 | []=>rfl
 | [v]=>rfl
 | v :: u :: vs=>rfl
theorem resOneK_ok {fr:List V} {st:List Slot} {x:ARes} {k:V→Prop} (h:resOneK fr st x k):∃ v,ResOne fr st x v∧k v:=by
 cases x with
 | tmp t=>simp only [resOneK,getK_eq] at h;exact ⟨_,.tmp rfl,h⟩
 | cell t sz ag =>
  simp only [resOneK,getK_eq] at h
  split at h
  ·rename_i i off hv
   obtain ⟨cs,f,h1,h2⟩:=sgetK_ok h
   obtain ⟨h3,h4⟩:=ldK_ok h2
   exact ⟨_,.cell hv h1 h3,h4⟩
  ·exact h.elim
theorem resK_ok {fr:List V} {st:List Slot}:∀ {rs:List ARes} {k:List V→Prop},resK fr st rs k→∃ vs,ResL fr st rs vs∧k vs
 | [],k,h=>⟨[],.nil,h⟩
 | x :: xs,k,h=>by
  obtain ⟨v,h1,h⟩:=resOneK_ok h
  obtain ⟨vs,h2,h⟩:=resK_ok (rs:=xs) h
  exact ⟨v :: vs,.cons h1 h2,h⟩
theorem finR_c {rs:List ARes} {fr:List V} {α:Type} {enc:α→V} {x y:α} (H:some x=some y) (h:resK fr st rs fun vs=>mkRK vs fun v=>FzQ st v (enc x)):FinQ (Fin rs (enc y)) .ret fr st:=by
 cases H
 obtain ⟨vs,h1,h2⟩:=resK_ok h
 rw [mkRK_eq] at h2
 obtain ⟨rd,h2⟩:=h2.out
 exact ⟨.inr rfl,st,.refl,vs,rd,h1,h2⟩
theorem fin0_c {rs:List ARes} {e:AExit} {fr vs:List V} {α:Type} {enc:α→V} {x y:α} (H:some x=some y) (he:e=.normal∨e=.ret) (hr:ResL fr st rs vs) (hv:mkR vs=enc x) (h0:(mkR vs).idlt 0=true):FinQ (Fin rs (enc y)) e fr st:=by
 cases H;exact ⟨he,st,.refl,vs,[],hr,hv ▸ .v (.c (.id h0))⟩
theorem cellsM_app' {α:Type} (f:α→V) (a b:List α):cellsM f (a++b)=cellsM f a++cellsM f b:=by unfold cellsM;rw [List.flatMap_append]
theorem srcM {α:Type} {f:α→V} {es:Nat} (hes:∀ a,(f a).cells.length=es) (l:List α) (fu:Bool):SrcV st es (.sl (l.map f) fu) l.length (cellsM f l) []:=by
 have:=SrcV.sl (st:=st) (es:=es) (ys:=l.map f) (f:=fu) (fun y hy=>by obtain ⟨a,_,rfl⟩:=List.mem_map.1 hy;exact hes a)
 rwa [List.length_map,cellsM_map] at this
theorem srcOwn {α:Type} {f:α→V} {es i fz:Nat} (hes:∀ a,(f a).cells.length=es) {l:List α} {cs:List V} {fu:Bool} {n:Nat} (hi:st[i]?=some (.live cs fz)) (hc:cs=cellsM f l) (hn:n=l.length):SrcV st es (.osl i 0 n es fu) l.length (cellsM f l) [i]:=by
 subst hc hn
 have hl:=cellsM_len hes l
 have:=SrcV.osl (off:=0) (n:=l.length) (es:=es) (f:=fu) hi (by omega)
 rwa [List.drop_zero,← hl,List.take_length] at this
theorem app_len {α:Type} {F G L:List α} (h:app? F G=some L):L=F++G∧F.length + G.length≤1000000:=by
 unfold app? at h
 split at h
 ·simp only [Option.some.injEq] at h;exact ⟨h.symm,‹_›⟩
 ·cases h
theorem appN_c {α:Type} {f:α→V} {F G:List α} {id bytes es:Nat} {s x:V} {rd rd' : List Nat} {X:List α→Option β} {k:V→List Nat→List Nat→List Slot→Prop} (H:(app? F G).bind X=some r) (hes:∀ a,(f a).cells.length=es) (hs:SrcV st es s F.length (cellsM f F) rd) (hfu:s.full=true) (hx:SrcX st es x G.length (cellsM f G) rd')
  (hb:bytes≤1000) (hf:st[id]?=some .fresh) (hg:G≠[]) (h:∀ L,X L=some r→ssetK st id (.live (cellsM f L) (cellsM f L).length) fun st'=>k (.osl id 0 L.length es false) (rd++rd') [id] st'):App st id es bytes s x k:=by
 obtain ⟨L,hL,H⟩:=bind_c H
 obtain ⟨rfl,hn⟩:=app_len hL
 have:=h _ H
 rw [ssetK_eq] at this
 refine App.N hs hfu hx (List.length_pos_iff.2 hg) hn hb hf ?_
 rwa [cellsM_app',List.length_append] at this
theorem appO_c {α:Type} {f:α→V} {F G:List α} {i id bytes es fz:Nat} {x:V} {rd' : List Nat} {X:List α→Option β} {k:V→List Nat→List Nat→List Slot→Prop} (H:(app? F G).bind X=some r) (hes:∀ a,(f a).cells.length=es) (hi:st[i]?=some (.live (cellsM f F) fz)) (hz:fz≤(cellsM f F).length) (hx:SrcX st es x G.length (cellsM f G) rd')
  (hb:bytes≤1000) (hf:st[id]?=some .fresh) (hg:G≠[]) (h:∀ L,X L=some r→ssetK st i .dead fun st1=>ssetK st1 id (.live (cellsM f L) (cellsM f L).length) fun st'=>k (.osl id 0 L.length es false) (rd'++[i]) [i,id] st'):App st id es bytes (.osl i 0 F.length es false) x k:=by
 obtain ⟨L,hL,H⟩:=bind_c H
 obtain ⟨rfl,hn⟩:=app_len hL
 have:=h _ H
 rw [ssetK_eq,ssetK_eq] at this
 refine App.O hi (cellsM_len hes F) hz hx (List.length_pos_iff.2 hg) hn hb hf ?_
 rwa [cellsM_app',List.length_append] at this
theorem appP_c {α:Type} {f:α→V} {F G:List α} {i id bytes es fz:Nat} {x:V} {rd' : List Nat} {X:List α→Option β} {k:V→List Nat→List Nat→List Slot→Prop} (H:(app? F G).bind X=some r) (hes:∀ a,(f a).cells.length=es) (hi:st[i]?=some (.live (cellsM f F) fz)) (hz:fz=(cellsM f F).length) (hx:SrcX st es x G.length (cellsM f G) rd')
  (hb:bytes≤1000) (hf:st[id]?=some .fresh) (h0:∀ L,X L=some r→ssetK st i (.live (cellsM f L) (cellsM f L).length) fun st'=>k (.osl i 0 L.length es false) ([i]++rd') [] st') (h:∀ L,X L=some r→ssetK st i .dead fun st1=>ssetK st1 id (.live (cellsM f L) (cellsM f L).length) fun st'=>k (.osl id 0 L.length es false) (rd'++[i]) [i,id] st'):App st id es bytes (.osl i 0 F.length es false) x k:=by
 by_cases hg:G=[]
 ·obtain ⟨L,hL,H⟩:=bind_c H
  obtain ⟨rfl,hn⟩:=app_len hL
  subst hg hz
  have:=h0 _ H
  rw [ssetK_eq,List.append_nil] at this
  have e:st.set i (.live (cellsM f F) (cellsM f F).length)=st:=by
   apply List.ext_getElem?
   intro j
   rw [List.getElem?_set]
   split
   ·rename_i h;subst h
    split
    ·exact hi.symm
    ·rename_i h;exact absurd (List.getElem?_eq_some_iff.1 hi).1 h
   ·rfl
  rw [e] at this
  exact App.Z (srcOwn hes hi rfl rfl) hx this
 ·exact appO_c H hes hi (Nat.le_of_eq hz) hx hb hf hg h
theorem appE_c {α:Type} {f:α→V} {G:List α} {id bytes es:Nat} {x:V} {rd' : List Nat} {fu:Bool} {X:List α→Option β} {k:V→List Nat→List Nat→List Slot→Prop} (H:(app? ([]:List α) G).bind X=some r) (hes:∀ a,(f a).cells.length=es) (hfu:fu=true) (hx:SrcX st es x G.length (cellsM f G) rd')
  (hb:bytes≤1000) (hf:st[id]?=some .fresh) (h0:X []=some r→k (.sl (List.map f []) fu) ([]++rd') [] st) (h:∀ L,X L=some r→ssetK st id (.live (cellsM f L) (cellsM f L).length) fun st'=>k (.osl id 0 L.length es false) ([]++rd') [id] st'):App st id es bytes (.sl (List.map f []) fu) x k:=by
 by_cases hg:G=[]
 ·obtain ⟨L,hL,H⟩:=bind_c H
  obtain ⟨rfl,hn⟩:=app_len hL
  subst hg
  exact App.Z (srcM hes [] fu) hx (h0 H)
 ·exact appN_c H hes (srcM hes [] fu) hfu hx hb hf hg h
theorem App.Ns {id bytes es n m:Nat} {s x:V} {ds ds' : List V} {rd rd' : List Nat} {k:V→List Nat→List Nat→List Slot→Prop} (hs:SrcV st es s n ds rd) (hfu:s.full=true) (hx:SrcX st es x m ds' rd') (hk:0 < m) (hn:n + m≤1000000) (hb:bytes≤1000) (hf:st[id]?=some .fresh)
  (h:k (.osl id 0 (n + m) es false) (rd++rd') [id] (st.set id (.live (ds++ds') 0))):App st id es bytes s x k:=⟨.inr (.inl ⟨n,ds,rd,m,ds',rd',_,hs,hfu,hx,hk,hn,hb,hf,Nat.zero_le _,h⟩)⟩
theorem App.Os {id bytes es i n m frz:Nat} {cs ds' : List V} {x:V} {rd' : List Nat} {k:V→List Nat→List Nat→List Slot→Prop} (hi:st[i]?=some (.live cs frz)) (hl:cs.length=n * es) (hz:frz=0) (hx:SrcX st es x m ds' rd') (hk:0 < m) (hn:n + m≤1000000) (hb:bytes≤1000) (hf:st[id]?=some .fresh)
  (h:k (.osl id 0 (n + m) es false) (rd'++[i]) [i,id] ((st.set i .dead).set id (.live (cs++ds') 0))):App st id es bytes (.osl i 0 n es false) x k:=⟨.inr (.inr ⟨i,n,cs,frz,m,ds',rd',_,rfl,hi,hl,by omega,hx,hk,hn,hb,hf,by omega,Nat.zero_le _,h⟩)⟩
theorem appNs_c {α:Type} {f:α→V} {F G:List α} {id bytes es:Nat} {s x:V} {rd rd' : List Nat} {X:List α→Option β} {k:V→List Nat→List Nat→List Slot→Prop} (H:(app? F G).bind X=some r) (hes:∀ a,(f a).cells.length=es) (hs:SrcV st es s F.length (cellsM f F) rd) (hfu:s.full=true) (hx:SrcX st es x G.length (cellsM f G) rd')
  (hb:bytes≤1000) (hf:st[id]?=some .fresh) (hg:G≠[]) (h:∀ L,X L=some r→ssetK st id (.live (cellsM f L) 0) fun st'=>k (.osl id 0 L.length es false) (rd++rd') [id] st'):App st id es bytes s x k:=by
 obtain ⟨L,hL,H⟩:=bind_c H
 obtain ⟨rfl,hn⟩:=app_len hL
 have:=h _ H
 rw [ssetK_eq] at this
 refine App.Ns hs hfu hx (List.length_pos_iff.2 hg) hn hb hf ?_
 rwa [cellsM_app',List.length_append] at this
theorem appOs_c {α:Type} {f:α→V} {F G:List α} {i id bytes es fz:Nat} {x:V} {rd' : List Nat} {X:List α→Option β} {k:V→List Nat→List Nat→List Slot→Prop} (H:(app? F G).bind X=some r) (hes:∀ a,(f a).cells.length=es) (hi:st[i]?=some (.live (cellsM f F) fz)) (hz:fz=0) (hx:SrcX st es x G.length (cellsM f G) rd')
  (hb:bytes≤1000) (hf:st[id]?=some .fresh) (hg:G≠[]) (h:∀ L,X L=some r→ssetK st i .dead fun st1=>ssetK st1 id (.live (cellsM f L) 0) fun st'=>k (.osl id 0 L.length es false) (rd'++[i]) [i,id] st'):App st id es bytes (.osl i 0 F.length es false) x k:=by
 obtain ⟨L,hL,H⟩:=bind_c H
 obtain ⟨rfl,hn⟩:=app_len hL
 have:=h _ H
 rw [ssetK_eq,ssetK_eq] at this
 refine App.Os hi (cellsM_len hes F) hz hx (List.length_pos_iff.2 hg) hn hb hf ?_
 rwa [cellsM_app',List.length_append] at this
theorem finRz_c {rs:List ARes} {fr:List V} {α:Type} {enc:α→V} {x y:α} (is:List Nat) (H:some x=some y) (h:frzI is st fun st=>resK fr st rs fun vs=>mkRK vs fun v=>FzQ st v (enc x)):FinQ (Fin rs (enc y)) .ret fr st:=by
 cases H
 obtain ⟨st',hf,h⟩:=frzI_ok h
 obtain ⟨vs,h1,h2⟩:=resK_ok h
 rw [mkRK_eq] at h2
 obtain ⟨rd,h2⟩:=h2.out
 exact ⟨.inr rfl,st',hf,vs,rd,h1,h2⟩
end
theorem fb_ {fr:List V} {st:List Slot} {t:Nat} {x y:Bool} (H:some x=some y) (h:fr.getD t .any=V.b x:=by rfl):FinQ (Fin [.tmp t] (V.b y)) .ret fr st:=fin0_c (enc:=V.b) H (.inr rfl) (.cons (.tmp h) .nil) rfl rfl
theorem fi_ {fr:List V} {st:List Slot} {t:Nat} {x y:Int} (H:some x=some y) (h:fr.getD t .any=V.i x:=by rfl):FinQ (Fin [.tmp t] (V.i y)) .ret fr st:=fin0_c (enc:=V.i) H (.inr rfl) (.cons (.tmp h) .nil) rfl rfl
theorem fq_ {fr:List V} {st:List Slot} {t u:Nat} {x y:Int × Bool} (H:some x=some y) (h:fr.getD t .any=V.i x.1:=by rfl) (h2:fr.getD u .any=V.b x.2:=by rfl):FinQ (Fin [.tmp t,.tmp u] (.tup [V.i y.1,V.b y.2])) .ret fr st:=fin0_c (enc:=fun r:Int × Bool=>.tup [V.i r.1,V.b r.2]) H (.inr rfl) (.cons (.tmp h) (.cons (.tmp h2) .nil)) rfl rfl
abbrev O_ (d:Nat) (x:AOp) (c:Nat):AOper:=⟨some d,x,none,c⟩
abbrev t_ (n:Nat):Operand:=.tmp n
abbrev i_ (n:Int):Operand:=.const (.int .i64 n)
abbrev b_ (b:Bool):Operand:=.const (.bool b)
abbrev R_ (n:Nat) (l:List AOper):BCode:=.reg n l none 0 []
abbrev U_ (x:AOp) (c:Nat):AOper:=⟨none,x,none,c⟩
theorem lq_ {a b:Nat} {q:Prop} (h:q) (e:Nat.ble a b=true:=by rfl):a≤b∧q:=⟨Nat.le_of_ble_eq_true e,h⟩
end Go.Proofs.YtpmoioopjbfhkaaGreat

namespace Go.Proofs.YtpmoioopjbfhkaaGreat
open Go.RowKit
structure RuntimeBoundsError where
 x:Int
 y:Int
 signed:Bool
 code:Int
abbrev RuntimeBoundsError.v (x:RuntimeBoundsError):V:=.agg [.i x.x,.i x.y,.b x.signed,.y8 x.code]
structure RuntimeErrorAddressString where
 msg:ByteArray
 addr:Int
abbrev RuntimeErrorAddressString.v (x:RuntimeErrorAddressString):V:=.agg [.s x.msg,.lit (.int .u64 x.addr)]
structure ItemItem where
 Contact:ByteArray
 Name:ByteArray
 Sub:Int
 Ver:Int
 Own:Bool
abbrev ItemItem.v (x:ItemItem):V:=.agg [.s x.Contact,.s x.Name,.i x.Sub,.i x.Ver,.b x.Own]
structure StanzaStanza where
 Kind:Int
 User:ByteArray
 Res:ByteArray
 Name:ByteArray
 Show:Int
 Prio:Int
 Code:Int
 N:Int
abbrev StanzaStanza.v (x:StanzaStanza):V:=.agg [.y8 x.Kind,.s x.User,.s x.Res,.s x.Name,.i x.Show,.i x.Prio,.i x.Code,.i x.N]
structure RosterGone where
 Contact:ByteArray
 Ver:Int
abbrev RosterGone.v (x:RosterGone):V:=.agg [.s x.Contact,.i x.Ver]
structure RosterState where
 Ver:Int
 Floor:Int
 Items:List ItemItem
 Gone:List RosterGone
abbrev RosterState.v (x:RosterState):V:=.agg [.i x.Ver,.i x.Floor,.sl (List.map ItemItem.v x.Items) false,.sl (List.map RosterGone.v x.Gone) false]
structure PresPres where
 On:Bool
 Show:Int
 Prio:Int
 Seq:Int
abbrev PresPres.v (x:PresPres):V:=.agg [.b x.On,.i x.Show,.i x.Prio,.i x.Seq]
structure MailEntry where
 Key:ByteArray
 P:PresPres
abbrev MailEntry.v (x:MailEntry):V:=.agg [.s x.Key,.b x.P.On,.i x.P.Show,.i x.P.Prio,.i x.P.Seq]
structure Ref35Contact where
 User:ByteArray
 Name:ByteArray
 Show:Int
 Ver:Int
abbrev Ref35Contact.v (x:Ref35Contact):V:=.agg [.s x.User,.s x.Name,.i x.Show,.i x.Ver]
structure Ref35State where
 Rows:List MailEntry
 Last:List MailEntry
 Anew:Bool
 Seen:List ByteArray
 List:List Ref35Contact
 Odd:Int
 Told:Int
abbrev Ref35State.v (x:Ref35State):V:=.agg [.sl (List.map MailEntry.v x.Rows) false,.sl (List.map MailEntry.v x.Last) false,.b x.Anew,.sl (List.map V.s x.Seen) false,.sl (List.map Ref35Contact.v x.List) false,.i x.Odd,.i x.Told]
structure Ref22Names where
 A:ByteArray
 B:ByteArray
abbrev Ref22Names.v (x:Ref22Names):V:=.agg [.s x.A,.s x.B]
structure Ref22State where
 A:RosterState
 B:RosterState
abbrev Ref22State.v (x:Ref22State):V:=.agg [.i x.A.Ver,.i x.A.Floor,.sl (List.map ItemItem.v x.A.Items) false,.sl (List.map RosterGone.v x.A.Gone) false,.i x.B.Ver,.i x.B.Floor,.sl (List.map ItemItem.v x.B.Items) false,.sl (List.map RosterGone.v x.B.Gone) false]
structure PairDone where
 Passed:Bool
 Told:Bool
 Listed:Bool
 Knows:Bool
abbrev PairDone.v (x:PairDone):V:=.agg [.b x.Passed,.b x.Told,.b x.Listed,.b x.Knows]
structure PairAct where
 Kind:Int
 Back:Bool
abbrev PairAct.v (x:PairAct):V:=.agg [.y8 x.Kind,.b x.Back]
structure Law21Deed where
 Kind:Int
 Who:Int
 Name:Int
abbrev Law21Deed.v (x:Law21Deed):V:=.agg [.y8 x.Kind,.y8 x.Who,.y8 x.Name]
structure OctetRead where
 S:ByteArray
 At:Int
 Bad:Int
abbrev OctetRead.v (x:OctetRead):V:=.agg [.s x.S,.i x.At,.i x.Bad]
structure BookRow where
 User:ByteArray
 Res:ByteArray
 P:PresPres
abbrev BookRow.v (x:BookRow):V:=.agg [.s x.User,.s x.Res,.b x.P.On,.i x.P.Show,.i x.P.Prio,.i x.P.Seq]
structure Ref19Four where
 to:Bool
 from_:Bool
 ask:Bool
 wait:Bool
abbrev Ref19Four.v (x:Ref19Four):V:=.agg [.b x.to,.b x.from_,.b x.ask,.b x.wait]
structure AddrAddr where
 Name:ByteArray
 Host:ByteArray
 Res:ByteArray
abbrev AddrAddr.v (x:AddrAddr):V:=.agg [.s x.Name,.s x.Host,.s x.Res]
structure UtfForm where
 from_:Int
 mark:Int
 bits:Int
abbrev UtfForm.v (x:UtfForm):V:=.agg [.i x.from_,.y8 x.mark,.y8 x.bits]
end Go.Proofs.YtpmoioopjbfhkaaGreat

namespace Go.Proofs.YtpmoioopjbfhkaaGreat
open Go.ChangeShapes Go.WideShapes Go.ChangeAt Go.RowKit Go.Joins Go.Deep
section
variable {H : Type} {enc : TypeId × Value → H} {P : Program} {W : World} {spare : Nat → Bool} {held : Bool} {fuel : Nat} {t e : TypeId} {cs : List Value} {y : DataW H × List MemPlace}
abbrev MW (W:World):Mem:=fun a=>W.cell? a
theorem repL_one {m:Mem} {bk:Bks} {c:Value} {v:V} (h:Rep m bk c v):RepL m bk [c] [v] :=
 ⟨rfl,fun j g1 g2=>match j,g1 with
  | 0,_=>h
  | j + 1,g=>absurd g (by simp)⟩
theorem repL_nil {m:Mem} {bk:Bks}:RepL m bk [] []:=⟨rfl,fun j g1 g2=>absurd g1 (by simp)⟩
theorem repL_app {m:Mem} {bk:Bks} {c1 c2:List Value} {v1 v2:List V} (h1:RepL m bk c1 v1) (h2:RepL m bk c2 v2):RepL m bk (c1++c2) (v1++v2):=by
 obtain ⟨e1,h1⟩:=h1
 obtain ⟨e2,h2⟩:=h2
 refine ⟨by rw [List.length_append,List.length_append,e1,e2],fun j g1 g2=>?_⟩
 rw [List.length_append] at g1
 by_cases h:j < c1.length
 ·rw [List.getElem_append_left h,List.getElem_append_left (by omega)]
  exact h1 j h _
 ·rw [List.getElem_append_right (by omega),List.getElem_append_right (by omega)]
  have:=h2 (j - c1.length) (by omega) (by omega)
  have e:j - v1.length=j - c1.length:=by omega
  simp only [e]
  exact this
theorem rd_int {k:IntKind} (ht:P.underlying t=some (.int k)) (h:DataW.trod enc P W 0 spare held fuel t cs=some y):∃ n,(Lit.int k n).wf=true∧RepL (MW W) noBk cs [.lit (.int k n)]:=by
 obtain ⟨n,rfl,_,wf⟩:=DataW.trod_int ht h
 exact ⟨n,wf,repL_one (.lit rfl)⟩
theorem rd_bool (ht:P.underlying t=some .bool) (h:DataW.trod enc P W 0 spare held fuel t cs=some y):∃ b,RepL (MW W) noBk cs [.lit (.bool b)]:=by
 obtain ⟨n,rfl,_⟩:=DataW.trod_bool ht h
 exact ⟨n,repL_one (.lit rfl)⟩
theorem rd_string (ht:P.underlying t=some .string) (h:DataW.trod enc P W 0 spare held fuel t cs=some y):∃ s,RepL (MW W) noBk cs [.lit (.string s)]:=by
 obtain ⟨n,rfl,_⟩:=DataW.trod_string ht h
 exact ⟨n,repL_one (.lit rfl)⟩
theorem rd_slice {α:Type} {f:α→V} {es:Nat} {wf:α→Prop} (ht:P.underlying t=some (.slice e)) (hes:∀ a,(f a).cells.length=es) (h1:∀ a,∀ v ∈ (f a).cells,v.one=true) (hp:0 < es) (hce:P.cellsOf e=es)
  (hel:∀ n cs y,DataW.trod enc P W 0 spare held n e cs=some y→∃ x,wf x∧RepL (MW W) noBk cs (f x).cells) (h:DataW.trod enc P W 0 spare held fuel t cs=some y):∃ l:List α,(∀ x ∈ l,wf x)∧RepL (MW W) noBk cs [.sl (l.map f) false]:=by
 rcases open_slice ht h with ⟨rfl,_⟩ | ⟨a,len,cap,m,n,D,Pl,rfl,_,hl,_,hm,_,hall⟩
 ·exact ⟨[],by simp,repL_one (.slnil fun e=>by cases e)⟩
 ·rcases Nat.eq_zero_or_pos len with rfl | hpos
  ·exact ⟨[],by simp,repL_one (.slnil fun e=>by cases e)⟩
  ·have hlm:len≤m:=by rw [hm];split <;> omega
   have hx:∀ i,i < len→∃ (x:{x:α // wf x}) (cs:List Value),W.cells? 0 (a.add (i * es)) es=some cs∧∀ j (hj:j < (f x.1).cells.length) (hj' : j < cs.length),Rep (fun p=>W.cell? p) noBk cs[j] (f x.1).cells[j]:=by
    intro i hi
    obtain ⟨cs',hc,hd⟩:=hall i (by omega)
    rw [hce] at hc
    obtain ⟨x,hw,hr⟩:=hel _ _ _ hd
    exact ⟨⟨x,hw⟩,cs',hc,fun j hj hj'=>hr.2 j hj' hj⟩
   obtain ⟨x0,_⟩:=hx 0 hpos
   haveI:Inhabited {x:α // wf x}:=⟨x0⟩
   obtain ⟨l,_,hr⟩:=rep_slice (f:=fun x:{x:α // wf x}=>f x.1) (fun a=>hes a.1) (fun a=>h1 a.1) hp hl hx
   refine ⟨l.map (·.1),?_,?_⟩
   ·intro x hx
    obtain ⟨y,_,rfl⟩:=List.mem_map.1 hx
    exact y.2
   ·rw [List.map_map];exact repL_one hr
theorem rep_aggL {m:Mem} {bk:Bks} {cs:Array Value} {vs:List V} (h:RepL m bk cs.toList vs) (h1:∀ u ∈ vs,u.one=true):Rep m bk (.agg cs) (.agg vs):=rep_agg h h1
theorem get_some {α:Type} {xs:List α} {n i:Nat} (h:xs.length=n) (hi:i < n):∃ y,xs[i]?=some y:=⟨xs[i],List.getElem?_eq_getElem (by omega)⟩
theorem callsO_true {f:FuncId} {args:List V} {m:Option Bool} (h:CallsO P f args V.b m) (hm:m=some true):CallsV P f args (.b true):=h true hm
end
end Go.Proofs.YtpmoioopjbfhkaaGreat

namespace Go.Proofs.YtpmoioopjbfhkaaGreat
open Go.RowKit
theorem callsO_if {α:Type} {P:Program} {f:FuncId} {args:List V} {enc:α→V} {c:Prop} [Decidable c] {v:α} (h:c→CallsV P f args (enc v)):CallsO P f args enc (if c then some v else none):=by
 intro r hr
 split at hr
 ·cases hr;exact h ‹_›
 ·cases hr
def p_addr_IsBare (s:ByteArray):Option Bool:=if s.size≤100000 then some (isBareL s.data.toList) else none
theorem p_addr_IsBare_v (s:ByteArray):CallsO Tryz.prog 84 [.s s] V.b (p_addr_IsBare s):=callsO_if fun h=>isBare_v s h
def p_ref09_IsBare (s:ByteArray):Option Bool:=if s.size≤100000 then some (isBareL s.data.toList) else none
theorem p_ref09_IsBare_v (s:ByteArray):CallsO Tryz.prog 87 [.s s] V.b (p_ref09_IsBare s):=callsO_if fun h=>refIsBare_v s h
def p_utf_Plain (s:ByteArray):Option Bool:=if s.size≤100000 then some (plainL s.data.toList) else none
theorem p_utf_Plain_v (s:ByteArray):CallsO Tryz.prog 85 [.s s] V.b (p_utf_Plain s):=callsO_if fun h=>plain_v s h
def p_ref02_Plain (s:ByteArray):Option Bool:=if s.size≤100000 then some (plainL s.data.toList) else none
theorem p_ref02_Plain_v (s:ByteArray):CallsO Tryz.prog 88 [.s s] V.b (p_ref02_Plain s):=callsO_if fun h=>refPlain_v s h
def p_strings_Compare (a b:ByteArray):Option Int:=some (Lib.compareBytes a.data.toList b.data.toList)
theorem p_strings_Compare_v (a b:ByteArray):CallsO Tryz.prog 158 [.s a,.s b] V.i (p_strings_Compare a b):=by
 intro r hr
 cases hr
 exact callsV_old #[.string a,.string b] (fun _ _ h=>lits_eq (vs:=[.string a,.string b]) h) (fun w _=>ret_of ((Tryz.strings_Compare a b w).mono fun e w' h=>⟨h.1,h.2.symm⟩)) fun _=>.lit rfl
end Go.Proofs.YtpmoioopjbfhkaaGreat

namespace Go.Proofs.YtpmoioopjbfhkaaGreat
open Go.RowKit
theorem run_copy_es {P:Program} (w:World) (dT sT ty elem:TypeId) (es b o dLen dCap:Nat) (a:Addr) (sLen sCap:Nat) (cs:List Value)
  (hu:P.underlying dT=some (.slice elem)) (hs:(P.info? elem).map (·.size)=some es) (hn:cs.length=Nat.min sLen dLen * es)
  (hsrc:∀ j v,cs[j]?=some v→w.cell? (a.add j)=some v) (hc:∀ j,j < cs.length→(w.cell? ⟨b,o + j,none⟩).isSome=true) (hf:∀ j,j < cs.length→w.frozen? ⟨b,o + j,none⟩=false) (h1:∀ v ∈ cs,v.oneCell'=true) :
  (Builtin.copy_ #[dT,sT] ty #[.slice (some ⟨b,o,none⟩) dLen dCap,.slice (some a) sLen sCap]).run P w=.ok (goInt (Nat.min sLen dLen)) (w.setCells b o cs):=by
 have hl:=run_loadCells_list (P:=P) w a cs hsrc
 have hst:=run_storeCells_cells (P:=P) b o cs 0 w (by simpa using hc) (by simpa using hf) h1
 rw [hn] at hl
 cases hq:P.info? elem with
 | none=>simp [hq] at hs
 | some i =>
  have hi:i.size=es:=by simpa [hq] using hs
  simp [Builtin.copy_,run_underlying hu,Builtin.lenOf,Builtin.firstCells,sizeOf,typeInfo,hq,hi,hl,hst]
theorem run_overlaps_own {P:Program} (w:World) (tS tR e:TypeId) (ht:P.underlying tS=some (.slice e)) (size:Nat) (hz:∀ w,(Go.sizeOf e).run P w=.ok size w)
  (a b:Addr) (la ca lb cb:Nat) (hne:a.block≠b.block) (tA tB:TypeId) (kA kB:Nat)
  (hsa:w.shape? a.block=some (tA,kA)) (hsb:w.shape? b.block=some (tB,kB)) (hkA:kA≠0) (hkB:kB≠0)
  (hfb:w.frozen? b=false) (hfe:w.frozen? { block:=b.block,off:=kB }=false) :
  (Extern.SlicesOverlaps.overlaps #[tS,tS] #[tR] #[.slice (some a) la ca,.slice (some b) lb cb]).run P w=.ok (.bool false) w:=by
 have hnb:(a.block != b.block)=true:=by simpa using hne
 have hnb' : (a.block == b.block)=false:=by simpa using hne
 change Sem.run P (α:=Value) (do
  let some t:=(#[tS,tS]:Array TypeId)[0]? | stuck "slices.overlaps: no parameter types"
  let .slice elem ← underlying t | stuck "slices.overlaps: slice type expected"
  let size ← sizeOf elem
  match (some a:Option Addr),(some b:Option Addr) with
  | some a,some b =>
   if la=0∨lb=0∨size=0 then pure (Value.bool false)
   else if a.block != b.block && (← frozen a) && (← frozen b) then unsupported .addressObserved
   else do
    if a.block != b.block then do
     noView a;noView b
     if ← mayBeOne a b then return Value.bool ((← choose (.extern "sameAddr.stringBytes" 2)) == 1)
    pure (Value.bool (a.block == b.block && a.off < b.off + lb * size && b.off < a.off + la * size))
  | _,_=>pure (Value.bool false)) w=_
 by_cases h0:la=0∨lb=0∨size=0
 ·simp [run_underlying ht,hz,h0]
 ·cases kB with
  | zero=>exact absurd rfl hkB
  | succ kB =>
   cases kA with
   | zero=>exact absurd rfl hkA
   | succ kA =>
    cases hfa:w.frozen? a <;> cases hfa2:w.frozen? { block:=a.block,off:=kA + 1 } <;> simp [run_underlying ht,hz,h0,hnb,hnb',frozen,noView,viewAt,mayBeOne,stringish,shape,Sem.run,hsa,hsb,hfa,hfa2,hfb,hfe]
def infB (P:Program) (e:TypeId) (es:Nat):Bool:=match P.info? e with
 | some i=>i.size == es && (match i.zero with | some z=>z.cells.size == es | none=>false) && decide (i.bytes≤1000)
 | none=>false
theorem infB_ok {P:Program} {e:TypeId} {es:Nat} (h:infB P e es=true):∃ i z,P.info? e=some i∧i.size=es∧i.zero=some z∧z.cells.size=es∧i.bytes≤1000:=by
 unfold infB at h
 split at h
 ·rename_i i hi
  simp only [Bool.and_eq_true,beq_iff_eq,decide_eq_true_eq] at h
  obtain ⟨⟨h1,h2⟩,h3⟩:=h
  split at h2
  ·rename_i z hz
   exact ⟨i,z,hi,h1,hz,by simpa using h2,h3⟩
  ·cases h2
 ·cases h
structure InsRoads (P:Program) (k:FuncId) (es:Nat) (E:TypeId):Prop where
 shift:∀ (b n c i vb voff vc:Nat) (cs vs:List Value) (w:World) (tA tB:TypeId) (kA kB:Nat),i < n→n + 1≤c→n + 1≤1000000→vb≠b→cs.length=n * es→vs.length=es →
  (∀ j v,cs[j]?=some v→w.cell? ⟨b,j,none⟩=some v)→(∀ j,j < (n + 1) * es→(w.cell? ⟨b,j,none⟩).isSome=true)→(∀ j,j < (n + 1) * es→w.frozen? ⟨b,j,none⟩=false) →
  (∀ j v,vs[j]?=some v→w.cell? ⟨vb,voff + j,none⟩=some v)→(∀ v ∈ cs,v.oneCell'=true)→(∀ v ∈ vs,v.oneCell'=true) →
  w.shape? vb=some (tA,kA)→w.shape? b=some (tB,kB)→kA≠0→kB≠0→w.frozen? ⟨b,kB,none⟩=false →
  Calls P k #[.slice (some ⟨b,0,none⟩) n c,.int .i64 i,.slice (some ⟨vb,voff,none⟩) 1 vc] w fun e w' =>
   e=.returned (.slice (some ⟨b,0,none⟩) (n + 1) c)∧w'=(w.drew.setCells b ((i + 1) * es) (cs.drop (i * es))).setCells b (i * es) vs
 end_room:∀ (b n c vb voff vc:Nat) (vs:List Value) (w:World),n + 1≤c→n + 1≤1000000→vs.length=es →
  (∀ j,j < es→(w.cell? ⟨b,n * es + j,none⟩).isSome=true)→(∀ j,j < es→w.frozen? ⟨b,n * es + j,none⟩=false) →
  (∀ j v,vs[j]?=some v→w.cell? ⟨vb,voff + j,none⟩=some v)→(∀ v ∈ vs,v.oneCell'=true) →
  Calls P k #[.slice (some ⟨b,0,none⟩) n c,.int .i64 n,.slice (some ⟨vb,voff,none⟩) 1 vc] w fun e w' =>
   e=.returned (.slice (some ⟨b,0,none⟩) (n + 1) c)∧w'=w.setCells b (n * es) vs
 end_grow:∀ (base:Option Addr) (n c vb voff vc:Nat) (cs vs:List Value) (w:World),n≤c→c < n + 1→n + 1≤1000000→cs.length=n * es→vs.length=es→(base=none→n=0) →
  (∀ a,base=some a→∀ j v,cs[j]?=some v→w.cell? (a.add j)=some v)→(∀ j v,vs[j]?=some v→w.cell? ⟨vb,voff + j,none⟩=some v)→(∀ v ∈ vs,v.oneCell'=true) →
  Calls P k #[.slice base n c,.int .i64 n,.slice (some ⟨vb,voff,none⟩) 1 vc] w fun e w' =>
   ∃ zs:Array Value,e=.returned (.slice (some ⟨w.heap.size,0,none⟩) (n + 1) (grownCap w (n + 1) c E))∧w'=w.drew.alloc (.cells ((cs++vs).toArray++zs) E)
 grow:∀ (b n c i vb voff vc:Nat) (cs vs:List Value) (w:World),i < n→n≤c→c < n + 1→n + 1≤1000000→cs.length=n * es→vs.length=es →
  (∀ j v,cs[j]?=some v→w.cell? ⟨b,j,none⟩=some v)→(∀ j v,vs[j]?=some v→w.cell? ⟨vb,voff + j,none⟩=some v)→(∀ v ∈ cs,v.oneCell'=true)→(∀ v ∈ vs,v.oneCell'=true) →
  Calls P k #[.slice (some ⟨b,0,none⟩) n c,.int .i64 i,.slice (some ⟨vb,voff,none⟩) 1 vc] w fun e w' =>
   ∃ ROW:Array Value,(n + 1) * es≤ROW.size∧(∀ (j:Nat) (v:Value),(cs.take (i * es))[j]?=some v→ROW[j]?=some v)∧e=.returned (.slice (some ⟨w.heap.size,0,none⟩) (n + 1) (grownCap w (n + 1) c E)) ∧
    w'=(((w.alloc (.cells ROW E)).drew.setCells w.heap.size (i * es) vs).drew).setCells w.heap.size ((i + 1) * es) (cs.drop (i * es))
theorem place_aft {P:Program} {B:Nat} {m0 m:Mem} {bk:Bks} {w w' : World} {st:List Slot} {id b sz cap es:Nat} {cs:List V} {xs:List V} (hsim:Sim B m0 m bk w' (st.set id (.live cs 0))) (hid:id < st.length) (hbk:bk id=some (b,sz)) (hc:xs.length≤cap) (hs:cap * es≤sz)
  (hcs:cs=xs.flatMap V.cells) (hes:∀ x ∈ xs,x.cells.length=es) (h0:V.idlt.belowL 0 cs=true) (hb:Bel B w w'):Aft B m0 m bk w (st.set id .dead) (.sl xs false) (.slice (some ⟨b,0,none⟩) xs.length cap) w':=by
 have hi:(st.set id (.live cs 0))[id]?=some (.live cs 0):=by rw [List.getElem?_set,if_pos rfl,if_pos hid]
 obtain ⟨m',g1,g2⟩:=hsim.freeze hi (Nat.zero_le _) (Nat.le_refl cs.length)
 rw [List.set_set] at g1
 have hi2:(st.set id (.live cs cs.length))[id]?=some (.live cs cs.length):=by rw [List.getElem?_set,if_pos rfl,if_pos hid]
 have hlen:(xs.flatMap V.cells).length=xs.length * es:=by
  rw [List.length_flatMap,show xs.map (fun x=>x.cells.length)=xs.map (fun _=>es) from List.map_congr_left hes,List.map_const']
  simp
 have hr:Rep m' bk (.slice (some ⟨b,0,none⟩) xs.length cap) (.osl id 0 xs.length es false):=.osl hbk hc (fun e=>by cases e) (by omega)
 have hf:FzC (st.set id (.live cs cs.length)) (.osl id 0 xs.length es false) (.sl xs false) [id] :=
  .osl (fun e=>by cases e) hi2 (by rw [hcs];omega) (by rw [hcs];omega) rfl hes (by rw [hcs,List.drop_zero,← hlen,List.take_length]) (hcs ▸ h0)
 have hr2:=hf.rep g1 hr
 have g3:=g1.dead id (by rw [hi2];simp)
 rw [List.set_set] at g3
 exact ⟨m',bk,g3,hr2.mono (fun _ _ h=>h) (fun _ _ h=>by cases h),g2,fun _ _ h=>h,hb⟩
def insAt? {α:Type} (l:List α) (at_:Int) (x:α):Option (List α):=if 0≤at_∧at_≤l.length∧l.length + 1≤1000000 then some (l.take at_.toNat++x :: l.drop at_.toNat) else none
theorem rep_lit1 {m:Mem} {bk:Bks} {c v:Value} (h:Rep m bk c (.lit v)):c=v:=by cases h;rfl
theorem cargs3 {cargs:Array Value} (h:cargs.size=3):∃ a b c,cargs=#[a,b,c] :=
 ⟨cargs[0],cargs[1],cargs[2],by apply Array.ext;simp [h];intro i a b;simp at b;match i,b with | 0,_=>rfl | 1,_=>rfl | 2,_=>rfl⟩
theorem cellsM_take {α:Type} {f:α→V} {es:Nat} (hes:∀ a,(f a).cells.length=es) (l:List α) (i:Nat) (hi:i≤l.length):cellsM f (l.take i)=(cellsM f l).take (i * es)∧cellsM f (l.drop i)=(cellsM f l).drop (i * es):=by
 have h1:cellsM f l=cellsM f (l.take i)++cellsM f (l.drop i):=by rw [← cellsM_app',List.take_append_drop]
 have h2:(cellsM f (l.take i)).length=i * es:=by rw [cellsM_len hes,List.length_take,Nat.min_eq_left hi]
 constructor
 ·rw [h1,← h2,List.take_left]
 ·rw [h1,← h2,List.drop_left]
theorem ins_get (cs vs:List Value) (p k:Nat) (hp:p≤cs.length):(cs.take p++vs++cs.drop p)[k]?=if k < p then cs[k]? else if k < p + vs.length then vs[k - p]? else (cs.drop p)[k - p - vs.length]?:=by
 have hl:(cs.take p).length=p:=by rw [List.length_take];omega
 rw [List.append_assoc,List.getElem?_append,hl]
 by_cases h:k < p
 ·rw [if_pos h,if_pos h,List.getElem?_take,if_pos h]
 ·rw [if_neg h,if_neg h,List.getElem?_append]
  by_cases h2:k - p < vs.length
  ·rw [if_pos h2,if_pos (by omega)]
  ·rw [if_neg h2,if_neg (by omega)]
theorem ins_of {P:Program} {k:FuncId} {es:Nat} {E:TypeId} (hR:InsRoads P k es E) (hes0:0 < es) {α:Type} {f:α→V} (hes:∀ a,(f a).cells.length=es) (hone:∀ a,∀ u ∈ (f a).cells,u.one=true) (h0:∀ a,V.idlt.belowL 0 (f a).cells=true)
  {id:Nat} {st:List Slot} (l:List α) (fu fv:Bool) (at_:Int) (x:α) (hi:st[id]?=some (.live (cellsM f l) 0)):∀ L,insAt? l at_ x=some L→CallsS P k [.osl id 0 l.length es fu,.i at_,.sl [f x] fv] st (.sl (L.map f) false) (st.set id .dead):=by
 intro L hL
 unfold insAt? at hL
 split at hL
 ·rename_i hb
  obtain ⟨hb0,hb1,hb2⟩:=hb
  obtain ⟨i,rfl⟩:=Int.eq_ofNat_of_zero_le hb0
  simp only [Option.some.injEq,Int.toNat_natCast] at hL
  have hin:i≤l.length:=by omega
  intro B m0 m bk w cargs hg hsim hargs
  obtain ⟨hsz,hrp⟩:=hargs
  obtain ⟨c0,c1,c2,rfl⟩:=cargs3 hsz
  have hr0:Rep m bk c0 (.osl id 0 l.length es fu):=hrp 0 (by simp) (by simp)
  have hr1:Rep m bk c1 (.i i):=hrp 1 (by simp) (by simp)
  have hr2:Rep m bk c2 (.sl [f x] fv):=hrp 2 (by simp) (by simp)
  have e1:=rep_lit1 hr1
  subst e1
  obtain ⟨vb,vo,vc,us,rfl,hvm,hvr⟩ : ∃ (vb vo vc:Nat) (us:Nat→Value),c2=.slice (some ⟨vb,vo,none⟩) 1 vc∧(∀ j,j < es→m ⟨vb,vo + j,none⟩=some (us j))∧(∀ j (hj:j < (f x).cells.length),Rep m noBk (us j) (f x).cells[j]):=by
   cases hr2 with
   | @sl _ b o n cap es' _ _ us hn hcc hf hes' h1 hm hr =>
    have e:[f x].flatMap V.cells=(f x).cells:=by simp
    refine ⟨b,o,cap,us,by rw [hn];rfl,fun j hj=>hm j (by rw [e,hes];exact hj),fun j hj=>?_⟩
    have:=hr j (by rw [e];exact hj)
    simpa only [e] using this
  cases hr0 with
  | @osl _ _ b sz _ n cap _ _ hbk hcap hful hszc =>
  obtain ⟨arr,t,lo,hi',hlv,hrep⟩:=sim_live hsim hi hbk
  have hM:=cellsM_len hes l
  have hfit:=hlv.fit
  have hsize:=hlv.size
  have hfree:=hlv.free
  rw [hM] at hfit hrep
  generalize hq:l.length * es=q at *
  obtain ⟨p,hp⟩ : ∃ p,p=i * es:=⟨_,rfl⟩
  have hpq:p≤q:=by rw [hp,← hq];exact Nat.mul_le_mul_right _ hin
  have hi1:(i + 1) * es=p + es:=by rw [Nat.succ_mul,hp]
  have hn1:(l.length + 1) * es=q + es:=by rw [Nat.succ_mul,hq]
  obtain ⟨cs,hcsd⟩ : ∃ cs,cs=arr.toList.take q:=⟨_,rfl⟩
  obtain ⟨vs,hvsd⟩ : ∃ vs,vs=(List.range es).map us:=⟨_,rfl⟩
  rw [← hcsd] at hrep
  have hcl:cs.length=q:=by rw [hcsd];simp;omega
  have hvl:vs.length=es:=by rw [hvsd];simp
  have hca:∀ j,j < q→cs[j]?=arr[j]?:=fun j hj=>by rw [hcsd,List.getElem?_take,if_pos hj,Array.getElem?_toList]
  have hcell:∀ j,w.cell? ⟨b,j,none⟩=arr[j]?:=fun j=>by simp [World.cell?,hlv.heap]
  have hcs:∀ j v,cs[j]?=some v→w.cell? ⟨b,j,none⟩=some v:=fun j v h=>by
   have hj:j < q:=by have:=(List.getElem?_eq_some_iff.1 h).1;omega
   rw [hcell,← hca j hj,h]
  have hvs:∀ j v,vs[j]?=some v→w.cell? ⟨vb,vo + j,none⟩=some v:=fun j v h=>by
   have hj:j < es:=by have:=(List.getElem?_eq_some_iff.1 h).1;omega
   rw [hvsd,List.getElem?_map,List.getElem?_range hj] at h
   rw [← h]
   exact hsim.mem _ _ (hvm j hj)
  have hvb:vb≠b:=by
   intro e
   have h1:=hvm 0 hes0
   rw [e] at h1
   rw [hlv.mu _ (Nat.zero_le _)] at h1
   cases h1
  have h1c:∀ v ∈ cs,v.oneCell'=true:=rep_one_cells hrep hlv.one
  have hrv:RepL m noBk vs (f x).cells:=⟨by rw [hvl,hes],fun j g1 g2=>by
   have:=hvr j g2
   simpa only [hvsd,List.getElem_map,List.getElem_range] using this⟩
  have h1v:∀ v ∈ vs,v.oneCell'=true:=rep_one_cells hrv (hone x)
  have hfz:∀ j,w.frozen? ⟨b,j,none⟩=false:=fun j=>by
   simp only [World.frozen?,hlv.heap,Bool.and_eq_false_iff,decide_eq_false_iff_not]
   omega
  have hct:=cellsM_take hes l i hin
  have hcM:cellsM f L=(cellsM f l).take p++(f x).cells++(cellsM f l).drop p:=by
   rw [← hL,cellsM_app',hct.1,← hp,List.append_assoc]
   have:cellsM f (x :: l.drop i)=(f x).cells++cellsM f (l.drop i):=by unfold cellsM;rw [List.flatMap_cons]
   rw [this,hct.2,← hp]
  have hLl:(L.map f).length=l.length + 1:=by rw [← hL];simp;omega
  have hML:(cellsM f L).length=q + es:=by rw [cellsM_len hes,← hn1];congr 1;simpa using hLl
  have hvals:RepL m bk (cs.take p++vs++cs.drop p) (cellsM f L):=by
   rw [hcM]
   exact ((hrep.take p).append ⟨hrv.1,fun j g1 g2=>(hrv.2 j g1 g2).mono (fun _ _ h=>h) fun _ _ h=>by cases h⟩).append (hrep.drop p)
  obtain ⟨vals,hvd⟩ : ∃ vals,vals=cs.take p++vs++cs.drop p:=⟨_,rfl⟩
  have hget:=fun k=>ins_get cs vs p k (by omega)
  rw [← hvd] at hvals
  simp only [← hvd] at hget
  have hvll:vals.length=q + es:=by rw [hvals.1,hML]
  have hone' : ∀ u ∈ cellsM f L,u.one=true:=fun u hu=>by
   unfold cellsM at hu
   obtain ⟨a,_,ha⟩:=List.mem_flatMap.1 hu
   exact hone a u ha
  have h0' : V.idlt.belowL 0 (cellsM f L)=true:=cellsM_idlt h0 L
  have hxs:∀ y ∈ L.map f,y.cells.length=es:=fun y hy=>by obtain ⟨a,_,rfl⟩:=List.mem_map.1 hy;exact hes a
  have PL:∀ (w' : World) (arr' : Array Value),l.length + 1≤cap→w'.heap[b]?=some (.cells arr' t (lo,hi'))→arr'.size=arr.size→w'.heap.size=w.heap.size→(∀ k,k≠b→w'.heap[k]?=w.heap[k]?)→w'.os=w.os→w'.tape=w.tape→w'.output=w.output →
    (∀ k,k < q + es→arr'[k]?=vals[k]?)→Aft B m0 m bk w (st.set id .dead) (.sl (L.map f) false) (.slice (some ⟨b,0,none⟩) (l.length + 1) cap) w':=by
   intro w' arr' hroom g1 g2 g4 g5 g6 g7 g8 ga
   have hmul:(l.length + 1) * es≤cap * es:=Nat.mul_le_mul_right _ hroom
   have hw:=hsim.write (cs':=cellsM f L) hi hlv g1 g2 g4 g5 (fun k hk=>absurd hk (Nat.not_lt_zero _)) (by omega) hone' (fun k hk=>by
    have hk' : k < vals.length:=by omega
    refine ⟨vals[k],?_,hvals.2 k hk' hk⟩
    rw [ga k (by omega),List.getElem?_eq_getElem hk'])
   have:=place_aft (xs:=L.map f) (cap:=cap) (es:=es) (P:=P) (w:=w) (B:=B) hw (List.getElem?_eq_some_iff.1 hi).1 hbk (by rw [hLl];exact hroom) (by omega) (cellsM_map f L).symm hxs h0' (Bel.write g6 g7 g8 hlv.heap g1 g2 g4 g5 hlv.own)
   rwa [hLl] at this
  have GR:∀ (w' : World) (arr' : Array Value) (E' : TypeId) (cap' : Nat),l.length + 1≤cap'→Below w.heap.size w w'→w'.heap[w.heap.size]?=some (.cells arr' E' (0,0))→q + es≤arr'.size→(∀ k,k < q + es→arr'[k]?=vals[k]?) →
    Aft B m0 m bk w (st.set id .dead) (.sl (L.map f) false) (.slice (some ⟨w.heap.size,0,none⟩) (l.length + 1) cap') w':=by
   intro w' arr' E' cap' hroom hbel hh hsz' ga
   have hd:=hsim.dead id (by rw [hi];simp)
   have:=row_aft (xs:=L.map f) (full:=false) (cap:=cap') (es:=es) hd hbel hh (by rw [hLl];exact hroom) (fun e=>by cases e) hxs (by rw [cellsM_map];exact hone') (by rw [cellsM_map,hML];exact hsz') (fun k hk=>by
    rw [cellsM_map] at hk
    have hk' : k < vals.length:=by omega
    refine ⟨vals[k],by rw [ga k (by omega),List.getElem?_eq_getElem hk'],?_⟩
    simp only [cellsM_map]
    exact (hvals.2 k hk' hk).zero (belowL_get h0' k hk))
   rwa [hLl] at this
  have hshb:w.shape? b=some (t,arr.size):=by simp [World.shape?,hlv.heap]
  obtain ⟨tA,kA,hsa,hkA⟩ : ∃ tA kA,w.shape? vb=some (tA,kA)∧kA≠0:=by
   have h:=hsim.mem _ _ (hvm 0 hes0)
   simp only [World.cell?] at h
   split at h
   ·rename_i c e fr hc
    refine ⟨e,c.size,by simp [World.shape?,hc],?_⟩
    have h' : c[vo + 0]?=some (us 0):=h
    obtain ⟨hl,_⟩:=Array.getElem?_eq_some_iff.1 h'
    omega
   ·cases h
  have fr_of:∀ (k:Nat) (a:Array Value),arr.size≤a.size→True:=fun _ _ _=>trivial
  by_cases hend:i=l.length
  ·subst hend
   have hpq' : p=q:=by rw [hp,hq]
   by_cases hroom:l.length + 1≤cap
   ·have hmul:(l.length + 1) * es≤cap * es:=Nat.mul_le_mul_right _ hroom
    have h:=hR.end_room b l.length cap vb vo vc vs w hroom hb2 hvl (fun j hj=>by rw [hq,hcell];have:q + j < arr.size:=(by omega);simp [this]) (fun j hj=>hfz _) hvs h1v
    refine h.mono ?_
    rintro e w' ⟨rfl,rfl⟩
    rw [hq]
    obtain ⟨⟨arr',g1,g2,g3⟩,g4,g5,g6,g7,g8⟩:=setCells_heap b t (lo,hi') vs q w arr hlv.heap (by omega)
    refine ⟨_,rfl,PL _ arr' hroom g1 g2 g4 g5 g6 g7 g8 fun k hk=>?_⟩
    rw [g3,hget]
    by_cases h1:k < p
    ·rw [if_neg (by omega),if_pos h1,hca k (by omega)]
    ·rw [if_neg h1,if_pos (by omega),if_pos (by omega),hpq']
   ·have h:=hR.end_grow (some ⟨b,0,none⟩) l.length cap vb vo vc cs vs w hcap (by omega) hb2 (by rw [hcl,hq]) hvl (fun e=>by cases e) (fun a ha j v hj=>by
     simp only [Option.some.injEq] at ha
     subst ha
     rw [Addr.add_lit,Nat.zero_add]
     exact hcs j v hj) hvs h1v
    refine h.mono ?_
    rintro e w' ⟨zs,rfl,rfl⟩
    refine ⟨_,rfl,GR _ _ E _ (grownCap_ge w _ _ _) (((Below.refl w.heap.size w).drew).alloc (Nat.le_refl _) _) (by show (w.heap.push _)[w.heap.size]?=_;rw [Array.getElem?_push_size]) (by simp;omega) fun k hk=>?_⟩
    rw [hget,Array.getElem?_append_left (by simp;omega),List.getElem?_toArray,List.getElem?_append,hcl]
    by_cases h1:k < q
    ·rw [if_pos h1,if_pos (by omega)]
    ·rw [if_neg h1,if_neg (by omega),if_pos (by omega),hpq']
  ·have hlt:i < l.length:=by omega
   have hdl:(cs.drop p).length=q - p:=by rw [List.length_drop,hcl]
   have hpq2:p + es≤q:=by
    have:(i + 1) * es≤l.length * es:=Nat.mul_le_mul_right _ (by omega)
    omega
   by_cases hroom:l.length + 1≤cap
   ·have hmul:(l.length + 1) * es≤cap * es:=Nat.mul_le_mul_right _ hroom
    have h:=hR.shift b l.length cap i vb vo vc cs vs w tA t kA arr.size hlt hroom hb2 hvb (by rw [hcl,hq]) hvl hcs (fun j hj=>by
     rw [hcell]
     have:j < arr.size:=by omega
     simp [this]) (fun j hj=>hfz _) hvs h1c h1v hsa hshb hkA (by omega) (hfz _)
    refine h.mono ?_
    rintro e w' ⟨rfl,rfl⟩
    rw [hi1,← hp]
    obtain ⟨⟨arr1,a1,a2,a3⟩,a4,a5,a6,a7,a8⟩:=setCells_heap b t (lo,hi') (cs.drop p) (p + es) w.drew arr hlv.heap (by omega)
    obtain ⟨⟨arr',g1,g2,g3⟩,g4,g5,g6,g7,g8⟩:=setCells_heap b t (lo,hi') vs p _ arr1 a1 (by omega)
    refine ⟨_,rfl,PL _ arr' hroom g1 (g2.trans a2) (g4.trans a4) (fun k hk=>(g5 k hk).trans (a5 k hk)) (g6.trans a6) (g7.trans a7) (g8.trans a8) fun k hk=>?_⟩
    rw [g3,a3,hget]
    by_cases h1:k < p
    ·rw [if_neg (by omega),if_neg (by omega),if_pos h1,hca k (by omega)]
    ·rw [if_neg h1]
     by_cases h2:k < p + vs.length
     ·rw [if_pos (by omega),if_pos h2]
     ·rw [if_neg (by omega),if_neg h2,if_pos (by omega)]
      congr 1
      omega
   ·have h:=hR.grow b l.length cap i vb vo vc cs vs w hlt hcap (by omega) hb2 (by rw [hcl,hq]) hvl hcs hvs h1c h1v
    refine h.mono ?_
    rintro e w' ⟨ROW,r1,r2,rfl,rfl⟩
    rw [hi1,← hp]
    rw [hn1] at r1
    rw [← hp] at r2
    have hh0:(w.alloc (.cells ROW E)).drew.heap[w.heap.size]?=some (.cells ROW E (0,0)):=by show (w.heap.push _)[w.heap.size]?=_;rw [Array.getElem?_push_size]
    obtain ⟨⟨arr1,a1,a2,a3⟩,a4,a5,a6,a7,a8⟩:=setCells_heap w.heap.size E (0,0) vs p _ ROW hh0 (by omega)
    obtain ⟨⟨arr',g1,g2,g3⟩,g4,g5,g6,g7,g8⟩:=setCells_heap w.heap.size E (0,0) (cs.drop p) (p + es) (((w.alloc (.cells ROW E)).drew.setCells w.heap.size p vs).drew) arr1 a1 (by omega)
    have hs0:(w.alloc (.cells ROW E)).drew.heap.size=w.heap.size + 1:=by show (w.heap.push _).size=_;simp
    refine ⟨_,rfl,GR _ arr' E _ (grownCap_ge w _ _ _) ⟨(g6.trans a6),(g7.trans a7),(g8.trans a8),?_,fun k hk=>?_⟩ g1 (by rw [g2,a2];exact r1) fun k hk=>?_⟩
    ·rw [g4]
     show w.heap.size≤((w.alloc (.cells ROW E)).drew.setCells w.heap.size p vs).heap.size
     rw [a4,hs0];omega
    ·rw [g5 k (by omega)]
     show ((w.alloc (.cells ROW E)).drew.setCells w.heap.size p vs).heap[k]?=_
     rw [a5 k (by omega)]
     show (w.heap.push _)[k]?=_
     rw [Array.getElem?_push,if_neg (by omega)]
    ·rw [g3,a3,hget]
     by_cases h1:k < p
     ·rw [if_neg (by omega),if_neg (by omega),if_pos h1]
      have hk' : k < cs.length:=(by omega);rw [List.getElem?_eq_getElem hk']
      exact r2 k _ (by rw [List.getElem?_take,if_pos h1,List.getElem?_eq_getElem hk'])
     ·rw [if_neg h1]
      by_cases h2:k < p + vs.length
      ·rw [if_neg (by omega),if_pos (by omega),if_pos h2]
      ·rw [if_pos (by omega),if_neg h2]
       congr 1
       omega
 ·cases hL
theorem ins_nil {P:Program} {k:FuncId} {es:Nat} {E:TypeId} (hR:InsRoads P k es E) (hes0:0 < es) {α:Type} {f:α→V} (hes:∀ a,(f a).cells.length=es) (hone:∀ a,∀ u ∈ (f a).cells,u.one=true) (h0:∀ a,V.idlt.belowL 0 (f a).cells=true)
  (fv:Bool) (at_:Int) (x:α):CallsO P k [.sl (List.map f []) true,.i at_,.sl [f x] fv] (fun L:List α=>V.sl (L.map f) false) (insAt? [] at_ x):=by
 intro L hL
 unfold insAt? at hL
 split at hL
 ·rename_i hb
  obtain ⟨hb0,hb1,hb2⟩:=hb
  have ha:at_=0:=by simp at hb1;omega
  subst ha
  simp only [Option.some.injEq] at hL
  simp at hL
  subst hL
  intro m w cargs hg hm hargs
  obtain ⟨hsz,hrp⟩:=hargs
  obtain ⟨c0,c1,c2,rfl⟩:=cargs3 hsz
  have hr0:Rep m noBk c0 (.sl [] true):=hrp 0 (by simp) (by simp)
  have hr1:Rep m noBk c1 (.i 0):=hrp 1 (by simp) (by simp)
  have hr2:Rep m noBk c2 (.sl [f x] fv):=hrp 2 (by simp) (by simp)
  have e1:=rep_lit1 hr1
  subst e1
  obtain ⟨vb,vo,vc,us,rfl,hvm,hvr⟩ : ∃ (vb vo vc:Nat) (us:Nat→Value),c2=.slice (some ⟨vb,vo,none⟩) 1 vc∧(∀ j,j < es→m ⟨vb,vo + j,none⟩=some (us j))∧(∀ j (hj:j < (f x).cells.length),Rep m noBk (us j) (f x).cells[j]):=by
   cases hr2 with
   | @sl _ b o n cap es' _ _ us hn hcc hf hes' h1 hm hr =>
    have e:[f x].flatMap V.cells=(f x).cells:=by simp
    refine ⟨b,o,cap,us,by rw [hn];rfl,fun j hj=>hm j (by rw [e,hes];exact hj),fun j hj=>?_⟩
    have:=hr j (by rw [e];exact hj)
    simpa only [e] using this
  obtain ⟨a,n,cap,rfl,hn,hca⟩ : ∃ a n cap,c0=.slice a n cap∧n=0∧cap=0:=by
   cases hr0 with
   | sl hn _ hf=>exact ⟨_,_,_,rfl,by simpa using hn,by rw [hf rfl];simpa using hn⟩
   | slnil hf=>exact ⟨_,_,_,rfl,rfl,hf rfl⟩
  subst hn hca
  obtain ⟨vs,hvsd⟩ : ∃ vs,vs=(List.range es).map us:=⟨_,rfl⟩
  have hvl:vs.length=es:=by rw [hvsd];simp
  have hvs:∀ j v,vs[j]?=some v→w.cell? ⟨vb,vo + j,none⟩=some v:=fun j v h=>by
   have hj:j < es:=by have:=(List.getElem?_eq_some_iff.1 h).1;omega
   rw [hvsd,List.getElem?_map,List.getElem?_range hj] at h
   rw [← h]
   exact hm _ _ (hvm j hj)
  have hrv:RepL m noBk vs (f x).cells:=⟨by rw [hvl,hes],fun j g1 g2=>by
   have:=hvr j g2
   simpa only [hvsd,List.getElem_map,List.getElem_range] using this⟩
  have h1v:∀ v ∈ vs,v.oneCell'=true:=rep_one_cells hrv (hone x)
  have h:=hR.end_grow a 0 0 vb vo vc [] vs w (Nat.le_refl _) (by omega) (by omega) (by simp) hvl (fun _=>rfl) (fun _ _ j v hj=>by simp at hj) hvs h1v
  refine h.mono ?_
  rintro e w' ⟨zs,rfl,rfl⟩
  have hsim:Sim w.heap.size m m noBk w []:=⟨Nat.le_refl _,hm,fun _ _ h=>h,fun _ _ h=>.inl h,fun _ _ _ h=>by simp at h,fun _ _ _ _ _ _ _ _ h=>by simp at h,fun _ _=>rfl⟩
  have hcx:[f x].flatMap V.cells=(f x).cells:=by simp
  obtain ⟨m',bk',g1,g2,g3,g4,g5⟩:=row_aft (xs:=[f x]) (full:=false) (cap:=grownCap w 1 0 E) (es:=es) hsim (w':=w.drew.alloc (.cells (([]++vs).toArray++zs) E)) (((Below.refl w.heap.size w).drew).alloc (Nat.le_refl _) _) (by show (w.heap.push _)[w.heap.size]?=_;rw [Array.getElem?_push_size]) (grownCap_ge w 1 0 E) (fun e=>by cases e)
   (fun y hy=>by rw [List.mem_singleton.1 hy];exact hes x) (by rw [hcx];exact hone x) (by rw [hcx,hes];simp;omega) (fun k hk=>by
    rw [hcx] at hk
    have hk' : k < vs.length:=by rw [hvl,← hes x];exact hk
    refine ⟨vs[k],by rw [Array.getElem?_append_left (by simpa using hk')];simp [hk'],?_⟩
    simp only [hcx]
    exact hrv.2 k hk' hk)
  exact ⟨_,m',rfl,g5.toBelow,g1.mem,g3,fun a u h=>(g1.old a u h),(g2.zero (by rfl)),⟩
 ·cases hL
end Go.Proofs.YtpmoioopjbfhkaaGreat

namespace Go.Proofs.YtpmoioopjbfhkaaGreat
open Go.RowKit
structure CloRoads (P:Program) (k:FuncId) (es:Nat) (E:TypeId):Prop where
 some_:∀ (A:Addr) (n c:Nat) (cs:List Value) (w:World),0 < n→n≤1000000→cs.length=n * es→(∀ j v,cs[j]?=some v→w.cell? (A.add j)=some v)→(∀ v ∈ cs,v.oneCell'=true) →
  Calls P k #[.slice (some A) n c] w fun e w'=>∃ ZS:Array Value,e=.returned (.slice (some ⟨w.heap.size + 1,0,none⟩) n (grownCap (w.alloc (.cells #[] E)) n 0 E))∧w'=(w.alloc (.cells #[] E)).drew.alloc (.cells (cs.toArray++ZS) E)∧grownCap (w.alloc (.cells #[] E)) n 0 E * es≤(cs.toArray++ZS).size
 zero_:∀ (A:Addr) (c:Nat) (w:World),Calls P k #[.slice (some A) 0 c] w fun e w'=>e=.returned (.slice (some ⟨w.heap.size,0,none⟩) 0 0)∧∃ q,w'=(w.alloc (.cells #[] E)).drewN q
 nil_:∀ (n c:Nat) (w:World),Calls P k #[.slice none n c] w fun e w'=>e=.returned (.slice none 0 0)∧w'=w
def clone? {α:Type} (l:List α):Option (List α):=if l.length≤1000000 then some l else none
theorem cargs1 {cargs:Array Value} (h:cargs.size=1):∃ a,cargs=#[a] :=
 ⟨cargs[0],by apply Array.ext;simp [h];intro i a b;simp at b;subst b;rfl⟩
theorem clo_ne {P:Program} {k:FuncId} {es:Nat} {E:TypeId} (hR:CloRoads P k es E) {α:Type} {f:α→V} (hes:∀ a,(f a).cells.length=es) (hone:∀ a,∀ u ∈ (f a).cells,u.one=true)
  {id:Nat} {st:List Slot} (l:List α) (fu:Bool) (hne:l≠[]) (hl:l.length≤1000000) (hi:st[id]?=some .fresh):CallsS P k [.sl (l.map f) fu] st (.osl id 0 l.length es false) (st.set id (.live (cellsM f l) 0)):=by
 intro B m0 m bk w cargs hg hsim hargs
 obtain ⟨hsz,hrp⟩:=hargs
 obtain ⟨c0,rfl⟩:=cargs1 hsz
 have hr0:Rep m bk c0 (.sl (l.map f) fu):=hrp 0 (by simp) (by simp)
 have hpos:0 < l.length:=List.length_pos_iff.2 hne
 obtain ⟨b,o,cap,us,rfl,hvm,hvr⟩ : ∃ (b o cap:Nat) (us:Nat→Value),c0=.slice (some ⟨b,o,none⟩) l.length cap∧(∀ j,j < (cellsM f l).length→m ⟨b,o + j,none⟩=some (us j))∧(∀ j (hj:j < (cellsM f l).length),Rep m noBk (us j) (cellsM f l)[j]):=by
  generalize hxs:l.map f=xs at hr0
  cases hr0 with
  | @sl _ b o n cap es' _ _ us hn hcc hf hes' h1 hm hr =>
   subst hxs
   rw [cellsM_map] at hm
   refine ⟨b,o,cap,us,by rw [hn];simp,hm,fun j hj=>?_⟩
   have:=hr j (by rw [cellsM_map];exact hj)
   simpa only [cellsM_map] using this
  | slnil=>simp at hxs;exact absurd hxs hne
 have hM:=cellsM_len hes l
 obtain ⟨cs,hcsd⟩ : ∃ cs,cs=(List.range (cellsM f l).length).map us:=⟨_,rfl⟩
 have hcl:cs.length=(cellsM f l).length:=by rw [hcsd];simp
 have hone' : ∀ u ∈ cellsM f l,u.one=true:=fun u hu=>by
  unfold cellsM at hu
  obtain ⟨a,_,ha⟩:=List.mem_flatMap.1 hu
  exact hone a u ha
 have hrc:RepL m noBk cs (cellsM f l):=⟨hcl,fun j g1 g2=>by
  have:=hvr j g2
  simpa only [hcsd,List.getElem_map,List.getElem_range] using this⟩
 have h:=hR.some_ ⟨b,o,none⟩ l.length cap cs w hpos hl (by rw [hcl,hM]) (fun j v hj=>by
  have hj' : j < (cellsM f l).length:=by have:=(List.getElem?_eq_some_iff.1 hj).1;omega
  rw [hcsd,List.getElem?_map,List.getElem?_range hj'] at hj
  rw [Addr.add_lit,← hj]
  exact hsim.mem _ _ (hvm j hj')) (rep_one_cells hrc hone')
 refine h.mono ?_
 rintro e w' ⟨ZS,rfl,rfl,hcap⟩
 have hb1:Bel B w (w.alloc (.cells #[] E)):=(Bel.refl B w).alloc hsim.base _
 have hsim1:Sim B m0 m bk (w.alloc (.cells #[] E)) st:=hsim.world (by simp) (fun k hk=>by show (w.heap.push _)[k]?=_;rw [Array.getElem?_push,if_neg (by omega)])
 obtain ⟨m',bk',g1,g2,g3,g4,g5⟩:=make_aft (w':=(w.alloc (.cells #[] E)).drew.alloc (.cells (cs.toArray++ZS) E)) (lo:=0) (hi:=0) (t:=E) (arr:=cs.toArray++ZS) (c:=.slice (some ⟨w.heap.size + 1,0,none⟩) l.length (grownCap (w.alloc (.cells #[] E)) l.length 0 E)) (v:=.osl id 0 l.length es false) (cs:=cellsM f l) hsim1 hi (.inr rfl) (Nat.le_refl _)
  (by
   rw [← hcl]
   simp only [Array.toList_append,List.take_left]
   exact ⟨hrc.1,fun j a b=>(hrc.2 j a b).mono (fun _ _ h=>h) fun _ _ h=>by cases h⟩) hone'
  (.osl (b:=w.heap.size + 1) (sz:=(cs.toArray++ZS).size) (by simp [newBk]) (grownCap_ge _ _ _ _) (fun e=>by cases e) (by rw [Nat.zero_add];exact hcap))
 exact ⟨_,rfl,m',bk',g1,g2,g3,g4,hb1.trans g5⟩
theorem clo_nil {P:Program} {k:FuncId} {es:Nat} {E:TypeId} (hR:CloRoads P k es E) {α:Type} {f:α→V} (fu:Bool):CallsV P k [.sl (List.map f ([]:List α)) fu] (.sl (List.map f ([]:List α)) true):=by
 intro m w cargs hg hm hargs
 obtain ⟨hsz,hrp⟩:=hargs
 obtain ⟨c0,rfl⟩:=cargs1 hsz
 have hr0:Rep m noBk c0 (.sl [] fu):=hrp 0 (by simp) (by simp)
 obtain ⟨a,cap,rfl⟩ : ∃ a cap,c0=.slice a 0 cap:=by
  cases hr0 with
  | sl hn=>exact ⟨_,_,by rw [hn];rfl⟩
  | slnil=>exact ⟨_,_,rfl⟩
 cases a with
 | none =>
  refine (hR.nil_ 0 cap w).mono ?_
  rintro e w' ⟨rfl,rfl⟩
  exact ⟨_,m,rfl,Below.refl _ _,hm,fun _ _ h=>h,fun a u h=>.inl h,.slnil fun _=>rfl⟩
 | some A =>
  refine (hR.zero_ A cap w).mono ?_
  rintro e w' ⟨rfl,q,rfl⟩
  have hb:Below w.heap.size w ((w.alloc (.cells #[] E)).drewN q):=by
   have h:=(Below.refl w.heap.size w).alloc (Nat.le_refl _) (.cells #[] E)
   exact ⟨h.1,h.2,h.3,h.4,h.5⟩
  refine ⟨_,m,rfl,hb,fun a u h=>?_,fun _ _ h=>h,fun a u h=>.inl h,.slnil fun _=>rfl⟩
  have g:=hm a u h
  rw [← g]
  exact World.cell?_of_block (w:=w) (hb.block _ (cell_lt g))
section
variable {β : Type} {r : β} {P : Program} {st : List Slot}
theorem callsS_fz3 {f:FuncId} {a0 a1 a2 a2' v:V} {st' : List Slot} {rd:List Nat} (hf:FzC st a2 a2' rd) (h:CallsS P f [a0,a1,a2'] st v st'):CallsS P f [a0,a1,a2] st v st':=by
 intro B m0 m bk w cargs hg hsim hargs
 refine h B m0 m bk w cargs hg hsim ⟨hargs.1,fun j h1 h2=>?_⟩
 rcases j with _ | _ | _ | j
 ·exact hargs.2 0 h1 (by simp)
 ·exact hargs.2 1 h1 (by simp)
 ·exact (hf.rep hsim (hargs.2 2 h1 (by simp))).mono (fun _ _ h=>h) fun _ _ h=>by cases h
 ·exact absurd h2 (by simp)
theorem insO_c {k:FuncId} {es:Nat} {E:TypeId} (hR:InsRoads P k es E) {α:Type} {f:α→V} {l:List α} {x:α} {at_:Int} {X:List α→Option β} {K:V→List Nat→List Nat→List Slot→Prop} {i j fz:Nat} {fu fv:Bool} (H:(insAt? l at_ x).bind X=some r) (hes0:0 < es) (hes:∀ a,(f a).cells.length=es) (hone:∀ a,(f a).cells.all V.one=true) (h0:∀ a,V.idlt.belowL 0 (f a).cells=true)
  (hi:st[i]?=some (.live (cellsM f l) 0)) (hj:st[j]?=some (.live (cellsM f [x]) fz)) (hz:fz=(cellsM f [x]).length) (h:∀ L,X L=some r→ssetK st i .dead fun st'=>K (.sl (L.map f) false) [j] [i] st'):Ask P k [.osl i 0 l.length es fu,.i at_,.osl j 0 1 es fv] st K:=by
 obtain ⟨L,hL,H⟩:=bind_c H
 have:=h L H
 rw [ssetK_eq] at this
 exact Ask_L (rd:=[j]) (ef:=[(i,.dead)]) (fun st2 hl2 h2=>by
  have hf:FzC st2 (.osl j 0 1 es fv) (.sl [f x] false) [j]:=fzown (l:=[x]) ((h2 j (.inl (by simp))).trans hj) hz hes h0
  exact callsS_fz3 hf (ins_of hR hes0 hes (fun a u hu=>List.all_eq_true.1 (hone a) u hu) h0 l fu false at_ x ((h2 i (.inr (by simp))).trans hi) L hL)) this
end
theorem insN_v {P:Program} {k:FuncId} {es:Nat} {E:TypeId} (hR:InsRoads P k es E) (hes0:0 < es) {α:Type} {f:α→V} (hes:∀ a,(f a).cells.length=es) (hone:∀ a,(f a).cells.all V.one=true) (h0:∀ a,V.idlt.belowL 0 (f a).cells=true)
  (fv:Bool) (at_:Int) (x:α):CallsO P k [.sl (List.map f []) true,.i at_,.sl (List.map f [x]) fv] (fun L:List α=>V.sl (L.map f) false) (insAt? [] at_ x):=ins_nil hR hes0 hes (fun a u hu=>List.all_eq_true.1 (hone a) u hu) h0 fv at_ x
theorem nil_at {α β:Type} {A:Prop} {j:Int} {X:α→Option β} {r:β} (H:(at? ([]:List α) j).bind X=some r):A:=by
 have e:at? ([]:List α) j=none:=by unfold at?;split <;> simp
 rw [e] at H;cases H
def frzAt:List Slot→Nat→List Slot
 | [],_=>[]
 | .live cs 0 :: l,0=>.live cs cs.length :: l
 | .live cs (f + 1) :: l,0=>.live cs (max (f + 1) cs.length) :: l
 | .fresh :: l,0=>.fresh :: l
 | .dead :: l,0=>.dead :: l
 | s :: l,i + 1=>s :: frzAt l i
def frzAll:List Slot→List Nat→List Slot
 | st,[]=>st
 | st,i :: is=>frzAll (frzAt st i) is
theorem frzAt_frz:∀ (l:List Slot) (i:Nat),frzAt l i=l∨∃ cs f,l[i]?=some (.live cs f)∧f≤cs.length∧frzAt l i=l.set i (.live cs cs.length)
 | [],i=>.inl rfl
 | .live cs 0 :: l,0=>.inr ⟨cs,0,rfl,Nat.zero_le _,rfl⟩
 | .live cs (f + 1) :: l,0=>by
  by_cases h:f + 1≤cs.length
  ·exact .inr ⟨cs,f + 1,rfl,h,by rw [frzAt,Nat.max_eq_right h];rfl⟩
  ·exact .inl (by rw [frzAt,Nat.max_eq_left (by omega)])
 | .fresh :: l,0=>.inl rfl
 | .dead :: l,0=>.inl rfl
 | s :: l,i + 1=>by
  have e:frzAt (s :: l) (i + 1)=s :: frzAt l i:=by
   cases s with
   | live cs f=>cases f <;> rfl
   | _=>rfl
  rcases frzAt_frz l i with h | ⟨cs,f,h1,h2,h3⟩
  ·exact .inl (by rw [e,h])
  ·exact .inr ⟨cs,f,by simpa using h1,h2,by rw [e,h3];rfl⟩
theorem Sim.frzAll {B:Nat} {m0:Mem} {bk:Bks} {w:World}:∀ (is:List Nat) {st:List Slot} {m:Mem},Sim B m0 m bk w st→∃ m',Sim B m0 m' bk w (frzAll st is)∧∀ a u,m a=some u→m' a=some u
 | [],st,m,h=>⟨m,h,fun _ _ h=>h⟩
 | i :: is,st,m,h=>by
  rw [Proofs.YtpmoioopjbfhkaaGreat.frzAll]
  rcases frzAt_frz st i with e | ⟨cs,f,h1,h2,e⟩
  ·rw [e];exact Sim.frzAll is h
  ·obtain ⟨m1,g1,g2⟩:=h.freeze h1 h2 (Nat.le_refl _)
   rw [e]
   obtain ⟨m2,g3,g4⟩:=Sim.frzAll is g1
   exact ⟨m2,g3,fun a u h=>g4 _ _ (g2 _ _ h)⟩
def V.litD:V→Bool
 | .lit _=>true
 | .agg cs | .tup cs=>litL cs
 | .sl [] _=>true
 | _=>false
where litL:List V→Bool
 | []=>true
 | v :: vs=>v.litD && litL vs
theorem litL_get:∀ {l:List V},V.litD.litL l=true→∀ j (h:j < l.length),l[j].litD=true
 | v :: l,h,0,_=>by simp [V.litD.litL] at h;simpa using h.1
 | v :: l,h,j + 1,hj=>by simp [V.litD.litL] at h;simpa using litL_get h.2 j (by simpa using hj)
theorem Rep.litD {m:Mem} {bk:Bks} {c:Value} {v:V} (h:Rep m bk c v):v.litD=true→∀ (m' : Mem) (bk' : Bks),Rep m' bk' c v:=by
 induction h with
 | lit h=>intro _ _ _;exact .lit h
 | agg hl h1 _ ih=>intro hv m' bk';exact .agg hl h1 fun j a b=>ih j a b (litL_get (by simpa [V.litD] using hv) j b) m' bk'
 | tup hl _ ih=>intro hv m' bk';exact .tup hl fun j a b=>ih j a b (litL_get (by simpa [V.litD] using hv) j b) m' bk'
 | @sl bk b o n cap es full xs us hn hc hf hes h1 hm h _ =>
  intro hv m' bk'
  cases xs with
  | nil=>exact .sl (us:=us) hn hc hf hes h1 (fun k hk=>absurd hk (by simp)) (fun k hk=>absurd hk (by simp))
  | cons x xs=>simp [V.litD] at hv
 | slnil hf=>intro _ _ _;exact .slnil hf
 | _=>intro hv;simp [V.litD] at hv
theorem callsS_tmp {P:Program} {f:FuncId} {vs vs' : List V} {v:V} {st:List Slot} {rd:List Nat} (is:List Nat) (ha:FzA (frzAll st is) vs vs' rd) (h:CallsV P f vs' v) (hv:v.litD=true):CallsS P f vs st v st:=by
 intro B m0 m bk w cargs hg hsim hargs
 obtain ⟨m1,g1,g2⟩:=hsim.frzAll is
 have hr:RepL m1 bk cargs.toList vs:=⟨by simpa using hargs.1,fun j a b=>by
  have:=(hargs.2 j (by simpa using a) b).mono g2 (fun _ _ h=>h)
  simpa using this⟩
 have hg1:GM m1:=by obtain ⟨n,hn⟩:=hg;exact ⟨n,g2 _ _ hn⟩
 have ht:=(ha.rep g1 hr).toA
 rw [Array.toArray_toList] at ht
 refine (h m1 w cargs hg1 g1.mem ht).mono ?_
 rintro e w' ⟨c,m',rfl,hb,_,_,_,hrc⟩
 exact ⟨c,rfl,m,bk,hsim.world hb.size (fun k hk=>hb.block k hk),hrc.litD hv m bk,fun _ _ h=>h,fun _ _ h=>h,Bel.of hb hsim.base⟩
theorem frzAt_get:∀ (l l2:List Slot) (i k:Nat),l2[k]?=l[k]?→(frzAt l2 i)[k]?=(frzAt l i)[k]?:=by
 have one:∀ (l:List Slot) (i k:Nat),(frzAt l i)[k]?=if i=k then (l[k]?).map fun s=>(frzAt [s] 0).headD .dead else l[k]?:=by
  intro l
  induction l with
  | nil=>intro i k;simp [frzAt]
  | cons s l ih =>
   intro i k
   cases i with
   | zero =>
    have e:frzAt (s :: l) 0=(frzAt [s] 0).headD .dead :: l:=by
     cases s with
     | live cs f=>cases f <;> rfl
     | _=>rfl
    rw [e]
    cases k with
    | zero=>simp
    | succ k=>simp
   | succ i =>
    have e:frzAt (s :: l) (i + 1)=s :: frzAt l i:=by
     cases s with
     | live cs f=>cases f <;> rfl
     | _=>rfl
    rw [e]
    cases k with
    | zero=>simp
    | succ k=>simp only [List.getElem?_cons_succ,ih,Nat.add_right_cancel_iff]
 intro l l2 i k h
 rw [one,one,h]
theorem frzAll_get:∀ (is:List Nat) (l l2:List Slot) (k:Nat),l2[k]?=l[k]?→(frzAll l2 is)[k]?=(frzAll l is)[k]?
 | [],_,_,_,h=>h
 | i :: is,l,l2,k,h=>frzAll_get is _ _ k (frzAt_get l l2 i k h)
theorem askT_c {β:Type} {r:β} {P:Program} {st:List Slot} {α:Type} {enc:α→V} {m:Option α} {X:α→Option β} {f:Nat} {vs vs' : List V} {rd:List Nat} {k:V→List Nat→List Nat→List Slot→Prop} (is:List Nat) (hc:CallsO P f vs' enc m) (H:m.bind X=some r) (ha:FzA (frzAll st is) vs vs' rd) (hv:∀ x,(enc x).litD=true)
  (h:∀ x,X x=some r→k (enc x) rd [] st):Ask P f vs st k:=by
 obtain ⟨x,hx,H⟩:=bind_c H
 exact Ask_L (rd:=rd) (ef:=[]) (fun st2 _ h2=>callsS_tmp is (ha.congr fun k hk=>frzAll_get is _ _ k (h2 k (.inl hk))) (hc x hx) (hv x)) (h x H)
end Go.Proofs.YtpmoioopjbfhkaaGreat

