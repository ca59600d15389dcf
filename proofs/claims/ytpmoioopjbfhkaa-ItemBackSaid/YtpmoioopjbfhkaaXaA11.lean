/- A part of the proof: 11 texts joined. -/
import Derived.Test.YtpmoioopjbfhkaaXaA10
import Derived.KernelRfl
import Derived.OpenShut
import Derived.Test.YtpmoioopjbfhkaaXaA1
import Derived.Shelf.Spec.SlicesInsertGrow
set_option linter.all false
/- The abstract walk, driven by a plain function: the code as a proposition that reduces up to its next question. -/
namespace Go.Proofs.Ytpmoioopjbfhkaa
open Go.RowKit
section
variable {P : Program} {n0 : Nat}
inductive BCode where
 | skip
 | reg (nc:Nat) (ops:List AOper) (bef:Option (List (List Nat))) (x:Nat) (fz:List Nat)
 | seq (a b:BCode)
 | join (a b:BCode)
 | cond (c:Operand) (a b:BCode)
 | block (id:Nat) (a:BCode)
 | loop (a:BCode)
 | exit (id:Nat)
 | ret
 | raw (c:Code)
def BCode.er:BCode→ACode
 | .skip=>.skip
 | .reg nc ops bef _ _=>.reg nc ops bef
 | .seq a b=>.seq a.er b.er
 | .join a b=>.seq a.er b.er
 | .cond c a b=>.cond c a.er b.er
 | .block id a=>.block id a.er
 | .loop a=>.loop a.er
 | .exit id=>.exit id
 | .ret=>.ret
 | .raw c=>.raw c
def ownId:V→Option Nat
 | .ptr i _=>some i
 | .osl i _ _ _ _=>some i
 | _=>none
def frzK (fr:List V):List Slot→List Nat→(List Slot→Prop)→Prop
 | st,[],k=>k st
 | st,t :: ts,k=>getK fr t fun v=>match ownId v with
  | some i=>sgetK st i fun cs f=>Nat.le f cs.length∧ssetK st i (.live cs cs.length) fun st'=>frzK fr st' ts k
  | none=>False
def frzI:List Nat→List Slot→(List Slot→Prop)→Prop
 | [],st,k=>k st
 | i :: is,st,k=>sgetK st i fun cs f=>Nat.le f cs.length∧ssetK st i (.live cs cs.length) fun st'=>frzI is st' k
theorem Frz.trans {st st1 st2:List Slot} (h:Frz st st1) (h2:Frz st1 st2):Frz st st2:=by
 induction h2 with
 | refl=>exact h
 | step _ hi h1 h2 ih=>exact .step ih hi h1 h2
theorem frzK_ok {fr:List V}:∀ {ts:List Nat} {st:List Slot} {k:List Slot→Prop},frzK fr st ts k→∃ st',Frz st st'∧k st'
 | [],st,k,h=>⟨st,.refl,h⟩
 | t :: ts,st,k,h=>by
  rw [frzK,getK_eq] at h
  split at h
  ·obtain ⟨cs,f,h1,h2,h3⟩:=sgetK_ok h
   rw [ssetK_eq] at h3
   obtain ⟨st',h4,h5⟩:=frzK_ok h3
   exact ⟨st',(Frz.step .refl h1 h2 (Nat.le_refl _)).trans h4,h5⟩
  ·exact h.elim
theorem frzI_ok:∀ {is:List Nat} {st:List Slot} {k:List Slot→Prop},frzI is st k→∃ st',Frz st st'∧k st'
 | [],st,k,h=>⟨st,.refl,h⟩
 | t :: ts,st,k,h=>by
  obtain ⟨cs,f,h1,h2,h3⟩:=sgetK_ok h
  rw [ssetK_eq] at h3
  obtain ⟨st',h4,h5⟩:=frzI_ok h3
  exact ⟨st',(Frz.step .refl h1 h2 (Nat.le_refl _)).trans h4,h5⟩
structure FootQ (bef:List (List Nat)) (fp:List (List Nat × List Nat)) (A:Prop):Prop where
 out:footB bef fp.reverse=true∧A
structure LoopQ (P:Program) (n0:Nat) (a:BCode) (Q:AExit→List V→List Slot→Prop) (fr:List V) (st:List Slot):Prop where
 out:∀ Q' : AExit→List V→List Slot→Prop,(∀ e fr st,Q e fr st→Q' e fr st)→AW P n0 (.loop a.er) Q' fr st
structure RawQ (P:Program) (n0:Nat) (c:Code) (Q:AExit→List V→List Slot→Prop) (fr:List V) (st:List Slot):Prop where
 out:∀ Q' : AExit→List V→List Slot→Prop,(∀ e fr st,Q e fr st→Q' e fr st)→AW P n0 (.raw c) Q' fr st
structure JoinQ (P:Program) (n0:Nat) (a b:BCode) (Q:AExit→List V→List Slot→Prop) (fr:List V) (st:List Slot):Prop where
 out:∀ Q' : AExit→List V→List Slot→Prop,(∀ e fr st,Q e fr st→Q' e fr st)→AW P n0 (.seq a.er b.er) Q' fr st
structure ArriveQ (n0:Nat) (J:List V→List Slot→Prop) (base:List V) (car:List Nat) (fr:List V) (st:List Slot):Prop where
 out:∃ k sg fr'' st'',Wk n0 k sg fr fr'' st st''∧∃ vals,J vals st''∧fr''=setF base car vals
structure FinQ (F:AExit→List V→List Slot→Prop) (e:AExit) (fr:List V) (st:List Slot):Prop where
 out:F e fr st
structure AgainQ (n0:Nat) (J:Nat→List V→List Slot→Prop) (n:Nat) (base:List V) (car:List Nat) (fr:List V) (st:List Slot):Prop where
 out:∃ n' k sg fr'' st'',n' < n∧Wk n0 k sg fr fr'' st st''∧∃ vals,J n' vals st''∧fr''=setF base car vals
def padK:List Slot→Nat→Nat→(List Slot→Nat→Prop)→Prop
 | s :: l,a,nc,k=>padK l (a + 1) nc fun l' n=>k (s :: l') n
 | [],a,nc,k=>rep nc fun l=>k l a
where rep:Nat→(List Slot→Prop)→Prop
 | 0,k=>k []
 | n + 1,k=>rep n fun l=>k (.fresh :: l)
theorem padK_rep:∀ (n:Nat) (k:List Slot→Prop),padK.rep n k=k (List.replicate n .fresh)
 | 0,k=>rfl
 | n + 1,k=>by rw [padK.rep,padK_rep n];rfl
theorem padK_eq:∀ (l:List Slot) (a nc:Nat) (k:List Slot→Nat→Prop),padK l a nc k=k (l++List.replicate nc .fresh) (a + l.length)
 | [],a,nc,k=>by rw [padK,padK_rep];simp
 | s :: l,a,nc,k=>by rw [padK,padK_eq l];simp [Nat.add_assoc,Nat.add_comm 1]
def footK (bef:Option (List (List Nat))) (fp:List (List Nat × List Nat)) (A:Prop):Prop :=
 match bef with
 | none=>A
 | some b=>FootQ b fp A
def exK (b:Bool) (A B:Prop):Prop :=
 match b with
 | true=>A
 | false=>B
abbrev OpsT:=List (List Nat × List Nat)→List V→List Slot→(List (List Nat × List Nat)→List V→List Slot→Prop)→Prop
def opsStep (P:Program) (base:Nat) (o:AOper) (ih:OpsT):OpsT:=fun fp fr st K =>
 match o with
 | ⟨d,op,none,c⟩=>wpOp P fr st (base + c) op fun fr v rd wr st'=>putK fr d v fun fr=>ih ((rd,wr) :: fp) fr st' K
 | ⟨d,op,some (t,w),c⟩=>getK fr t fun g=>match g with
  | .lit (.bool b)=>Tst b
   (setK fr t (.lit (.bool true)) fun fr=>match w with
    | true=>wpOp P fr st (base + c) op fun fr v rd wr st'=>putK fr d v fun fr=>ih ((rd,wr) :: fp) fr st' K
    | false=>putK fr d (.tup []) fun fr=>ih (([],[]) :: fp) fr st K)
   (setK fr t (.lit (.bool false)) fun fr=>match w with
    | false=>wpOp P fr st (base + c) op fun fr v rd wr st'=>putK fr d v fun fr=>ih ((rd,wr) :: fp) fr st' K
    | true=>putK fr d (.tup []) fun fr=>ih (([],[]) :: fp) fr st K)
  | .tup []=>putK fr d (.tup []) fun fr=>ih (([],[]) :: fp) fr st K
  | _=>False
def wqOps (P:Program) (base:Nat) (os:List AOper):OpsT:=List.rec (motive:=fun _=>OpsT) (fun fp fr st K=>K fp fr st) (fun o _ ih=>opsStep P base o ih) os
theorem wqOps_eq {P:Program} {base:Nat}:∀ os:List AOper,wqOps P base os=wpOps P base os
 | []=>rfl
 | o :: os=>by
  have ih:List.rec (motive:=fun _=>OpsT) (fun fp fr st K=>K fp fr st) (fun o _ ih=>opsStep P base o ih) os=wpOps P base os:=wqOps_eq os
  show opsStep P base o (List.rec (motive:=fun _=>OpsT) (fun fp fr st K=>K fp fr st) (fun o _ ih=>opsStep P base o ih) os)=wpOps P base (o :: os)
  rw [ih]
  obtain ⟨d,op,g,c⟩:=o
  cases g <;> rfl
abbrev CodeT:=(AExit→List V→List Slot→Prop)→List V→List Slot→Prop
def thenQ (b:CodeT) (Q:AExit→List V→List Slot→Prop):AExit→List V→List Slot→Prop:=fun e fr st=>match e with
 | .normal=>b Q fr st
 | e=>Q e fr st
def blockQ (id:Nat) (Q:AExit→List V→List Slot→Prop):AExit→List V→List Slot→Prop:=fun e fr st=>match e with
 | .exit j=>exK (Nat.beq j id) (Q .normal fr st) (Q (.exit j) fr st)
 | e=>Q e fr st
def condK (fr:List V) (st:List Slot) (c:Operand) (a b:CodeT) (Q:AExit→List V→List Slot→Prop):Prop:=opK fr c fun v=>match v with
 | .lit (.bool t)=>Tst t (Setb fr c true fun fr=>a Q fr st) (Setb fr c false fun fr=>b Q fr st)
 | _=>False
def wpC (P:Program) (n0:Nat) (c:BCode):CodeT:=BCode.rec (motive:=fun _=>CodeT)
 (fun Q fr st=>Q .normal fr st)
 (fun nc ops bef x fz Q fr st=>frzK fr st fz fun st=>padK st 0 (nc + x) fun st' n=>wqOps P n ops [] fr st' fun fp fr st=>footK bef fp (Q .normal fr st))
 (fun _ _ a b Q fr st=>a (thenQ b Q) fr st)
 (fun a b _ _ Q fr st=>JoinQ P n0 a b Q fr st)
 (fun c _ _ a b Q fr st=>condK fr st c a b Q)
 (fun id _ a Q fr st=>a (blockQ id Q) fr st)
 (fun a _ Q fr st=>LoopQ P n0 a Q fr st)
 (fun id Q fr st=>Q (.exit id) fr st)
 (fun Q fr st=>Q .ret fr st)
 (fun c Q fr st=>RawQ P n0 c Q fr st) c
theorem wpC_ok:∀ {c:BCode} {Q Q' : AExit→List V→List Slot→Prop} {fr:List V} {st:List Slot},(∀ e fr st,Q e fr st→Q' e fr st)→wpC P n0 c Q fr st→AW P n0 c.er Q' fr st
 | .skip,Q,Q',fr,st,hq,h=>hq _ _ _ h
 | .reg nc ops none x fz,Q,Q',fr,st,hq,h=>by
  obtain ⟨st',hf,h⟩:=frzK_ok (k:=fun st=>padK st 0 (nc + x) fun st' n=>wqOps P n ops [] fr st' fun fp fr st=>footK none fp (Q .normal fr st)) h
  simp only [padK_eq,Nat.zero_add,footK,wqOps_eq] at h
  exact ⟨st',x,hf,AOps_mono (fun _ _ _ h=>hq _ _ _ h) (wpOps_ok h)⟩
 | .reg nc ops (some bef) x fz,Q,Q',fr,st,hq,h=>by
  obtain ⟨st',hf,h⟩:=frzK_ok (k:=fun st=>padK st 0 (nc + x) fun st' n=>wqOps P n ops [] fr st' fun fp fr st=>footK (some bef) fp (Q .normal fr st)) h
  simp only [padK_eq,Nat.zero_add,footK,wqOps_eq] at h
  exact ⟨st',x,hf,AOps_mono (fun _ _ _ h=>⟨h.out.1,hq _ _ _ h.out.2⟩) (wpOps_ok h)⟩
 | .seq a b,Q,Q',fr,st,hq,h=>by
  refine wpC_ok (c:=a) (Q:=thenQ (wpC P n0 b) Q) (fun e fr st h=>?_) h
  cases e with
  | normal=>exact .inl (wpC_ok (c:=b) hq h)
  | _=>exact hq _ _ _ h
 | .join a b,Q,Q',fr,st,hq,h=>JoinQ.out h Q' hq
 | .cond c a b,Q,Q',fr,st,hq,h=>by
  change condK fr st c (wpC P n0 a) (wpC P n0 b) Q at h
  simp only [condK,opK_eq] at h
  split at h
  ·rename_i t hc
   refine ⟨t,hc,fun e=>?_,fun e=>?_⟩
   ·subst e;exact wpC_ok hq (setb_ok (K:=fun fr=>wpC P n0 a Q fr st) hc (h.out.1 rfl))
   ·subst e;exact wpC_ok hq (setb_ok (K:=fun fr=>wpC P n0 b Q fr st) hc (h.out.2 rfl))
  ·exact h.elim
 | .block id a,Q,Q',fr,st,hq,h=>by
  refine wpC_ok (c:=a) (Q:=blockQ id Q) (fun e fr st h=>?_) h
  cases e with
  | exit j =>
   by_cases hj:j=id
   ·have:Nat.beq j id=true:=by rw [hj];exact Nat.beq_refl id
    simp only [blockQ,this,exK] at h
    simp only [hj,if_true];exact hq _ _ _ h
   ·have:Nat.beq j id=false:=Bool.eq_false_iff.2 fun e=>hj (Nat.eq_of_beq_eq_true e)
    simp only [blockQ,this,exK] at h
    simp only [hj,if_false];exact hq _ _ _ h
  | _=>exact hq _ _ _ h
 | .loop a,Q,Q',fr,st,hq,h=>LoopQ.out h Q' hq
 | .exit id,Q,Q',fr,st,hq,h=>hq _ _ _ h
 | .ret,Q,Q',fr,st,hq,h=>hq _ _ _ h
 | .raw c,Q,Q',fr,st,hq,h=>RawQ.out h Q' hq
def setsK:List V→List Nat→List V→(List V→Prop)→Prop
 | fr,t :: ts,v :: vs,k=>setK fr t v fun fr=>setsK fr ts vs k
 | fr,_,_,k=>k fr
theorem setsK_eq:∀ (ts:List Nat) (fr vs:List V) (k:List V→Prop),setsK fr ts vs k=k (setF fr ts vs)
 | t :: ts,fr,v :: vs,k=>by rw [setsK,setK_eq,setsK_eq ts];rfl
 | [],fr,vs,k=>by simp [setsK,setF]
 | t :: ts,fr,[],k=>by simp [setsK,setF]
def maskK:List V→List Nat→(List V→Prop)→Prop
 | fr,t :: ts,k=>setK fr t .any fun fr=>maskK fr ts k
 | fr,[],k=>k fr
theorem maskK_eq:∀ (ts:List Nat) (fr:List V) (k:List V→Prop),maskK fr ts k=k (maskF ts fr)
 | t :: ts,fr,k=>by rw [maskK,setK_eq,maskK_eq ts];rfl
 | [],fr,k=>rfl
def againK (n0:Nat) (J:Nat→List V→List Slot→Prop) (n:Nat) (base:List V) (car:List Nat) (Q:AExit→List V→List Slot→Prop):AExit→List V→List Slot→Prop :=
 fun e fr st=>match e with
 | .normal=>AgainQ n0 J n base car fr st
 | e=>Q e fr st
theorem renL_at {sg:List Nat}:∀ (l:List V) (t:Nat) (h:t < l.length),(V.ren.renL sg l)[t]'(by rw [renL_len];exact h)=(l[t]).ren sg
 | v :: l,0,_=>rfl
 | v :: l,t + 1,h=>by simp only [V.ren.renL,List.getElem_cons_succ];exact renL_at l t (Nat.lt_of_succ_lt_succ h)
theorem maskF_len:∀ (ts:List Nat) (fr:List V),(maskF ts fr).length=fr.length
 | [],fr=>rfl
 | t :: ts,fr=>by rw [maskF,maskF_len ts,List.length_set]
theorem maskF_at:∀ (ts:List Nat) (fr:List V) (t:Nat) (h1:t < (maskF ts fr).length) (h2:t < fr.length),(maskF ts fr)[t]=.any∨(maskF ts fr)[t]=fr[t]
 | [],fr,t,h1,h2=>.inr rfl
 | u :: ts,fr,t,h1,h2=>by
  have:=maskF_at ts (fr.set u .any) t h1 (by rw [List.length_set];exact h2)
  rcases this with h | h
  ·exact .inl h
  ·by_cases e:u=t
   ·left
    show (maskF ts (fr.set u .any))[t]=.any
    rw [h];subst e;simp
   ·right
    show (maskF ts (fr.set u .any))[t]=fr[t]
    rw [h,List.getElem_set_ne e]
theorem wk_mask {n:Nat} {sg junk:List Nat} {fr fr' : List V} {st st' : List Slot} (h0:n0≤n) (hfx:((List.range n0).all fun i=>sgm sg i == i)=true) (hm:V.ren.renL sg fr'=maskF junk fr) (hid:V.idlt.belowL n fr'=true) (hl:st'.length=n) (hb:wkB n sg st 0 st'):Wk n0 n sg fr fr' st st':=by
 obtain ⟨g1,g2⟩:=wkB_ok hb
 simp only [Nat.zero_add] at g1 g2
 have hlen:fr'.length=fr.length:=by rw [← renL_len (sg:=sg) fr',hm,maskF_len]
 refine ⟨h0,fun i hi=>?_,hlen,fun t h1 h2=>?_,hl,fun i cs f h=>⟨(g1 i cs f h).1,(g1 i cs f h).2.1⟩,g2,fun i j ci fi cj fj hi hj e=>?_⟩
 ·simp only [List.all_eq_true,List.mem_range,beq_iff_eq] at hfx
  exact hfx i hi
 ·have e:=renL_at (sg:=sg) fr' t h1
  have e2:(V.ren.renL sg fr')[t]'(by rw [renL_len];exact h1)=(maskF junk fr)[t]'(by rw [maskF_len];exact h2):=by simp only [hm]
  rw [e] at e2
  rcases maskF_at junk fr t (by rw [maskF_len];exact h2) h2 with g | g
  ·left
   rw [g] at e2
   cases hv:fr'[t] <;> rw [hv] at e2 <;> simp [V.ren] at e2
  ·exact .inr ⟨by rw [e2,g],belowL_get hid t h1⟩
 ·have li:=(List.getElem?_eq_some_iff.1 hi).1
  have lj:=(List.getElem?_eq_some_iff.1 hj).1
  rcases Nat.lt_trichotomy i j with h | h | h
  ·exact absurd e ((g1 i ci fi hi).2.2 j h lj)
  ·exact h
  ·exact absurd e.symm ((g1 j cj fj hj).2.2 i h li)
variable {Q : AExit → List V → List Slot → Prop} {fr : List V} {st : List Slot}
theorem loop_c {a:BCode} (car junk junk0:List Nat) (J:Nat→List V→List Slot→Prop) (n1 k0:Nat) (sg0:List Nat) {vals0:List V} {st0:List Slot} (h0:J n1 vals0 st0) (hn:n0≤k0) (hfx:((List.range n0).all fun i=>sgm sg0 i == i)=true)
  (hm:V.ren.renL sg0 (setF (maskF junk fr) car vals0)=maskF junk0 fr) (hid:V.idlt.belowL k0 (setF (maskF junk fr) car vals0)=true) (hl:st0.length=k0) (hb:wkB k0 sg0 st 0 st0)
  (hr:∀ n vals st,J n vals st→maskK fr junk fun base=>setsK base car vals fun fr'=>wpC P n0 a (againK n0 J n base car Q) fr' st):LoopQ P n0 a Q fr st:=by
 refine ⟨fun Q' hq=>w_loop car junk J n1 k0 sg0 vals0 (wk_mask hn hfx hm hid hl hb) h0 fun n vals st hj=>?_⟩
 have:=hr n vals st hj
 rw [maskK_eq,setsK_eq] at this
 refine wpC_ok (fun e fr st h=>?_) this
 cases e with
 | normal=>exact h.out
 | _=>exact hq _ _ _ h
theorem again_c {J:Nat→List V→List Slot→Prop} {n:Nat} {base:List V} {car:List Nat} (junk:List Nat) (n' k:Nat) (sg:List Nat) {vals' : List V} {st'' : List Slot} (hJ:J n' vals' st'') (hlt:n' < n) (hn:n0≤k) (hfx:((List.range n0).all fun i=>sgm sg i == i)=true)
  (hm:V.ren.renL sg (setF base car vals')=maskF junk fr) (hid:V.idlt.belowL k (setF base car vals')=true) (hl:st''.length=k) (hb:wkB k sg st 0 st''):AgainQ n0 J n base car fr st :=
 ⟨n',k,sg,_,st'',hlt,wk_mask hn hfx hm hid hl hb,vals',hJ,rfl⟩
def initK:List V→Nat→(List V→Prop)→Prop
 | [],n,k=>rep n k
 | v :: l,n + 1,k=>initK l n fun r=>k (v :: r)
 | _ :: _,0,_=>False
where rep:Nat→(List V→Prop)→Prop
 | 0,k=>k []
 | n + 1,k=>rep n fun l=>k (.tup [] :: l)
theorem initK_rep:∀ (n:Nat) (k:List V→Prop),initK.rep n k=k (List.replicate n (.tup []))
 | 0,k=>rfl
 | n + 1,k=>by rw [initK.rep,initK_rep n];rfl
theorem initK_ok:∀ {l:List V} {n:Nat} {k:List V→Prop},initK l n k→k (l++List.replicate (n - l.length) (.tup []))
 | [],n,k,h=>by rw [initK,initK_rep] at h;simpa using h
 | v :: l,n + 1,k,h=>by
  have:=initK_ok (l:=l) (n:=n) h
  simpa using this
 | _ :: _,0,k,h=>h.elim
end
def CallsO {α:Type} (P:Program) (f:FuncId) (args:List V) (enc:α→V) (m:Option α):Prop:=∀ v,m=some v→CallsV P f args (enc v)
theorem callsO_comp {α:Type} {enc:α→V} {m:Option α} {P:Program} {f:FuncId} {fn:Func} {ac:BCode} {n:Nat} {rs:List ARes} {args:List V} (hmix:P.follows .mixedOrders=true) (hf:P.funcs[f]?=some fn) (hc:compF P fn=some (ac.er,n,rs))
  (h:∀ r,m=some r→initK args n fun fr=>wpC P 0 ac (FinQ (Fin rs (enc r))) fr []):CallsO P f args enc m:=fun r hr =>
 callsV_comp hmix hf hc (wpC_ok (fun _ _ _ h=>h.out) (initK_ok (h r hr)))
structure Clo1 {α β:Type} (P:Program) (g:Nat) (caps:List V) (e1:α→V) (enc:β→V) (f:α→Option β):Prop where
 can:Callable P g
 own:V.idlt.belowL 0 caps=true
 calls:∀ a,CallsO P g (e1 a :: caps) enc (f a)
structure Clo2 {α α' β:Type} (P:Program) (g:Nat) (caps:List V) (e1:α→V) (e2:α'→V) (enc:β→V) (f:α→α'→Option β):Prop where
 can:Callable P g
 own:V.idlt.belowL 0 caps=true
 calls:∀ a b,CallsO P g (e1 a :: e2 b :: caps) enc (f a b)
def fuel:Nat:=100000000
abbrev w64 (r:Int):Int:=IntKind.i64.wrap r
def at? {α:Type} (l:List α) (j:Int):Option α:=if 0≤j then l[j.toNat]? else none
def sub? (s:ByteArray) (lo hi:Option Int):Option ByteArray:=if 0≤lo.getD 0∧lo.getD 0≤hi.getD s.size∧hi.getD s.size≤s.size then some (s.extract (lo.getD 0).toNat (hi.getD s.size).toNat) else none
def cat? (a b:ByteArray):Option ByteArray:=if a.size + b.size≤4611686018427387904 then some (a++b) else none
def app? {α:Type} (a b:List α):Option (List α):=if a.length + b.length≤1000000 then some (a++b) else none
def pos? (b:Int):Option Unit:=if 0≤b then some () else none
def text? (l:List Int):Option ByteArray:=if l.all (fun b=>decide (0≤b) && decide (b≤255)) then some ⟨(l.map fun b=>UInt8.ofNat b.toNat).toArray⟩ else none
def bytesI (s:ByteArray):List Int:=s.data.toList.map fun b=>(b.toNat:Int)
theorem flatMap_one {α:Type} (g:α→V):∀ l:List α,(l.flatMap fun a=>[g a])=l.map g
 | []=>rfl
 | a :: l=>by rw [List.flatMap_cons,flatMap_one g l];rfl
abbrev V.y8 (n:Int):V:=.lit (.int .u8 n)
abbrev andI (k:IntKind) (a b:Int):Int:=k.wrap (BitVec.ofInt k.bits a &&& BitVec.ofInt k.bits b).toNat
abbrev orI (k:IntKind) (a b:Int):Int:=k.wrap (BitVec.ofInt k.bits a ||| BitVec.ofInt k.bits b).toNat
abbrev xorI (k:IntKind) (a b:Int):Int:=k.wrap (BitVec.ofInt k.bits a ^^^ BitVec.ofInt k.bits b).toNat
abbrev andNotI (k:IntKind) (a b:Int):Int:=k.wrap (BitVec.ofInt k.bits a &&& ~~~ BitVec.ofInt k.bits b).toNat
abbrev shlI (k:IntKind) (a b:Int):Int:=k.wrap (a * 2 ^ (min b.toNat k.bits))
abbrev shrI (k:IntKind) (a b:Int):Int:=a.fdiv (2 ^ (min b.toNat k.bits))
def arr? {α:Type} (n:Nat) (l:List α) (j:Int):Option α:=if l.length=n then at? l j else none
theorem bytesI_V (s:ByteArray):s.data.toList.map byteV=(bytesI s).map V.y8:=by
 unfold bytesI;rw [List.map_map];rfl
theorem text_ok {l:List Int} {s:ByteArray} (h:text? l=some s):l.map V.y8=s.data.toList.map byteV:=by
 unfold text? at h
 split at h
 ·rename_i hc
  simp only [Option.some.injEq] at h
  subst h
  simp only [List.all_eq_true,Bool.and_eq_true,decide_eq_true_eq] at hc
  simp only [List.map_map]
  apply List.map_congr_left
  intro b hb
  have:=hc b hb
  simp only [Function.comp,byteV,V.y8,UInt8.toNat_ofNat']
  congr 2
  omega
 ·cases h
section
variable {β : Type} {r : β} {A B : Prop} {P : Program} {st : List Slot}
theorem bind_c {α:Type} {m:Option α} {X:α→Option β} (H:m.bind X=some r):∃ v,m=some v∧X v=some r:=by
 cases m with
 | none=>cases H
 | some v=>exact ⟨v,rfl,H⟩
theorem tst_c {b:Bool} {X Y:Option β} (H:(bif b then X else Y)=some r) (h1:b=true→X=some r→A) (h2:b=false→Y=some r→B):Tst b A B:=by
 cases b with
 | true=>exact ⟨fun e=>h1 e H,fun e=>(by cases e)⟩
 | false=>exact ⟨fun e=>(by cases e),fun e=>h2 e H⟩
theorem tst_d {b:Bool} {X Y:Option β} (H:(bif b then X else Y)=some r) (h2:b=false→Y=some r→B) (h1:b=true→X=some r→A):Tst b A B:=tst_c H h1 h2
theorem ixs_c {α:Type} {f:α→V} {l:List α} {j:Int} {es:Nat} {X:α→Option β} {k:V→Prop} (H:(at? l j).bind X=some r) (hes:∀ a,(f a).cells.length=es) (h:∀ x,X x=some r→k (.eptr (f x).cells)):IxS es (l.map f) j k:=by
 obtain ⟨x,hx,H⟩:=bind_c H
 unfold at? at hx
 split at hx
 ·rename_i h0
  obtain ⟨h1,rfl⟩:=List.getElem?_eq_some_iff.1 hx
  exact IxS.M h0 h1 hes (h _ H)
 ·cases hx
theorem at_inv {α:Type} {l:List α} {j:Int} {x:α} (h:at? l j=some x):0≤j∧j.toNat < l.length∧l[j.toNat]?=some x:=by
 unfold at? at h
 split at h
 ·obtain ⟨h1,_⟩:=List.getElem?_eq_some_iff.1 h
  exact ⟨‹_›,h1,h⟩
 ·cases h
theorem ixa_c {α:Type} {l:List α} {n:Nat} {j:Int} {X:α→Option β} {k:Nat→Prop} (H:(arr? n l j).bind X=some r) (h:∀ x,l[j.toNat]?=some x→X x=some r→k j.toNat):IxO n j k:=by
 obtain ⟨x,hx,H⟩:=bind_c H
 unfold arr? at hx
 split at hx
 ·rename_i hn
  obtain ⟨h0,h1,h2⟩:=at_inv hx
  exact ⟨h0,hn ▸ h1,h x h2 H⟩
 ·cases hx
theorem takeK_of:∀ {l:List V} {n:Nat} {k:List V→Prop},n≤l.length→k (l.take n)→takeK l n k
 | l,0,k,_,h=>by cases l <;> exact h
 | [],n + 1,k,hn,h=>absurd hn (by simp)
 | v :: l,n + 1,k,hn,h=>takeK_of (l:=l) (n:=n) (by simpa using hn) h
theorem ldK_of:∀ {l:List V} {o sz:Nat} {ag:Bool} {k:V→Prop},o < l.length→o + agz ag sz≤l.length→k (partV ag sz (l.drop o))→ldK l o sz ag k
 | v :: l,0,sz,true,k,h0,h1,h=>takeK_of (by simpa [agz] using h1) h
 | v :: l,0,sz,false,k,h0,h1,h=>h
 | v :: l,o + 1,sz,ag,k,h0,h1,h=>ldK_of (l:=l) (o:=o) (by simpa using h0) (by rw [List.length_cons] at h1;omega) h
 | [],o,sz,ag,k,h0,h1,h=>absurd h0 (by simp)
theorem layK_of:∀ {l:List V} {o:Nat} {vs:List V} {k:List V→Prop},o + vs.length≤l.length→k (l.take o++vs++l.drop (o + vs.length))→layK l o vs k
 | l,0,[],k,_,h=>by
  have:layK l 0 [] k=k l:=by cases l <;> rfl
  rw [this];simpa using h
 | u :: l,0,v :: vs,k,hl,h=>layK_of (l:=l) (o:=0) (vs:=vs) (by simp at hl ⊢;omega) (by simpa using h)
 | u :: l,o + 1,vs,k,hl,h=>by
  refine layK_of (l:=l) (o:=o) (vs:=vs) (k:=fun r=>k (u :: r)) (by rw [List.length_cons] at hl;omega) ?_
  have e:o + 1 + vs.length=(o + vs.length) + 1:=by omega
  rw [e] at h
  simpa using h
 | [],0,v :: vs,k,hl,h=>absurd hl (by simp)
 | [],o + 1,vs,k,hl,h=>absurd hl (by simp)
theorem ldK_app {l m:List V} {o sz:Nat} {ag:Bool} {k:V→Prop} (ho:o < l.length∧o + agz ag sz≤l.length):∀ {p:List V},ldK l o sz ag k→ldK (p++l++m) (p.length + o) sz ag k:=by
 intro p h
 obtain ⟨h1,h2⟩:=ldK_ok h
 obtain ⟨hlt,ho⟩:=ho
 apply ldK_of
 ·simp only [List.length_append];omega
 ·simp only [List.length_append];cases ag <;> simp [agz] at ho ⊢ <;> omega
 ·have e:partV ag sz ((p++l++m).drop (p.length + o))=partV ag sz (l.drop o):=by
   rw [List.append_assoc,List.drop_append,List.drop_of_length_le (by omega),List.nil_append,Nat.add_sub_cancel_left,List.drop_append_of_le_length (by cases ag <;> simp [agz] at ho <;> omega)]
   cases ag with
   | true =>
    simp only [partV,if_true]
    rw [List.take_append_of_le_length (by simp [agz] at ho;rw [List.length_drop];omega)]
   | false =>
    simp only [partV,Bool.false_eq_true,if_false]
    simp [agz] at ho
    rw [List.getD_eq_getElem?_getD,List.getD_eq_getElem?_getD,List.getElem?_append_left (by rw [List.length_drop];omega)]
  rw [e];exact h2
theorem cellsM_split {α:Type} {f:α→V} {es:Nat} (hes:∀ a,(f a).cells.length=es):∀ {l:List α} {n:Nat} {x:α},l[n]?=some x→∃ p m,cellsM f l=p++(f x).cells++m∧p.length=n * es∧∀ y,cellsM f (l.set n y)=p++(f y).cells++m
 | [],n,x,h=>by simp at h
 | a :: l,0,x,h=>by
  simp only [List.getElem?_cons_zero,Option.some.injEq] at h
  subst h
  exact ⟨[],cellsM f l,rfl,by simp,fun y=>rfl⟩
 | a :: l,n + 1,x,h=>by
  obtain ⟨p,m,h1,h2,h3⟩:=cellsM_split hes (l:=l) (n:=n) (by simpa using h)
  have e:∀ (b:α) (r:List α),cellsM f (b :: r)=(f b).cells++cellsM f r:=fun b r=>by unfold cellsM;rw [List.flatMap_cons]
  refine ⟨(f a).cells++p,m,by rw [e,h1];simp only [List.append_assoc],by rw [List.length_append,hes,h2,Nat.succ_mul];omega,fun y=>?_⟩
  rw [List.set_cons_succ,e,h3];simp only [List.append_assoc]
theorem ldo_c {α:Type} {f:α→V} {l:List α} {n es off sz:Nat} {ag:Bool} {x:α} {k:V→Prop} (hx:l[n]?=some x) (hes:∀ a,(f a).cells.length=es) (o:Nat) (ho:off=n * es + o) (hs:o < es∧o + agz ag sz≤es) (h:ldK (f x).cells o sz ag k):ldK (cellsM f l) off sz ag k:=by
 obtain ⟨p,m,h1,h2,_⟩:=cellsM_split hes hx
 rw [h1,ho,← h2]
 exact ldK_app (by rw [hes];exact hs) h
theorem layK_app {l m vs:List V} {o:Nat} {k:List V→Prop}:∀ {p:List V},layK l o vs (fun l'=>k (p++l'++m))→o + vs.length≤l.length→layK (p++l++m) (p.length + o) vs k:=by
 intro p h hl
 obtain ⟨h1,h2⟩:=layK_ok h
 refine layK_of ?_ ?_
 ·simp only [List.length_append];omega
 ·have e:(p++l++m).take (p.length + o)++vs++(p++l++m).drop (p.length + o + vs.length)=p++(l.take o++vs++l.drop (o + vs.length))++m:=by
   rw [List.append_assoc p l m,List.take_append,List.take_of_length_le (by omega),Nat.add_sub_cancel_left,List.take_append_of_le_length (by omega),List.drop_append,List.drop_of_length_le (by omega),List.nil_append,Nat.add_assoc,Nat.add_sub_cancel_left,List.drop_append_of_le_length (by omega)]
   simp only [List.append_assoc]
  rw [e];exact h2
theorem sto_c {α:Type} {f:α→V} {l:List α} {n es off:Nat} {vs:List V} {x:α} {k:List V→Prop} (hx:l[n]?=some x) {x' : α} (hes:∀ a,(f a).cells.length=es) (o:Nat) (ho:off=n * es + o) (hs:o + vs.length≤es) (h' : layK (f x).cells o vs fun cs=>cs=(f x').cells) (h:k (cellsM f (l.set n x'))):layK (cellsM f l) off vs k:=by
 obtain ⟨p,m,h1,h2,h3⟩:=cellsM_split hes hx
 rw [h1,ho,← h2]
 refine layK_app ?_ (by rw [hes];exact hs)
 obtain ⟨g1,g2⟩:=layK_ok h'
 refine layK_of g1 ?_
 rw [g2,← h3];exact h
theorem bytesI_len (s:ByteArray):s.size=(bytesI s).length:=by unfold bytesI;simp
theorem slt_c {s:ByteArray} {lo hi:Option Int} {X:ByteArray→Option β} {k:V→Prop} (H:(sub? s lo hi).bind X=some r) (h:∀ x,X x=some r→k (.lit (.string x))):SlT s lo hi k:=by
 obtain ⟨x,hx,H⟩:=bind_c H
 unfold sub? at hx
 split at hx
 ·rename_i h0
  simp only [Option.some.injEq] at hx
  subst hx
  exact ⟨h0.1,h0.2.1,h0.2.2,h _ H⟩
 ·cases hx
theorem cat_c {a b:ByteArray} {X:ByteArray→Option β} {k:V→Prop} (H:(cat? a b).bind X=some r) (h:∀ x,X x=some r→k (.lit (.string x))):Cat a b k:=by
 obtain ⟨x,hx,H⟩:=bind_c H
 unfold cat? at hx
 split at hx
 ·simp only [Option.some.injEq] at hx;subst hx;exact ⟨‹_›,h _ H⟩
 ·cases hx
theorem pos_c {b:Int} {X:Unit→Option β} (H:(pos? b).bind X=some r):0≤b∧X ()=some r:=by
 obtain ⟨x,hx,H⟩:=bind_c H
 unfold pos? at hx
 split at hx
 ·exact ⟨‹_›,H⟩
 ·cases hx
theorem ask_c {α:Type} {enc:α→V} {m:Option α} {X:α→Option β} {f:Nat} {vs vs' : List V} {k:V→List Nat→List Nat→List Slot→Prop} (hc:CallsO P f vs' enc m) (H:m.bind X=some r) (hv:vs=vs') (h0:V.idlt.belowL 0 vs'=true) (h:∀ x,X x=some r→k (enc x) [] [] st):Ask P f vs st k:=by
 obtain ⟨x,hx,H⟩:=bind_c H
 exact Ask_V0 (hc x hx) hv h0 (h x H)
theorem askF_c {α:Type} {enc:α→V} {m:Option α} {X:α→Option β} {f:Nat} {vs vs' : List V} {rd:List Nat} {k:V→List Nat→List Nat→List Slot→Prop} (hc:CallsO P f vs' enc m) (H:m.bind X=some r) (ha:FzA st vs vs' rd) (h:∀ x,X x=some r→k (enc x) rd [] st):Ask P f vs st k:=by
 obtain ⟨x,hx,H⟩:=bind_c H
 exact Ask_V (hc x hx) ha (h x H)
theorem fza_ids:∀ {l:List V},V.idlt.belowL 0 l=true→FzA st l l []
 | [],_=>.nil
 | v :: l,h=>by
  simp only [V.idlt.belowL,Bool.and_eq_true] at h
  exact FzA.cons (r:=[]) (r':=[]) (.c (.id h.1)) (fza_ids h.2)
theorem fza_caps {l l' caps:List V} {rd:List Nat} (h:FzA st l l' rd) (hc:V.idlt.belowL 0 caps=true):FzA st (l++caps) (l'++caps) rd:=by
 induction h with
 | nil=>exact fza_ids hc
 | cons h _ ih=>exact .cons h ih
theorem askC2_c {α α' β' : Type} {e1:α→V} {e2:α'→V} {enc:β'→V} {f:α→α'→Option β'} {a:α} {b:α'} {X:β'→Option β} {g:Nat} {caps:List V} {v v' : V} {rd:List Nat} {k:V→List Nat→List Nat→List Slot→Prop} (hc:Clo2 P g caps e1 e2 enc f) (H:(f a b).bind X=some r) (ha:FzA st [v,v'] [e1 a,e2 b] rd) (h:∀ x,X x=some r→k (enc x) rd [] st):Callable P g∧Ask P g ([v,v']++caps) st k :=
 ⟨hc.can,askF_c (hc.calls a b) H (fza_caps ha hc.own) h⟩
theorem fzown {α:Type} {f:α→V} {l:List α} {i es frz:Nat} {full:Bool} (hi:st[i]?=some (.live (cellsM f l) frz)) (hf:frz=(cellsM f l).length) (hes:∀ a,(f a).cells.length=es) (h0:∀ a,V.idlt.belowL 0 (f a).cells=true):FzC st (.osl i 0 l.length es full) (.sl (l.map f) false) [i]:=fzc_made hi rfl hf rfl hes h0
theorem fzagg {l l' : List V} {rd:List Nat} (h:FzL st l l' rd) (h1:l'.all V.one=true):FzV st (.agg l) (.agg l') rd:=.agg h (by simpa using h1)
structure FzQ (st:List Slot) (u v:V):Prop where
 out:∃ rd,FzR st u v rd
def resOneK (fr:List V) (st:List Slot) (x:ARes) (k:V→Prop):Prop :=
 match x with
 | .tmp t=>getK fr t k
 | .cell t sz ag=>getK fr t fun v=>match v with
  | .ptr i off=>sgetK st i fun cs _=>ldK cs off sz ag k
  | _=>False
def resK (fr:List V) (st:List Slot):List ARes→(List V→Prop)→Prop
 | [],k=>k []
 | x :: xs,k=>resOneK fr st x fun v=>resK fr st xs fun vs=>k (v :: vs)
def mkRK (vs:List V) (k:V→Prop):Prop :=
 match vs with
 | [v]=>k v
 | vs=>k (.tup vs)
theorem mkRK_eq (vs:List V) (k:V→Prop):mkRK vs k=k (mkR vs):=by
 match vs with
 | []=>rfl
 | [v]=>rfl
 | v :: u :: vs=>rfl
theorem resOneK_ok {fr:List V} {st:List Slot} {x:ARes} {k:V→Prop} (h:resOneK fr st x k):∃ v,ResOne fr st x v∧k v:=by
 cases x with
 | tmp t=>simp only [resOneK,getK_eq] at h;exact ⟨_,.tmp rfl,h⟩
 | cell t sz ag =>
  simp only [resOneK,getK_eq] at h
  split at h
  ·rename_i i off hv
   obtain ⟨cs,f,h1,h2⟩:=sgetK_ok h
   obtain ⟨h3,h4⟩:=ldK_ok h2
   exact ⟨_,.cell hv h1 h3,h4⟩
  ·exact h.elim
theorem resK_ok {fr:List V} {st:List Slot}:∀ {rs:List ARes} {k:List V→Prop},resK fr st rs k→∃ vs,ResL fr st rs vs∧k vs
 | [],k,h=>⟨[],.nil,h⟩
 | x :: xs,k,h=>by
  obtain ⟨v,h1,h⟩:=resOneK_ok h
  obtain ⟨vs,h2,h⟩:=resK_ok (rs:=xs) h
  exact ⟨v :: vs,.cons h1 h2,h⟩
theorem finR_c {rs:List ARes} {fr:List V} {α:Type} {enc:α→V} {x y:α} (H:some x=some y) (h:resK fr st rs fun vs=>mkRK vs fun v=>FzQ st v (enc x)):FinQ (Fin rs (enc y)) .ret fr st:=by
 cases H
 obtain ⟨vs,h1,h2⟩:=resK_ok h
 rw [mkRK_eq] at h2
 obtain ⟨rd,h2⟩:=h2.out
 exact ⟨.inr rfl,st,.refl,vs,rd,h1,h2⟩
theorem fin0_c {rs:List ARes} {e:AExit} {fr vs:List V} {α:Type} {enc:α→V} {x y:α} (H:some x=some y) (he:e=.normal∨e=.ret) (hr:ResL fr st rs vs) (hv:mkR vs=enc x) (h0:(mkR vs).idlt 0=true):FinQ (Fin rs (enc y)) e fr st:=by
 cases H;exact ⟨he,st,.refl,vs,[],hr,hv ▸ .v (.c (.id h0))⟩
theorem cellsM_app' {α:Type} (f:α→V) (a b:List α):cellsM f (a++b)=cellsM f a++cellsM f b:=by unfold cellsM;rw [List.flatMap_append]
theorem srcM {α:Type} {f:α→V} {es:Nat} (hes:∀ a,(f a).cells.length=es) (l:List α) (fu:Bool):SrcV st es (.sl (l.map f) fu) l.length (cellsM f l) []:=by
 have:=SrcV.sl (st:=st) (es:=es) (ys:=l.map f) (f:=fu) (fun y hy=>by obtain ⟨a,_,rfl⟩:=List.mem_map.1 hy;exact hes a)
 rwa [List.length_map,cellsM_map] at this
theorem srcOwn {α:Type} {f:α→V} {es i fz:Nat} (hes:∀ a,(f a).cells.length=es) {l:List α} {cs:List V} {fu:Bool} {n:Nat} (hi:st[i]?=some (.live cs fz)) (hc:cs=cellsM f l) (hn:n=l.length):SrcV st es (.osl i 0 n es fu) l.length (cellsM f l) [i]:=by
 subst hc hn
 have hl:=cellsM_len hes l
 have:=SrcV.osl (off:=0) (n:=l.length) (es:=es) (f:=fu) hi (by omega)
 rwa [List.drop_zero,← hl,List.take_length] at this
theorem srcText (s:ByteArray):SrcX st 1 (.lit (.string s)) (bytesI s).length (cellsM V.y8 (bytesI s)) []:=by
 have h:=SrcX.str (st:=st) (es:=1) (s:=s) rfl
 have e:(bytesI s).length=s.size:=by unfold bytesI;simp
 have e2:cellsM V.y8 (bytesI s)=s.data.toList.map byteV:=by
  unfold cellsM bytesI
  rw [List.flatMap_map]
  exact flatMap_one (fun b:UInt8=>V.y8 b.toNat) _
 rw [e,e2];exact h
theorem app_len {α:Type} {F G L:List α} (h:app? F G=some L):L=F++G∧F.length + G.length≤1000000:=by
 unfold app? at h
 split at h
 ·simp only [Option.some.injEq] at h;exact ⟨h.symm,‹_›⟩
 ·cases h
theorem appN_c {α:Type} {f:α→V} {F G:List α} {id bytes es:Nat} {s x:V} {rd rd' : List Nat} {X:List α→Option β} {k:V→List Nat→List Nat→List Slot→Prop} (H:(app? F G).bind X=some r) (hes:∀ a,(f a).cells.length=es) (hs:SrcV st es s F.length (cellsM f F) rd) (hfu:s.full=true) (hx:SrcX st es x G.length (cellsM f G) rd')
  (hb:bytes≤1000) (hf:st[id]?=some .fresh) (hg:G≠[]) (h:∀ L,X L=some r→ssetK st id (.live (cellsM f L) (cellsM f L).length) fun st'=>k (.osl id 0 L.length es false) (rd++rd') [id] st'):App st id es bytes s x k:=by
 obtain ⟨L,hL,H⟩:=bind_c H
 obtain ⟨rfl,hn⟩:=app_len hL
 have:=h _ H
 rw [ssetK_eq] at this
 refine App.N hs hfu hx (List.length_pos_iff.2 hg) hn hb hf ?_
 rwa [cellsM_app',List.length_append] at this
theorem appO_c {α:Type} {f:α→V} {F G:List α} {i id bytes es fz:Nat} {x:V} {rd' : List Nat} {X:List α→Option β} {k:V→List Nat→List Nat→List Slot→Prop} (H:(app? F G).bind X=some r) (hes:∀ a,(f a).cells.length=es) (hi:st[i]?=some (.live (cellsM f F) fz)) (hz:fz≤(cellsM f F).length) (hx:SrcX st es x G.length (cellsM f G) rd')
  (hb:bytes≤1000) (hf:st[id]?=some .fresh) (hg:G≠[]) (h:∀ L,X L=some r→ssetK st i .dead fun st1=>ssetK st1 id (.live (cellsM f L) (cellsM f L).length) fun st'=>k (.osl id 0 L.length es false) (rd'++[i]) [i,id] st'):App st id es bytes (.osl i 0 F.length es false) x k:=by
 obtain ⟨L,hL,H⟩:=bind_c H
 obtain ⟨rfl,hn⟩:=app_len hL
 have:=h _ H
 rw [ssetK_eq,ssetK_eq] at this
 refine App.O hi (cellsM_len hes F) hz hx (List.length_pos_iff.2 hg) hn hb hf ?_
 rwa [cellsM_app',List.length_append] at this
theorem appP_c {α:Type} {f:α→V} {F G:List α} {i id bytes es fz:Nat} {x:V} {rd' : List Nat} {X:List α→Option β} {k:V→List Nat→List Nat→List Slot→Prop} (H:(app? F G).bind X=some r) (hes:∀ a,(f a).cells.length=es) (hi:st[i]?=some (.live (cellsM f F) fz)) (hz:fz=(cellsM f F).length) (hx:SrcX st es x G.length (cellsM f G) rd')
  (hb:bytes≤1000) (hf:st[id]?=some .fresh) (h0:∀ L,X L=some r→ssetK st i (.live (cellsM f L) (cellsM f L).length) fun st'=>k (.osl i 0 L.length es false) ([i]++rd') [] st') (h:∀ L,X L=some r→ssetK st i .dead fun st1=>ssetK st1 id (.live (cellsM f L) (cellsM f L).length) fun st'=>k (.osl id 0 L.length es false) (rd'++[i]) [i,id] st'):App st id es bytes (.osl i 0 F.length es false) x k:=by
 by_cases hg:G=[]
 ·obtain ⟨L,hL,H⟩:=bind_c H
  obtain ⟨rfl,hn⟩:=app_len hL
  subst hg hz
  have:=h0 _ H
  rw [ssetK_eq,List.append_nil] at this
  have e:st.set i (.live (cellsM f F) (cellsM f F).length)=st:=by
   apply List.ext_getElem?
   intro j
   rw [List.getElem?_set]
   split
   ·rename_i h;subst h
    split
    ·exact hi.symm
    ·rename_i h;exact absurd (List.getElem?_eq_some_iff.1 hi).1 h
   ·rfl
  rw [e] at this
  exact App.Z (srcOwn hes hi rfl rfl) hx this
 ·exact appO_c H hes hi (Nat.le_of_eq hz) hx hb hf hg h
theorem appD_c {α:Type} {f:α→V} {F G:List α} {i n id bytes es fz:Nat} {fu:Bool} {x:V} {rd' : List Nat} {X:List α→Option β} {k:V→List Nat→List Nat→List Slot→Prop} (H:(app? F G).bind X=some r) (hes:∀ a,(f a).cells.length=es) (hi:st[i]?=some (.live (cellsM f F) fz)) (hz:fz=(cellsM f F).length) (hn:n=F.length) (hfu:fu=true) (hx:SrcX st es x G.length (cellsM f G) rd')
  (hb:bytes≤1000) (hf:st[id]?=some .fresh) (h0:∀ L,X L=some r→ssetK st i (.live (cellsM f L) (cellsM f L).length) fun st'=>k (.osl i 0 L.length es fu) ([i]++rd') [] st') (h:∀ L,X L=some r→ssetK st id (.live (cellsM f L) (cellsM f L).length) fun st'=>k (.osl id 0 L.length es false) ([i]++rd') [id] st'):App st id es bytes (.osl i 0 n es fu) x k:=by
 subst hn
 by_cases hg:G=[]
 ·obtain ⟨L,hL,H⟩:=bind_c H
  obtain ⟨rfl,hn⟩:=app_len hL
  subst hg hz
  have:=h0 _ H
  rw [ssetK_eq,List.append_nil] at this
  have e:st.set i (.live (cellsM f F) (cellsM f F).length)=st:=by
   apply List.ext_getElem?
   intro j
   rw [List.getElem?_set]
   split
   ·rename_i h;subst h
    split
    ·exact hi.symm
    ·rename_i h;exact absurd (List.getElem?_eq_some_iff.1 hi).1 h
   ·rfl
  rw [e] at this
  exact App.Z (srcOwn hes hi rfl rfl) hx this
 ·exact appN_c H hes (srcOwn hes hi rfl rfl) (by rw [hfu];rfl) hx hb hf hg h
def mk? {α:Type} (n:Int) (x:α):Option (List α):=if 0≤n∧n≤1000000 then some (List.replicate n.toNat x) else none
theorem mks_cells {α:Type} {f:α→V} {x:α} {z:List V} (hz:(f x).cells=z) (h1:z.length=1):∀ n:Nat,((List.range (n * 1)).map fun k=>z.getD (k % 1) .any)=cellsM f (List.replicate n x)
 | 0=>rfl
 | n + 1=>by
  have ih:=mks_cells hz h1 n
  rw [Nat.mul_one] at ih ⊢
  rw [List.range_succ,List.map_append,ih,List.replicate_succ',cellsM_app',List.map_cons,List.map_nil]
  congr 1
  obtain ⟨v,rfl⟩:=List.length_eq_one_iff.1 h1
  unfold cellsM
  rw [List.flatMap_cons,List.flatMap_nil,hz,Nat.mod_one];rfl
theorem mks_c {α:Type} {f:α→V} {x0:α} {n:Int} {bytes:Nat} {z:List V} {X:List α→Option β} {k:Nat→List V→Bool→Prop} (H:(mk? n x0).bind X=some r) (hz:(f x0).cells=z) (h1:z.length=1) (hb:bytes≤1000) (h:∀ L,X L=some r→k L.length (cellsM f L) true):Mks 1 bytes z n n k:=by
 obtain ⟨L,hL,H⟩:=bind_c H
 unfold mk? at hL
 split at hL
 ·rename_i hn
  simp only [Option.some.injEq] at hL
  subst hL
  have:=h _ H
  rw [List.length_replicate] at this
  refine ⟨hn.1,Int.le_refl _,hn.2,hb,?_⟩
  rw [mks_cells hz h1,decide_eq_true rfl]
  exact this
 ·cases hL
theorem fzdeep {α:Type} {g:α→V} {l:List α} {i n es frz:Nat} {fu:Bool} {cs:List V} {rd:List Nat} (hi:st[i]?=some (.live cs frz)) (hf:frz=cs.length) (hn:n=l.length) (he:n * es=cs.length) (hg:∀ a,(g a).cells.length=es) (h1:∀ a,∀ u ∈ (g a).cells,u.one=true) (h:FzL st cs (cellsM g l) rd):FzV st (.osl i 0 n es fu) (.sl (l.map g) false) (i :: rd):=by
 subst hn
 have e:(l.map g).flatMap V.cells=cellsM g l:=by unfold cellsM;rw [List.flatMap_map]
 refine .osl hi (by omega) (by omega) (by simp) (fun x hx=>?_) ?_ (fun u hu=>?_)
 ·obtain ⟨a,_,rfl⟩:=List.mem_map.1 hx;exact hg a
 ·rw [List.drop_zero,he,List.take_length,e];exact h
 ·rw [e] at hu
  obtain ⟨a,_,ha⟩:=List.mem_flatMap.1 hu
  exact h1 a u ha
theorem appE_c {α:Type} {f:α→V} {G:List α} {id bytes es:Nat} {x:V} {rd' : List Nat} {fu:Bool} {X:List α→Option β} {k:V→List Nat→List Nat→List Slot→Prop} (H:(app? ([]:List α) G).bind X=some r) (hes:∀ a,(f a).cells.length=es) (hfu:fu=true) (hx:SrcX st es x G.length (cellsM f G) rd')
  (hb:bytes≤1000) (hf:st[id]?=some .fresh) (h0:X []=some r→k (.sl (List.map f []) fu) ([]++rd') [] st) (h:∀ L,X L=some r→ssetK st id (.live (cellsM f L) (cellsM f L).length) fun st'=>k (.osl id 0 L.length es false) ([]++rd') [id] st'):App st id es bytes (.sl (List.map f []) fu) x k:=by
 by_cases hg:G=[]
 ·obtain ⟨L,hL,H⟩:=bind_c H
  obtain ⟨rfl,hn⟩:=app_len hL
  subst hg
  exact App.Z (srcM hes [] fu) hx (h0 H)
 ·exact appN_c H hes (srcM hes [] fu) hfu hx hb hf hg h
theorem App.Os {id bytes es i n m frz:Nat} {cs ds' : List V} {x:V} {rd' : List Nat} {k:V→List Nat→List Nat→List Slot→Prop} (hi:st[i]?=some (.live cs frz)) (hl:cs.length=n * es) (hz:frz=0) (hx:SrcX st es x m ds' rd') (hk:0 < m) (hn:n + m≤1000000) (hb:bytes≤1000) (hf:st[id]?=some .fresh)
  (h:k (.osl id 0 (n + m) es false) (rd'++[i]) [i,id] ((st.set i .dead).set id (.live (cs++ds') 0))):App st id es bytes (.osl i 0 n es false) x k:=⟨.inr (.inr ⟨i,n,cs,frz,m,ds',rd',_,rfl,hi,hl,by omega,hx,hk,hn,hb,hf,by omega,Nat.zero_le _,h⟩)⟩
theorem finRz_c {rs:List ARes} {fr:List V} {α:Type} {enc:α→V} {x y:α} (is:List Nat) (H:some x=some y) (h:frzI is st fun st=>resK fr st rs fun vs=>mkRK vs fun v=>FzQ st v (enc x)):FinQ (Fin rs (enc y)) .ret fr st:=by
 cases H
 obtain ⟨st',hf,h⟩:=frzI_ok h
 obtain ⟨vs,h1,h2⟩:=resK_ok h
 rw [mkRK_eq] at h2
 obtain ⟨rd,h2⟩:=h2.out
 exact ⟨.inr rfl,st',hf,vs,rd,h1,h2⟩
theorem b2sI_c {l:List Int} {f:Bool} {X:ByteArray→Option β} {k:V→List Nat→Prop} (H:(text? l).bind X=some r) (h:∀ s,X s=some r→k (.lit (.string s)) []):B2S st (.sl (l.map V.y8) f) k:=by
 obtain ⟨s,hs,H⟩:=bind_c H
 have e:=text_ok hs
 rw [e]
 have e2:s=⟨s.data.toList.toArray⟩:=by cases s;simp
 have:=h s H
 rw [e2] at this
 exact B2S.I this
end
theorem fb_ {fr:List V} {st:List Slot} {t:Nat} {x y:Bool} (H:some x=some y) (h:fr.getD t .any=V.b x:=by rfl):FinQ (Fin [.tmp t] (V.b y)) .ret fr st:=fin0_c (enc:=V.b) H (.inr rfl) (.cons (.tmp h) .nil) rfl rfl
theorem fi_ {fr:List V} {st:List Slot} {t:Nat} {x y:Int} (H:some x=some y) (h:fr.getD t .any=V.i x:=by rfl):FinQ (Fin [.tmp t] (V.i y)) .ret fr st:=fin0_c (enc:=V.i) H (.inr rfl) (.cons (.tmp h) .nil) rfl rfl
end Go.Proofs.Ytpmoioopjbfhkaa

/- Plain functions (written by a program of mine). -/
namespace Go.Proofs.Ytpmoioopjbfhkaa
open Go.RowKit
structure RuntimeBoundsError where
 x:Int
 y:Int
 signed:Bool
 code:Int
abbrev RuntimeBoundsError.v (x:RuntimeBoundsError):V:=.agg [.i x.x,.i x.y,.b x.signed,.y8 x.code]
structure RuntimeErrorAddressString where
 msg:ByteArray
 addr:Int
abbrev RuntimeErrorAddressString.v (x:RuntimeErrorAddressString):V:=.agg [.s x.msg,.lit (.int .u64 x.addr)]
structure ItemItem where
 Contact:ByteArray
 Name:ByteArray
 Sub:Int
 Ver:Int
 Own:Bool
abbrev ItemItem.v (x:ItemItem):V:=.agg [.s x.Contact,.s x.Name,.i x.Sub,.i x.Ver,.b x.Own]
structure RosterGone where
 Contact:ByteArray
 Ver:Int
abbrev RosterGone.v (x:RosterGone):V:=.agg [.s x.Contact,.i x.Ver]
structure RosterState where
 Ver:Int
 Floor:Int
 Items:List ItemItem
 Gone:List RosterGone
abbrev RosterState.v (x:RosterState):V:=.agg [.i x.Ver,.i x.Floor,.sl (List.map ItemItem.v x.Items) false,.sl (List.map RosterGone.v x.Gone) false]
structure Law21Deed where
 Kind:Int
 Who:Int
 Name:Int
abbrev Law21Deed.v (x:Law21Deed):V:=.agg [.y8 x.Kind,.y8 x.Who,.y8 x.Name]
structure StanzaStanza where
 Kind:Int
 User:ByteArray
 Res:ByteArray
 Name:ByteArray
 Show:Int
 Prio:Int
 Code:Int
 N:Int
abbrev StanzaStanza.v (x:StanzaStanza):V:=.agg [.y8 x.Kind,.s x.User,.s x.Res,.s x.Name,.i x.Show,.i x.Prio,.i x.Code,.i x.N]
structure Ref22Names where
 A:ByteArray
 B:ByteArray
abbrev Ref22Names.v (x:Ref22Names):V:=.agg [.s x.A,.s x.B]
structure Ref22State where
 A:RosterState
 B:RosterState
abbrev Ref22State.v (x:Ref22State):V:=.agg [.i x.A.Ver,.i x.A.Floor,.sl (List.map ItemItem.v x.A.Items) false,.sl (List.map RosterGone.v x.A.Gone) false,.i x.B.Ver,.i x.B.Floor,.sl (List.map ItemItem.v x.B.Items) false,.sl (List.map RosterGone.v x.B.Gone) false]
structure PairAct where
 Kind:Int
 Back:Bool
abbrev PairAct.v (x:PairAct):V:=.agg [.y8 x.Kind,.b x.Back]
structure PairDone where
 Passed:Bool
 Told:Bool
 Listed:Bool
 Knows:Bool
abbrev PairDone.v (x:PairDone):V:=.agg [.b x.Passed,.b x.Told,.b x.Listed,.b x.Knows]
structure OctetRead where
 S:ByteArray
 At:Int
 Bad:Int
abbrev OctetRead.v (x:OctetRead):V:=.agg [.s x.S,.i x.At,.i x.Bad]
structure AddrAddr where
 Name:ByteArray
 Host:ByteArray
 Res:ByteArray
abbrev AddrAddr.v (x:AddrAddr):V:=.agg [.s x.Name,.s x.Host,.s x.Res]
structure UtfForm where
 from_:Int
 mark:Int
 bits:Int
abbrev UtfForm.v (x:UtfForm):V:=.agg [.i x.from_,.y8 x.mark,.y8 x.bits]
end Go.Proofs.Ytpmoioopjbfhkaa

/- What is read of arguments: what it stands for, type by type. -/
namespace Go.Proofs.Ytpmoioopjbfhkaa
open Go.ChangeShapes Go.WideShapes Go.ChangeAt Go.RowKit Go.Joins Go.Deep
section
variable {H : Type} {enc : TypeId × Value → H} {P : Program} {W : World} {spare : Nat → Bool} {held : Bool} {fuel : Nat} {t e : TypeId} {cs : List Value} {y : DataW H × List MemPlace}
abbrev MW (W:World):Mem:=fun a=>W.cell? a
theorem repL_one {m:Mem} {bk:Bks} {c:Value} {v:V} (h:Rep m bk c v):RepL m bk [c] [v] :=
 ⟨rfl,fun j g1 g2=>match j,g1 with
  | 0,_=>h
  | j + 1,g=>absurd g (by simp)⟩
theorem repL_nil {m:Mem} {bk:Bks}:RepL m bk [] []:=⟨rfl,fun j g1 g2=>absurd g1 (by simp)⟩
theorem repL_app {m:Mem} {bk:Bks} {c1 c2:List Value} {v1 v2:List V} (h1:RepL m bk c1 v1) (h2:RepL m bk c2 v2):RepL m bk (c1++c2) (v1++v2):=by
 obtain ⟨e1,h1⟩:=h1
 obtain ⟨e2,h2⟩:=h2
 refine ⟨by rw [List.length_append,List.length_append,e1,e2],fun j g1 g2=>?_⟩
 rw [List.length_append] at g1
 by_cases h:j < c1.length
 ·rw [List.getElem_append_left h,List.getElem_append_left (by omega)]
  exact h1 j h _
 ·rw [List.getElem_append_right (by omega),List.getElem_append_right (by omega)]
  have:=h2 (j - c1.length) (by omega) (by omega)
  have e:j - v1.length=j - c1.length:=by omega
  simp only [e]
  exact this
theorem rd_int {k:IntKind} (ht:P.underlying t=some (.int k)) (h:DataW.trod enc P W 0 spare held fuel t cs=some y):∃ n,(Lit.int k n).wf=true∧RepL (MW W) noBk cs [.lit (.int k n)]:=by
 obtain ⟨n,rfl,_,wf⟩:=DataW.trod_int ht h
 exact ⟨n,wf,repL_one (.lit rfl)⟩
theorem rd_bool (ht:P.underlying t=some .bool) (h:DataW.trod enc P W 0 spare held fuel t cs=some y):∃ b,RepL (MW W) noBk cs [.lit (.bool b)]:=by
 obtain ⟨n,rfl,_⟩:=DataW.trod_bool ht h
 exact ⟨n,repL_one (.lit rfl)⟩
theorem rd_string (ht:P.underlying t=some .string) (h:DataW.trod enc P W 0 spare held fuel t cs=some y):∃ s,RepL (MW W) noBk cs [.lit (.string s)]:=by
 obtain ⟨n,rfl,_⟩:=DataW.trod_string ht h
 exact ⟨n,repL_one (.lit rfl)⟩
theorem rd_slice {α:Type} {f:α→V} {es:Nat} {wf:α→Prop} (ht:P.underlying t=some (.slice e)) (hes:∀ a,(f a).cells.length=es) (h1:∀ a,∀ v ∈ (f a).cells,v.one=true) (hp:0 < es) (hce:P.cellsOf e=es)
  (hel:∀ n cs y,DataW.trod enc P W 0 spare held n e cs=some y→∃ x,wf x∧RepL (MW W) noBk cs (f x).cells) (h:DataW.trod enc P W 0 spare held fuel t cs=some y):∃ l:List α,(∀ x ∈ l,wf x)∧RepL (MW W) noBk cs [.sl (l.map f) false]:=by
 rcases open_slice ht h with ⟨rfl,_⟩ | ⟨a,len,cap,m,n,D,Pl,rfl,_,hl,_,hm,_,hall⟩
 ·exact ⟨[],by simp,repL_one (.slnil fun e=>by cases e)⟩
 ·rcases Nat.eq_zero_or_pos len with rfl | hpos
  ·exact ⟨[],by simp,repL_one (.slnil fun e=>by cases e)⟩
  ·have hlm:len≤m:=by rw [hm];split <;> omega
   have hx:∀ i,i < len→∃ (x:{x:α // wf x}) (cs:List Value),W.cells? 0 (a.add (i * es)) es=some cs∧∀ j (hj:j < (f x.1).cells.length) (hj' : j < cs.length),Rep (fun p=>W.cell? p) noBk cs[j] (f x.1).cells[j]:=by
    intro i hi
    obtain ⟨cs',hc,hd⟩:=hall i (by omega)
    rw [hce] at hc
    obtain ⟨x,hw,hr⟩:=hel _ _ _ hd
    exact ⟨⟨x,hw⟩,cs',hc,fun j hj hj'=>hr.2 j hj' hj⟩
   obtain ⟨x0,_⟩:=hx 0 hpos
   haveI:Inhabited {x:α // wf x}:=⟨x0⟩
   obtain ⟨l,_,hr⟩:=rep_slice (f:=fun x:{x:α // wf x}=>f x.1) (fun a=>hes a.1) (fun a=>h1 a.1) hp hl hx
   refine ⟨l.map (·.1),?_,?_⟩
   ·intro x hx
    obtain ⟨y,_,rfl⟩:=List.mem_map.1 hx
    exact y.2
   ·rw [List.map_map];exact repL_one hr
theorem rep_aggL {m:Mem} {bk:Bks} {cs:Array Value} {vs:List V} (h:RepL m bk cs.toList vs) (h1:∀ u ∈ vs,u.one=true):Rep m bk (.agg cs) (.agg vs):=rep_agg h h1
theorem get_some {α:Type} {xs:List α} {n i:Nat} (h:xs.length=n) (hi:i < n):∃ y,xs[i]?=some y:=⟨xs[i],List.getElem?_eq_getElem (by omega)⟩
theorem repAr1 {m:Mem} {a:Value} {x:V} (h1:Rep m noBk a x):RepA m noBk #[a] [x] :=
 ⟨rfl,fun j g1 g2=>match j,g1 with
  | 0,_=>h1
  | j + 1,g=>absurd g (by simp)⟩
theorem repAr2 {m:Mem} {a b:Value} {x y:V} (h1:Rep m noBk a x) (h2:Rep m noBk b y):RepA m noBk #[a,b] [x,y] :=
 ⟨rfl,fun j g1 g2=>match j,g1 with
  | 0,_=>h1
  | 1,_=>h2
  | j + 2,g=>absurd g (by simp)⟩
theorem callsO_true {f:FuncId} {args:List V} {m:Option Bool} (h:CallsO P f args V.b m) (hm:m=some true):CallsV P f args (.b true):=h true hm
end
end Go.Proofs.Ytpmoioopjbfhkaa

/- Contracts that were proved by hand, as plain functions. -/
namespace Go.Proofs.Ytpmoioopjbfhkaa
open Go.RowKit
theorem callsO_if {α:Type} {P:Program} {f:FuncId} {args:List V} {enc:α→V} {c:Prop} [Decidable c] {v:α} (h:c→CallsV P f args (enc v)):CallsO P f args enc (if c then some v else none):=by
 intro r hr
 split at hr
 ·cases hr;exact h ‹_›
 ·cases hr
def p_addr_IsBare (s:ByteArray):Option Bool:=if s.size≤100000 then some (isBareL s.data.toList) else none
theorem p_addr_IsBare_v (s:ByteArray):CallsO Try.prog 49 [.s s] V.b (p_addr_IsBare s):=callsO_if fun h=>isBare_v s h
def p_utf_Plain (s:ByteArray):Option Bool:=if s.size≤100000 then some (plainL s.data.toList) else none
theorem p_utf_Plain_v (s:ByteArray):CallsO Try.prog 62 [.s s] V.b (p_utf_Plain s):=callsO_if fun h=>plain_v s h
def p_strings_Compare (a b:ByteArray):Option Int:=some (Lib.compareBytes a.data.toList b.data.toList)
theorem p_strings_Compare_v (a b:ByteArray):CallsO Try.prog 82 [.s a,.s b] V.i (p_strings_Compare a b):=by
 intro r hr
 cases hr
 exact callsV_old #[.string a,.string b] (fun _ _ h=>lits_eq (vs:=[.string a,.string b]) h) (fun w _=>ret_of ((Try.strings_Compare a b w).mono fun e w' h=>⟨h.1,h.2.symm⟩)) fun _=>.lit rfl
end Go.Proofs.Ytpmoioopjbfhkaa

/- slices.Insert: what is of no type: its four roads as laws on memory, and what they come to on lists. -/
namespace Go.Proofs.Ytpmoioopjbfhkaa
open Go.RowKit
def infB (P:Program) (e:TypeId) (es:Nat):Bool:=match P.info? e with
 | some i=>i.size == es && (match i.zero with | some z=>z.cells.size == es | none=>false) && decide (i.bytes≤1000)
 | none=>false
theorem infB_ok {P:Program} {e:TypeId} {es:Nat} (h:infB P e es=true):∃ i z,P.info? e=some i∧i.size=es∧i.zero=some z∧z.cells.size=es∧i.bytes≤1000:=by
 unfold infB at h
 split at h
 ·rename_i i hi
  simp only [Bool.and_eq_true,beq_iff_eq,decide_eq_true_eq] at h
  obtain ⟨⟨h1,h2⟩,h3⟩:=h
  split at h2
  ·rename_i z hz
   exact ⟨i,z,hi,h1,hz,by simpa using h2,h3⟩
  ·cases h2
 ·cases h
structure InsRoads (P:Program) (k:FuncId) (es:Nat) (E:TypeId):Prop where
 shift:∀ (b n c i vb voff vc:Nat) (cs vs:List Value) (w:World) (tA tB:TypeId) (kA kB:Nat),i < n→n + 1≤c→n + 1≤1000000→vb≠b→cs.length=n * es→vs.length=es →
  (∀ j v,cs[j]?=some v→w.cell? ⟨b,j,none⟩=some v)→(∀ j,j < (n + 1) * es→(w.cell? ⟨b,j,none⟩).isSome=true)→(∀ j,j < (n + 1) * es→w.frozen? ⟨b,j,none⟩=false) →
  (∀ j v,vs[j]?=some v→w.cell? ⟨vb,voff + j,none⟩=some v)→(∀ v ∈ cs,v.oneCell'=true)→(∀ v ∈ vs,v.oneCell'=true) →
  w.shape? vb=some (tA,kA)→w.shape? b=some (tB,kB)→kA≠0→kB≠0→w.frozen? ⟨b,kB,none⟩=false →
  Calls P k #[.slice (some ⟨b,0,none⟩) n c,.int .i64 i,.slice (some ⟨vb,voff,none⟩) 1 vc] w fun e w' =>
   e=.returned (.slice (some ⟨b,0,none⟩) (n + 1) c)∧w'=(w.drew.setCells b ((i + 1) * es) (cs.drop (i * es))).setCells b (i * es) vs
 end_room:∀ (b n c vb voff vc:Nat) (vs:List Value) (w:World),n + 1≤c→n + 1≤1000000→vs.length=es →
  (∀ j,j < es→(w.cell? ⟨b,n * es + j,none⟩).isSome=true)→(∀ j,j < es→w.frozen? ⟨b,n * es + j,none⟩=false) →
  (∀ j v,vs[j]?=some v→w.cell? ⟨vb,voff + j,none⟩=some v)→(∀ v ∈ vs,v.oneCell'=true) →
  Calls P k #[.slice (some ⟨b,0,none⟩) n c,.int .i64 n,.slice (some ⟨vb,voff,none⟩) 1 vc] w fun e w' =>
   e=.returned (.slice (some ⟨b,0,none⟩) (n + 1) c)∧w'=w.setCells b (n * es) vs
 end_grow:∀ (base:Option Addr) (n c vb voff vc:Nat) (cs vs:List Value) (w:World),n≤c→c < n + 1→n + 1≤1000000→cs.length=n * es→vs.length=es→(base=none→n=0) →
  (∀ a,base=some a→∀ j v,cs[j]?=some v→w.cell? (a.add j)=some v)→(∀ j v,vs[j]?=some v→w.cell? ⟨vb,voff + j,none⟩=some v)→(∀ v ∈ vs,v.oneCell'=true) →
  Calls P k #[.slice base n c,.int .i64 n,.slice (some ⟨vb,voff,none⟩) 1 vc] w fun e w' =>
   ∃ zs:Array Value,e=.returned (.slice (some ⟨w.heap.size,0,none⟩) (n + 1) (grownCap w (n + 1) c E))∧w'=w.drew.alloc (.cells ((cs++vs).toArray++zs) E)
 grow:∀ (b n c i vb voff vc:Nat) (cs vs:List Value) (w:World),i < n→n≤c→c < n + 1→n + 1≤1000000→cs.length=n * es→vs.length=es →
  (∀ j v,cs[j]?=some v→w.cell? ⟨b,j,none⟩=some v)→(∀ j v,vs[j]?=some v→w.cell? ⟨vb,voff + j,none⟩=some v)→(∀ v ∈ cs,v.oneCell'=true)→(∀ v ∈ vs,v.oneCell'=true) →
  Calls P k #[.slice (some ⟨b,0,none⟩) n c,.int .i64 i,.slice (some ⟨vb,voff,none⟩) 1 vc] w fun e w' =>
   ∃ ROW:Array Value,(n + 1) * es≤ROW.size∧(∀ (j:Nat) (v:Value),(cs.take (i * es))[j]?=some v→ROW[j]?=some v)∧e=.returned (.slice (some ⟨w.heap.size,0,none⟩) (n + 1) (grownCap w (n + 1) c E)) ∧
    w'=(((w.alloc (.cells ROW E)).drew.setCells w.heap.size (i * es) vs).drew).setCells w.heap.size ((i + 1) * es) (cs.drop (i * es))
end Go.Proofs.Ytpmoioopjbfhkaa

/- Own lists: slices.Clone, what slices.Insert leaves, calls that only read an own list. -/
namespace Go.Proofs.Ytpmoioopjbfhkaa
open Go.RowKit
structure CloRoads (P:Program) (k:FuncId) (es:Nat) (E:TypeId):Prop where
 some_:∀ (A:Addr) (n c:Nat) (cs:List Value) (w:World),0 < n→n≤1000000→cs.length=n * es→(∀ j v,cs[j]?=some v→w.cell? (A.add j)=some v)→(∀ v ∈ cs,v.oneCell'=true) →
  Calls P k #[.slice (some A) n c] w fun e w'=>∃ ZS:Array Value,e=.returned (.slice (some ⟨w.heap.size + 1,0,none⟩) n (grownCap (w.alloc (.cells #[] E)) n 0 E))∧w'=(w.alloc (.cells #[] E)).drew.alloc (.cells (cs.toArray++ZS) E)∧grownCap (w.alloc (.cells #[] E)) n 0 E * es≤(cs.toArray++ZS).size
 zero_:∀ (A:Addr) (c:Nat) (w:World),Calls P k #[.slice (some A) 0 c] w fun e w'=>e=.returned (.slice (some ⟨w.heap.size,0,none⟩) 0 0)∧∃ q,w'=(w.alloc (.cells #[] E)).drewN q
 nil_:∀ (n c:Nat) (w:World),Calls P k #[.slice none n c] w fun e w'=>e=.returned (.slice none 0 0)∧w'=w
def clone? {α:Type} (l:List α):Option (List α):=if l.length≤1000000 then some l else none
theorem cargs1 {cargs:Array Value} (h:cargs.size=1):∃ a,cargs=#[a] :=
 ⟨cargs[0],by apply Array.ext;simp [h];intro i a b;simp at b;subst b;rfl⟩
theorem clo_ne {P:Program} {k:FuncId} {es:Nat} {E:TypeId} (hR:CloRoads P k es E) {α:Type} {f:α→V} (hes:∀ a,(f a).cells.length=es) (hone:∀ a,∀ u ∈ (f a).cells,u.one=true)
  {id:Nat} {st:List Slot} (l:List α) (fu:Bool) (hne:l≠[]) (hl:l.length≤1000000) (hi:st[id]?=some .fresh):CallsS P k [.sl (l.map f) fu] st (.osl id 0 l.length es false) (st.set id (.live (cellsM f l) 0)):=by
 intro B m0 m bk w cargs hg hsim hargs
 obtain ⟨hsz,hrp⟩:=hargs
 obtain ⟨c0,rfl⟩:=cargs1 hsz
 have hr0:Rep m bk c0 (.sl (l.map f) fu):=hrp 0 (by simp) (by simp)
 have hpos:0 < l.length:=List.length_pos_iff.2 hne
 obtain ⟨b,o,cap,us,rfl,hvm,hvr⟩ : ∃ (b o cap:Nat) (us:Nat→Value),c0=.slice (some ⟨b,o,none⟩) l.length cap∧(∀ j,j < (cellsM f l).length→m ⟨b,o + j,none⟩=some (us j))∧(∀ j (hj:j < (cellsM f l).length),Rep m noBk (us j) (cellsM f l)[j]):=by
  generalize hxs:l.map f=xs at hr0
  cases hr0 with
  | @sl _ b o n cap es' _ _ us hn hcc hf hes' h1 hm hr =>
   subst hxs
   rw [cellsM_map] at hm
   refine ⟨b,o,cap,us,by rw [hn];simp,hm,fun j hj=>?_⟩
   have:=hr j (by rw [cellsM_map];exact hj)
   simpa only [cellsM_map] using this
  | slnil=>simp at hxs;exact absurd hxs hne
 have hM:=cellsM_len hes l
 obtain ⟨cs,hcsd⟩ : ∃ cs,cs=(List.range (cellsM f l).length).map us:=⟨_,rfl⟩
 have hcl:cs.length=(cellsM f l).length:=by rw [hcsd];simp
 have hone' : ∀ u ∈ cellsM f l,u.one=true:=fun u hu=>by
  unfold cellsM at hu
  obtain ⟨a,_,ha⟩:=List.mem_flatMap.1 hu
  exact hone a u ha
 have hrc:RepL m noBk cs (cellsM f l):=⟨hcl,fun j g1 g2=>by
  have:=hvr j g2
  simpa only [hcsd,List.getElem_map,List.getElem_range] using this⟩
 have h:=hR.some_ ⟨b,o,none⟩ l.length cap cs w hpos hl (by rw [hcl,hM]) (fun j v hj=>by
  have hj' : j < (cellsM f l).length:=by have:=(List.getElem?_eq_some_iff.1 hj).1;omega
  rw [hcsd,List.getElem?_map,List.getElem?_range hj'] at hj
  rw [Addr.add_lit,← hj]
  exact hsim.mem _ _ (hvm j hj')) (rep_one_cells hrc hone')
 refine h.mono ?_
 rintro e w' ⟨ZS,rfl,rfl,hcap⟩
 have hb1:Bel B w (w.alloc (.cells #[] E)):=(Bel.refl B w).alloc hsim.base _
 have hsim1:Sim B m0 m bk (w.alloc (.cells #[] E)) st:=hsim.world (by simp) (fun k hk=>by show (w.heap.push _)[k]?=_;rw [Array.getElem?_push,if_neg (by omega)])
 obtain ⟨m',bk',g1,g2,g3,g4,g5⟩:=make_aft (w':=(w.alloc (.cells #[] E)).drew.alloc (.cells (cs.toArray++ZS) E)) (lo:=0) (hi:=0) (t:=E) (arr:=cs.toArray++ZS) (c:=.slice (some ⟨w.heap.size + 1,0,none⟩) l.length (grownCap (w.alloc (.cells #[] E)) l.length 0 E)) (v:=.osl id 0 l.length es false) (cs:=cellsM f l) hsim1 hi (.inr rfl) (Nat.le_refl _)
  (by
   rw [← hcl]
   simp only [Array.toList_append,List.take_left]
   exact ⟨hrc.1,fun j a b=>(hrc.2 j a b).mono (fun _ _ h=>h) fun _ _ h=>by cases h⟩) hone'
  (.osl (b:=w.heap.size + 1) (sz:=(cs.toArray++ZS).size) (by simp [newBk]) (grownCap_ge _ _ _ _) (fun e=>by cases e) (by rw [Nat.zero_add];exact hcap))
 exact ⟨_,rfl,m',bk',g1,g2,g3,g4,hb1.trans g5⟩
theorem clo_nil {P:Program} {k:FuncId} {es:Nat} {E:TypeId} (hR:CloRoads P k es E) {α:Type} {f:α→V} (fu:Bool):CallsV P k [.sl (List.map f ([]:List α)) fu] (.sl (List.map f ([]:List α)) true):=by
 intro m w cargs hg hm hargs
 obtain ⟨hsz,hrp⟩:=hargs
 obtain ⟨c0,rfl⟩:=cargs1 hsz
 have hr0:Rep m noBk c0 (.sl [] fu):=hrp 0 (by simp) (by simp)
 obtain ⟨a,cap,rfl⟩ : ∃ a cap,c0=.slice a 0 cap:=by
  cases hr0 with
  | sl hn=>exact ⟨_,_,by rw [hn];rfl⟩
  | slnil=>exact ⟨_,_,rfl⟩
 cases a with
 | none =>
  refine (hR.nil_ 0 cap w).mono ?_
  rintro e w' ⟨rfl,rfl⟩
  exact ⟨_,m,rfl,Below.refl _ _,hm,fun _ _ h=>h,fun a u h=>.inl h,.slnil fun _=>rfl⟩
 | some A =>
  refine (hR.zero_ A cap w).mono ?_
  rintro e w' ⟨rfl,q,rfl⟩
  have hb:Below w.heap.size w ((w.alloc (.cells #[] E)).drewN q):=by
   have h:=(Below.refl w.heap.size w).alloc (Nat.le_refl _) (.cells #[] E)
   exact ⟨h.1,h.2,h.3,h.4,h.5⟩
  refine ⟨_,m,rfl,hb,fun a u h=>?_,fun _ _ h=>h,fun a u h=>.inl h,.slnil fun _=>rfl⟩
  have g:=hm a u h
  rw [← g]
  exact World.cell?_of_block (w:=w) (hb.block _ (cell_lt g))
section
variable {β : Type} {r : β} {P : Program} {st : List Slot}
theorem clone_c {k:FuncId} {es:Nat} {E:TypeId} (hR:CloRoads P k es E) {α:Type} {f:α→V} {l:List α} {X:List α→Option β} {K:V→List Nat→List Nat→List Slot→Prop} {id:Nat} {fu:Bool} (H:(clone? l).bind X=some r) (hes:∀ a,(f a).cells.length=es) (hone:∀ a,(f a).cells.all V.one=true)
  (hf:st[id]?=some .fresh) (hA:X []=some r→K (.sl (List.map f []) true) [] [] st) (hB:∀ L,X L=some r→ssetK st id (.live (cellsM f L) 0) fun st'=>K (.osl id 0 L.length es false) [] [id] st'):Ask P k [.sl (l.map f) fu] st K:=by
 obtain ⟨L,hL,H⟩:=bind_c H
 unfold clone? at hL
 split at hL
 ·rename_i hl
  simp only [Option.some.injEq] at hL
  subst hL
  by_cases hne:l=[]
  ·subst hne
   exact Ask_V0 (clo_nil hR fu) rfl rfl (hA H)
  ·have:=hB l H
   rw [ssetK_eq] at this
   exact Ask_L (rd:=[]) (ef:=[(id,.live (cellsM f l) 0)]) (fun st2 hl2 h2=>clo_ne hR hes (fun a u hu=>List.all_eq_true.1 (hone a) u hu) l fu hne hl ((h2 id (.inr (by simp))).trans hf)) this
 ·cases hL
end
def V.litD:V→Bool
 | .lit _=>true
 | .agg cs | .tup cs=>litL cs
 | .sl [] _=>true
 | _=>false
where litL:List V→Bool
 | []=>true
 | v :: vs=>v.litD && litL vs
theorem litL_get:∀ {l:List V},V.litD.litL l=true→∀ j (h:j < l.length),l[j].litD=true
 | v :: l,h,0,_=>by simp [V.litD.litL] at h;simpa using h.1
 | v :: l,h,j + 1,hj=>by simp [V.litD.litL] at h;simpa using litL_get h.2 j (by simpa using hj)
theorem Rep.litD {m:Mem} {bk:Bks} {c:Value} {v:V} (h:Rep m bk c v):v.litD=true→∀ (m' : Mem) (bk' : Bks),Rep m' bk' c v:=by
 induction h with
 | lit h=>intro _ _ _;exact .lit h
 | agg hl h1 _ ih=>intro hv m' bk';exact .agg hl h1 fun j a b=>ih j a b (litL_get (by simpa [V.litD] using hv) j b) m' bk'
 | tup hl _ ih=>intro hv m' bk';exact .tup hl fun j a b=>ih j a b (litL_get (by simpa [V.litD] using hv) j b) m' bk'
 | @sl bk b o n cap es full xs us hn hc hf hes h1 hm h _ =>
  intro hv m' bk'
  cases xs with
  | nil=>exact .sl (us:=us) hn hc hf hes h1 (fun k hk=>absurd hk (by simp)) (fun k hk=>absurd hk (by simp))
  | cons x xs=>simp [V.litD] at hv
 | slnil hf=>intro _ _ _;exact .slnil hf
 | _=>intro hv;simp [V.litD] at hv
end Go.Proofs.Ytpmoioopjbfhkaa

/- A contract that speaks of one own list holds among others. -/
namespace Go.Proofs.Ytpmoioopjbfhkaa
open Go.RowKit
def ArgsAt (st:List Slot) (id:Nat) (args args0:List V):Prop :=
 ∀ (B:Nat) (m0 m mb:Mem) (bk:Bks) (w:World) (cargs:Array Value),Sim B m0 m bk w st→RepA m bk cargs args→(∀ a u,m a=some u→mb a=some u) →
  (∀ (j:Nat) (c:List V) (g:Nat) (x:Nat × Nat),j≠id→st[j]?=some (.live c g)→bk j=some x→∀ a:Addr,a.block=x.1→mb a=w.cell? a)→RepA mb (cutBk 1 fun i=>bk (sgm [id] i)) cargs args0
open Classical in
theorem callsS_frameG {P:Program} {f:FuncId} {args args0:List V} {v0 v:V} {cs cs' : List V} {fz fz' : Nat} {st:List Slot} {id:Nat} (h:CallsS P f args0 [.live cs fz] v0 [.live cs' fz']) (ha:ArgsAt st id args args0) (hi:st[id]?=some (.live cs fz)) (h0:V.idlt.belowL 0 cs=true) (h0' : V.litD.litL cs'=true)
  (hv:(∃ off n es fu,v0=.osl 0 off n es fu∧v=.osl id off n es fu)∨v0.litD=true∧v=v0):CallsS P f args st v (st.set id (.live cs' fz')):=by
 intro B m0 m bk w cargs hg hsim hargs
 have hidl:=(List.getElem?_eq_some_iff.1 hi).1
 obtain ⟨b,sz,arr,t,lo,hi',hl⟩:=hsim.blk id cs fz hi
 let oth:Nat→Prop:=fun k=>∃ (j:Nat) (c:List V) (g:Nat) (x:Nat × Nat),j≠id∧st[j]?=some (.live c g)∧bk j=some x∧x.1=k
 let mb:Mem:=fun a=>if oth a.block then w.cell? a else m a
 have nob:¬ oth b:=by
  rintro ⟨j,c,g,x,h1,h2,h3,h4⟩
  exact h1 (hsim.inj j id c g cs fz x (b,sz) h2 hi h3 hl.at_ h4)
 have mbo:∀ a,oth a.block→mb a=w.cell? a:=fun a h=>if_pos h
 have mbn:∀ a,¬ oth a.block→mb a=m a:=fun a h=>if_neg h
 have mle:∀ a u,m a=some u→mb a=some u:=fun a u hu=>by
  by_cases ho:oth a.block
  ·rw [mbo a ho];exact hsim.mem a u hu
  ·rw [mbn a ho];exact hu
 have hb1:(cutBk 1 fun i=>bk (sgm [id] i)) 0=some (b,sz):=by
  have:sgm [id] 0=id:=rfl
  simp only [cutBk,this,hl.at_];rfl
 have sim1:Sim B mb mb (cutBk 1 fun i=>bk (sgm [id] i)) w [.live cs fz]:=by
  refine ⟨hsim.base,fun a u hu=>?_,fun _ _ h=>h,fun _ _ h=>.inl h,fun k c g hk=>?_,fun i j ci fi cj fj x y h1 h2 _ _ _=>?_,fun k hk=>?_⟩
  ·by_cases ho:oth a.block
   ·rw [mbo a ho] at hu;exact hu
   ·rw [mbn a ho] at hu;exact hsim.mem a u hu
  ·have hk0:k=0:=by have:=(List.getElem?_eq_some_iff.1 hk).1;simpa using this
   subst hk0
   simp only [List.getElem?_cons_zero,Option.some.injEq,Slot.live.injEq] at hk
   obtain ⟨rfl,rfl⟩:=hk
   refine ⟨b,sz,arr,t,lo,hi',⟨hb1,hl.own,hl.heap,hl.size,hl.free,hl.fit,hl.one,fun k hk=>?_,fun k hk=>?_,fun k hk=>?_⟩⟩
   ·obtain ⟨u,q1,q2⟩:=hl.rep k hk
    exact ⟨u,q1,(q2.zero (belowL_get h0 k hk)).mono mle fun _ _ h=>h⟩
   ·rw [mbn _ nob];exact hl.mu k hk
   ·rw [mbn _ nob];exact hl.fz k hk
  ·have e1:i=0:=by have:=(List.getElem?_eq_some_iff.1 h1).1;simpa using this
   have e2:j=0:=by have:=(List.getElem?_eq_some_iff.1 h2).1;simpa using this
   rw [e1,e2]
  ·unfold cutBk
   rw [if_neg]
   intro hlt
   have:k=0:=by omega
   subst this
   rcases hk with hk | hk <;> simp at hk
 have args1:RepA mb (cutBk 1 fun i=>bk (sgm [id] i)) cargs args0 :=
  ha B m0 m mb bk w cargs hsim hargs mle fun j c g x h1 h2 h3 a h4=>mbo a ⟨j,c,g,x,h1,h2,h3,h4.symm⟩
 have hg1:GM mb:=by obtain ⟨n,hn⟩:=hg;exact ⟨n,mle _ _ hn⟩
 refine (h B mb mb _ w cargs hg1 sim1 args1).mono ?_
 rintro e w' ⟨c,rfl,m',bk',g1,g2,g3,g4,g5⟩
 let m2:Mem:=fun a=>if oth a.block then m a else m' a
 have m2o:∀ a,oth a.block→m2 a=m a:=fun a h=>if_pos h
 have m2n:∀ a,¬ oth a.block→m2 a=m' a:=fun a h=>if_neg h
 have m_2:∀ a u,m a=some u→m2 a=some u:=fun a u hu=>by
  by_cases ho:oth a.block
  ·rw [m2o a ho];exact hu
  ·rw [m2n a ho];exact g3 _ _ (mle _ _ hu)
 have m2_:∀ a u,m2 a=some u→m' a=some u:=fun a u hu=>by
  by_cases ho:oth a.block
  ·rw [m2o a ho] at hu;exact g3 _ _ (mle _ _ hu)
  ·rw [m2n a ho] at hu;exact hu
 obtain ⟨b',sz',arr',t',lo',hi2,hl'⟩:=g1.blk 0 cs' fz' rfl
 have hbe:some (b',sz')=some (b,sz):=by rw [← hl'.at_,g4 0 _ hb1]
 simp only [Option.some.injEq,Prod.mk.injEq] at hbe
 obtain ⟨rfl,rfl⟩:=hbe
 have back:∀ (k:Nat) (c:List V) (g:Nat),k≠id→(st.set id (.live cs' fz'))[k]?=some (.live c g)→st[k]?=some (.live c g):=fun k c g hk h=>by
  rwa [List.getElem?_set,if_neg (fun e=>hk e.symm)] at h
 refine ⟨c,rfl,m2,bk,⟨Nat.le_trans hsim.base g5.size,fun a u hu=>g1.mem a u (m2_ a u hu),fun a u hu=>m_2 _ _ (hsim.ext a u hu),fun a u hu=>?_,fun k c g hk=>?_,fun i j ci fi cj fj x y h1 h2 hx hy he=>?_,fun k hk=>?_⟩,?_,m_2,fun _ _ h=>h,g5⟩
 ·by_cases ho:oth a.block
  ·rw [m2o a ho] at hu;exact hsim.old a u hu
  ·rw [m2n a ho] at hu
   rcases g1.old a u hu with q | q
   ·rw [mbn a ho] at q;exact hsim.old a u q
   ·exact .inr q
 ·by_cases hk0:k=id
  ·subst hk0
   rw [List.getElem?_set,if_pos rfl,if_pos hidl] at hk
   simp only [Option.some.injEq,Slot.live.injEq] at hk
   obtain ⟨rfl,rfl⟩:=hk
   refine ⟨b',sz',arr',t',lo',hi2,⟨hl.at_,hl.own,hl'.heap,hl'.size,hl'.free,hl'.fit,hl'.one,fun j hj=>?_,fun j hj=>?_,fun j hj=>?_⟩⟩
   ·obtain ⟨u,q1,q2⟩:=hl'.rep j hj
    exact ⟨u,q1,q2.litD (litL_get h0' j hj) m2 bk⟩
   ·rw [m2n _ nob];exact hl'.mu j hj
   ·rw [m2n _ nob];exact hl'.fz j hj
  ·have hks:=back k c g hk0 hk
   obtain ⟨b2,sz2,arr2,t2,lo2,hi3,h2⟩:=hsim.blk k c g hks
   have ho:oth b2:=⟨k,c,g,(b2,sz2),hk0,hks,h2.at_,rfl⟩
   obtain ⟨arr3,q1,q2⟩:=g5.shp b2 arr2 t2 lo2 hi3 h2.heap
   have e3:arr3=arr2:=by
    apply Array.ext q2
    intro i i1 i2
    have c1:w.cell? ⟨b2,i,none⟩=some arr2[i]:=by simp [World.cell?,h2.heap,i2]
    have c2:mb ⟨b2,i,none⟩=some arr2[i]:=by rw [mbo _ ho];exact c1
    have c3:=g1.mem _ _ (g3 _ _ c2)
    simp only [World.cell?,q1] at c3
    simpa [i1] using c3
   subst e3
   refine ⟨b2,sz2,arr3,t2,lo2,hi3,⟨h2.at_,h2.own,q1,h2.size,h2.free,h2.fit,h2.one,fun j hj=>?_,fun j hj=>?_,fun j hj=>?_⟩⟩
   ·obtain ⟨u,r1,r2⟩:=h2.rep j hj
    exact ⟨u,r1,r2.mono m_2 fun _ _ h=>h⟩
   ·rw [m2o _ ho];exact h2.mu j hj
   ·rw [m2o _ ho];exact h2.fz j hj
 ·have aux:∀ (a:Nat) (ci:List V) (fi:Nat),(st.set id (.live cs' fz'))[a]?=some (.live ci fi)→∃ ci fi,st[a]?=some (.live ci fi):=fun a ci fi ha=>by
   by_cases hae:a=id
   ·subst hae;exact ⟨_,_,hi⟩
   ·exact ⟨_,_,back a ci fi hae ha⟩
  obtain ⟨_,_,p1⟩:=aux _ _ _ h1
  obtain ⟨_,_,p2⟩:=aux _ _ _ h2
  exact hsim.inj i j _ _ _ _ x y p1 p2 hx hy he
 ·refine hsim.nb k ?_
  by_cases hk0:k=id
  ·subst hk0
   rw [List.getElem?_set,if_pos rfl,if_pos hidl] at hk
   rcases hk with hk | hk <;> cases hk
  ·rwa [List.getElem?_set,if_neg (fun e=>hk0 e.symm)] at hk
 ·rcases hv with ⟨off,n,es,fu,rfl,rfl⟩ | ⟨hv,rfl⟩
  ·cases g2 with
   | @osl _ _ b3 sz3 _ _ cap _ _ hb hc hf hs =>
    have:some (b3,sz3)=some (b',sz'):=by rw [← hb,g4 0 _ hb1]
    simp only [Option.some.injEq,Prod.mk.injEq] at this
    obtain ⟨rfl,rfl⟩:=this
    exact .osl hl.at_ hc hf hs
  ·exact g2.litD hv m2 bk
theorem callsS_frame {P:Program} {f:FuncId} {args0:List V} {v0 v:V} {cs cs' : List V} {fz fz' : Nat} {st:List Slot} {id:Nat} (h:CallsS P f args0 [.live cs fz] v0 [.live cs' fz']) (ha:V.idlt.belowL 1 args0=true) (hi:st[id]?=some (.live cs fz)) (h0:V.idlt.belowL 0 cs=true) (h0' : V.litD.litL cs'=true)
  (hv:(∃ off n es fu,v0=.osl 0 off n es fu∧v=.osl id off n es fu)∨v0.litD=true∧v=v0):CallsS P f (V.ren.renL [id] args0) st v (st.set id (.live cs' fz')) :=
 callsS_frameG h (fun B m0 m mb bk w cargs hsim hargs mle _=>⟨by rw [hargs.1,renL_len],fun j h1 h2=>by
  have hr:=hargs.2 j h1 (by rw [renL_len];exact h2)
  have hr2:=Rep.ren hr _ (renL_at (sg:=[id]) args0 j h2).symm
  exact (hr2.cut (belowL_get ha j h2)).mono mle fun _ _ h=>h⟩) hi h0 h0' hv
inductive FzT (st:List Slot) (i:Nat):List V→List V→List Nat→Prop
 | nil:FzT st i [] [] []
 | id {v l l' r} (h:v.idlt 0=true) (t:FzT st i l l' r):FzT st i (v :: l) (v :: l') r
 | ptr {j cs us frz l l' r} (hj:st[j]?=some (.live cs frz)) (hne:j≠i) (h:SlWL cs us) (t:FzT st i l l' r):FzT st i (.ptr j 0 :: l) (.eptr us :: l') (j :: r)
theorem FzT.congr {st st2:List Slot} {i:Nat} {l l' : List V} {r:List Nat} (h:FzT st i l l' r):(∀ k,k ∈ r→st2[k]?=st[k]?)→FzT st2 i l l' r:=by
 induction h with
 | nil=>exact fun _=>.nil
 | id h _ ih=>exact fun hst=>.id h (ih hst)
 | ptr hj hne h _ ih=>exact fun hst=>.ptr ((hst _ (by simp)).trans hj) hne h (ih fun k hk=>hst k (by simp [hk]))
theorem FzT.rep {B:Nat} {m0 m mb:Mem} {bk bk' : Bks} {w:World} {st:List Slot} {i:Nat} {l l' : List V} {r:List Nat} (h:FzT st i l l' r) (hsim:Sim B m0 m bk w st) (mle:∀ a u,m a=some u→mb a=some u)
  (hmb:∀ (j:Nat) (c:List V) (g:Nat) (x:Nat × Nat),j≠i→st[j]?=some (.live c g)→bk j=some x→∀ a:Addr,a.block=x.1→mb a=w.cell? a):∀ {cs:List Value},RepL m bk cs l→RepL mb bk' cs l':=by
 induction h with
 | nil=>intro cs h;exact ⟨h.1,fun j _ h2=>absurd h2 (by simp)⟩
 | @id v l l' r h0 t ih =>
  intro cs hr
  cases cs with
  | nil=>have:=hr.1;simp at this
  | cons c cs =>
   have g0:=hr.2 0 (by simp) (by simp)
   have ih':=@ih cs ⟨by simpa using hr.1,fun j h1 h2=>hr.2 (j + 1) (Nat.succ_lt_succ h1) (Nat.succ_lt_succ h2)⟩
   refine ⟨by simpa using ih'.1,fun j h1 h2=>?_⟩
   cases j with
   | zero=>exact (Rep.zero g0 h0).mono mle fun _ _ h=>h
   | succ j=>exact ih'.2 j (Nat.lt_of_succ_lt_succ h1) (Nat.lt_of_succ_lt_succ h2)
 | @ptr j csj us frz l l' r hj hne hw t ih =>
  intro cs hr
  cases cs with
  | nil=>have:=hr.1;simp at this
  | cons c cs =>
   have g0:=hr.2 0 (by simp) (by simp)
   have ih':=@ih cs ⟨by simpa using hr.1,fun j h1 h2=>hr.2 (j + 1) (Nat.succ_lt_succ h1) (Nat.succ_lt_succ h2)⟩
   refine ⟨by simpa using ih'.1,fun k h1 h2=>?_⟩
   cases k with
   | succ k=>exact ih'.2 k (Nat.lt_of_succ_lt_succ h1) (Nat.lt_of_succ_lt_succ h2)
   | zero =>
    have gg:∀ c,Rep m bk c (.ptr j 0)→Rep mb bk' c (.eptr us):=fun c g0=>by
     cases g0 with
     | @ptr _ _ b sz _ hb =>
     obtain ⟨arr,t,lo,hi',hlv,hrep⟩:=sim_live hsim hj hb
     obtain ⟨hl,hat⟩:=hw.at
     refine .eptr (us:=fun k=>arr.getD k undef) (fun u hu=>?_) (fun k hk=>?_) (fun k hk=>?_)
     ·obtain ⟨k,hk,rfl⟩:=List.getElem_of_mem hu
      exact (hat k (by omega) hk).one (hlv.one _ (List.getElem_mem _))
     ·obtain ⟨u,g1,g2⟩:=hlv.rep k (by omega)
      rw [hmb j _ _ _ hne hj hb _ rfl,Nat.zero_add]
      simp only [World.cell?,hlv.heap,Array.getD_eq_getD_getElem?,g1];rfl
     ·obtain ⟨u,g1,g2⟩:=hlv.rep k (by omega)
      have e:arr.getD k undef=u:=by simp [Array.getD_eq_getD_getElem?,g1]
      rw [e]
      exact ((hat k (by omega) hk).rep g2).mono mle fun _ _ h=>h
    exact gg _ g0
end Go.Proofs.Ytpmoioopjbfhkaa

/- slices.Delete: what is of no type. -/
namespace Go.Proofs.Ytpmoioopjbfhkaa
open Go.RowKit
structure DelRoads (P:Program) (k:FuncId) (es:Nat):Prop where
 main:∀ (b n c i j:Nat) (cs:List Value) (w:World),i < j→j≤n→n≤c→n≤1000000→cs.length=n * es→(∀ t v,cs[t]?=some v→w.cell? ⟨b,t,none⟩=some v)→(∀ t,t < n * es→w.frozen? ⟨b,t,none⟩=false)→(∀ v ∈ cs,v.oneCell'=true) →
  Calls P k #[.slice (some ⟨b,0,none⟩) n c,.int .i64 i,.int .i64 j] w fun e w'=>∃ zs:List Value,zs.length=(j - i) * es∧(∀ v ∈ zs,v.oneCell'=true)∧e=.returned (.slice (some ⟨b,0,none⟩) (n - (j - i)) c)∧w'=(w.drew.setCells b (i * es) (cs.drop (j * es))).setCells b ((n - (j - i)) * es) zs
end Go.Proofs.Ytpmoioopjbfhkaa

/- slices.DeleteFunc: what is of no type. -/
namespace Go.Proofs.Ytpmoioopjbfhkaa
open Go.RowKit
theorem callsR_c {P:Program} {f:FuncId} {fn:Func} {ac:BCode} {n n0:Nat} {rs:List ARes} {args:List V} {v:V} {st st' : List Slot} (hmix:P.follows .mixedOrders=true) (hf:P.funcs[f]?=some fn) (hc:compF P fn=some (ac.er,n,rs)) (hn0:st.length=n0)
  (h:initK args n fun fr=>wpC P n0 ac (FinQ (FinR st rs v st')) fr st):CallsS P f args st v st' :=
 callsR_comp hmix hf hc hn0 (wpC_ok (fun _ _ _ h=>h.out) (initK_ok h))
theorem litL_mem:∀ {l:List V},(∀ v ∈ l,v.litD=true)→V.litD.litL l=true
 | [],_=>rfl
 | v :: l,h=>by
  simp only [V.litD.litL,Bool.and_eq_true]
  exact ⟨h v (by simp),litL_mem fun u hu=>h u (by simp [hu])⟩
theorem mem_litL:∀ {l:List V},V.litD.litL l=true→∀ v ∈ l,v.litD=true
 | u :: l,h,v,hv=>by
  simp only [V.litD.litL,Bool.and_eq_true] at h
  rcases List.mem_cons.1 hv with rfl | hv
  ·exact h.1
  ·exact mem_litL h.2 v hv
section
variable {β : Type} {r : β} {P : Program} {st : List Slot}
end
end Go.Proofs.Ytpmoioopjbfhkaa

/- Functions that write into a list that they are handed; functions that hand on own lists within a struct; slices.Grow. -/
namespace Go.Proofs.Ytpmoioopjbfhkaa
open Go.RowKit
def tru? (m:Option Bool):Option Bool:=if m=some true then some true else none
theorem tru_of {m:Option Bool} {r:Bool} (h:tru? m=some r):r=true∧m=some true:=by
 unfold tru? at h
 split at h
 ·exact ⟨(Option.some.inj h).symm,‹_›⟩
 ·cases h
theorem tru_ok {m:Option Bool} (h:m=some true):tru? m=some true:=if_pos h
theorem tru_closed {P:Program} {k:FuncId} {vs:List V} {m:Option Bool} (h:CallsO P k vs V.b (tru? m)) (hm:m=some true):CallsO P k vs V.b m:=fun v hv=>by
 rw [hm] at hv
 cases hv
 exact h true (tru_ok hm)
theorem tstT_c {b:Bool} {A B:Prop} {X:Option Bool} (H:(bif b then X else some false)=some true) (h:b=true→X=some true→A):Tst b A B :=
 tst_c H h fun _ h=>by cases h
theorem tstF_c {b:Bool} {A B:Prop} {X:Option Bool} (H:(bif b then some false else X)=some true) (h:b=false→X=some true→B):Tst b A B :=
 tst_c H (fun _ h=>by cases h) h
def inG? {α β:Type} (n:Nat) (l:List α) (m:Option (List β)):Option (List β):=if l.length=n then m.bind fun L=>if n=L.length then some L else none else none
theorem inG_of {α β:Type} {n:Nat} {l:List α} {m:Option (List β)} {L:List β} (h:inG? n l m=some L):l.length=n∧m=some L∧n=L.length:=by
 unfold inG? at h
 split at h
 ·obtain ⟨L',h1,h2⟩:=bind_c h
  split at h2
  ·obtain rfl:=Option.some.inj h2
   exact ⟨‹_›,h1,‹_›⟩
  ·cases h2
 ·cases h
theorem nil_len {α β:Type} {l:List β} (h:List.length ([]:List α)=l.length):l=[]:=List.length_eq_zero_iff.1 h.symm
theorem nil_arr {α β:Type} {r:β} {A:Prop} {n:Nat} {l:List α} {j:Int} {X:α→Option β} (hn:n=0) (H:(arr? n l j).bind X=some r):A:=by
 obtain ⟨x,hx,_⟩:=bind_c H
 unfold arr? at hx
 split at hx
 ·rename_i h
  have:l=[]:=List.length_eq_zero_iff.1 (h.trans hn)
  subst this
  unfold at? at hx
  split at hx <;> simp at hx
 ·cases hx
def InPl {α:Type} (P:Program) (k:FuncId) (f:α→V) (es:Nat) (vs:List V) (l:List α) (m:Option (List α)):Prop :=
 ∀ L,m=some L→CallsS P k (.osl 0 0 l.length es false :: vs) [.live (cellsM f l) 0] (.tup []) [.live (cellsM f L) 0]
theorem inPl_comp {α:Type} {P:Program} {k:FuncId} {f:α→V} {es:Nat} {vs:List V} {l:List α} {m:Option (List α)} {fn:Func} {ac:BCode} {n:Nat} {rs:List ARes} (hmix:P.follows .mixedOrders=true) (hf:P.funcs[k]?=some fn) (hc:compF P fn=some (ac.er,n,rs))
  (h:∀ L,m=some L→initK (.osl 0 0 l.length es false :: vs) n fun fr=>wpC P 1 ac (FinQ (FinR [.live (cellsM f l) 0] rs (.tup []) [.live (cellsM f L) 0])) fr [.live (cellsM f l) 0]):InPl P k f es vs l m:=fun L hL =>
 callsR_c (n0:=1) hmix hf hc rfl (h L hL)
theorem callsS_full1 {P:Program} {st:List Slot} {f:FuncId} {i off n es:Nat} {fu:Bool} {vs:List V} {v:V} {st' : List Slot} (h:CallsS P f (.osl i off n es false :: vs) st v st'):CallsS P f (.osl i off n es fu :: vs) st v st':=by
 intro B m0 m bk w cargs hg hsim hargs
 refine h B m0 m bk w cargs hg hsim ⟨hargs.1,fun j h1 h2=>?_⟩
 rcases j with _ | j
 ·have hr:Rep m bk cargs[0] (.osl i off n es fu):=hargs.2 0 h1 (by simp)
  have go:∀ c,Rep m bk c (.osl i off n es fu)→Rep m bk c (.osl i off n es false):=fun c hr=>by
   cases hr with
   | osl hb hc hf hs=>exact .osl hb hc (fun e=>by cases e) hs
  exact go _ hr
 ·have:=hargs.2 (j + 1) h1 (by simpa using h2)
  simpa using this
theorem litL_M {α:Type} {f:α→V} (hlit:∀ a,V.litD.litL (f a).cells=true) (l:List α):V.litD.litL (cellsM f l)=true:=litL_mem fun v hv=>by
 obtain ⟨a,_,ha⟩:=List.mem_flatMap.1 hv
 exact mem_litL (hlit a) v ha
theorem askIn_c {β:Type} {r:β} {P:Program} {st:List Slot} {α:Type} {f:α→V} {l:List α} {m:Option (List α)} {X:List α→Option β} {K:V→List Nat→List Nat→List Slot→Prop} {k:FuncId} {es id n:Nat} {fu:Bool} {vs:List V} (hS:InPl P k f es vs l m) (H:(inG? n l m).bind X=some r)
  (hv:V.idlt.belowL 0 vs=true) (hlit:∀ a,V.litD.litL (f a).cells=true) (h0:∀ a,V.idlt.belowL 0 (f a).cells=true) (hi:st[id]?=some (.live (cellsM f l) 0))
  (h:∀ L,n=L.length→X L=some r→ssetK st id (.live (cellsM f L) 0) fun st'=>K (.tup []) [] [id] st'):Ask P k (.osl id 0 n es fu :: vs) st K:=by
 obtain ⟨L,hL',H'⟩:=bind_c H
 clear H
 obtain ⟨hn,hL,hn2⟩:=inG_of hL'
 clear hL'
 ·subst hn
  have:=h L hn2 H'
  rw [ssetK_eq] at this
  refine Ask_L (rd:=[]) (ef:=[(id,.live (cellsM f L) 0)]) (fun st2 _ hk=>callsS_full1 ?_) this
  have hfr:=callsS_frame (st:=st2) (id:=id) (v:=.tup []) (hS L hL) (by simp [V.idlt.belowL,V.idlt,idltL_up _ hv]) ((hk id (.inr (by simp))).trans hi) (cellsM_idlt h0 _) (litL_M hlit _) (.inr ⟨rfl,rfl⟩)
  have e:V.ren.renL [id] (.osl 0 0 l.length es false :: vs)=.osl id 0 l.length es false :: vs:=by simp [V.ren.renL,V.ren,renL_id _ hv,sgm]
  rw [e] at hfr
  exact hfr
theorem askInN_c {β:Type} {r:β} {P:Program} {st:List Slot} {α:Type} {l:List α} {m:List α→Option (List α)} {X:List α→Option β} {K:V→List Nat→List Nat→List Slot→Prop} {k:FuncId} {vs:List V} {n:Nat} (hn:n=0) (hS:∀ y,y=[]→CallsO P k (.sl [] true :: vs) (fun _:List α=>V.tup []) (m y)) (H:(inG? n l (m l)).bind X=some r)
  (hv:V.idlt.belowL 0 vs=true) (h:∀ L,n=L.length→X L=some r→K (.tup []) [] [] st):Ask P k (.sl [] true :: vs) st K:=by
 obtain ⟨L,hL,H⟩:=bind_c H
 obtain ⟨h1,hL,h2⟩:=inG_of hL
 exact Ask_V0 (hS l (List.length_eq_zero_iff.1 (h1.trans hn)) L hL) rfl (by simp [V.idlt.belowL,V.idlt,hv]) (h L h2 H)
theorem inFin_c {α:Type} {f:α→V} {es:Nat} {l x y:List α} {e:AExit} {fr:List V} {st:List Slot} {z:List V} (he:e=.normal∨e=.ret) (H:some x=some y) (hs:st.take 1=[.live (cellsM f x) 0]) (h0:∀ a,V.idlt.belowL 0 (f a).cells=true) :
  FinQ (FinR [.live z 0] [] (.tup []) [.live (cellsM f y) 0]) e fr st:=by
 cases H
 exact ⟨f_R0 he .nil rfl rfl rfl hs ⟨idltL_up _ (cellsM_idlt h0 _),trivial⟩⟩
theorem mksA_c {β:Type} {r:β} {α:Type} {f:α→V} {x0:α} {n:Int} {bytes:Nat} {z:List V} {X:List α→Option β} {k:Nat→List V→Bool→Prop} (H:(mk? n x0).bind X=some r) (hz:(f x0).cells=z) (h1:z.length=1) (hb:bytes≤1000) (h:∀ L,X L=some r→k n.toNat (cellsM f L) true):Mks 1 bytes z n n k :=
 mks_c (X:=fun L=>if L.length=n.toNat then X L else none) (r:=r) (by
  obtain ⟨L,hL,H'⟩:=bind_c H
  rw [hL]
  unfold mk? at hL
  split at hL
  ·simp only [Option.some.injEq] at hL
   subst hL
   simpa using H'
  ·cases hL) hz h1 hb fun L hL=>by
  by_cases e:L.length=n.toNat
  ·rw [if_pos e] at hL;rw [e];exact h L hL
  ·rw [if_neg e] at hL;cases hL
def lenG? {α:Type} (n:Nat) (l:List α):Option Unit:=if n=l.length then some () else none
theorem lenG_c {β α:Type} {r:β} {n:Nat} {l:List α} {X:Unit→Option β} (H:(lenG? n l).bind X=some r):∃ u:Unit,n=l.length∧X u=some r:=by
 obtain ⟨u,hu,H⟩:=bind_c H
 unfold lenG? at hu
 split at hu
 ·exact ⟨u,‹_›,H⟩
 ·cases hu
structure GrowRoads (P:Program) (k:FuncId) (es:Nat) (E:TypeId):Prop where
 some_:∀ (b:Option Addr) (n:Nat) (w:World),0 < n→n≤1000000→Calls P k #[.slice b 0 0,.int .i64 n] w fun e w'=>∃ (ZS:Array Value) (c:Nat),e=.returned (.slice (some ⟨w.heap.size,0,none⟩) 0 c)∧w'=w.drew.alloc (.cells ZS E)∧c * es≤ZS.size
 zero_:∀ (b:Option Addr) (w:World),Calls P k #[.slice b 0 0,.int .i64 0] w fun e w'=>e=.returned (.slice b 0 0)∧w'=w
def grow? (n:Int):Option Unit:=if 0≤n∧n≤1000000 then some () else none
theorem cargs2 {cargs:Array Value} (h:cargs.size=2):∃ a b,cargs=#[a,b] :=
 ⟨cargs[0],cargs[1],by apply Array.ext;simp [h];intro i a b;simp at b;rcases i with _ | _ | i <;> first | rfl | omega⟩
theorem grow_c {β:Type} {r:β} {P:Program} {st:List Slot} {k:FuncId} {es:Nat} {E:TypeId} (hR:GrowRoads P k es E) {α:Type} {f:α→V} {n:Int} {X:Unit→Option β} {K:V→List Nat→List Nat→List Slot→Prop} {id:Nat} (H:(grow? n).bind X=some r)
  (hf:st[id]?=some .fresh) (hA:X ()=some r→K (.sl (List.map f []) true) [] [] st) (hB:X ()=some r→ssetK st id (.live (cellsM f []) (cellsM f []).length) fun st'=>K (.osl id 0 (List.length ([]:List α)) es false) [] [id] st'):Ask P k [.sl (List.map f []) true,.i n] st K:=by
 obtain ⟨u,hL,H'⟩:=bind_c H
 clear H
 have H:=H'
 unfold grow? at hL
 split at hL
 ·rename_i hn
  obtain ⟨N,rfl⟩ : ∃ N:Nat,n=N:=⟨n.toNat,by omega⟩
  have hN:N≤1000000:=by omega
  have arg:∀ {m:Mem} {bk:Bks} {c0:Value},Rep m bk c0 (.sl [] true)→∃ b,c0=.slice b 0 0:=fun {m bk c0} hr=>by
   cases hr with
   | sl h1 h2 h3=>subst h1;exact ⟨_,by rw [h3 rfl];rfl⟩
   | slnil h=>exact ⟨_,by rw [h rfl]⟩
  rcases Nat.eq_zero_or_pos N with rfl | hpos
  ·refine Ask_V0 (v:=.sl [] true) (fun m w cargs hg hm hargs=>?_) rfl rfl (hA H)
   obtain ⟨hsz,hrp⟩:=hargs
   obtain ⟨c0,c1,rfl⟩:=cargs2 hsz
   obtain ⟨b,rfl⟩:=arg (hrp 0 (by simp) (by simp))
   have h1:Rep m noBk c1 (.i ((0:Nat):Int)):=hrp 1 (by simp) (by simp)
   cases h1 with
   | lit =>
   refine (hR.zero_ b w).mono ?_
   rintro e w' ⟨rfl,rfl⟩
   exact ⟨_,m,rfl,Below.refl _ _,hm,fun _ _ h=>h,fun a u h=>.inl h,.slnil fun _=>rfl⟩
  ·have:=hB H
   rw [ssetK_eq] at this
   refine Ask_L (rd:=[]) (ef:=[(id,.live [] 0)]) (fun st2 hl2 h2=>?_) this
   intro B m0 m bk w cargs hg hsim hargs
   obtain ⟨hsz,hrp⟩:=hargs
   obtain ⟨c0,c1,rfl⟩:=cargs2 hsz
   obtain ⟨b,rfl⟩:=arg (hrp 0 (by simp) (by simp))
   have h1:Rep m bk c1 (.i (N:Int)):=hrp 1 (by simp) (by simp)
   cases h1 with
   | lit =>
   refine (hR.some_ b N w hpos hN).mono ?_
   rintro e w' ⟨ZS,c,rfl,rfl,hc⟩
   have hf2:st2[id]?=some .fresh:=(h2 id (.inr (by simp))).trans hf
   exact ⟨_,rfl,make_aft (w':=w.drew.alloc (.cells ZS E)) (lo:=0) (hi:=0) (t:=E) (arr:=ZS) (v:=.osl id 0 0 es false) (cs:=[]) hsim hf2 (.inr rfl) (Nat.le_refl _) ⟨rfl,fun j _ h=>absurd h (by simp)⟩ (by simp)
    (.osl (b:=w.heap.size) (sz:=ZS.size) (by simp [newBk]) (Nat.zero_le _) (fun e=>by cases e) (by rw [Nat.zero_add];exact hc))⟩
 ·cases hL
end Go.Proofs.Ytpmoioopjbfhkaa

/- Parts of an own list: l[a:], l[:a]. -/
namespace Go.Proofs.Ytpmoioopjbfhkaa
open Go.RowKit
end Go.Proofs.Ytpmoioopjbfhkaa

