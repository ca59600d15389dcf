/- A part of the proof: 13 texts joined. -/
import Derived.Test.YtbimgghogflikaaGreatDoorSaA12
import Derived.KernelRfl
import Derived.Test.YtbimgghogflikaaGreatDoorSaA11
import Derived.Test.YtbimgghogflikaaGreatDoorSaA6
import Derived.Test.YtbimgghogflikaaGreatDoorSaA10
set_option linter.all false
namespace Go.Proofs.YtbimgghogflikaaGreatDoor
open Go.RowKit
inductive FzT (st:List Slot) (i:Nat):List V→List V→List Nat→Prop
 | nil:FzT st i [] [] []
 | id {v l l' r} (h:v.idlt 0=true) (t:FzT st i l l' r):FzT st i (v :: l) (v :: l') r
 | ptr {j cs us frz l l' r} (hj:st[j]?=some (.live cs frz)) (hne:j≠i) (h:SlWL cs us) (t:FzT st i l l' r):FzT st i (.ptr j 0 :: l) (.eptr us :: l') (j :: r)
theorem FzT.congr {st st2:List Slot} {i:Nat} {l l' : List V} {r:List Nat} (h:FzT st i l l' r):(∀ k,k ∈ r→st2[k]?=st[k]?)→FzT st2 i l l' r:=by
 induction h with
 | nil=>exact fun _=>.nil
 | id h _ ih=>exact fun hst=>.id h (ih hst)
 | ptr hj hne h _ ih=>exact fun hst=>.ptr ((hst _ (by simp)).trans hj) hne h (ih fun k hk=>hst k (by simp [hk]))
theorem FzT.rep {B:Nat} {m0 m mb:Mem} {bk bk' : Bks} {w:World} {st:List Slot} {i:Nat} {l l' : List V} {r:List Nat} (h:FzT st i l l' r) (hsim:Sim B m0 m bk w st) (mle:∀ a u,m a=some u→mb a=some u)
  (hmb:∀ (j:Nat) (c:List V) (g:Nat) (x:Nat × Nat),j≠i→st[j]?=some (.live c g)→bk j=some x→∀ a:Addr,a.block=x.1→mb a=w.cell? a):∀ {cs:List Value},RepL m bk cs l→RepL mb bk' cs l':=by
 induction h with
 | nil=>intro cs h;exact ⟨h.1,fun j _ h2=>absurd h2 (by simp)⟩
 | @id v l l' r h0 t ih =>
  intro cs hr
  cases cs with
  | nil=>have:=hr.1;simp at this
  | cons c cs =>
   have g0:=hr.2 0 (by simp) (by simp)
   have ih':=@ih cs ⟨by simpa using hr.1,fun j h1 h2=>hr.2 (j + 1) (Nat.succ_lt_succ h1) (Nat.succ_lt_succ h2)⟩
   refine ⟨by simpa using ih'.1,fun j h1 h2=>?_⟩
   cases j with
   | zero=>exact (Rep.zero g0 h0).mono mle fun _ _ h=>h
   | succ j=>exact ih'.2 j (Nat.lt_of_succ_lt_succ h1) (Nat.lt_of_succ_lt_succ h2)
 | @ptr j csj us frz l l' r hj hne hw t ih =>
  intro cs hr
  cases cs with
  | nil=>have:=hr.1;simp at this
  | cons c cs =>
   have g0:=hr.2 0 (by simp) (by simp)
   have ih':=@ih cs ⟨by simpa using hr.1,fun j h1 h2=>hr.2 (j + 1) (Nat.succ_lt_succ h1) (Nat.succ_lt_succ h2)⟩
   refine ⟨by simpa using ih'.1,fun k h1 h2=>?_⟩
   cases k with
   | succ k=>exact ih'.2 k (Nat.lt_of_succ_lt_succ h1) (Nat.lt_of_succ_lt_succ h2)
   | zero =>
    have gg:∀ c,Rep m bk c (.ptr j 0)→Rep mb bk' c (.eptr us):=fun c g0=>by
     cases g0 with
     | @ptr _ _ b sz _ hb =>
     obtain ⟨arr,t,lo,hi',hlv,hrep⟩:=sim_live hsim hj hb
     obtain ⟨hl,hat⟩:=hw.at
     refine .eptr (us:=fun k=>arr.getD k undef) (fun u hu=>?_) (fun k hk=>?_) (fun k hk=>?_)
     ·obtain ⟨k,hk,rfl⟩:=List.getElem_of_mem hu
      exact (hat k (by omega) hk).one (hlv.one _ (List.getElem_mem _))
     ·obtain ⟨u,g1,g2⟩:=hlv.rep k (by omega)
      rw [hmb j _ _ _ hne hj hb _ rfl,Nat.zero_add]
      simp only [World.cell?,hlv.heap,Array.getD_eq_getD_getElem?,g1];rfl
     ·obtain ⟨u,g1,g2⟩:=hlv.rep k (by omega)
      have e:arr.getD k undef=u:=by simp [Array.getD_eq_getD_getElem?,g1]
      rw [e]
      exact ((hat k (by omega) hk).rep g2).mono mle fun _ _ h=>h
    exact gg _ g0
end Go.Proofs.YtbimgghogflikaaGreatDoor

namespace Go.Proofs.YtbimgghogflikaaGreatDoor
open Go.RowKit
structure DelRoads (P:Program) (k:FuncId) (es:Nat):Prop where
 main:∀ (b n c i j:Nat) (cs:List Value) (w:World),i < j→j≤n→n≤c→n≤1000000→cs.length=n * es→(∀ t v,cs[t]?=some v→w.cell? ⟨b,t,none⟩=some v)→(∀ t,t < n * es→w.frozen? ⟨b,t,none⟩=false)→(∀ v ∈ cs,v.oneCell'=true) →
  Calls P k #[.slice (some ⟨b,0,none⟩) n c,.int .i64 i,.int .i64 j] w fun e w'=>∃ zs:List Value,zs.length=(j - i) * es∧(∀ v ∈ zs,v.oneCell'=true)∧e=.returned (.slice (some ⟨b,0,none⟩) (n - (j - i)) c)∧w'=(w.drew.setCells b (i * es) (cs.drop (j * es))).setCells b ((n - (j - i)) * es) zs
end Go.Proofs.YtbimgghogflikaaGreatDoor

namespace Go.Proofs.YtbimgghogflikaaGreatDoor
open Go.RowKit
theorem callsR_c {P:Program} {f:FuncId} {fn:Func} {ac:BCode} {n n0:Nat} {rs:List ARes} {args:List V} {v:V} {st st' : List Slot} (hmix:P.follows .mixedOrders=true) (hf:P.funcs[f]?=some fn) (hc:compF P fn=some (ac.er,n,rs)) (hn0:st.length=n0)
  (h:initK args n fun fr=>wpC P n0 ac (FinQ (FinR st rs v st')) fr st):CallsS P f args st v st' :=
 callsR_comp hmix hf hc hn0 (wpC_ok (fun _ _ _ h=>h.out) (initK_ok h))
section
variable {β : Type} {r : β} {P : Program} {st : List Slot}
end
end Go.Proofs.YtbimgghogflikaaGreatDoor

namespace Go.Proofs.YtbimgghogflikaaGreatDoor
open Go.RowKit
def tru? (m:Option Bool):Option Bool:=if m=some true then some true else none
theorem tru_of {m:Option Bool} {r:Bool} (h:tru? m=some r):r=true∧m=some true:=by
 unfold tru? at h
 split at h
 ·exact ⟨(Option.some.inj h).symm,‹_›⟩
 ·cases h
theorem tru_ok {m:Option Bool} (h:m=some true):tru? m=some true:=if_pos h
theorem tru_closed {P:Program} {k:FuncId} {vs:List V} {m:Option Bool} (h:CallsO P k vs V.b (tru? m)) (hm:m=some true):CallsO P k vs V.b m:=fun v hv=>by
 rw [hm] at hv
 cases hv
 exact h true (tru_ok hm)
theorem tstT_c {b:Bool} {A B:Prop} {X:Option Bool} (H:(bif b then X else some false)=some true) (h:b=true→X=some true→A):Tst b A B :=
 tst_c H h fun _ h=>by cases h
theorem mksA_c {β:Type} {r:β} {α:Type} {f:α→V} {x0:α} {n:Int} {bytes:Nat} {z:List V} {X:List α→Option β} {k:Nat→List V→Bool→Prop} (H:(mk? n x0).bind X=some r) (hz:(f x0).cells=z) (h1:z.length=1) (hb:bytes≤1000) (h:∀ L,X L=some r→k n.toNat (cellsM f L) true):Mks 1 bytes z n n k :=
 mks_c (X:=fun L=>if L.length=n.toNat then X L else none) (r:=r) (by
  obtain ⟨L,hL,H'⟩:=bind_c H
  rw [hL]
  unfold mk? at hL
  split at hL
  ·simp only [Option.some.injEq] at hL
   subst hL
   simpa using H'
  ·cases hL) hz h1 hb fun L hL=>by
  by_cases e:L.length=n.toNat
  ·rw [if_pos e] at hL;rw [e];exact h L hL
  ·rw [if_neg e] at hL;cases hL
def lenG? {α:Type} (n:Nat) (l:List α):Option Unit:=if n=l.length then some () else none
theorem lenG_c {β α:Type} {r:β} {n:Nat} {l:List α} {X:Unit→Option β} (H:(lenG? n l).bind X=some r):∃ u:Unit,n=l.length∧X u=some r:=by
 obtain ⟨u,hu,H⟩:=bind_c H
 unfold lenG? at hu
 split at hu
 ·exact ⟨u,‹_›,H⟩
 ·cases hu
structure GrowRoads (P:Program) (k:FuncId) (es:Nat) (E:TypeId):Prop where
 some_:∀ (b:Option Addr) (n:Nat) (w:World),0 < n→n≤1000000→Calls P k #[.slice b 0 0,.int .i64 n] w fun e w'=>∃ (ZS:Array Value) (c:Nat),e=.returned (.slice (some ⟨w.heap.size,0,none⟩) 0 c)∧w'=w.drew.alloc (.cells ZS E)∧c * es≤ZS.size
 zero_:∀ (b:Option Addr) (w:World),Calls P k #[.slice b 0 0,.int .i64 0] w fun e w'=>e=.returned (.slice b 0 0)∧w'=w
end Go.Proofs.YtbimgghogflikaaGreatDoor

namespace Go.Proofs.YtbimgghogflikaaGreatDoor
open Go.RowKit
def p_octet_wide (a0:Int):Option (Bool) :=
 bif (a0 == (1:Int)) then
  some true
 else
 bif (a0 == (2:Int)) then
  some true
 else
 bif (a0 == (4:Int)) then
  some true
 else
 bif (a0 == (6:Int)) then
  some true
 else
 some false
def p_octet_Lay_l1 (a1:Int) (z15:Int) (z16:Int) (z18:Int):Nat→Int→(List Int)→Option ((Int × (List Int)))
 | 0,_,_=>none
 | n + 1,y19,y20 =>
  bif (decide (y19 < z18)) then
   (pos? (w64 ((8:Int) * y19))).bind fun x22 =>
   (arr? (Int.toNat a1) y20 (w64 (w64 (z16 - (1:Int)) - y19))).bind fun x23 =>
   p_octet_Lay_l1 a1 z15 z16 z18 n (w64 (y19 + (1:Int))) (List.set y20 (Int.toNat (w64 (w64 (z16 - (1:Int)) - y19))) (IntKind.wrap .u8 (shrI .i64 z15 (w64 ((8:Int) * y19)))))
  else
  some (y19,y20)
def p_octet_Lay (a0:Int) (a1:Int):Option ((List Int) × Int) :=
 (p_octet_wide a1).bind fun v1 =>
 bif v1 then
  bif (decide (a0 < (0:Int))) then
   some ([],(8:Int))
  else
  (pos? (w64 ((8:Int) * a1))).bind fun x4 =>
  bif ((shrI .i64 a0 (w64 ((8:Int) * a1))) != (0:Int)) then
   some ([],(8:Int))
  else
  (mk? a1 (0:Int)).bind fun l6 =>
  (p_octet_Lay_l1 a1 a0 a1 a1 fuel (0:Int) l6).bind fun q26 =>
  (lenG? (Int.toNat a1) q26.2).bind fun _ =>
  some (q26.2,(0:Int))
 else
 some ([],(2:Int))
def p_frame_Put (a0:ByteArray):Option (ByteArray × Int) :=
 bif (a0.toList == (⟨#[]⟩ : ByteArray).toList) then
  some ((⟨#[]⟩ : ByteArray),(4:Int))
 else
 bif (decide ((128:Int) < (a0.size:Int))) then
  some ((⟨#[]⟩ : ByteArray),(5:Int))
 else
 (p_octet_Lay (a0.size:Int) (2:Int)).bind fun v3 =>
 (text? v3.1).bind fun s4 =>
 (cat? s4 a0).bind fun s5 =>
 some (s5,v3.2)
end Go.Proofs.YtbimgghogflikaaGreatDoor

namespace Go.Proofs.YtbimgghogflikaaGreatDoor
open Go.RowKit
abbrev V.u8 (k:UInt8):V:=.lit (.int .u8 k.toNat)
theorem has_v (k:UInt8):CallsV Tryz.prog 81 [.u8 k] (.s (ba (hasN k.toNat))) :=
 callsV_old #[.int .u8 k.toNat] (fun _ _ h=>lits_eq (vs:=[.int .u8 k.toNat]) h) (fun w _=>ret_of (has_c k w)) fun _=>.lit rfl
theorem known_v (k:UInt8):CallsV Tryz.prog 82 [.u8 k] (.b (knownN k.toNat)) :=
 callsV_old #[.int .u8 k.toNat] (fun _ _ h=>lits_eq (vs:=[.int .u8 k.toNat]) h) (fun w _=>ret_of (known_c k w)) fun _=>.lit rfl
theorem stzIn_v (n a b:Int):CallsV Tryz.prog 84 [.i n,.i a,.i b] (.b (decide (a≤n) && decide (n≤b))) :=
 callsV_old #[.int .i64 n,.int .i64 a,.int .i64 b] (fun _ _ h=>lits_eq (vs:=[.int .i64 n,.int .i64 a,.int .i64 b]) h) (fun w _=>ret_of (stzIn_c n a b w)) fun _=>.lit rfl
def StzD.l (s:StzD):List Value:=[.int .u8 s.kind.toNat,.string s.user,.string s.res,.string s.name,.int .i64 s.show_,.int .i64 s.prio,.int .i64 s.code,.int .i64 s.n]
def stzV (s:StzD):V:=.agg [.u8 s.kind,.s s.user,.s s.res,.s s.name,.i s.show_,.i s.prio,.i s.code,.i s.n]
end Go.Proofs.YtbimgghogflikaaGreatDoor

namespace Go.Proofs.YtbimgghogflikaaGreatDoor
open Go.RowKit
def ac88:ACode:=(.seq (.reg 0 [⟨(some 4),.mv (.const (.pointer none)),none,0⟩,⟨(some 5),.mv (.const (.int .i64 0)),none,0⟩] none) (.seq (.seq (.reg 0 [⟨(some 6),.mv (.tmp 1),none,0⟩] none) (.block 0 (.seq (.reg 0 [⟨(some 8),.bin .eql (.tmp 6) (.const (.int .u8 117)),none,0⟩,⟨(some 7),.mv (.tmp 8),none,0⟩] none) (.cond (.tmp 7) (.seq (.reg 0 [⟨(some 9),.mv (.tmp 0),none,0⟩,⟨(some 10),.nc (.tmp 9),none,0⟩,⟨(some 11),.fa 1 (.tmp 10),none,0⟩,⟨(some 4),.mv (.tmp 11),none,0⟩,⟨(some 5),.mv (.const (.int .i64 33)),none,0⟩] none) .ret) (.seq (.reg 0 [⟨(some 13),.bin .eql (.tmp 6) (.const (.int .u8 114)),none,0⟩,⟨(some 12),.mv (.tmp 13),none,0⟩] none) (.cond (.tmp 12) (.seq (.reg 0 [⟨(some 14),.mv (.tmp 0),none,0⟩,⟨(some 15),.nc (.tmp 14),none,0⟩,⟨(some 16),.fa 2 (.tmp 15),none,0⟩,⟨(some 4),.mv (.tmp 16),none,0⟩,⟨(some 5),.mv (.const (.int .i64 12)),none,0⟩] none) .ret) (.seq (.reg 0 [⟨(some 18),.bin .eql (.tmp 6) (.const (.int .u8 109)),none,0⟩,⟨(some 17),.mv (.tmp 18),none,0⟩] none) (.cond (.tmp 17) (.seq (.reg 0 [⟨(some 19),.mv (.tmp 0),none,0⟩,⟨(some 20),.nc (.tmp 19),none,0⟩,⟨(some 21),.fa 3 (.tmp 20),none,0⟩,⟨(some 4),.mv (.tmp 21),none,0⟩,⟨(some 5),.mv (.const (.int .i64 24)),none,0⟩] none) .ret) .skip)))))))) (.seq (.reg 0 [⟨(some 4),.mv (.const (.pointer none)),none,0⟩,⟨(some 5),.mv (.const (.int .i64 0)),none,0⟩] none) .ret)))
theorem ac88_ok:compF Tryz.prog Tryz.f88=some (ac88,22,[.tmp 4,.tmp 5]):=by unfold ac88;kernel_rfl
def ac89:ACode:=(.seq (.reg 0 [⟨(some 4),.mv (.const (.pointer none)),none,0⟩,⟨(some 5),.mv (.const (.int .i64 0)),none,0⟩,⟨(some 6),.mv (.const (.int .i64 0)),none,0⟩] none) (.seq (.seq (.reg 0 [⟨(some 7),.mv (.tmp 1),none,0⟩] none) (.block 0 (.seq (.reg 0 [⟨(some 9),.bin .eql (.tmp 7) (.const (.int .u8 115)),none,0⟩,⟨(some 8),.mv (.tmp 9),none,0⟩] none) (.cond (.tmp 8) (.seq (.reg 0 [⟨(some 10),.mv (.tmp 0),none,0⟩,⟨(some 11),.nc (.tmp 10),none,0⟩,⟨(some 12),.fa 4 (.tmp 11),none,0⟩,⟨(some 4),.mv (.tmp 12),none,0⟩,⟨(some 5),.mv (.const (.int .i64 1)),none,0⟩,⟨(some 6),.mv (.const (.int .i64 0)),none,0⟩] none) .ret) (.seq (.reg 0 [⟨(some 14),.bin .eql (.tmp 7) (.const (.int .u8 112)),none,0⟩,⟨(some 13),.mv (.tmp 14),none,0⟩] none) (.cond (.tmp 13) (.seq (.reg 0 [⟨(some 15),.mv (.tmp 0),none,0⟩,⟨(some 16),.nc (.tmp 15),none,0⟩,⟨(some 17),.fa 5 (.tmp 16),none,0⟩,⟨(some 4),.mv (.tmp 17),none,0⟩,⟨(some 5),.mv (.const (.int .i64 1)),none,0⟩,⟨(some 6),.mv (.const (.int .i64 128)),none,0⟩] none) .ret) (.seq (.reg 0 [⟨(some 19),.bin .eql (.tmp 7) (.const (.int .u8 99)),none,0⟩,⟨(some 18),.mv (.tmp 19),none,0⟩] none) (.cond (.tmp 18) (.seq (.reg 0 [⟨(some 20),.mv (.tmp 0),none,0⟩,⟨(some 21),.nc (.tmp 20),none,0⟩,⟨(some 22),.fa 6 (.tmp 21),none,0⟩,⟨(some 4),.mv (.tmp 22),none,0⟩,⟨(some 5),.mv (.const (.int .i64 1)),none,0⟩,⟨(some 6),.mv (.const (.int .i64 0)),none,0⟩] none) .ret) .skip)))))))) (.seq (.reg 0 [⟨(some 23),.mv (.tmp 0),none,0⟩,⟨(some 24),.nc (.tmp 23),none,0⟩,⟨(some 25),.fa 7 (.tmp 24),none,0⟩,⟨(some 4),.mv (.tmp 25),none,0⟩,⟨(some 5),.mv (.const (.int .i64 6)),none,0⟩,⟨(some 6),.mv (.const (.int .i64 0)),none,0⟩] none) .ret)))
theorem ac89_ok:compF Tryz.prog Tryz.f89=some (ac89,26,[.tmp 4,.tmp 5,.tmp 6]):=by unfold ac89;kernel_rfl
def ac69:ACode:=(.seq (.reg 1 [⟨(some 10),.mv (.tmp 0),none,0⟩,⟨(some 11),.nc (.tmp 10),none,0⟩,⟨(some 12),.fa 0 (.tmp 11),none,0⟩,⟨(some 13),.ld 1 false (.tmp 12),none,0⟩,⟨(some 14),.cl 81 [(.tmp 13)],none,0⟩,⟨(some 15),.s2b (.tmp 14),none,0⟩,⟨(some 16),.lens (.tmp 15),none,1⟩,⟨(some 17),.mv (.const (.int .i64 0)),none,1⟩] none) (.block 0 (.loop (.seq (.reg 0 [⟨(some 18),.bin .lss (.tmp 17) (.tmp 16),none,0⟩] none) (.seq (.cond (.tmp 18) .skip (.exit 0)) (.seq (.block 1 (.seq (.reg 0 [⟨(some 19),.ixs 1 (.tmp 15) (.tmp 17),none,0⟩,⟨(some 20),.ld 1 false (.tmp 19),none,0⟩,⟨(some 7),.mv (.tmp 20),none,0⟩] none) (.seq (.reg 0 [⟨(some 22),.mv (.tmp 0),none,0⟩,⟨(some 23),.mv (.tmp 7),none,0⟩,⟨(some 24),.cl 88 [(.tmp 22),(.tmp 23)],none,0⟩,⟨(some 21),.mv (.tmp 24),none,0⟩,⟨(some 25),.ex (.tmp 21) 0,none,0⟩,⟨(some 26),.ex (.tmp 21) 1,none,0⟩,⟨(some 8),.mv (.tmp 25),none,0⟩,⟨(some 9),.mv (.tmp 26),none,0⟩] none) (.seq (.reg 0 [⟨(some 27),.mv (.tmp 8),none,0⟩,⟨(some 28),.eqp true (.tmp 27) (.const (.pointer none)),none,0⟩] none) (.cond (.tmp 28) (.reg 0 [⟨(some 29),.mv (.tmp 1),none,0⟩,⟨(some 30),.mv (.tmp 8),none,0⟩,⟨(some 31),.mv (.tmp 9),none,0⟩,⟨(some 32),.cv (.tmp 29) [(.tmp 30),(.tmp 31)],none,0⟩] none) (.reg 0 [⟨(some 33),.mv (.tmp 2),none,0⟩,⟨(some 34),.mv (.tmp 0),none,0⟩,⟨(some 35),.mv (.tmp 7),none,0⟩,⟨(some 36),.cl 89 [(.tmp 34),(.tmp 35)],none,0⟩,⟨(some 37),.ex (.tmp 36) 0,none,0⟩,⟨(some 38),.ex (.tmp 36) 1,none,0⟩,⟨(some 39),.ex (.tmp 36) 2,none,0⟩,⟨(some 40),.cv (.tmp 33) [(.tmp 37),(.tmp 38),(.tmp 39)],none,0⟩] none)))))) (.reg 0 [⟨(some 41),.bin .add (.tmp 17) (.const (.int .i64 1)),none,0⟩,⟨(some 17),.mv (.tmp 41),none,0⟩] none)))))))
theorem ac69_ok:compF Tryz.prog Tryz.f69=some (ac69,42,[]):=by unfold ac69;kernel_rfl
def ac103:ACode:=(.reg 0 [⟨(some 4),.mv (.tmp 0),none,0⟩,⟨(some 5),.nc (.tmp 4),none,0⟩,⟨none,.st 1 (.tmp 5) (.const (.string ⟨#[]⟩)),none,0⟩] none)
theorem ac103_ok:compF Tryz.prog Tryz.f103=some (ac103,6,[]):=by unfold ac103;kernel_rfl
def ac104:ACode:=(.reg 0 [⟨(some 6),.mv (.tmp 0),none,0⟩,⟨(some 7),.nc (.tmp 6),none,0⟩,⟨none,.st 1 (.tmp 7) (.const (.int .i64 0)),none,0⟩] none)
theorem ac104_ok:compF Tryz.prog Tryz.f104=some (ac104,8,[]):=by unfold ac104;kernel_rfl
def ac83:ACode:=(.seq (.reg 1 [⟨(some 1),.bx (.tmp 0),none,0⟩,⟨(some 2),.mv (.const (.bool false)),none,1⟩] none) (.seq (.reg 0 [⟨(some 3),.cl 69 [(.tmp 1),(.func 103),(.func 104)],none,0⟩] none) (.seq (.reg 0 [⟨(some 4),.ld 8 true (.tmp 1),none,0⟩,⟨(some 5),.fa 0 (.tmp 1),none,0⟩,⟨(some 6),.ld 1 false (.tmp 5),none,0⟩,⟨(some 7),.bd [(.lit (.int .u8 0)),(.lit (.string ⟨#[]⟩)),(.lit (.string ⟨#[]⟩)),(.lit (.string ⟨#[]⟩)),(.lit (.int .i64 0)),(.lit (.int .i64 0)),(.lit (.int .i64 0)),(.lit (.int .i64 0))] [(0,1,(.tmp 6))],none,0⟩,⟨(some 8),.eqa false [1,2,2,2,1,1,1,1] (.tmp 4) (.tmp 7),none,0⟩,⟨(some 2),.mv (.tmp 8),none,0⟩] none) .ret)))
theorem ac83_ok:compF Tryz.prog Tryz.f83=some (ac83,9,[.tmp 2]):=by unfold ac83;kernel_rfl
def ac68:ACode:=(.seq (.reg 1 [⟨(some 1),.bx (.tmp 0),none,0⟩,⟨(some 2),.mv (.const (.int .i64 0)),none,1⟩] none) (.seq (.reg 0 [⟨(some 4),.fa 0 (.tmp 1),none,0⟩,⟨(some 5),.ld 1 false (.tmp 4),none,0⟩,⟨(some 6),.cl 81 [(.tmp 5)],none,0⟩,⟨(some 3),.mv (.tmp 6),none,0⟩] none) (.seq (.block 0 (.seq (.reg 0 [⟨(some 8),.fa 0 (.tmp 1),none,0⟩,⟨(some 9),.ld 1 false (.tmp 8),none,0⟩,⟨(some 10),.cl 82 [(.tmp 9)],none,0⟩,⟨(some 11),.un .not (.tmp 10),none,0⟩,⟨(some 7),.mv (.tmp 11),none,0⟩] none) (.cond (.tmp 7) (.seq (.reg 0 [⟨(some 2),.mv (.const (.int .i64 12)),none,0⟩] none) .ret) (.seq (.reg 0 [⟨(some 13),.ld 8 true (.tmp 1),none,0⟩,⟨(some 14),.cl 83 [(.tmp 13)],none,0⟩,⟨(some 15),.un .not (.tmp 14),none,0⟩,⟨(some 12),.mv (.tmp 15),none,0⟩] none) (.cond (.tmp 12) (.seq (.reg 0 [⟨(some 2),.mv (.const (.int .i64 4)),none,0⟩] none) .ret) (.seq (.seq (.reg 0 [⟨(some 17),.fa 4 (.tmp 1),none,0⟩,⟨(some 18),.ld 1 false (.tmp 17),none,0⟩,⟨(some 19),.cl 84 [(.tmp 18),(.const (.int .i64 0)),(.const (.int .i64 63))],none,0⟩,⟨(some 20),.un .not (.tmp 19),none,0⟩,⟨(some 16),.mv (.tmp 20),none,0⟩] none) (.cond (.tmp 16) .skip (.seq (.reg 0 [⟨(some 21),.fa 5 (.tmp 1),none,0⟩,⟨(some 22),.ld 1 false (.tmp 21),none,0⟩,⟨(some 23),.cl 84 [(.tmp 22),(.const (.int .i64 (-128))),(.const (.int .i64 127))],none,0⟩,⟨(some 24),.un .not (.tmp 23),none,0⟩,⟨(some 16),.mv (.tmp 24),none,0⟩] none) (.cond (.tmp 16) .skip (.seq (.reg 0 [⟨(some 25),.fa 6 (.tmp 1),none,0⟩,⟨(some 26),.ld 1 false (.tmp 25),none,0⟩,⟨(some 27),.cl 84 [(.tmp 26),(.const (.int .i64 0)),(.const (.int .i64 255))],none,0⟩,⟨(some 28),.un .not (.tmp 27),none,0⟩,⟨(some 16),.mv (.tmp 28),none,0⟩] none) (.cond (.tmp 16) .skip (.reg 0 [⟨(some 29),.fa 7 (.tmp 1),none,0⟩,⟨(some 30),.ld 1 false (.tmp 29),none,0⟩,⟨(some 31),.cl 84 [(.tmp 30),(.const (.int .i64 0)),(.const (.int .i64 281474976710655))],none,0⟩,⟨(some 32),.un .not (.tmp 31),none,0⟩,⟨(some 16),.mv (.tmp 32),none,0⟩] none))))))) (.cond (.tmp 16) (.seq (.reg 0 [⟨(some 2),.mv (.const (.int .i64 8)),none,0⟩] none) .ret) (.seq (.reg 0 [⟨(some 34),.fa 3 (.tmp 1),none,0⟩,⟨(some 35),.ld 1 false (.tmp 34),none,0⟩,⟨(some 36),.lent (.tmp 35),none,0⟩,⟨(some 37),.bin .gtr (.tmp 36) (.const (.int .i64 24)),none,0⟩,⟨(some 33),.mv (.tmp 37),none,0⟩] none) (.cond (.tmp 33) (.seq (.reg 0 [⟨(some 2),.mv (.const (.int .i64 5)),none,0⟩] none) .ret) (.seq (.seq (.reg 0 [⟨(some 39),.fa 3 (.tmp 1),none,0⟩,⟨(some 40),.ld 1 false (.tmp 39),none,0⟩,⟨(some 41),.cl 85 [(.tmp 40)],none,0⟩,⟨(some 42),.un .not (.tmp 41),none,0⟩,⟨(some 38),.mv (.tmp 42),none,0⟩] none) (.cond (.tmp 38) .skip (.reg 0 [⟨(some 43),.mv (.tmp 3),none,0⟩,⟨(some 44),.bin .neq (.tmp 43) (.const (.string ⟨#[]⟩)),none,0⟩,⟨(some 45),.mv (.tmp 44),none,0⟩,⟨(some 46),.mv (.tmp 3),(some (45,true)),0⟩,⟨(some 47),.ixt (.tmp 46) (.const (.int .i64 0)),(some (45,true)),0⟩,⟨(some 48),.bin .eql (.tmp 47) (.const (.int .u8 117)),(some (45,true)),0⟩,⟨(some 49),.pick (.tmp 45) (.tmp 48) (.const (.bool false)),none,0⟩,⟨(some 50),.mv (.tmp 49),none,0⟩,⟨(some 51),.fa 1 (.tmp 1),(some (50,true)),0⟩,⟨(some 52),.ld 1 false (.tmp 51),(some (50,true)),0⟩,⟨(some 53),.cl 86 [(.tmp 52)],(some (50,true)),0⟩,⟨(some 54),.un .not (.tmp 53),(some (50,true)),0⟩,⟨(some 55),.pick (.tmp 50) (.tmp 54) (.const (.bool false)),none,0⟩,⟨(some 38),.mv (.tmp 55),none,0⟩] none))) (.cond (.tmp 38) (.seq (.reg 0 [⟨(some 2),.mv (.const (.int .i64 11)),none,0⟩] none) .ret) .skip))))))))))) (.seq (.reg 0 [⟨(some 56),.fa 2 (.tmp 1),none,0⟩,⟨(some 57),.ld 1 false (.tmp 56),none,0⟩,⟨(some 58),.cl 87 [(.tmp 57)],none,0⟩,⟨(some 2),.mv (.tmp 58),none,0⟩] none) .ret))))
theorem ac68_ok:compF Tryz.prog Tryz.f68=some (ac68,59,[.tmp 2]):=by unfold ac68;kernel_rfl
end Go.Proofs.YtbimgghogflikaaGreatDoor

namespace Go.Proofs.YtbimgghogflikaaGreatDoor
open Go.RowKit
def zeroF (s:StzD) (c:UInt8):StzD:=if c=117 then { s with user:=⟨#[]⟩ } else if c=114 then { s with res:=⟨#[]⟩ } else if c=109 then { s with name:=⟨#[]⟩ } else if c=115 then { s with show_:=0 } else if c=112 then { s with prio:=0 } else if c=99 then { s with code:=0 } else { s with n:=0 }
def letV (c:UInt8):V:=if c=117 then .tup [.ptr 0 1,.i 33] else if c=114 then .tup [.ptr 0 2,.i 12] else if c=109 then .tup [.ptr 0 3,.i 24] else .tup [.lit (.pointer none),.i 0]
def numbV (c:UInt8):V:=if c=115 then .tup [.ptr 0 4,.i 1,.i 0] else if c=112 then .tup [.ptr 0 5,.i 1,.i 128] else if c=99 then .tup [.ptr 0 6,.i 1,.i 0] else .tup [.ptr 0 7,.i 6,.i 0]
theorem bytes_idlt (l:List UInt8):V.idlt.belowL 0 (l.map byteV)=true:=belowL_mem fun v hv=>by
 obtain ⟨b,_,rfl⟩:=List.mem_map.1 hv;rfl
attribute [local irreducible] AW Fin FinR seqQ blkQ regQ loopQ CallsV CallsS Callable
theorem text_s (c:UInt8) (s:StzD) (l:List UInt8) (hc:c=117∨c=114∨c=109∨c=115∨c=112∨c=99∨c=110):CallsS Tryz.prog 88 [.ptr 0 0,.u8 c] [.live (stzV s).cells 0] (letV c) [.live (stzV s).cells 0]:=by
 have hid:=bytes_idlt l
 refine callsR_comp mix Tryz.func88 ac88_ok rfl ?_
 unfold ac88
 simp only [List.length_cons,List.length_nil,List.replicate_succ,List.replicate_zero,List.cons_append,List.nil_append,Nat.reduceAdd,Nat.reduceSub]
 rcases hc with rfl | rfl | rfl | rfl | rfl | rfl | rfl
 all_goals (repeat' (first | ((try simp only [Nat.reduceAdd,Nat.reduceMul,Nat.zero_add,Nat.add_zero,Int.toNat_natCast,Int.reduceToNat,stzV]);refine hK' _ _ _ ?_;clear hK' K';first | refine q_regT ?_ | refine q_regD rfl ?_) | first | refine w_seq ?_ | refine q_seqN ?_ | (refine w_reg (by (try simp only [List.length_cons,List.length_nil,Nat.reduceAdd]);rfl) (by (try simp only [List.replicate_succ,List.replicate_zero,List.cons_append,List.nil_append,List.append_nil]);rfl) (fun K' hK'=>wpOps_ok ?_);conv=>whnf) | (refine w_condTst rfl ?_;(repeat refine Tst.not ?_);(first | refine Tst.T ?_ | refine Tst.F ?_ | refine Tst.decT (by assumption) ?_ | refine Tst.decF (by assumption) ?_ | refine Tst.eqT (by assumption) ?_ | refine Tst.eqF (by assumption) ?_ | refine Tst.neT (by assumption) ?_ | refine Tst.neF (by assumption) ?_ | refine Tst.isT (by assumption) ?_ | refine Tst.isF (by assumption) ?_ | refine Tst.dec (fun hb=>?_) (fun hb=>?_) | refine Tst.eqI (fun hb=>?_) (fun hb=>?_) | refine Tst.neI (fun hb=>?_) (fun hb=>?_) | refine Tst.not ?_ | refine Tst.any (fun hb=>?_) (fun hb=>?_)) <;> conv=>whnf) | refine w_ret ?_ | refine w_skip ?_ | refine w_blk ?_ | refine w_exit ?_ | refine q_seqR ?_ | refine q_seqE ?_ | refine q_blkN ?_ | refine q_blkR ?_ | refine q_blkH ?_ | refine q_blkE rfl ?_ | refine q_loopR ?_ | refine q_loopE ?_ | fail | first | (refine LenQ.ok ?_;conv=>whnf) | ((first | refine Tst.T ?_ | refine Tst.F ?_ | refine Tst.decT (by assumption) ?_ | refine Tst.decF (by assumption) ?_ | refine Tst.eqT (by assumption) ?_ | refine Tst.eqF (by assumption) ?_ | refine Tst.neT (by assumption) ?_ | refine Tst.neF (by assumption) ?_ | refine Tst.isT (by assumption) ?_ | refine Tst.isF (by assumption) ?_ | refine Tst.dec (fun hb=>?_) (fun hb=>?_) | refine Tst.eqI (fun hb=>?_) (fun hb=>?_) | refine Tst.neI (fun hb=>?_) (fun hb=>?_) | refine Tst.not ?_ | refine Tst.any (fun hb=>?_) (fun hb=>?_)) <;> conv=>whnf) | (refine Ari.ok (by omega) ?_;conv=>whnf) | (refine IxO.ok (by omega) (by omega) ?_;conv=>whnf) | (refine IxS.M (by omega) (by omega) (fun _=>rfl) ?_;conv=>whnf) | (refine ⟨Nat.le_of_ble_eq_true rfl,?_⟩;conv=>whnf) | (refine ⟨rfl,?_⟩;conv=>whnf) | (refine Cat.ok (by omega) ?_;conv=>whnf)))
 all_goals exact f_R0 (by simp) (ResL.cons (ResOne.tmp rfl) (ResL.cons (ResOne.tmp rfl) ResL.nil)) rfl rfl rfl rfl (by repeat' (first | exact trivial | refine wkS_f ?_ | refine wkS_d ?_ | refine ⟨rfl,?_⟩ | refine wkS_live0 (by assumption) ?_))
theorem number_s (c:UInt8) (s:StzD) (l:List UInt8) (hc:c=115∨c=112∨c=99∨c=110):CallsS Tryz.prog 89 [.ptr 0 0,.u8 c] [.live (stzV s).cells 0] (numbV c) [.live (stzV s).cells 0]:=by
 have hid:=bytes_idlt l
 refine callsR_comp mix Tryz.func89 ac89_ok rfl ?_
 unfold ac89
 simp only [List.length_cons,List.length_nil,List.replicate_succ,List.replicate_zero,List.cons_append,List.nil_append,Nat.reduceAdd,Nat.reduceSub]
 rcases hc with rfl | rfl | rfl | rfl
 all_goals (repeat' (first | ((try simp only [Nat.reduceAdd,Nat.reduceMul,Nat.zero_add,Nat.add_zero,Int.toNat_natCast,Int.reduceToNat,stzV]);refine hK' _ _ _ ?_;clear hK' K';first | refine q_regT ?_ | refine q_regD rfl ?_) | first | refine w_seq ?_ | refine q_seqN ?_ | (refine w_reg (by (try simp only [List.length_cons,List.length_nil,Nat.reduceAdd]);rfl) (by (try simp only [List.replicate_succ,List.replicate_zero,List.cons_append,List.nil_append,List.append_nil]);rfl) (fun K' hK'=>wpOps_ok ?_);conv=>whnf) | (refine w_condTst rfl ?_;(repeat refine Tst.not ?_);(first | refine Tst.T ?_ | refine Tst.F ?_ | refine Tst.decT (by assumption) ?_ | refine Tst.decF (by assumption) ?_ | refine Tst.eqT (by assumption) ?_ | refine Tst.eqF (by assumption) ?_ | refine Tst.neT (by assumption) ?_ | refine Tst.neF (by assumption) ?_ | refine Tst.isT (by assumption) ?_ | refine Tst.isF (by assumption) ?_ | refine Tst.dec (fun hb=>?_) (fun hb=>?_) | refine Tst.eqI (fun hb=>?_) (fun hb=>?_) | refine Tst.neI (fun hb=>?_) (fun hb=>?_) | refine Tst.not ?_ | refine Tst.any (fun hb=>?_) (fun hb=>?_)) <;> conv=>whnf) | refine w_ret ?_ | refine w_skip ?_ | refine w_blk ?_ | refine w_exit ?_ | refine q_seqR ?_ | refine q_seqE ?_ | refine q_blkN ?_ | refine q_blkR ?_ | refine q_blkH ?_ | refine q_blkE rfl ?_ | refine q_loopR ?_ | refine q_loopE ?_ | fail | first | (refine LenQ.ok ?_;conv=>whnf) | ((first | refine Tst.T ?_ | refine Tst.F ?_ | refine Tst.decT (by assumption) ?_ | refine Tst.decF (by assumption) ?_ | refine Tst.eqT (by assumption) ?_ | refine Tst.eqF (by assumption) ?_ | refine Tst.neT (by assumption) ?_ | refine Tst.neF (by assumption) ?_ | refine Tst.isT (by assumption) ?_ | refine Tst.isF (by assumption) ?_ | refine Tst.dec (fun hb=>?_) (fun hb=>?_) | refine Tst.eqI (fun hb=>?_) (fun hb=>?_) | refine Tst.neI (fun hb=>?_) (fun hb=>?_) | refine Tst.not ?_ | refine Tst.any (fun hb=>?_) (fun hb=>?_)) <;> conv=>whnf) | (refine Ari.ok (by omega) ?_;conv=>whnf) | (refine IxO.ok (by omega) (by omega) ?_;conv=>whnf) | (refine IxS.M (by omega) (by omega) (fun _=>rfl) ?_;conv=>whnf) | (refine ⟨Nat.le_of_ble_eq_true rfl,?_⟩;conv=>whnf) | (refine ⟨rfl,?_⟩;conv=>whnf) | (refine Cat.ok (by omega) ?_;conv=>whnf)))
 all_goals exact f_R0 (by simp) (ResL.cons (ResOne.tmp rfl) (ResL.cons (ResOne.tmp rfl) (ResL.cons (ResOne.tmp rfl) ResL.nil))) rfl rfl rfl rfl (by repeat' (first | exact trivial | refine wkS_f ?_ | refine wkS_d ?_ | refine ⟨rfl,?_⟩ | refine wkS_live0 (by assumption) ?_))
theorem bare1_s (s s' : StzD) (l:List UInt8) (off:Nat) (m:Int) (h:off=1∧s'={ s with user:=⟨#[]⟩ }∨off=2∧s'={ s with res:=⟨#[]⟩ }∨off=3∧s'={ s with name:=⟨#[]⟩ }):CallsS Tryz.prog 103 [.ptr 0 off,.i m] [.live (stzV s).cells 0] (.tup []) [.live (stzV s').cells 0]:=by
 have hid:=bytes_idlt l
 refine callsR_comp mix Tryz.func103 ac103_ok rfl ?_
 unfold ac103
 simp only [List.length_cons,List.length_nil,List.replicate_succ,List.replicate_zero,List.cons_append,List.nil_append,Nat.reduceAdd,Nat.reduceSub]
 rcases h with ⟨rfl,rfl⟩ | ⟨rfl,rfl⟩ | ⟨rfl,rfl⟩
 all_goals (repeat' (first | ((try simp only [Nat.reduceAdd,Nat.reduceMul,Nat.zero_add,Nat.add_zero,Int.toNat_natCast,Int.reduceToNat,stzV]);refine hK' _ _ _ ?_;clear hK' K';first | refine q_regT ?_ | refine q_regD rfl ?_) | first | refine w_seq ?_ | refine q_seqN ?_ | (refine w_reg (by (try simp only [List.length_cons,List.length_nil,Nat.reduceAdd]);rfl) (by (try simp only [List.replicate_succ,List.replicate_zero,List.cons_append,List.nil_append,List.append_nil]);rfl) (fun K' hK'=>wpOps_ok ?_);conv=>whnf) | (refine w_condTst rfl ?_;(repeat refine Tst.not ?_);(first | refine Tst.T ?_ | refine Tst.F ?_ | refine Tst.decT (by assumption) ?_ | refine Tst.decF (by assumption) ?_ | refine Tst.eqT (by assumption) ?_ | refine Tst.eqF (by assumption) ?_ | refine Tst.neT (by assumption) ?_ | refine Tst.neF (by assumption) ?_ | refine Tst.isT (by assumption) ?_ | refine Tst.isF (by assumption) ?_ | refine Tst.dec (fun hb=>?_) (fun hb=>?_) | refine Tst.eqI (fun hb=>?_) (fun hb=>?_) | refine Tst.neI (fun hb=>?_) (fun hb=>?_) | refine Tst.not ?_ | refine Tst.any (fun hb=>?_) (fun hb=>?_)) <;> conv=>whnf) | refine w_ret ?_ | refine w_skip ?_ | refine w_blk ?_ | refine w_exit ?_ | refine q_seqR ?_ | refine q_seqE ?_ | refine q_blkN ?_ | refine q_blkR ?_ | refine q_blkH ?_ | refine q_blkE rfl ?_ | refine q_loopR ?_ | refine q_loopE ?_ | fail | first | (refine LenQ.ok ?_;conv=>whnf) | ((first | refine Tst.T ?_ | refine Tst.F ?_ | refine Tst.decT (by assumption) ?_ | refine Tst.decF (by assumption) ?_ | refine Tst.eqT (by assumption) ?_ | refine Tst.eqF (by assumption) ?_ | refine Tst.neT (by assumption) ?_ | refine Tst.neF (by assumption) ?_ | refine Tst.isT (by assumption) ?_ | refine Tst.isF (by assumption) ?_ | refine Tst.dec (fun hb=>?_) (fun hb=>?_) | refine Tst.eqI (fun hb=>?_) (fun hb=>?_) | refine Tst.neI (fun hb=>?_) (fun hb=>?_) | refine Tst.not ?_ | refine Tst.any (fun hb=>?_) (fun hb=>?_)) <;> conv=>whnf) | (refine Ari.ok (by omega) ?_;conv=>whnf) | (refine IxO.ok (by omega) (by omega) ?_;conv=>whnf) | (refine IxS.M (by omega) (by omega) (fun _=>rfl) ?_;conv=>whnf) | (refine ⟨Nat.le_of_ble_eq_true rfl,?_⟩;conv=>whnf) | (refine ⟨rfl,?_⟩;conv=>whnf) | (refine Cat.ok (by omega) ?_;conv=>whnf)))
 all_goals exact f_R0 (by simp) .nil rfl rfl rfl rfl (by repeat' (first | exact trivial | refine wkS_f ?_ | refine wkS_d ?_ | refine ⟨rfl,?_⟩ | refine wkS_live0 (by assumption) ?_))
theorem bare2_s (s s' : StzD) (l:List UInt8) (off:Nat) (m m' : Int) (h:off=4∧s'={ s with show_:=0 }∨off=5∧s'={ s with prio:=0 }∨off=6∧s'={ s with code:=0 }∨off=7∧s'={ s with n:=0 }):CallsS Tryz.prog 104 [.ptr 0 off,.i m,.i m'] [.live (stzV s).cells 0] (.tup []) [.live (stzV s').cells 0]:=by
 have hid:=bytes_idlt l
 refine callsR_comp mix Tryz.func104 ac104_ok rfl ?_
 unfold ac104
 simp only [List.length_cons,List.length_nil,List.replicate_succ,List.replicate_zero,List.cons_append,List.nil_append,Nat.reduceAdd,Nat.reduceSub]
 rcases h with ⟨rfl,rfl⟩ | ⟨rfl,rfl⟩ | ⟨rfl,rfl⟩ | ⟨rfl,rfl⟩
 all_goals (repeat' (first | ((try simp only [Nat.reduceAdd,Nat.reduceMul,Nat.zero_add,Nat.add_zero,Int.toNat_natCast,Int.reduceToNat,stzV]);refine hK' _ _ _ ?_;clear hK' K';first | refine q_regT ?_ | refine q_regD rfl ?_) | first | refine w_seq ?_ | refine q_seqN ?_ | (refine w_reg (by (try simp only [List.length_cons,List.length_nil,Nat.reduceAdd]);rfl) (by (try simp only [List.replicate_succ,List.replicate_zero,List.cons_append,List.nil_append,List.append_nil]);rfl) (fun K' hK'=>wpOps_ok ?_);conv=>whnf) | (refine w_condTst rfl ?_;(repeat refine Tst.not ?_);(first | refine Tst.T ?_ | refine Tst.F ?_ | refine Tst.decT (by assumption) ?_ | refine Tst.decF (by assumption) ?_ | refine Tst.eqT (by assumption) ?_ | refine Tst.eqF (by assumption) ?_ | refine Tst.neT (by assumption) ?_ | refine Tst.neF (by assumption) ?_ | refine Tst.isT (by assumption) ?_ | refine Tst.isF (by assumption) ?_ | refine Tst.dec (fun hb=>?_) (fun hb=>?_) | refine Tst.eqI (fun hb=>?_) (fun hb=>?_) | refine Tst.neI (fun hb=>?_) (fun hb=>?_) | refine Tst.not ?_ | refine Tst.any (fun hb=>?_) (fun hb=>?_)) <;> conv=>whnf) | refine w_ret ?_ | refine w_skip ?_ | refine w_blk ?_ | refine w_exit ?_ | refine q_seqR ?_ | refine q_seqE ?_ | refine q_blkN ?_ | refine q_blkR ?_ | refine q_blkH ?_ | refine q_blkE rfl ?_ | refine q_loopR ?_ | refine q_loopE ?_ | fail | first | (refine LenQ.ok ?_;conv=>whnf) | ((first | refine Tst.T ?_ | refine Tst.F ?_ | refine Tst.decT (by assumption) ?_ | refine Tst.decF (by assumption) ?_ | refine Tst.eqT (by assumption) ?_ | refine Tst.eqF (by assumption) ?_ | refine Tst.neT (by assumption) ?_ | refine Tst.neF (by assumption) ?_ | refine Tst.isT (by assumption) ?_ | refine Tst.isF (by assumption) ?_ | refine Tst.dec (fun hb=>?_) (fun hb=>?_) | refine Tst.eqI (fun hb=>?_) (fun hb=>?_) | refine Tst.neI (fun hb=>?_) (fun hb=>?_) | refine Tst.not ?_ | refine Tst.any (fun hb=>?_) (fun hb=>?_)) <;> conv=>whnf) | (refine Ari.ok (by omega) ?_;conv=>whnf) | (refine IxO.ok (by omega) (by omega) ?_;conv=>whnf) | (refine IxS.M (by omega) (by omega) (fun _=>rfl) ?_;conv=>whnf) | (refine ⟨Nat.le_of_ble_eq_true rfl,?_⟩;conv=>whnf) | (refine ⟨rfl,?_⟩;conv=>whnf) | (refine Cat.ok (by omega) ?_;conv=>whnf)))
 all_goals exact f_R0 (by simp) .nil rfl rfl rfl rfl (by repeat' (first | exact trivial | refine wkS_f ?_ | refine wkS_d ?_ | refine ⟨rfl,?_⟩ | refine wkS_live0 (by assumption) ?_))
theorem bare1_ok:Callable Tryz.prog 103:=callable_comp Tryz.func103 ac103_ok (by kernel_rfl)
theorem bare2_ok:Callable Tryz.prog 104:=callable_comp Tryz.func104 ac104_ok (by kernel_rfl)
end Go.Proofs.YtbimgghogflikaaGreatDoor

namespace Go.Proofs.YtbimgghogflikaaGreatDoor
open Go.RowKit
theorem ite_all {p:Prop} [Decidable p] {a b:List UInt8} {f:UInt8→Bool} (ha:a.all f=true) (hb:b.all f=true):(if p then a else b).all f=true:=by split <;> assumption
theorem hasN_in (k:Nat):∀ c ∈ hasN k,c=117∨c=114∨c=109∨c=115∨c=112∨c=99∨c=110:=by
 have h:(hasN k).all (fun c=>c == 117 || c == 114 || c == 109 || c == 115 || c == 112 || c == 99 || c == 110)=true:=by
  unfold hasN
  repeat' (refine ite_all ?_ ?_)
  all_goals rfl
 intro c hc
 have:=List.all_eq_true.1 h c hc
 simpa [or_assoc] using this
attribute [local irreducible] AW Fin FinR seqQ blkQ regQ loopQ CallsV CallsS Callable
theorem each_s (s:StzD):CallsS Tryz.prog 69 [.ptr 0 0,.clo (.func 103) [],.clo (.func 104) []] [.live (stzV s).cells 0] (.tup []) [.live (stzV ((hasN s.kind.toNat).foldl zeroF s)).cells 0]:=by
 have hc:=has_v s.kind
 have hl:=hasN_len s.kind.toNat
 have hin:=hasN_in s.kind.toNat
 have hb0:=ba_list (hasN s.kind.toNat)
 have hz:=ba_size (hasN s.kind.toNat)
 generalize hasN s.kind.toNat=L at *
 generalize ba L=u at *
 have hid:=bytes_idlt L
 refine callsR_comp mix Tryz.func69 ac69_ok rfl ?_
 unfold ac69
 simp only [List.length_cons,List.length_nil,List.replicate_succ,List.replicate_zero,List.cons_append,List.nil_append,Nat.reduceAdd,Nat.reduceSub]
 repeat' (first | ((try simp only [Nat.reduceAdd,Nat.reduceMul,Nat.zero_add,Nat.add_zero,Int.toNat_natCast,Int.reduceToNat,stzV]);refine hK' _ _ _ ?_;clear hK' K';first | refine q_regT ?_ | refine q_regD rfl ?_) | first | refine w_seq ?_ | refine q_seqN ?_ | (refine w_reg (by (try simp only [List.length_cons,List.length_nil,Nat.reduceAdd]);rfl) (by (try simp only [List.replicate_succ,List.replicate_zero,List.cons_append,List.nil_append,List.append_nil]);rfl) (fun K' hK'=>wpOps_ok ?_);conv=>whnf) | (refine w_condTst rfl ?_;(repeat refine Tst.not ?_);(first | refine Tst.T ?_ | refine Tst.F ?_ | refine Tst.decT (by assumption) ?_ | refine Tst.decF (by assumption) ?_ | refine Tst.eqT (by assumption) ?_ | refine Tst.eqF (by assumption) ?_ | refine Tst.neT (by assumption) ?_ | refine Tst.neF (by assumption) ?_ | refine Tst.isT (by assumption) ?_ | refine Tst.isF (by assumption) ?_ | refine Tst.dec (fun hb=>?_) (fun hb=>?_) | refine Tst.eqI (fun hb=>?_) (fun hb=>?_) | refine Tst.neI (fun hb=>?_) (fun hb=>?_) | refine Tst.not ?_ | refine Tst.any (fun hb=>?_) (fun hb=>?_)) <;> conv=>whnf) | refine w_ret ?_ | refine w_skip ?_ | refine w_blk ?_ | refine w_exit ?_ | refine q_seqR ?_ | refine q_seqE ?_ | refine q_blkN ?_ | refine q_blkR ?_ | refine q_blkH ?_ | refine q_blkE rfl ?_ | refine q_loopR ?_ | refine q_loopE ?_ | (refine Ask_V0 (hc) rfl rfl ?_;conv=>whnf) | first | (refine LenQ.ok ?_;conv=>whnf) | ((first | refine Tst.T ?_ | refine Tst.F ?_ | refine Tst.decT (by assumption) ?_ | refine Tst.decF (by assumption) ?_ | refine Tst.eqT (by assumption) ?_ | refine Tst.eqF (by assumption) ?_ | refine Tst.neT (by assumption) ?_ | refine Tst.neF (by assumption) ?_ | refine Tst.isT (by assumption) ?_ | refine Tst.isF (by assumption) ?_ | refine Tst.dec (fun hb=>?_) (fun hb=>?_) | refine Tst.eqI (fun hb=>?_) (fun hb=>?_) | refine Tst.neI (fun hb=>?_) (fun hb=>?_) | refine Tst.not ?_ | refine Tst.any (fun hb=>?_) (fun hb=>?_)) <;> conv=>whnf) | (refine Ari.ok (by omega) ?_;conv=>whnf) | (refine IxO.ok (by omega) (by omega) ?_;conv=>whnf) | (refine IxS.M (by omega) (by omega) (fun _=>rfl) ?_;conv=>whnf) | (refine ⟨Nat.le_of_ble_eq_true rfl,?_⟩;conv=>whnf) | (refine ⟨rfl,?_⟩;conv=>whnf) | (refine Cat.ok (by omega) ?_;conv=>whnf))
 try rw [hb0]
 try rw [hz]
 try simp only [List.length_map]
 refine w_loop [17] [7,8,9,18,19,20,21,22,23,24,25,26,27,28,29,30,31,32,33,34,35,36,37,38,39,40,41] (fun n vals st=>∃ k:Nat,k + n=L.length∧vals=[.i k]∧st=[.live (stzV ((L.take k).foldl zeroF s)).cells 0]) L.length 1 [] [.i 0] (by refine wk0_intro (by omega) (by simp only [setF,maskF,List.set_cons_zero,List.set_cons_succ];repeat' (first | exact trivial | refine ⟨?_,?_⟩ | exact .inr (.inl ⟨rfl,rfl,rfl⟩) | exact .inr (.inr ⟨rfl,rfl⟩) | exact .inl rfl)) rfl rfl (by repeat' (first | exact trivial | refine wkS_f ?_ | refine wkS_d ?_ | refine ⟨rfl,?_⟩ | refine wkS_live0 (by assumption) ?_))) ⟨0,by omega,rfl,rfl⟩ ?_
 rintro n vals st ⟨k,hk,rfl,rfl⟩
 simp only [setF,maskF,List.set_cons_zero,List.set_cons_succ]
 have hstep:∀ h:k < L.length,(L.take (k + 1)).foldl zeroF s=zeroF ((L.take k).foldl zeroF s) L[k]:=by
  intro h;rw [List.take_succ_eq_append_getElem h,List.foldl_append];rfl
 have hin2:∀ h:k < L.length,_:=fun h=>hin L[k] (List.getElem_mem h)
 generalize hq:(L.take k).foldl zeroF s=q at *
 simp only [putF,List.set_cons_zero,List.set_cons_succ,evO,List.getD_cons_zero,List.getD_cons_succ,V.ofValue,ofC,V.cells,partV,List.drop_zero,List.drop_succ_cons,List.take_succ_cons,List.take_zero,Nat.reduceAdd,Nat.reduceMul,Nat.zero_add,Nat.add_zero,if_true,if_false,Bool.false_eq_true,List.nil_append,List.cons_append,List.append_nil,List.map_cons,List.map_nil,stzV]
 repeat' (first | ((try simp only [Nat.reduceAdd,Nat.reduceMul,Nat.zero_add,Nat.add_zero,Int.toNat_natCast,Int.reduceToNat,stzV]);refine hK' _ _ _ ?_;clear hK' K';first | refine q_regT ?_ | refine q_regD rfl ?_) | first | refine w_seq ?_ | refine q_seqN ?_ | (refine w_reg (by (try simp only [List.length_cons,List.length_nil,Nat.reduceAdd]);rfl) (by (try simp only [List.replicate_succ,List.replicate_zero,List.cons_append,List.nil_append,List.append_nil]);rfl) (fun K' hK'=>wpOps_ok ?_);conv=>whnf) | (refine w_condTst rfl ?_;(repeat refine Tst.not ?_);(first | refine Tst.T ?_ | refine Tst.F ?_ | refine Tst.decT (by assumption) ?_ | refine Tst.decF (by assumption) ?_ | refine Tst.eqT (by assumption) ?_ | refine Tst.eqF (by assumption) ?_ | refine Tst.neT (by assumption) ?_ | refine Tst.neF (by assumption) ?_ | refine Tst.isT (by assumption) ?_ | refine Tst.isF (by assumption) ?_ | refine Tst.dec (fun hb=>?_) (fun hb=>?_) | refine Tst.eqI (fun hb=>?_) (fun hb=>?_) | refine Tst.neI (fun hb=>?_) (fun hb=>?_) | refine Tst.not ?_ | refine Tst.any (fun hb=>?_) (fun hb=>?_)) <;> conv=>whnf) | refine w_ret ?_ | refine w_skip ?_ | refine w_blk ?_ | refine w_exit ?_ | refine q_seqR ?_ | refine q_seqE ?_ | refine q_blkN ?_ | refine q_blkR ?_ | refine q_blkH ?_ | refine q_blkE rfl ?_ | refine q_loopR ?_ | refine q_loopE ?_ | fail | first | (refine LenQ.ok ?_;conv=>whnf) | ((first | refine Tst.T ?_ | refine Tst.F ?_ | refine Tst.decT (by assumption) ?_ | refine Tst.decF (by assumption) ?_ | refine Tst.eqT (by assumption) ?_ | refine Tst.eqF (by assumption) ?_ | refine Tst.neT (by assumption) ?_ | refine Tst.neF (by assumption) ?_ | refine Tst.isT (by assumption) ?_ | refine Tst.isF (by assumption) ?_ | refine Tst.dec (fun hb=>?_) (fun hb=>?_) | refine Tst.eqI (fun hb=>?_) (fun hb=>?_) | refine Tst.neI (fun hb=>?_) (fun hb=>?_) | refine Tst.not ?_ | refine Tst.any (fun hb=>?_) (fun hb=>?_)) <;> conv=>whnf) | (refine Ari.ok (by omega) ?_;conv=>whnf) | (refine IxO.ok (by omega) (by omega) ?_;conv=>whnf) | (refine IxS.M (by omega) (by omega) (fun _=>rfl) ?_;conv=>whnf) | (refine ⟨Nat.le_of_ble_eq_true rfl,?_⟩;conv=>whnf) | (refine ⟨rfl,?_⟩;conv=>whnf) | (refine Cat.ok (by omega) ?_;conv=>whnf))
 ·have hlt:k < L.length:=by omega
  replace hstep:=hstep hlt
  have hi:=hin2 hlt
  generalize L[k]=c at hstep hi ⊢
  rcases hi with rfl | rfl | rfl | rfl | rfl | rfl | rfl
  ·repeat' (first | ((try simp only [Nat.reduceAdd,Nat.reduceMul,Nat.zero_add,Nat.add_zero,Int.toNat_natCast,Int.reduceToNat,stzV]);refine hK' _ _ _ ?_;clear hK' K';first | refine q_regT ?_ | refine q_regD rfl ?_) | first | refine w_seq ?_ | refine q_seqN ?_ | (refine w_reg (by (try simp only [List.length_cons,List.length_nil,Nat.reduceAdd]);rfl) (by (try simp only [List.replicate_succ,List.replicate_zero,List.cons_append,List.nil_append,List.append_nil]);rfl) (fun K' hK'=>wpOps_ok ?_);conv=>whnf) | (refine w_condTst rfl ?_;(repeat refine Tst.not ?_);(first | refine Tst.T ?_ | refine Tst.F ?_ | refine Tst.decT (by assumption) ?_ | refine Tst.decF (by assumption) ?_ | refine Tst.eqT (by assumption) ?_ | refine Tst.eqF (by assumption) ?_ | refine Tst.neT (by assumption) ?_ | refine Tst.neF (by assumption) ?_ | refine Tst.isT (by assumption) ?_ | refine Tst.isF (by assumption) ?_ | refine Tst.dec (fun hb=>?_) (fun hb=>?_) | refine Tst.eqI (fun hb=>?_) (fun hb=>?_) | refine Tst.neI (fun hb=>?_) (fun hb=>?_) | refine Tst.not ?_ | refine Tst.any (fun hb=>?_) (fun hb=>?_)) <;> conv=>whnf) | refine w_ret ?_ | refine w_skip ?_ | refine w_blk ?_ | refine w_exit ?_ | refine q_seqR ?_ | refine q_seqE ?_ | refine q_blkN ?_ | refine q_blkR ?_ | refine q_blkH ?_ | refine q_blkE rfl ?_ | refine q_loopR ?_ | refine q_loopE ?_ | (refine Ask_S (text_s _ q L (by decide)) rfl ?_;conv=>whnf) | (refine ⟨bare1_ok,?_⟩;conv=>whnf) | (refine Ask_S (bare1_s q _ L _ _ (.inl ⟨rfl,rfl⟩)) rfl ?_;conv=>whnf) | first | (refine LenQ.ok ?_;conv=>whnf) | ((first | refine Tst.T ?_ | refine Tst.F ?_ | refine Tst.decT (by assumption) ?_ | refine Tst.decF (by assumption) ?_ | refine Tst.eqT (by assumption) ?_ | refine Tst.eqF (by assumption) ?_ | refine Tst.neT (by assumption) ?_ | refine Tst.neF (by assumption) ?_ | refine Tst.isT (by assumption) ?_ | refine Tst.isF (by assumption) ?_ | refine Tst.dec (fun hb=>?_) (fun hb=>?_) | refine Tst.eqI (fun hb=>?_) (fun hb=>?_) | refine Tst.neI (fun hb=>?_) (fun hb=>?_) | refine Tst.not ?_ | refine Tst.any (fun hb=>?_) (fun hb=>?_)) <;> conv=>whnf) | (refine Ari.ok (by omega) ?_;conv=>whnf) | (refine IxO.ok (by omega) (by omega) ?_;conv=>whnf) | (refine IxS.M (by omega) (by omega) (fun _=>rfl) ?_;conv=>whnf) | (refine ⟨Nat.le_of_ble_eq_true rfl,?_⟩;conv=>whnf) | (refine ⟨rfl,?_⟩;conv=>whnf) | (refine Cat.ok (by omega) ?_;conv=>whnf))
   exact q_loop (n - 1) 1 [] [_] (by omega) (by refine wk0_intro (by omega) (by simp only [setF,maskF,List.set_cons_zero,List.set_cons_succ];repeat' (first | exact trivial | refine ⟨?_,?_⟩ | exact .inr (.inl ⟨rfl,rfl,rfl⟩) | exact .inr (.inr ⟨rfl,rfl⟩) | exact .inl rfl)) rfl rfl (by repeat' (first | exact trivial | refine wkS_f ?_ | refine wkS_d ?_ | refine ⟨rfl,?_⟩ | refine wkS_live0 (by assumption) ?_))) ⟨k + 1,by omega,rfl,by rw [hstep];rfl⟩
  ·repeat' (first | ((try simp only [Nat.reduceAdd,Nat.reduceMul,Nat.zero_add,Nat.add_zero,Int.toNat_natCast,Int.reduceToNat,stzV]);refine hK' _ _ _ ?_;clear hK' K';first | refine q_regT ?_ | refine q_regD rfl ?_) | first | refine w_seq ?_ | refine q_seqN ?_ | (refine w_reg (by (try simp only [List.length_cons,List.length_nil,Nat.reduceAdd]);rfl) (by (try simp only [List.replicate_succ,List.replicate_zero,List.cons_append,List.nil_append,List.append_nil]);rfl) (fun K' hK'=>wpOps_ok ?_);conv=>whnf) | (refine w_condTst rfl ?_;(repeat refine Tst.not ?_);(first | refine Tst.T ?_ | refine Tst.F ?_ | refine Tst.decT (by assumption) ?_ | refine Tst.decF (by assumption) ?_ | refine Tst.eqT (by assumption) ?_ | refine Tst.eqF (by assumption) ?_ | refine Tst.neT (by assumption) ?_ | refine Tst.neF (by assumption) ?_ | refine Tst.isT (by assumption) ?_ | refine Tst.isF (by assumption) ?_ | refine Tst.dec (fun hb=>?_) (fun hb=>?_) | refine Tst.eqI (fun hb=>?_) (fun hb=>?_) | refine Tst.neI (fun hb=>?_) (fun hb=>?_) | refine Tst.not ?_ | refine Tst.any (fun hb=>?_) (fun hb=>?_)) <;> conv=>whnf) | refine w_ret ?_ | refine w_skip ?_ | refine w_blk ?_ | refine w_exit ?_ | refine q_seqR ?_ | refine q_seqE ?_ | refine q_blkN ?_ | refine q_blkR ?_ | refine q_blkH ?_ | refine q_blkE rfl ?_ | refine q_loopR ?_ | refine q_loopE ?_ | (refine Ask_S (text_s _ q L (by decide)) rfl ?_;conv=>whnf) | (refine ⟨bare1_ok,?_⟩;conv=>whnf) | (refine Ask_S (bare1_s q _ L _ _ (.inr (.inl ⟨rfl,rfl⟩))) rfl ?_;conv=>whnf) | first | (refine LenQ.ok ?_;conv=>whnf) | ((first | refine Tst.T ?_ | refine Tst.F ?_ | refine Tst.decT (by assumption) ?_ | refine Tst.decF (by assumption) ?_ | refine Tst.eqT (by assumption) ?_ | refine Tst.eqF (by assumption) ?_ | refine Tst.neT (by assumption) ?_ | refine Tst.neF (by assumption) ?_ | refine Tst.isT (by assumption) ?_ | refine Tst.isF (by assumption) ?_ | refine Tst.dec (fun hb=>?_) (fun hb=>?_) | refine Tst.eqI (fun hb=>?_) (fun hb=>?_) | refine Tst.neI (fun hb=>?_) (fun hb=>?_) | refine Tst.not ?_ | refine Tst.any (fun hb=>?_) (fun hb=>?_)) <;> conv=>whnf) | (refine Ari.ok (by omega) ?_;conv=>whnf) | (refine IxO.ok (by omega) (by omega) ?_;conv=>whnf) | (refine IxS.M (by omega) (by omega) (fun _=>rfl) ?_;conv=>whnf) | (refine ⟨Nat.le_of_ble_eq_true rfl,?_⟩;conv=>whnf) | (refine ⟨rfl,?_⟩;conv=>whnf) | (refine Cat.ok (by omega) ?_;conv=>whnf))
   exact q_loop (n - 1) 1 [] [_] (by omega) (by refine wk0_intro (by omega) (by simp only [setF,maskF,List.set_cons_zero,List.set_cons_succ];repeat' (first | exact trivial | refine ⟨?_,?_⟩ | exact .inr (.inl ⟨rfl,rfl,rfl⟩) | exact .inr (.inr ⟨rfl,rfl⟩) | exact .inl rfl)) rfl rfl (by repeat' (first | exact trivial | refine wkS_f ?_ | refine wkS_d ?_ | refine ⟨rfl,?_⟩ | refine wkS_live0 (by assumption) ?_))) ⟨k + 1,by omega,rfl,by rw [hstep];rfl⟩
  ·repeat' (first | ((try simp only [Nat.reduceAdd,Nat.reduceMul,Nat.zero_add,Nat.add_zero,Int.toNat_natCast,Int.reduceToNat,stzV]);refine hK' _ _ _ ?_;clear hK' K';first | refine q_regT ?_ | refine q_regD rfl ?_) | first | refine w_seq ?_ | refine q_seqN ?_ | (refine w_reg (by (try simp only [List.length_cons,List.length_nil,Nat.reduceAdd]);rfl) (by (try simp only [List.replicate_succ,List.replicate_zero,List.cons_append,List.nil_append,List.append_nil]);rfl) (fun K' hK'=>wpOps_ok ?_);conv=>whnf) | (refine w_condTst rfl ?_;(repeat refine Tst.not ?_);(first | refine Tst.T ?_ | refine Tst.F ?_ | refine Tst.decT (by assumption) ?_ | refine Tst.decF (by assumption) ?_ | refine Tst.eqT (by assumption) ?_ | refine Tst.eqF (by assumption) ?_ | refine Tst.neT (by assumption) ?_ | refine Tst.neF (by assumption) ?_ | refine Tst.isT (by assumption) ?_ | refine Tst.isF (by assumption) ?_ | refine Tst.dec (fun hb=>?_) (fun hb=>?_) | refine Tst.eqI (fun hb=>?_) (fun hb=>?_) | refine Tst.neI (fun hb=>?_) (fun hb=>?_) | refine Tst.not ?_ | refine Tst.any (fun hb=>?_) (fun hb=>?_)) <;> conv=>whnf) | refine w_ret ?_ | refine w_skip ?_ | refine w_blk ?_ | refine w_exit ?_ | refine q_seqR ?_ | refine q_seqE ?_ | refine q_blkN ?_ | refine q_blkR ?_ | refine q_blkH ?_ | refine q_blkE rfl ?_ | refine q_loopR ?_ | refine q_loopE ?_ | (refine Ask_S (text_s _ q L (by decide)) rfl ?_;conv=>whnf) | (refine ⟨bare1_ok,?_⟩;conv=>whnf) | (refine Ask_S (bare1_s q _ L _ _ (.inr (.inr ⟨rfl,rfl⟩))) rfl ?_;conv=>whnf) | first | (refine LenQ.ok ?_;conv=>whnf) | ((first | refine Tst.T ?_ | refine Tst.F ?_ | refine Tst.decT (by assumption) ?_ | refine Tst.decF (by assumption) ?_ | refine Tst.eqT (by assumption) ?_ | refine Tst.eqF (by assumption) ?_ | refine Tst.neT (by assumption) ?_ | refine Tst.neF (by assumption) ?_ | refine Tst.isT (by assumption) ?_ | refine Tst.isF (by assumption) ?_ | refine Tst.dec (fun hb=>?_) (fun hb=>?_) | refine Tst.eqI (fun hb=>?_) (fun hb=>?_) | refine Tst.neI (fun hb=>?_) (fun hb=>?_) | refine Tst.not ?_ | refine Tst.any (fun hb=>?_) (fun hb=>?_)) <;> conv=>whnf) | (refine Ari.ok (by omega) ?_;conv=>whnf) | (refine IxO.ok (by omega) (by omega) ?_;conv=>whnf) | (refine IxS.M (by omega) (by omega) (fun _=>rfl) ?_;conv=>whnf) | (refine ⟨Nat.le_of_ble_eq_true rfl,?_⟩;conv=>whnf) | (refine ⟨rfl,?_⟩;conv=>whnf) | (refine Cat.ok (by omega) ?_;conv=>whnf))
   exact q_loop (n - 1) 1 [] [_] (by omega) (by refine wk0_intro (by omega) (by simp only [setF,maskF,List.set_cons_zero,List.set_cons_succ];repeat' (first | exact trivial | refine ⟨?_,?_⟩ | exact .inr (.inl ⟨rfl,rfl,rfl⟩) | exact .inr (.inr ⟨rfl,rfl⟩) | exact .inl rfl)) rfl rfl (by repeat' (first | exact trivial | refine wkS_f ?_ | refine wkS_d ?_ | refine ⟨rfl,?_⟩ | refine wkS_live0 (by assumption) ?_))) ⟨k + 1,by omega,rfl,by rw [hstep];rfl⟩
  ·repeat' (first | ((try simp only [Nat.reduceAdd,Nat.reduceMul,Nat.zero_add,Nat.add_zero,Int.toNat_natCast,Int.reduceToNat,stzV]);refine hK' _ _ _ ?_;clear hK' K';first | refine q_regT ?_ | refine q_regD rfl ?_) | first | refine w_seq ?_ | refine q_seqN ?_ | (refine w_reg (by (try simp only [List.length_cons,List.length_nil,Nat.reduceAdd]);rfl) (by (try simp only [List.replicate_succ,List.replicate_zero,List.cons_append,List.nil_append,List.append_nil]);rfl) (fun K' hK'=>wpOps_ok ?_);conv=>whnf) | (refine w_condTst rfl ?_;(repeat refine Tst.not ?_);(first | refine Tst.T ?_ | refine Tst.F ?_ | refine Tst.decT (by assumption) ?_ | refine Tst.decF (by assumption) ?_ | refine Tst.eqT (by assumption) ?_ | refine Tst.eqF (by assumption) ?_ | refine Tst.neT (by assumption) ?_ | refine Tst.neF (by assumption) ?_ | refine Tst.isT (by assumption) ?_ | refine Tst.isF (by assumption) ?_ | refine Tst.dec (fun hb=>?_) (fun hb=>?_) | refine Tst.eqI (fun hb=>?_) (fun hb=>?_) | refine Tst.neI (fun hb=>?_) (fun hb=>?_) | refine Tst.not ?_ | refine Tst.any (fun hb=>?_) (fun hb=>?_)) <;> conv=>whnf) | refine w_ret ?_ | refine w_skip ?_ | refine w_blk ?_ | refine w_exit ?_ | refine q_seqR ?_ | refine q_seqE ?_ | refine q_blkN ?_ | refine q_blkR ?_ | refine q_blkH ?_ | refine q_blkE rfl ?_ | refine q_loopR ?_ | refine q_loopE ?_ | (refine Ask_S (text_s _ q L (by decide)) rfl ?_;conv=>whnf) | (refine Ask_S (number_s _ q L (by decide)) rfl ?_;conv=>whnf) | (refine ⟨bare2_ok,?_⟩;conv=>whnf) | (refine Ask_S (bare2_s q _ L _ _ _ (.inl ⟨rfl,rfl⟩)) rfl ?_;conv=>whnf) | first | (refine LenQ.ok ?_;conv=>whnf) | ((first | refine Tst.T ?_ | refine Tst.F ?_ | refine Tst.decT (by assumption) ?_ | refine Tst.decF (by assumption) ?_ | refine Tst.eqT (by assumption) ?_ | refine Tst.eqF (by assumption) ?_ | refine Tst.neT (by assumption) ?_ | refine Tst.neF (by assumption) ?_ | refine Tst.isT (by assumption) ?_ | refine Tst.isF (by assumption) ?_ | refine Tst.dec (fun hb=>?_) (fun hb=>?_) | refine Tst.eqI (fun hb=>?_) (fun hb=>?_) | refine Tst.neI (fun hb=>?_) (fun hb=>?_) | refine Tst.not ?_ | refine Tst.any (fun hb=>?_) (fun hb=>?_)) <;> conv=>whnf) | (refine Ari.ok (by omega) ?_;conv=>whnf) | (refine IxO.ok (by omega) (by omega) ?_;conv=>whnf) | (refine IxS.M (by omega) (by omega) (fun _=>rfl) ?_;conv=>whnf) | (refine ⟨Nat.le_of_ble_eq_true rfl,?_⟩;conv=>whnf) | (refine ⟨rfl,?_⟩;conv=>whnf) | (refine Cat.ok (by omega) ?_;conv=>whnf))
   exact q_loop (n - 1) 1 [] [_] (by omega) (by refine wk0_intro (by omega) (by simp only [setF,maskF,List.set_cons_zero,List.set_cons_succ];repeat' (first | exact trivial | refine ⟨?_,?_⟩ | exact .inr (.inl ⟨rfl,rfl,rfl⟩) | exact .inr (.inr ⟨rfl,rfl⟩) | exact .inl rfl)) rfl rfl (by repeat' (first | exact trivial | refine wkS_f ?_ | refine wkS_d ?_ | refine ⟨rfl,?_⟩ | refine wkS_live0 (by assumption) ?_))) ⟨k + 1,by omega,rfl,by rw [hstep];rfl⟩
  ·repeat' (first | ((try simp only [Nat.reduceAdd,Nat.reduceMul,Nat.zero_add,Nat.add_zero,Int.toNat_natCast,Int.reduceToNat,stzV]);refine hK' _ _ _ ?_;clear hK' K';first | refine q_regT ?_ | refine q_regD rfl ?_) | first | refine w_seq ?_ | refine q_seqN ?_ | (refine w_reg (by (try simp only [List.length_cons,List.length_nil,Nat.reduceAdd]);rfl) (by (try simp only [List.replicate_succ,List.replicate_zero,List.cons_append,List.nil_append,List.append_nil]);rfl) (fun K' hK'=>wpOps_ok ?_);conv=>whnf) | (refine w_condTst rfl ?_;(repeat refine Tst.not ?_);(first | refine Tst.T ?_ | refine Tst.F ?_ | refine Tst.decT (by assumption) ?_ | refine Tst.decF (by assumption) ?_ | refine Tst.eqT (by assumption) ?_ | refine Tst.eqF (by assumption) ?_ | refine Tst.neT (by assumption) ?_ | refine Tst.neF (by assumption) ?_ | refine Tst.isT (by assumption) ?_ | refine Tst.isF (by assumption) ?_ | refine Tst.dec (fun hb=>?_) (fun hb=>?_) | refine Tst.eqI (fun hb=>?_) (fun hb=>?_) | refine Tst.neI (fun hb=>?_) (fun hb=>?_) | refine Tst.not ?_ | refine Tst.any (fun hb=>?_) (fun hb=>?_)) <;> conv=>whnf) | refine w_ret ?_ | refine w_skip ?_ | refine w_blk ?_ | refine w_exit ?_ | refine q_seqR ?_ | refine q_seqE ?_ | refine q_blkN ?_ | refine q_blkR ?_ | refine q_blkH ?_ | refine q_blkE rfl ?_ | refine q_loopR ?_ | refine q_loopE ?_ | (refine Ask_S (text_s _ q L (by decide)) rfl ?_;conv=>whnf) | (refine Ask_S (number_s _ q L (by decide)) rfl ?_;conv=>whnf) | (refine ⟨bare2_ok,?_⟩;conv=>whnf) | (refine Ask_S (bare2_s q _ L _ _ _ (.inr (.inl ⟨rfl,rfl⟩))) rfl ?_;conv=>whnf) | first | (refine LenQ.ok ?_;conv=>whnf) | ((first | refine Tst.T ?_ | refine Tst.F ?_ | refine Tst.decT (by assumption) ?_ | refine Tst.decF (by assumption) ?_ | refine Tst.eqT (by assumption) ?_ | refine Tst.eqF (by assumption) ?_ | refine Tst.neT (by assumption) ?_ | refine Tst.neF (by assumption) ?_ | refine Tst.isT (by assumption) ?_ | refine Tst.isF (by assumption) ?_ | refine Tst.dec (fun hb=>?_) (fun hb=>?_) | refine Tst.eqI (fun hb=>?_) (fun hb=>?_) | refine Tst.neI (fun hb=>?_) (fun hb=>?_) | refine Tst.not ?_ | refine Tst.any (fun hb=>?_) (fun hb=>?_)) <;> conv=>whnf) | (refine Ari.ok (by omega) ?_;conv=>whnf) | (refine IxO.ok (by omega) (by omega) ?_;conv=>whnf) | (refine IxS.M (by omega) (by omega) (fun _=>rfl) ?_;conv=>whnf) | (refine ⟨Nat.le_of_ble_eq_true rfl,?_⟩;conv=>whnf) | (refine ⟨rfl,?_⟩;conv=>whnf) | (refine Cat.ok (by omega) ?_;conv=>whnf))
   exact q_loop (n - 1) 1 [] [_] (by omega) (by refine wk0_intro (by omega) (by simp only [setF,maskF,List.set_cons_zero,List.set_cons_succ];repeat' (first | exact trivial | refine ⟨?_,?_⟩ | exact .inr (.inl ⟨rfl,rfl,rfl⟩) | exact .inr (.inr ⟨rfl,rfl⟩) | exact .inl rfl)) rfl rfl (by repeat' (first | exact trivial | refine wkS_f ?_ | refine wkS_d ?_ | refine ⟨rfl,?_⟩ | refine wkS_live0 (by assumption) ?_))) ⟨k + 1,by omega,rfl,by rw [hstep];rfl⟩
  ·repeat' (first | ((try simp only [Nat.reduceAdd,Nat.reduceMul,Nat.zero_add,Nat.add_zero,Int.toNat_natCast,Int.reduceToNat,stzV]);refine hK' _ _ _ ?_;clear hK' K';first | refine q_regT ?_ | refine q_regD rfl ?_) | first | refine w_seq ?_ | refine q_seqN ?_ | (refine w_reg (by (try simp only [List.length_cons,List.length_nil,Nat.reduceAdd]);rfl) (by (try simp only [List.replicate_succ,List.replicate_zero,List.cons_append,List.nil_append,List.append_nil]);rfl) (fun K' hK'=>wpOps_ok ?_);conv=>whnf) | (refine w_condTst rfl ?_;(repeat refine Tst.not ?_);(first | refine Tst.T ?_ | refine Tst.F ?_ | refine Tst.decT (by assumption) ?_ | refine Tst.decF (by assumption) ?_ | refine Tst.eqT (by assumption) ?_ | refine Tst.eqF (by assumption) ?_ | refine Tst.neT (by assumption) ?_ | refine Tst.neF (by assumption) ?_ | refine Tst.isT (by assumption) ?_ | refine Tst.isF (by assumption) ?_ | refine Tst.dec (fun hb=>?_) (fun hb=>?_) | refine Tst.eqI (fun hb=>?_) (fun hb=>?_) | refine Tst.neI (fun hb=>?_) (fun hb=>?_) | refine Tst.not ?_ | refine Tst.any (fun hb=>?_) (fun hb=>?_)) <;> conv=>whnf) | refine w_ret ?_ | refine w_skip ?_ | refine w_blk ?_ | refine w_exit ?_ | refine q_seqR ?_ | refine q_seqE ?_ | refine q_blkN ?_ | refine q_blkR ?_ | refine q_blkH ?_ | refine q_blkE rfl ?_ | refine q_loopR ?_ | refine q_loopE ?_ | (refine Ask_S (text_s _ q L (by decide)) rfl ?_;conv=>whnf) | (refine Ask_S (number_s _ q L (by decide)) rfl ?_;conv=>whnf) | (refine ⟨bare2_ok,?_⟩;conv=>whnf) | (refine Ask_S (bare2_s q _ L _ _ _ (.inr (.inr (.inl ⟨rfl,rfl⟩)))) rfl ?_;conv=>whnf) | first | (refine LenQ.ok ?_;conv=>whnf) | ((first | refine Tst.T ?_ | refine Tst.F ?_ | refine Tst.decT (by assumption) ?_ | refine Tst.decF (by assumption) ?_ | refine Tst.eqT (by assumption) ?_ | refine Tst.eqF (by assumption) ?_ | refine Tst.neT (by assumption) ?_ | refine Tst.neF (by assumption) ?_ | refine Tst.isT (by assumption) ?_ | refine Tst.isF (by assumption) ?_ | refine Tst.dec (fun hb=>?_) (fun hb=>?_) | refine Tst.eqI (fun hb=>?_) (fun hb=>?_) | refine Tst.neI (fun hb=>?_) (fun hb=>?_) | refine Tst.not ?_ | refine Tst.any (fun hb=>?_) (fun hb=>?_)) <;> conv=>whnf) | (refine Ari.ok (by omega) ?_;conv=>whnf) | (refine IxO.ok (by omega) (by omega) ?_;conv=>whnf) | (refine IxS.M (by omega) (by omega) (fun _=>rfl) ?_;conv=>whnf) | (refine ⟨Nat.le_of_ble_eq_true rfl,?_⟩;conv=>whnf) | (refine ⟨rfl,?_⟩;conv=>whnf) | (refine Cat.ok (by omega) ?_;conv=>whnf))
   exact q_loop (n - 1) 1 [] [_] (by omega) (by refine wk0_intro (by omega) (by simp only [setF,maskF,List.set_cons_zero,List.set_cons_succ];repeat' (first | exact trivial | refine ⟨?_,?_⟩ | exact .inr (.inl ⟨rfl,rfl,rfl⟩) | exact .inr (.inr ⟨rfl,rfl⟩) | exact .inl rfl)) rfl rfl (by repeat' (first | exact trivial | refine wkS_f ?_ | refine wkS_d ?_ | refine ⟨rfl,?_⟩ | refine wkS_live0 (by assumption) ?_))) ⟨k + 1,by omega,rfl,by rw [hstep];rfl⟩
  ·repeat' (first | ((try simp only [Nat.reduceAdd,Nat.reduceMul,Nat.zero_add,Nat.add_zero,Int.toNat_natCast,Int.reduceToNat,stzV]);refine hK' _ _ _ ?_;clear hK' K';first | refine q_regT ?_ | refine q_regD rfl ?_) | first | refine w_seq ?_ | refine q_seqN ?_ | (refine w_reg (by (try simp only [List.length_cons,List.length_nil,Nat.reduceAdd]);rfl) (by (try simp only [List.replicate_succ,List.replicate_zero,List.cons_append,List.nil_append,List.append_nil]);rfl) (fun K' hK'=>wpOps_ok ?_);conv=>whnf) | (refine w_condTst rfl ?_;(repeat refine Tst.not ?_);(first | refine Tst.T ?_ | refine Tst.F ?_ | refine Tst.decT (by assumption) ?_ | refine Tst.decF (by assumption) ?_ | refine Tst.eqT (by assumption) ?_ | refine Tst.eqF (by assumption) ?_ | refine Tst.neT (by assumption) ?_ | refine Tst.neF (by assumption) ?_ | refine Tst.isT (by assumption) ?_ | refine Tst.isF (by assumption) ?_ | refine Tst.dec (fun hb=>?_) (fun hb=>?_) | refine Tst.eqI (fun hb=>?_) (fun hb=>?_) | refine Tst.neI (fun hb=>?_) (fun hb=>?_) | refine Tst.not ?_ | refine Tst.any (fun hb=>?_) (fun hb=>?_)) <;> conv=>whnf) | refine w_ret ?_ | refine w_skip ?_ | refine w_blk ?_ | refine w_exit ?_ | refine q_seqR ?_ | refine q_seqE ?_ | refine q_blkN ?_ | refine q_blkR ?_ | refine q_blkH ?_ | refine q_blkE rfl ?_ | refine q_loopR ?_ | refine q_loopE ?_ | (refine Ask_S (text_s _ q L (by decide)) rfl ?_;conv=>whnf) | (refine Ask_S (number_s _ q L (by decide)) rfl ?_;conv=>whnf) | (refine ⟨bare2_ok,?_⟩;conv=>whnf) | (refine Ask_S (bare2_s q _ L _ _ _ (.inr (.inr (.inr ⟨rfl,rfl⟩)))) rfl ?_;conv=>whnf) | first | (refine LenQ.ok ?_;conv=>whnf) | ((first | refine Tst.T ?_ | refine Tst.F ?_ | refine Tst.decT (by assumption) ?_ | refine Tst.decF (by assumption) ?_ | refine Tst.eqT (by assumption) ?_ | refine Tst.eqF (by assumption) ?_ | refine Tst.neT (by assumption) ?_ | refine Tst.neF (by assumption) ?_ | refine Tst.isT (by assumption) ?_ | refine Tst.isF (by assumption) ?_ | refine Tst.dec (fun hb=>?_) (fun hb=>?_) | refine Tst.eqI (fun hb=>?_) (fun hb=>?_) | refine Tst.neI (fun hb=>?_) (fun hb=>?_) | refine Tst.not ?_ | refine Tst.any (fun hb=>?_) (fun hb=>?_)) <;> conv=>whnf) | (refine Ari.ok (by omega) ?_;conv=>whnf) | (refine IxO.ok (by omega) (by omega) ?_;conv=>whnf) | (refine IxS.M (by omega) (by omega) (fun _=>rfl) ?_;conv=>whnf) | (refine ⟨Nat.le_of_ble_eq_true rfl,?_⟩;conv=>whnf) | (refine ⟨rfl,?_⟩;conv=>whnf) | (refine Cat.ok (by omega) ?_;conv=>whnf))
   exact q_loop (n - 1) 1 [] [_] (by omega) (by refine wk0_intro (by omega) (by simp only [setF,maskF,List.set_cons_zero,List.set_cons_succ];repeat' (first | exact trivial | refine ⟨?_,?_⟩ | exact .inr (.inl ⟨rfl,rfl,rfl⟩) | exact .inr (.inr ⟨rfl,rfl⟩) | exact .inl rfl)) rfl rfl (by repeat' (first | exact trivial | refine wkS_f ?_ | refine wkS_d ?_ | refine ⟨rfl,?_⟩ | refine wkS_live0 (by assumption) ?_))) ⟨k + 1,by omega,rfl,by rw [hstep];rfl⟩
 ·have hkl:k=L.length:=by omega
  subst hkl
  rw [List.take_length] at hq
  rw [hq]
  exact f_R0 (by simp) .nil rfl rfl rfl rfl (by repeat' (first | exact trivial | refine wkS_f ?_ | refine wkS_d ?_ | refine ⟨rfl,?_⟩ | refine wkS_live0 (by assumption) ?_))
end Go.Proofs.YtbimgghogflikaaGreatDoor

namespace Go.Proofs.YtbimgghogflikaaGreatDoor
open Go.RowKit
theorem w_cond2 {P:Program} {n0:Nat} {fr:List V} {st:List Slot} {Q:AExit→List V→List Slot→Prop} {a b:ACode} {i:Nat} {t:Bool} (hc:fr.getD i .any=.lit (.bool t)) (h1:t=true→AW P n0 a Q (fr.set i (.lit (.bool true))) st) (h2:t=false→AW P n0 b Q (fr.set i (.lit (.bool false))) st):AW P n0 (.cond (.tmp i) a b) Q fr st:=by
 cases t with
 | true=>exact w_condT hc (by have:=h1 rfl;rwa [set_getD hc] at this)
 | false=>exact w_condF hc (by have:=h2 rfl;rwa [set_getD hc] at this)
attribute [local irreducible] CallsS CallsV Callable
theorem zero_fold (L:List UInt8) (hL:∀ c ∈ L,c=117∨c=114∨c=109∨c=115∨c=112∨c=99∨c=110):∀ s:StzD,L.foldl zeroF s=⟨s.kind,if L.any (· == 117) then ⟨#[]⟩ else s.user,if L.any (· == 114) then ⟨#[]⟩ else s.res,if L.any (· == 109) then ⟨#[]⟩ else s.name,if L.any (· == 115) then 0 else s.show_,if L.any (· == 112) then 0 else s.prio,if L.any (· == 99) then 0 else s.code,if L.any (· == 110) then 0 else s.n⟩:=by
 induction L with
 | nil=>intro s;rfl
 | cons c L ih =>
  intro s
  rw [List.foldl_cons,ih (fun d hd=>hL d (by simp [hd]))]
  simp only [List.any_cons]
  rcases hL c (by simp) with rfl | rfl | rfl | rfl | rfl | rfl | rfl
  all_goals simp [zeroF]
theorem emp_if (b:Bool) (u:ByteArray):((if b then (⟨#[]⟩ : ByteArray) else u).toList == (⟨#[]⟩ : ByteArray).toList)=!(!u.toList.isEmpty && !b):=by
 have e:(⟨#[]⟩ : ByteArray).toList=[]:=by simp
 rw [e]
 cases b
 ·simp only [Bool.false_eq_true,if_false,Bool.not_false,Bool.and_true,Bool.not_not]
  cases u.toList <;> rfl
 ·simp [e]
theorem int_if (b:Bool) (n:Int):((if b then (0:Int) else n) == 0)=!(n != 0 && !b):=by
 cases b <;> simp [bne]
theorem bare_l (s z:StzD) (hz:List.foldl zeroF s (hasN s.kind.toNat)=z):((z.kind.toNat:Int) == (z.kind.toNat:Int) && (z.user.toList == (⟨#[]⟩ : ByteArray).toList && (z.res.toList == (⟨#[]⟩ : ByteArray).toList && (z.name.toList == (⟨#[]⟩ : ByteArray).toList && (z.show_ == 0 && (z.prio == 0 && (z.code == 0 && (z.n == 0 && true))))))))=!extraL s:=by
 rw [zero_fold _ (hasN_in _)] at hz
 subst hz
 simp only [emp_if,int_if,extraL,hasC,beq_self_eq_true,Bool.true_and,Bool.and_true,Bool.not_or,Bool.and_assoc]
theorem bare_v (s:StzD):CallsV Tryz.prog 83 [stzV s] (.b (!extraL s)):=by
 refine callsV_comp mix Tryz.func83 ac83_ok ?_
 unfold ac83
 simp only [List.length_cons,List.length_nil,List.replicate_succ,List.replicate_zero,List.cons_append,List.nil_append,Nat.reduceAdd,Nat.reduceSub]
 repeat' (first | (first | refine w_blk ?_ | refine w_seq ?_ | refine w_reg (by (try simp only [List.length_cons,List.length_nil,Nat.reduceAdd]);rfl) (by (try simp only [List.replicate_succ,List.replicate_zero,List.cons_append,List.nil_append,List.append_nil]);rfl) (fun K' hK'=>?_) | refine w_condT rfl ?_ | refine w_condF rfl ?_ | (refine w_cond2 rfl (fun hb=>?_) (fun hb=>?_) <;> simp only [putF,List.set_cons_zero,List.set_cons_succ,evO,List.getD_cons_zero,List.getD_cons_succ,V.ofValue,ofC,V.cells,partV,List.drop_zero,List.drop_succ_cons,List.take_succ_cons,List.take_zero,Nat.reduceAdd,Nat.reduceMul,Nat.zero_add,Nat.add_zero,if_true,if_false,Bool.false_eq_true,List.nil_append,List.cons_append,List.append_nil,List.map_cons,List.map_nil,stzV,List.set,byteV,Nat.mul_one]) | refine w_ret ?_ | refine w_skip ?_ | refine w_exit ?_ | refine q_seqN ?_ | refine q_seqR ?_ | refine q_seqE ?_ | refine q_blkN ?_ | refine q_blkR ?_ | refine q_blkH ?_ | refine q_blkE rfl ?_ | refine q_loopR ?_ | refine q_loopE ?_ | (refine x_end ?_;refine hK' _ _ _ ?_;clear hK' K';first | refine q_regT ?_ | refine q_regD rfl ?_)) | ((first | refine x_mv rfl ?_ | refine x_off rfl ?_ | refine x_ldP rfl rfl rfl (Nat.le_of_ble_eq_true rfl) ?_ | refine x_faP rfl rfl ?_ | refine x_ldE rfl rfl (Nat.le_of_ble_eq_true rfl) ?_ | refine x_faE rfl rfl (Nat.le_of_ble_eq_true rfl) ?_ | refine x_add rfl rfl rfl (by omega) ?_ | refine x_sub rfl rfl rfl (by omega) ?_ | refine x_cat rfl rfl rfl (by omega) ?_ | refine x_binI rfl rfl rfl rfl ?_ | refine x_binS rfl rfl rfl rfl ?_ | refine x_pick rfl rfl ?_ | refine x_un rfl rfl rfl ?_ | refine x_bx rfl rfl rfl ?_ | refine x_al rfl rfl rfl ?_ | refine x_st rfl rfl rfl rfl rfl (Nat.le_of_ble_eq_true rfl) (Nat.le_of_ble_eq_true rfl) ?_ | refine x_eqa rfl rfl rfl rfl rfl rfl ?_ | refine x_bd rfl rfl ?_ | refine x_ex rfl rfl rfl ?_ | refine x_fd rfl rfl (Nat.le_of_ble_eq_true rfl) ?_ | refine x_lenM rfl rfl ?_ | refine x_lenS rfl rfl ?_ | refine x_lent rfl rfl ?_ | refine x_lenO rfl rfl ?_ | refine x_binb rfl rfl rfl ?_ | refine x_cvs rfl rfl ?_ | refine x_cvi0 rfl rfl (by omega) ?_ | refine x_bs rfl rfl rfl rfl ?_ | refine x_mf rfl ?_ | refine x_s2b rfl rfl ?_ | refine x_eqpP rfl rfl rfl ?_ | refine x_eqpN rfl rfl rfl ?_ | refine x_ncP rfl rfl ?_ | refine x_ncE rfl rfl ?_ | refine x_ncC rfl rfl ?_);simp only [putF,List.set_cons_zero,List.set_cons_succ,evO,List.getD_cons_zero,List.getD_cons_succ,V.ofValue,ofC,V.cells,partV,List.drop_zero,List.drop_succ_cons,List.take_succ_cons,List.take_zero,Nat.reduceAdd,Nat.reduceMul,Nat.zero_add,Nat.add_zero,if_true,if_false,Bool.false_eq_true,List.nil_append,List.cons_append,List.append_nil,List.map_cons,List.map_nil,stzV,List.set,byteV,Nat.mul_one]) | (refine x_clS rfl (each_s s) rfl ?_;simp only [putF,List.set_cons_zero,List.set_cons_succ,evO,List.getD_cons_zero,List.getD_cons_succ,V.ofValue,ofC,V.cells,partV,List.drop_zero,List.drop_succ_cons,List.take_succ_cons,List.take_zero,Nat.reduceAdd,Nat.reduceMul,Nat.zero_add,Nat.add_zero,if_true,if_false,Bool.false_eq_true,List.nil_append,List.cons_append,List.append_nil,List.map_cons,List.map_nil,stzV,List.set,byteV,Nat.mul_one]) | (refine x_case rfl (fun hb=>?_) (fun hb=>?_) <;> simp only [putF,List.set_cons_zero,List.set_cons_succ,evO,List.getD_cons_zero,List.getD_cons_succ,V.ofValue,ofC,V.cells,partV,List.drop_zero,List.drop_succ_cons,List.take_succ_cons,List.take_zero,Nat.reduceAdd,Nat.reduceMul,Nat.zero_add,Nat.add_zero,if_true,if_false,Bool.false_eq_true,List.nil_append,List.cons_append,List.append_nil,List.map_cons,List.map_nil,stzV,List.set,byteV,Nat.mul_one]))
 generalize hz:List.foldl zeroF s (hasN s.kind.toNat)=z at *
 rw [bare_l s z hz]
 exact f_lit (by simp) rfl rfl
end Go.Proofs.YtbimgghogflikaaGreatDoor

namespace Go.Proofs.YtbimgghogflikaaGreatDoor
open Go.RowKit
theorem ite_P {P:List UInt8→Prop} {p:Prop} [Decidable p] {a b:List UInt8} (ha:P a) (hb:P b):P (if p then a else b):=by split <;> assumption
theorem hasN_first (k:Nat):(hasN k).any (· == 117)=((hasN k).headD 0 == 117):=by
 unfold hasN
 repeat' (refine ite_P (P:=fun l=>l.any (· == 117)=(l.headD 0 == 117)) ?_ ?_)
 all_goals rfl
attribute [local irreducible] CallsS CallsV Callable
set_option maxHeartbeats 1000000 in
theorem stzCheck_v (s:StzD) (hu:s.user.size≤100000) (hr:s.res.size≤100000) (hn:s.name.size≤100000):CallsV Tryz.prog 68 [stzV s] (.i (checkS s)):=by
 refine callsV_comp mix Tryz.func68 ac68_ok ?_
 unfold ac68
 simp only [List.length_cons,List.length_nil,List.replicate_succ,List.replicate_zero,List.cons_append,List.nil_append,Nat.reduceAdd,Nat.reduceSub]
 have hc:=has_v s.kind
 have hl:=hasN_len s.kind.toNat
 have hb0:=ba_list (hasN s.kind.toNat)
 have hz:=ba_size (hasN s.kind.toNat)
 have hL:hasC s.kind 117=((hasN s.kind.toNat).headD 0 == 117):=hasN_first _
 generalize hasN s.kind.toNat=L at *
 generalize ba L=u at *
 obtain ⟨b1,hb1⟩ : ∃ b,(!(u.toList == (⟨#[]⟩ : ByteArray).toList))=b:=⟨_,rfl⟩
 have hpos:b1=true→0 < u.size:=by
  intro h;subst hb1;rw [hz];cases L with
  | nil =>
   have e:u.toList=(⟨#[]⟩ : ByteArray).toList:=by
    have:u=⟨#[]⟩:=by
     rcases u with ⟨⟨l⟩⟩
     simp at hb0;simp [hb0]
    rw [this]
   rw [e] at h;simp at h
  | cons=>simp
 have hk1:b1=false→hasC s.kind 117=false:=by
  intro h;subst hb1;rw [hL]
  have e:u.toList=(⟨#[]⟩ : ByteArray).toList:=by simpa using h
  cases L with
  | nil=>rfl
  | cons c L =>
   have:u.data.toList=[]:=by
    have e2:u.toList=[]:=by rw [e];simp
    rw [(Go.toList_nil_iff_emptyBytes u).1 e2];rfl
   rw [hb0] at this;cases this
 have hk2:∀ h:b1=true,hasC s.kind 117=(((u[0]'(hpos h)).toNat:Int) == 117):=by
  intro h
  rw [hL]
  have h0:=hpos h
  cases L with
  | nil=>rw [hz] at h0;exact absurd h0 (by simp)
  | cons c L =>
   have:u[0]=c:=by
    have e:u[0]=u.data.toList[0]'(by rw [hb0];simp):=rfl
    rw [e];simp [hb0]
   rw [this]
   show (c == 117)=_
   rw [Bool.eq_iff_iff];simp only [beq_iff_eq,← UInt8.toNat_inj]
   have:UInt8.toNat 117=117:=rfl
   omega
 repeat' (first | (first | refine w_blk ?_ | refine w_seq ?_ | refine w_reg (by (try simp only [List.length_cons,List.length_nil,Nat.reduceAdd]);rfl) (by (try simp only [List.replicate_succ,List.replicate_zero,List.cons_append,List.nil_append,List.append_nil]);rfl) (fun K' hK'=>?_) | refine w_condT rfl ?_ | refine w_condF rfl ?_ | (refine w_cond2 rfl (fun hb=>?_) (fun hb=>?_) <;> simp only [putF,List.set_cons_zero,List.set_cons_succ,evO,List.getD_cons_zero,List.getD_cons_succ,V.ofValue,ofC,V.cells,partV,List.drop_zero,List.drop_succ_cons,List.take_succ_cons,List.take_zero,Nat.reduceAdd,Nat.reduceMul,Nat.zero_add,Nat.add_zero,if_true,if_false,Bool.false_eq_true,List.nil_append,List.cons_append,List.append_nil,List.map_cons,List.map_nil,stzV,List.set,byteV,Nat.mul_one,hb1]) | refine w_ret ?_ | refine w_skip ?_ | refine w_exit ?_ | refine q_seqN ?_ | refine q_seqR ?_ | refine q_seqE ?_ | refine q_blkN ?_ | refine q_blkR ?_ | refine q_blkH ?_ | refine q_blkE rfl ?_ | refine q_loopR ?_ | refine q_loopE ?_ | (refine x_end ?_;refine hK' _ _ _ ?_;clear hK' K';first | refine q_regT ?_ | refine q_regD rfl ?_)) | ((first | refine x_mv rfl ?_ | refine x_off rfl ?_ | refine x_ldP rfl rfl rfl (Nat.le_of_ble_eq_true rfl) ?_ | refine x_faP rfl rfl ?_ | refine x_ldE rfl rfl (Nat.le_of_ble_eq_true rfl) ?_ | refine x_faE rfl rfl (Nat.le_of_ble_eq_true rfl) ?_ | refine x_add rfl rfl rfl (by omega) ?_ | refine x_sub rfl rfl rfl (by omega) ?_ | refine x_cat rfl rfl rfl (by omega) ?_ | refine x_binI rfl rfl rfl rfl ?_ | refine x_binS rfl rfl rfl rfl ?_ | refine x_pick rfl rfl ?_ | refine x_un rfl rfl rfl ?_ | refine x_bx rfl rfl rfl ?_ | refine x_al rfl rfl rfl ?_ | refine x_st rfl rfl rfl rfl rfl (Nat.le_of_ble_eq_true rfl) (Nat.le_of_ble_eq_true rfl) ?_ | refine x_eqa rfl rfl rfl rfl rfl rfl ?_ | refine x_bd rfl rfl ?_ | refine x_ex rfl rfl rfl ?_ | refine x_fd rfl rfl (Nat.le_of_ble_eq_true rfl) ?_ | refine x_lenM rfl rfl ?_ | refine x_lenS rfl rfl ?_ | refine x_lent rfl rfl ?_ | refine x_lenO rfl rfl ?_ | refine x_binb rfl rfl rfl ?_ | refine x_cvs rfl rfl ?_ | refine x_cvi0 rfl rfl (by omega) ?_ | refine x_bs rfl rfl rfl rfl ?_ | refine x_mf rfl ?_ | refine x_s2b rfl rfl ?_ | refine x_eqpP rfl rfl rfl ?_ | refine x_eqpN rfl rfl rfl ?_ | refine x_ncP rfl rfl ?_ | refine x_ncE rfl rfl ?_ | refine x_ncC rfl rfl ?_);simp only [putF,List.set_cons_zero,List.set_cons_succ,evO,List.getD_cons_zero,List.getD_cons_succ,V.ofValue,ofC,V.cells,partV,List.drop_zero,List.drop_succ_cons,List.take_succ_cons,List.take_zero,Nat.reduceAdd,Nat.reduceMul,Nat.zero_add,Nat.add_zero,if_true,if_false,Bool.false_eq_true,List.nil_append,List.cons_append,List.append_nil,List.map_cons,List.map_nil,stzV,List.set,byteV,Nat.mul_one,hb1]) | (refine x_cl0 rfl (hc) rfl rfl ?_;simp only [putF,List.set_cons_zero,List.set_cons_succ,evO,List.getD_cons_zero,List.getD_cons_succ,V.ofValue,ofC,V.cells,partV,List.drop_zero,List.drop_succ_cons,List.take_succ_cons,List.take_zero,Nat.reduceAdd,Nat.reduceMul,Nat.zero_add,Nat.add_zero,if_true,if_false,Bool.false_eq_true,List.nil_append,List.cons_append,List.append_nil,List.map_cons,List.map_nil,stzV,List.set,byteV,Nat.mul_one,hb1]) | (refine x_cl0 rfl (known_v s.kind) rfl rfl ?_;simp only [putF,List.set_cons_zero,List.set_cons_succ,evO,List.getD_cons_zero,List.getD_cons_succ,V.ofValue,ofC,V.cells,partV,List.drop_zero,List.drop_succ_cons,List.take_succ_cons,List.take_zero,Nat.reduceAdd,Nat.reduceMul,Nat.zero_add,Nat.add_zero,if_true,if_false,Bool.false_eq_true,List.nil_append,List.cons_append,List.append_nil,List.map_cons,List.map_nil,stzV,List.set,byteV,Nat.mul_one,hb1]) | (refine x_cl0 rfl (bare_v s) rfl rfl ?_;simp only [putF,List.set_cons_zero,List.set_cons_succ,evO,List.getD_cons_zero,List.getD_cons_succ,V.ofValue,ofC,V.cells,partV,List.drop_zero,List.drop_succ_cons,List.take_succ_cons,List.take_zero,Nat.reduceAdd,Nat.reduceMul,Nat.zero_add,Nat.add_zero,if_true,if_false,Bool.false_eq_true,List.nil_append,List.cons_append,List.append_nil,List.map_cons,List.map_nil,stzV,List.set,byteV,Nat.mul_one,hb1]) | (refine x_cl0 rfl (stzIn_v _ _ _) rfl rfl ?_;simp only [putF,List.set_cons_zero,List.set_cons_succ,evO,List.getD_cons_zero,List.getD_cons_succ,V.ofValue,ofC,V.cells,partV,List.drop_zero,List.drop_succ_cons,List.take_succ_cons,List.take_zero,Nat.reduceAdd,Nat.reduceMul,Nat.zero_add,Nat.add_zero,if_true,if_false,Bool.false_eq_true,List.nil_append,List.cons_append,List.append_nil,List.map_cons,List.map_nil,stzV,List.set,byteV,Nat.mul_one,hb1]) | (refine x_cl0 rfl (plain_v _ (by assumption)) rfl rfl ?_;simp only [putF,List.set_cons_zero,List.set_cons_succ,evO,List.getD_cons_zero,List.getD_cons_succ,V.ofValue,ofC,V.cells,partV,List.drop_zero,List.drop_succ_cons,List.take_succ_cons,List.take_zero,Nat.reduceAdd,Nat.reduceMul,Nat.zero_add,Nat.add_zero,if_true,if_false,Bool.false_eq_true,List.nil_append,List.cons_append,List.append_nil,List.map_cons,List.map_nil,stzV,List.set,byteV,Nat.mul_one,hb1]) | (refine x_cl0 rfl (isBare_v _ (by assumption)) rfl rfl ?_;simp only [putF,List.set_cons_zero,List.set_cons_succ,evO,List.getD_cons_zero,List.getD_cons_succ,V.ofValue,ofC,V.cells,partV,List.drop_zero,List.drop_succ_cons,List.take_succ_cons,List.take_zero,Nat.reduceAdd,Nat.reduceMul,Nat.zero_add,Nat.add_zero,if_true,if_false,Bool.false_eq_true,List.nil_append,List.cons_append,List.append_nil,List.map_cons,List.map_nil,stzV,List.set,byteV,Nat.mul_one,hb1]) | (refine x_cl0 rfl (res_v _ (by assumption)) rfl rfl ?_;simp only [putF,List.set_cons_zero,List.set_cons_succ,evO,List.getD_cons_zero,List.getD_cons_succ,V.ofValue,ofC,V.cells,partV,List.drop_zero,List.drop_succ_cons,List.take_succ_cons,List.take_zero,Nat.reduceAdd,Nat.reduceMul,Nat.zero_add,Nat.add_zero,if_true,if_false,Bool.false_eq_true,List.nil_append,List.cons_append,List.append_nil,List.map_cons,List.map_nil,stzV,List.set,byteV,Nat.mul_one,hb1]) | (refine x_ixt rfl rfl rfl (n:=0) rfl (hpos hb) ?_;simp only [putF,List.set_cons_zero,List.set_cons_succ,evO,List.getD_cons_zero,List.getD_cons_succ,V.ofValue,ofC,V.cells,partV,List.drop_zero,List.drop_succ_cons,List.take_succ_cons,List.take_zero,Nat.reduceAdd,Nat.reduceMul,Nat.zero_add,Nat.add_zero,if_true,if_false,Bool.false_eq_true,List.nil_append,List.cons_append,List.append_nil,List.map_cons,List.map_nil,stzV,List.set,byteV,Nat.mul_one,hb1]) | (refine x_case rfl (fun hb=>?_) (fun hb=>?_) <;> simp only [putF,List.set_cons_zero,List.set_cons_succ,evO,List.getD_cons_zero,List.getD_cons_succ,V.ofValue,ofC,V.cells,partV,List.drop_zero,List.drop_succ_cons,List.take_succ_cons,List.take_zero,Nat.reduceAdd,Nat.reduceMul,Nat.zero_add,Nat.add_zero,if_true,if_false,Bool.false_eq_true,List.nil_append,List.cons_append,List.append_nil,List.map_cons,List.map_nil,stzV,List.set,byteV,Nat.mul_one,hb1]))
 all_goals refine f_lit (by simp) rfl ?_
 all_goals
  clear hc hb0 hz hu hr hn hl
  unfold checkS rangeL
  first
  | (have h2:=(hk2 (by assumption)).trans (by first | assumption | exact eq_false_of_ne_true ‹_›);clear hk1 hk2 hL hb1;simp_all;done)
  | (have h2:=(hk2 (by assumption)).trans (by assumption);clear hk1 hk2 hL hb1;simp_all;omega)
  | (have h2:=hk1 (by assumption);clear hk1 hk2 hL hb1;simp_all;done)
  | (have h2:=hk1 (by assumption);clear hk1 hk2 hL hb1;simp_all;omega)
  | (clear hL hk1 hk2;generalize hasC s.kind 117=h1 at *;simp_all;done)
  | (clear hL hk1 hk2;generalize hasC s.kind 117=h1 at *;simp_all;omega)
  | (have h2:=hk1 (by assumption);clear hk1 hk2 hL hb1;simp_all;trace_state)
  | (have h2:=(hk2 (by assumption)).trans (by assumption);clear hk1 hk2 hL hb1;simp_all;trace_state)
end Go.Proofs.YtbimgghogflikaaGreatDoor

namespace Go.Proofs.YtbimgghogflikaaGreatDoor
open Go.RowKit
def stzOf (x:StanzaStanza):StzD:={ kind:=UInt8.ofNat x.Kind.toNat,user:=x.User,res:=x.Res,name:=x.Name,show_:=x.Show,prio:=x.Prio,code:=x.Code,n:=x.N }
def stzFits (x:StanzaStanza):Prop:=(0≤x.Kind∧x.Kind≤255)∧x.User.size≤100000∧x.Res.size≤100000∧x.Name.size≤100000
instance (x:StanzaStanza):Decidable (stzFits x):=inferInstanceAs (Decidable (_∧_))
theorem u8_of {k:Int} (h:0≤k∧k≤255):((UInt8.ofNat k.toNat).toNat:Int)=k:=by
 simp only [UInt8.toNat_ofNat'];omega
theorem stz_V {x:StanzaStanza} (h:stzFits x):x.v=stzV (stzOf x):=by
 unfold StanzaStanza.v stzV stzOf
 simp only [V.u8,V.y8,u8_of h.1]
end Go.Proofs.YtbimgghogflikaaGreatDoor

namespace Go.Proofs.YtbimgghogflikaaGreatDoor
open Go.RowKit
def ac51:ACode:=(.seq (.reg 0 [⟨(some 2),.mv (.const (.bool false)),none,0⟩] none) (.seq (.seq (.reg 0 [⟨(some 3),.mv (.tmp 0),none,0⟩] none) (.block 0 (.seq (.seq (.reg 0 [⟨(some 5),.bin .eql (.tmp 3) (.const (.int .i64 1)),none,0⟩,⟨(some 4),.mv (.tmp 5),none,0⟩] none) (.cond (.tmp 4) .skip (.seq (.reg 0 [⟨(some 6),.bin .eql (.tmp 3) (.const (.int .i64 2)),none,0⟩,⟨(some 4),.mv (.tmp 6),none,0⟩] none) (.cond (.tmp 4) .skip (.seq (.reg 0 [⟨(some 7),.bin .eql (.tmp 3) (.const (.int .i64 4)),none,0⟩,⟨(some 4),.mv (.tmp 7),none,0⟩] none) (.cond (.tmp 4) .skip (.reg 0 [⟨(some 8),.bin .eql (.tmp 3) (.const (.int .i64 6)),none,0⟩,⟨(some 4),.mv (.tmp 8),none,0⟩] none))))))) (.cond (.tmp 4) (.seq (.reg 0 [⟨(some 2),.mv (.const (.bool true)),none,0⟩] none) .ret) .skip)))) (.seq (.reg 0 [⟨(some 2),.mv (.const (.bool false)),none,0⟩] none) .ret)))
theorem ac51_ok:compF Tryz.prog Tryz.f51=some (ac51,9,[.tmp 2]):=by unfold ac51;kernel_rfl
def ac37:ACode:=(.seq (.reg 0 [⟨(some 4),.mv (.const (.slice none 0 0)),none,0⟩,⟨(some 5),.mv (.const (.int .i64 0)),none,0⟩] none) (.seq (.seq (.reg 0 [⟨(some 8),.mv (.tmp 1),none,0⟩,⟨(some 9),.cl 51 [(.tmp 8)],none,0⟩,⟨(some 10),.un .not (.tmp 9),none,0⟩] none) (.cond (.tmp 10) (.seq (.reg 0 [⟨(some 4),.mv (.const (.slice none 0 0)),none,0⟩,⟨(some 5),.mv (.const (.int .i64 2)),none,0⟩] none) .ret) .skip)) (.seq (.seq (.reg 0 [⟨(some 11),.mv (.tmp 0),none,0⟩,⟨(some 12),.bin .lss (.tmp 11) (.const (.int .i64 0)),none,0⟩,⟨(some 13),.mv (.tmp 12),none,0⟩,⟨(some 14),.mv (.tmp 0),(some (13,false)),0⟩,⟨(some 15),.mv (.tmp 1),(some (13,false)),0⟩,⟨(some 16),.bin .mul (.const (.int .i64 8)) (.tmp 15),(some (13,false)),0⟩,⟨(some 17),.bin .shr (.tmp 14) (.tmp 16),(some (13,false)),0⟩,⟨(some 18),.bin .neq (.tmp 17) (.const (.int .i64 0)),(some (13,false)),0⟩,⟨(some 19),.pick (.tmp 13) (.const (.bool true)) (.tmp 18),none,0⟩] none) (.cond (.tmp 19) (.seq (.reg 0 [⟨(some 4),.mv (.const (.slice none 0 0)),none,0⟩,⟨(some 5),.mv (.const (.int .i64 8)),none,0⟩] none) .ret) .skip)) (.seq (.reg 1 [⟨(some 20),.mv (.tmp 1),none,0⟩,⟨(some 21),.mks 1 1 [(.lit (.int .u8 0))] (.tmp 20) (.tmp 20),none,0⟩,⟨(some 6),.mv (.tmp 21),none,1⟩] none) (.seq (.seq (.reg 0 [⟨(some 22),.mv (.tmp 1),none,0⟩,⟨(some 23),.mv (.const (.int .i64 0)),none,0⟩] none) (.block 0 (.loop (.seq (.reg 0 [⟨(some 24),.bin .lss (.tmp 23) (.tmp 22),none,0⟩] none) (.seq (.cond (.tmp 24) .skip (.exit 0)) (.seq (.block 1 (.seq (.reg 0 [⟨(some 25),.mv (.tmp 23),none,0⟩,⟨(some 7),.mv (.tmp 25),none,0⟩] none) (.reg 0 [⟨(some 26),.mv (.tmp 6),none,0⟩,⟨(some 27),.mv (.tmp 1),none,0⟩,⟨(some 28),.bin .sub (.tmp 27) (.const (.int .i64 1)),none,0⟩,⟨(some 29),.mv (.tmp 7),none,0⟩,⟨(some 30),.bin .sub (.tmp 28) (.tmp 29),none,0⟩,⟨(some 31),.mv (.tmp 0),none,0⟩,⟨(some 32),.mv (.tmp 7),none,0⟩,⟨(some 33),.bin .mul (.const (.int .i64 8)) (.tmp 32),none,0⟩,⟨(some 34),.bin .shr (.tmp 31) (.tmp 33),none,0⟩,⟨(some 35),.cvi .u8 (.tmp 34),none,0⟩,⟨(some 36),.ixs 1 (.tmp 26) (.tmp 30),none,0⟩,⟨none,.st 1 (.tmp 36) (.tmp 35),none,0⟩] none))) (.reg 0 [⟨(some 37),.bin .add (.tmp 23) (.const (.int .i64 1)),none,0⟩,⟨(some 23),.mv (.tmp 37),none,0⟩] none))))))) (.seq (.reg 0 [⟨(some 38),.mv (.tmp 6),none,0⟩,⟨(some 4),.mv (.tmp 38),none,0⟩,⟨(some 5),.mv (.const (.int .i64 0)),none,0⟩] none) .ret))))))
theorem ac37_ok:compF Tryz.prog Tryz.f37=some (ac37,39,[.tmp 4,.tmp 5]):=by unfold ac37;kernel_rfl
def ac38:ACode:=(.seq (.reg 0 [⟨(some 4),.mv (.const (.slice none 0 0)),none,0⟩,⟨(some 5),.mv (.const (.int .i64 0)),none,0⟩] none) (.seq (.seq (.reg 0 [⟨(some 6),.mv (.tmp 0),none,0⟩,⟨(some 7),.lent (.tmp 6),none,0⟩,⟨(some 8),.mv (.tmp 1),none,0⟩,⟨(some 9),.mn false (.tmp 8) (.const (.int .i64 255)),none,0⟩,⟨(some 10),.bin .gtr (.tmp 7) (.tmp 9),none,0⟩] none) (.cond (.tmp 10) (.seq (.reg 0 [⟨(some 4),.mv (.const (.slice none 0 0)),none,0⟩,⟨(some 5),.mv (.const (.int .i64 5)),none,0⟩] none) .ret) .skip)) (.seq (.reg 2 [⟨(some 11),.mv (.tmp 0),none,0⟩,⟨(some 12),.lent (.tmp 11),none,0⟩,⟨(some 13),.cvi .u8 (.tmp 12),none,0⟩,⟨(some 14),.bs 1 1 [(.lit (.int .u8 0))] [(0,(.tmp 13))],none,0⟩,⟨(some 15),.mv (.tmp 0),none,1⟩,⟨(some 16),.ap 1 1 (.tmp 14) (.tmp 15),none,1⟩,⟨(some 4),.mv (.tmp 16),none,2⟩,⟨(some 5),.mv (.const (.int .i64 0)),none,2⟩] none) .ret)))
theorem ac38_ok:compF Tryz.prog Tryz.f38=some (ac38,17,[.tmp 4,.tmp 5]):=by unfold ac38;kernel_rfl
def ac61:ACode:=(.seq (.reg 1 [⟨(some 1),.bx (.tmp 0),none,0⟩,⟨(some 2),.mv (.const (.string ⟨#[]⟩)),none,1⟩,⟨(some 3),.mv (.const (.int .i64 0)),none,1⟩] none) (.seq (.seq (.reg 0 [⟨(some 6),.ld 8 true (.tmp 1),none,0⟩,⟨(some 7),.cl 68 [(.tmp 6)],none,0⟩,⟨(some 4),.mv (.tmp 7),none,0⟩] none) (.seq (.reg 0 [⟨(some 8),.mv (.tmp 4),none,0⟩,⟨(some 9),.bin .neq (.tmp 8) (.const (.int .i64 0)),none,0⟩] none) (.cond (.tmp 9) (.seq (.reg 0 [⟨(some 10),.mv (.tmp 4),none,0⟩,⟨(some 2),.mv (.const (.string ⟨#[]⟩)),none,0⟩,⟨(some 3),.mv (.tmp 10),none,0⟩] none) .ret) .skip))) (.seq (.reg 2 [⟨(some 11),.fa 0 (.tmp 1),none,0⟩,⟨(some 12),.ld 1 false (.tmp 11),none,0⟩,⟨(some 13),.bs 1 1 [(.lit (.int .u8 0))] [(0,(.tmp 12))],none,0⟩,⟨(some 5),.al (.sl [] true),none,1⟩,⟨none,.st 1 (.tmp 5) (.tmp 13),none,2⟩] none) (.seq (.reg 0 [⟨(some 14),.mf (.func 70) [(.tmp 5)],none,0⟩,⟨(some 15),.mf (.func 71) [(.tmp 5)],none,0⟩,⟨(some 16),.cl 69 [(.tmp 1),(.tmp 14),(.tmp 15)],none,0⟩] none) (.seq (.reg 0 [⟨(some 17),.ld 1 false (.tmp 5),none,0⟩,⟨(some 18),.b2s (.tmp 17),none,0⟩,⟨(some 2),.mv (.tmp 18),none,0⟩,⟨(some 3),.mv (.const (.int .i64 0)),none,0⟩] none) .ret)))))
theorem ac61_ok:compF Tryz.prog Tryz.f61=some (ac61,19,[.tmp 2,.tmp 3]):=by unfold ac61;kernel_rfl
def ac70:ACode:=(.seq (.reg 0 [⟨(some 8),.mv (.tmp 0),none,0⟩,⟨(some 9),.nc (.tmp 8),none,0⟩,⟨(some 10),.ld 1 false (.tmp 9),none,0⟩,⟨(some 11),.mv (.tmp 1),none,0⟩,⟨(some 12),.cl 38 [(.tmp 10),(.tmp 11)],none,0⟩,⟨(some 7),.mv (.tmp 12),none,0⟩,⟨(some 13),.ex (.tmp 7) 0,none,0⟩,⟨(some 14),.ex (.tmp 7) 1,none,0⟩,⟨(some 5),.mv (.tmp 13),none,0⟩,⟨(some 6),.mv (.tmp 14),none,0⟩] none) (.reg 1 [⟨(some 15),.ld 1 false (.tmp 2),none,0⟩,⟨(some 16),.mv (.tmp 5),none,0⟩,⟨(some 17),.ap 1 1 (.tmp 15) (.tmp 16),none,0⟩,⟨none,.st 1 (.tmp 2) (.tmp 17),none,1⟩] none))
theorem ac70_ok:compF Tryz.prog Tryz.f70=some (ac70,18,[]):=by unfold ac70;kernel_rfl
def ac71:ACode:=(.seq (.reg 0 [⟨(some 10),.mv (.tmp 0),none,0⟩,⟨(some 11),.nc (.tmp 10),none,0⟩,⟨(some 12),.ld 1 false (.tmp 11),none,0⟩,⟨(some 13),.mv (.tmp 2),none,0⟩,⟨(some 14),.bin .add (.tmp 12) (.tmp 13),none,0⟩,⟨(some 15),.mv (.tmp 1),none,0⟩,⟨(some 16),.cl 37 [(.tmp 14),(.tmp 15)],none,0⟩,⟨(some 9),.mv (.tmp 16),none,0⟩,⟨(some 17),.ex (.tmp 9) 0,none,0⟩,⟨(some 18),.ex (.tmp 9) 1,none,0⟩,⟨(some 7),.mv (.tmp 17),none,0⟩,⟨(some 8),.mv (.tmp 18),none,0⟩] none) (.reg 1 [⟨(some 19),.ld 1 false (.tmp 3),none,0⟩,⟨(some 20),.mv (.tmp 7),none,0⟩,⟨(some 21),.ap 1 1 (.tmp 19) (.tmp 20),none,0⟩,⟨none,.st 1 (.tmp 3) (.tmp 21),none,1⟩] none))
theorem ac71_ok:compF Tryz.prog Tryz.f71=some (ac71,22,[]):=by unfold ac71;kernel_rfl
end Go.Proofs.YtbimgghogflikaaGreatDoor

