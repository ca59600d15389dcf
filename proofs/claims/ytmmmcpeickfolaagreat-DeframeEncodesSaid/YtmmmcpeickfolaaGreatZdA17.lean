/- A part of the proof: 8 texts joined. -/
import Derived.Test.YtmmmcpeickfolaaGreatZdA16
import Derived.Test.YtmmmcpeickfolaaGreatZdA15
import Derived.KernelRfl
import Derived.Test.YtmmmcpeickfolaaGreatZdA14
import Derived.Test.YtmmmcpeickfolaaGreatZdA7
import Derived.Test.YtmmmcpeickfolaaGreatZdA13
set_option linter.all false
namespace Go.Proofs.YtmmmcpeickfolaaGreat
open Go.RowKit
inductive FzT (st:List Slot) (i:Nat):List V→List V→List Nat→Prop
 | nil:FzT st i [] [] []
 | id {v l l' r} (h:v.idlt 0=true) (t:FzT st i l l' r):FzT st i (v :: l) (v :: l') r
 | ptr {j cs us frz l l' r} (hj:st[j]?=some (.live cs frz)) (hne:j≠i) (h:SlWL cs us) (t:FzT st i l l' r):FzT st i (.ptr j 0 :: l) (.eptr us :: l') (j :: r)
theorem FzT.congr {st st2:List Slot} {i:Nat} {l l' : List V} {r:List Nat} (h:FzT st i l l' r):(∀ k,k ∈ r→st2[k]?=st[k]?)→FzT st2 i l l' r:=by
 induction h with
 | nil=>exact fun _=>.nil
 | id h _ ih=>exact fun hst=>.id h (ih hst)
 | ptr hj hne h _ ih=>exact fun hst=>.ptr ((hst _ (by simp)).trans hj) hne h (ih fun k hk=>hst k (by simp [hk]))
theorem FzT.rep {B:Nat} {m0 m mb:Mem} {bk bk' : Bks} {w:World} {st:List Slot} {i:Nat} {l l' : List V} {r:List Nat} (h:FzT st i l l' r) (hsim:Sim B m0 m bk w st) (mle:∀ a u,m a=some u→mb a=some u)
  (hmb:∀ (j:Nat) (c:List V) (g:Nat) (x:Nat × Nat),j≠i→st[j]?=some (.live c g)→bk j=some x→∀ a:Addr,a.block=x.1→mb a=w.cell? a):∀ {cs:List Value},RepL m bk cs l→RepL mb bk' cs l':=by
 induction h with
 | nil=>intro cs h;exact ⟨h.1,fun j _ h2=>absurd h2 (by simp)⟩
 | @id v l l' r h0 t ih =>
  intro cs hr
  cases cs with
  | nil=>have:=hr.1;simp at this
  | cons c cs =>
   have g0:=hr.2 0 (by simp) (by simp)
   have ih':=@ih cs ⟨by simpa using hr.1,fun j h1 h2=>hr.2 (j + 1) (Nat.succ_lt_succ h1) (Nat.succ_lt_succ h2)⟩
   refine ⟨by simpa using ih'.1,fun j h1 h2=>?_⟩
   cases j with
   | zero=>exact (Rep.zero g0 h0).mono mle fun _ _ h=>h
   | succ j=>exact ih'.2 j (Nat.lt_of_succ_lt_succ h1) (Nat.lt_of_succ_lt_succ h2)
 | @ptr j csj us frz l l' r hj hne hw t ih =>
  intro cs hr
  cases cs with
  | nil=>have:=hr.1;simp at this
  | cons c cs =>
   have g0:=hr.2 0 (by simp) (by simp)
   have ih':=@ih cs ⟨by simpa using hr.1,fun j h1 h2=>hr.2 (j + 1) (Nat.succ_lt_succ h1) (Nat.succ_lt_succ h2)⟩
   refine ⟨by simpa using ih'.1,fun k h1 h2=>?_⟩
   cases k with
   | succ k=>exact ih'.2 k (Nat.lt_of_succ_lt_succ h1) (Nat.lt_of_succ_lt_succ h2)
   | zero =>
    have gg:∀ c,Rep m bk c (.ptr j 0)→Rep mb bk' c (.eptr us):=fun c g0=>by
     cases g0 with
     | @ptr _ _ b sz _ hb =>
     obtain ⟨arr,t,lo,hi',hlv,hrep⟩:=sim_live hsim hj hb
     obtain ⟨hl,hat⟩:=hw.at
     refine .eptr (us:=fun k=>arr.getD k undef) (fun u hu=>?_) (fun k hk=>?_) (fun k hk=>?_)
     ·obtain ⟨k,hk,rfl⟩:=List.getElem_of_mem hu
      exact (hat k (by omega) hk).one (hlv.one _ (List.getElem_mem _))
     ·obtain ⟨u,g1,g2⟩:=hlv.rep k (by omega)
      rw [hmb j _ _ _ hne hj hb _ rfl,Nat.zero_add]
      simp only [World.cell?,hlv.heap,Array.getD_eq_getD_getElem?,g1];rfl
     ·obtain ⟨u,g1,g2⟩:=hlv.rep k (by omega)
      have e:arr.getD k undef=u:=by simp [Array.getD_eq_getD_getElem?,g1]
      rw [e]
      exact ((hat k (by omega) hk).rep g2).mono mle fun _ _ h=>h
    exact gg _ g0
end Go.Proofs.YtmmmcpeickfolaaGreat

namespace Go.Proofs.YtmmmcpeickfolaaGreat
open Go.RowKit
structure DelRoads (P:Program) (k:FuncId) (es:Nat):Prop where
 main:∀ (b n c i j:Nat) (cs:List Value) (w:World),i < j→j≤n→n≤c→n≤1000000→cs.length=n * es→(∀ t v,cs[t]?=some v→w.cell? ⟨b,t,none⟩=some v)→(∀ t,t < n * es→w.frozen? ⟨b,t,none⟩=false)→(∀ v ∈ cs,v.oneCell'=true) →
  Calls P k #[.slice (some ⟨b,0,none⟩) n c,.int .i64 i,.int .i64 j] w fun e w'=>∃ zs:List Value,zs.length=(j - i) * es∧(∀ v ∈ zs,v.oneCell'=true)∧e=.returned (.slice (some ⟨b,0,none⟩) (n - (j - i)) c)∧w'=(w.drew.setCells b (i * es) (cs.drop (j * es))).setCells b ((n - (j - i)) * es) zs
end Go.Proofs.YtmmmcpeickfolaaGreat

namespace Go.Proofs.YtmmmcpeickfolaaGreat
open Go.RowKit
section
variable {β : Type} {r : β} {P : Program} {st : List Slot}
end
end Go.Proofs.YtmmmcpeickfolaaGreat

namespace Go.Proofs.YtmmmcpeickfolaaGreat
open Go.RowKit
def tru? (m:Option Bool):Option Bool:=if m=some true then some true else none
theorem tru_of {m:Option Bool} {r:Bool} (h:tru? m=some r):r=true∧m=some true:=by
 unfold tru? at h
 split at h
 ·exact ⟨(Option.some.inj h).symm,‹_›⟩
 ·cases h
theorem tru_ok {m:Option Bool} (h:m=some true):tru? m=some true:=if_pos h
theorem tru_closed {P:Program} {k:FuncId} {vs:List V} {m:Option Bool} (h:CallsO P k vs V.b (tru? m)) (hm:m=some true):CallsO P k vs V.b m:=fun v hv=>by
 rw [hm] at hv
 cases hv
 exact h true (tru_ok hm)
theorem tstT_c {b:Bool} {A B:Prop} {X:Option Bool} (H:(bif b then X else some false)=some true) (h:b=true→X=some true→A):Tst b A B :=
 tst_c H h fun _ h=>by cases h
theorem mksA_c {β:Type} {r:β} {α:Type} {f:α→V} {x0:α} {n:Int} {bytes:Nat} {z:List V} {X:List α→Option β} {k:Nat→List V→Bool→Prop} (H:(mk? n x0).bind X=some r) (hz:(f x0).cells=z) (h1:z.length=1) (hb:bytes≤1000) (h:∀ L,X L=some r→k n.toNat (cellsM f L) true):Mks 1 bytes z n n k :=
 mks_c (X:=fun L=>if L.length=n.toNat then X L else none) (r:=r) (by
  obtain ⟨L,hL,H'⟩:=bind_c H
  rw [hL]
  unfold mk? at hL
  split at hL
  ·simp only [Option.some.injEq] at hL
   subst hL
   simpa using H'
  ·cases hL) hz h1 hb fun L hL=>by
  by_cases e:L.length=n.toNat
  ·rw [if_pos e] at hL;rw [e];exact h L hL
  ·rw [if_neg e] at hL;cases hL
def lenG? {α:Type} (n:Nat) (l:List α):Option Unit:=if n=l.length then some () else none
theorem lenG_c {β α:Type} {r:β} {n:Nat} {l:List α} {X:Unit→Option β} (H:(lenG? n l).bind X=some r):∃ u:Unit,n=l.length∧X u=some r:=by
 obtain ⟨u,hu,H⟩:=bind_c H
 unfold lenG? at hu
 split at hu
 ·exact ⟨u,‹_›,H⟩
 ·cases hu
structure GrowRoads (P:Program) (k:FuncId) (es:Nat) (E:TypeId):Prop where
 some_:∀ (b:Option Addr) (n:Nat) (w:World),0 < n→n≤1000000→Calls P k #[.slice b 0 0,.int .i64 n] w fun e w'=>∃ (ZS:Array Value) (c:Nat),e=.returned (.slice (some ⟨w.heap.size,0,none⟩) 0 c)∧w'=w.drew.alloc (.cells ZS E)∧c * es≤ZS.size
 zero_:∀ (b:Option Addr) (w:World),Calls P k #[.slice b 0 0,.int .i64 0] w fun e w'=>e=.returned (.slice b 0 0)∧w'=w
end Go.Proofs.YtmmmcpeickfolaaGreat

namespace Go.Proofs.YtmmmcpeickfolaaGreat
open Go.RowKit
def p_octet_wide (a0:Int):Option (Bool) :=
 bif (a0 == (1:Int)) then
  some true
 else
 bif (a0 == (2:Int)) then
  some true
 else
 bif (a0 == (4:Int)) then
  some true
 else
 bif (a0 == (6:Int)) then
  some true
 else
 some false
def p_octet_Lay_l1 (a1:Int) (z15:Int) (z16:Int) (z18:Int):Nat→Int→(List Int)→Option ((Int × (List Int)))
 | 0,_,_=>none
 | n + 1,y19,y20 =>
  bif (decide (y19 < z18)) then
   (pos? (w64 ((8:Int) * y19))).bind fun x22 =>
   (arr? (Int.toNat a1) y20 (w64 (w64 (z16 - (1:Int)) - y19))).bind fun x23 =>
   p_octet_Lay_l1 a1 z15 z16 z18 n (w64 (y19 + (1:Int))) (List.set y20 (Int.toNat (w64 (w64 (z16 - (1:Int)) - y19))) (IntKind.wrap .u8 (shrI .i64 z15 (w64 ((8:Int) * y19)))))
  else
  some (y19,y20)
def p_octet_Lay (a0:Int) (a1:Int):Option ((List Int) × Int) :=
 (p_octet_wide a1).bind fun v1 =>
 bif v1 then
  bif (decide (a0 < (0:Int))) then
   some ([],(8:Int))
  else
  (pos? (w64 ((8:Int) * a1))).bind fun x4 =>
  bif ((shrI .i64 a0 (w64 ((8:Int) * a1))) != (0:Int)) then
   some ([],(8:Int))
  else
  (mk? a1 (0:Int)).bind fun l6 =>
  (p_octet_Lay_l1 a1 a0 a1 a1 fuel (0:Int) l6).bind fun q26 =>
  (lenG? (Int.toNat a1) q26.2).bind fun _ =>
  some (q26.2,(0:Int))
 else
 some ([],(2:Int))
def p_frame_Put (a0:ByteArray):Option (ByteArray × Int) :=
 bif (a0.toList == (⟨#[]⟩ : ByteArray).toList) then
  some ((⟨#[]⟩ : ByteArray),(4:Int))
 else
 bif (decide ((128:Int) < (a0.size:Int))) then
  some ((⟨#[]⟩ : ByteArray),(5:Int))
 else
 (p_octet_Lay (a0.size:Int) (2:Int)).bind fun v3 =>
 (text? v3.1).bind fun s4 =>
 (cat? s4 a0).bind fun s5 =>
 some (s5,v3.2)
def p_octet_Open (a0:ByteArray):Option (OctetRead) :=
 some (OctetRead.mk a0 (0:Int) (0:Int))
def p_octet_Read_fault (a0:OctetRead):Option (Int) :=
 bif (a0.Bad == (0:Int)) then
  bif (decide (a0.At < (0:Int))) then
   some (2:Int)
  else
  bif (decide ((a0.S.size:Int) < a0.At)) then
   some (2:Int)
  else
  some a0.Bad
 else
 some a0.Bad
def p_octet_Read_fail (a0:OctetRead) (a1:Int):Option (OctetRead) :=
 some (OctetRead.mk a0.S a0.At a1)
def p_octet_Left (a0:OctetRead):Option (Int) :=
 (p_octet_Read_fault a0).bind fun v1 =>
 bif (v1 != (0:Int)) then
  some (0:Int)
 else
 some (w64 ((a0.S.size:Int) - a0.At))
def p_octet_Num_l1 (z20:List Int) (z21:Int):Nat→Int→Int→Option ((Int × Int))
 | 0,_,_=>none
 | n + 1,y19,y22 =>
  bif (decide (y22 < z21)) then
   (at? z20 y22).bind fun x26 =>
   p_octet_Num_l1 z20 z21 n (orI .i64 (shlI .i64 y19 (8:Int)) (w64 x26)) (w64 (y22 + (1:Int)))
  else
  some (y19,y22)
def p_octet_Num (a0:OctetRead) (a1:Int):Option (OctetRead × Int) :=
 (p_octet_Read_fault a0).bind fun v1 =>
 bif (v1 != (0:Int)) then
  (p_octet_Read_fail a0 v1).bind fun v3 =>
  some (v3,(0:Int))
 else
 (p_octet_wide a1).bind fun v4 =>
 bif v4 then
  (p_octet_Left a0).bind fun v6 =>
  bif (decide (v6 < a1)) then
   (p_octet_Read_fail a0 (3:Int)).bind fun v8 =>
   some (v8,(0:Int))
  else
  (sub? a0.S (some a0.At) (some (w64 (a0.At + a1)))).bind fun s9 =>
  (p_octet_Num_l1 (bytesI s9) ((bytesI s9).length:Int) fuel (0:Int) (0:Int)).bind fun q28 =>
  some ((OctetRead.mk a0.S (w64 (a0.At + a1)) a0.Bad),q28.1)
 else
 (p_octet_Read_fail a0 (2:Int)).bind fun v29 =>
 some (v29,(0:Int))
def p_frame_Get (a0:ByteArray):Option (ByteArray × Int × Int) :=
 (p_octet_Open a0).bind fun v1 =>
 (p_octet_Num v1 (2:Int)).bind fun v2 =>
 bif (v2.1.Bad != (0:Int)) then
  some ((⟨#[]⟩ : ByteArray),(0:Int),v2.1.Bad)
 else
 bif (v2.2 == (0:Int)) then
  some ((⟨#[]⟩ : ByteArray),(0:Int),(4:Int))
 else
 bif (decide ((128:Int) < v2.2)) then
  some ((⟨#[]⟩ : ByteArray),(0:Int),(5:Int))
 else
 (p_octet_Left v2.1).bind fun v6 =>
 bif (decide (v6 < v2.2)) then
  some ((⟨#[]⟩ : ByteArray),(0:Int),(3:Int))
 else
 (sub? a0 (some (2:Int)) (some (w64 ((2:Int) + v2.2)))).bind fun s8 =>
 some (s8,w64 ((2:Int) + v2.2),(0:Int))
end Go.Proofs.YtmmmcpeickfolaaGreat

namespace Go.Proofs.YtmmmcpeickfolaaGreat
open Go.RowKit
abbrev V.u8 (k:UInt8):V:=.lit (.int .u8 k.toNat)
theorem has_v (k:UInt8):CallsV Tryz.prog 65 [.u8 k] (.s (ba (hasN k.toNat))) :=
 callsV_old #[.int .u8 k.toNat] (fun _ _ h=>lits_eq (vs:=[.int .u8 k.toNat]) h) (fun w _=>ret_of (has_c k w)) fun _=>.lit rfl
theorem known_v (k:UInt8):CallsV Tryz.prog 66 [.u8 k] (.b (knownN k.toNat)) :=
 callsV_old #[.int .u8 k.toNat] (fun _ _ h=>lits_eq (vs:=[.int .u8 k.toNat]) h) (fun w _=>ret_of (known_c k w)) fun _=>.lit rfl
theorem stzIn_v (n a b:Int):CallsV Tryz.prog 68 [.i n,.i a,.i b] (.b (decide (a≤n) && decide (n≤b))) :=
 callsV_old #[.int .i64 n,.int .i64 a,.int .i64 b] (fun _ _ h=>lits_eq (vs:=[.int .i64 n,.int .i64 a,.int .i64 b]) h) (fun w _=>ret_of (stzIn_c n a b w)) fun _=>.lit rfl
def StzD.l (s:StzD):List Value:=[.int .u8 s.kind.toNat,.string s.user,.string s.res,.string s.name,.int .i64 s.show_,.int .i64 s.prio,.int .i64 s.code,.int .i64 s.n]
def stzV (s:StzD):V:=.agg [.u8 s.kind,.s s.user,.s s.res,.s s.name,.i s.show_,.i s.prio,.i s.code,.i s.n]
theorem refStzCheck_v (s:StzD) (hu:s.user.size≤100000) (hr:s.res.size≤100000) (hn:s.name.size≤100000):CallsV Tryz.prog 99 [stzV s] (.i (checkS s)) :=
 callsV_old #[.agg s.arr] (fun m c h=>by
  have h1:c.size=1:=h.1
  have h0:=h.2 0 (by omega) (by simp)
  have e:=agg_lits (vs:=s.l) (show Rep m noBk c[0] (.agg (s.l.map V.lit)) from h0)
  apply Array.ext
  ·simpa using h1
  ·intro i g1 g2
   have:i=0:=by omega
   subst this
   rw [e];rfl) (fun w _=>refStzCheck_c s w hu hr hn) fun _=>.lit rfl
end Go.Proofs.YtmmmcpeickfolaaGreat

namespace Go.Proofs.YtmmmcpeickfolaaGreat
open Go.RowKit
def ac145:ACode:=(.seq (.reg 0 [⟨(some 4),.mv (.const (.pointer none)),none,0⟩,⟨(some 5),.mv (.const (.int .i64 0)),none,0⟩] none) (.seq (.seq (.reg 0 [⟨(some 6),.mv (.tmp 1),none,0⟩] none) (.block 0 (.seq (.reg 0 [⟨(some 8),.bin .eql (.tmp 6) (.const (.int .u8 117)),none,0⟩,⟨(some 7),.mv (.tmp 8),none,0⟩] none) (.cond (.tmp 7) (.seq (.reg 0 [⟨(some 9),.mv (.tmp 0),none,0⟩,⟨(some 10),.nc (.tmp 9),none,0⟩,⟨(some 11),.fa 1 (.tmp 10),none,0⟩,⟨(some 4),.mv (.tmp 11),none,0⟩,⟨(some 5),.mv (.const (.int .i64 33)),none,0⟩] none) .ret) (.seq (.reg 0 [⟨(some 13),.bin .eql (.tmp 6) (.const (.int .u8 114)),none,0⟩,⟨(some 12),.mv (.tmp 13),none,0⟩] none) (.cond (.tmp 12) (.seq (.reg 0 [⟨(some 14),.mv (.tmp 0),none,0⟩,⟨(some 15),.nc (.tmp 14),none,0⟩,⟨(some 16),.fa 2 (.tmp 15),none,0⟩,⟨(some 4),.mv (.tmp 16),none,0⟩,⟨(some 5),.mv (.const (.int .i64 12)),none,0⟩] none) .ret) (.seq (.reg 0 [⟨(some 18),.bin .eql (.tmp 6) (.const (.int .u8 109)),none,0⟩,⟨(some 17),.mv (.tmp 18),none,0⟩] none) (.cond (.tmp 17) (.seq (.reg 0 [⟨(some 19),.mv (.tmp 0),none,0⟩,⟨(some 20),.nc (.tmp 19),none,0⟩,⟨(some 21),.fa 3 (.tmp 20),none,0⟩,⟨(some 4),.mv (.tmp 21),none,0⟩,⟨(some 5),.mv (.const (.int .i64 24)),none,0⟩] none) .ret) .skip)))))))) (.seq (.reg 0 [⟨(some 4),.mv (.const (.pointer none)),none,0⟩,⟨(some 5),.mv (.const (.int .i64 0)),none,0⟩] none) .ret)))
theorem ac145_ok:compF Tryz.prog Tryz.f145=some (ac145,22,[.tmp 4,.tmp 5]):=by unfold ac145;kernel_rfl
def ac146:ACode:=(.seq (.reg 0 [⟨(some 4),.mv (.const (.pointer none)),none,0⟩,⟨(some 5),.mv (.const (.int .i64 0)),none,0⟩,⟨(some 6),.mv (.const (.int .i64 0)),none,0⟩] none) (.seq (.seq (.reg 0 [⟨(some 7),.mv (.tmp 1),none,0⟩] none) (.block 0 (.seq (.reg 0 [⟨(some 9),.bin .eql (.tmp 7) (.const (.int .u8 115)),none,0⟩,⟨(some 8),.mv (.tmp 9),none,0⟩] none) (.cond (.tmp 8) (.seq (.reg 0 [⟨(some 10),.mv (.tmp 0),none,0⟩,⟨(some 11),.nc (.tmp 10),none,0⟩,⟨(some 12),.fa 4 (.tmp 11),none,0⟩,⟨(some 4),.mv (.tmp 12),none,0⟩,⟨(some 5),.mv (.const (.int .i64 1)),none,0⟩,⟨(some 6),.mv (.const (.int .i64 0)),none,0⟩] none) .ret) (.seq (.reg 0 [⟨(some 14),.bin .eql (.tmp 7) (.const (.int .u8 112)),none,0⟩,⟨(some 13),.mv (.tmp 14),none,0⟩] none) (.cond (.tmp 13) (.seq (.reg 0 [⟨(some 15),.mv (.tmp 0),none,0⟩,⟨(some 16),.nc (.tmp 15),none,0⟩,⟨(some 17),.fa 5 (.tmp 16),none,0⟩,⟨(some 4),.mv (.tmp 17),none,0⟩,⟨(some 5),.mv (.const (.int .i64 1)),none,0⟩,⟨(some 6),.mv (.const (.int .i64 128)),none,0⟩] none) .ret) (.seq (.reg 0 [⟨(some 19),.bin .eql (.tmp 7) (.const (.int .u8 99)),none,0⟩,⟨(some 18),.mv (.tmp 19),none,0⟩] none) (.cond (.tmp 18) (.seq (.reg 0 [⟨(some 20),.mv (.tmp 0),none,0⟩,⟨(some 21),.nc (.tmp 20),none,0⟩,⟨(some 22),.fa 6 (.tmp 21),none,0⟩,⟨(some 4),.mv (.tmp 22),none,0⟩,⟨(some 5),.mv (.const (.int .i64 1)),none,0⟩,⟨(some 6),.mv (.const (.int .i64 0)),none,0⟩] none) .ret) .skip)))))))) (.seq (.reg 0 [⟨(some 23),.mv (.tmp 0),none,0⟩,⟨(some 24),.nc (.tmp 23),none,0⟩,⟨(some 25),.fa 7 (.tmp 24),none,0⟩,⟨(some 4),.mv (.tmp 25),none,0⟩,⟨(some 5),.mv (.const (.int .i64 6)),none,0⟩,⟨(some 6),.mv (.const (.int .i64 0)),none,0⟩] none) .ret)))
theorem ac146_ok:compF Tryz.prog Tryz.f146=some (ac146,26,[.tmp 4,.tmp 5,.tmp 6]):=by unfold ac146;kernel_rfl
def ac94:ACode:=(.seq (.reg 1 [⟨(some 10),.mv (.tmp 0),none,0⟩,⟨(some 11),.nc (.tmp 10),none,0⟩,⟨(some 12),.fa 0 (.tmp 11),none,0⟩,⟨(some 13),.ld 1 false (.tmp 12),none,0⟩,⟨(some 14),.cl 65 [(.tmp 13)],none,0⟩,⟨(some 15),.s2b (.tmp 14),none,0⟩,⟨(some 16),.lens (.tmp 15),none,1⟩,⟨(some 17),.mv (.const (.int .i64 0)),none,1⟩] none) (.block 0 (.loop (.seq (.reg 0 [⟨(some 18),.bin .lss (.tmp 17) (.tmp 16),none,0⟩] none) (.seq (.cond (.tmp 18) .skip (.exit 0)) (.seq (.block 1 (.seq (.reg 0 [⟨(some 19),.ixs 1 (.tmp 15) (.tmp 17),none,0⟩,⟨(some 20),.ld 1 false (.tmp 19),none,0⟩,⟨(some 7),.mv (.tmp 20),none,0⟩] none) (.seq (.reg 0 [⟨(some 22),.mv (.tmp 0),none,0⟩,⟨(some 23),.mv (.tmp 7),none,0⟩,⟨(some 24),.cl 145 [(.tmp 22),(.tmp 23)],none,0⟩,⟨(some 21),.mv (.tmp 24),none,0⟩,⟨(some 25),.ex (.tmp 21) 0,none,0⟩,⟨(some 26),.ex (.tmp 21) 1,none,0⟩,⟨(some 8),.mv (.tmp 25),none,0⟩,⟨(some 9),.mv (.tmp 26),none,0⟩] none) (.seq (.reg 0 [⟨(some 27),.mv (.tmp 8),none,0⟩,⟨(some 28),.eqp true (.tmp 27) (.const (.pointer none)),none,0⟩] none) (.cond (.tmp 28) (.reg 0 [⟨(some 29),.mv (.tmp 1),none,0⟩,⟨(some 30),.mv (.tmp 8),none,0⟩,⟨(some 31),.mv (.tmp 9),none,0⟩,⟨(some 32),.cv (.tmp 29) [(.tmp 30),(.tmp 31)],none,0⟩] none) (.reg 0 [⟨(some 33),.mv (.tmp 2),none,0⟩,⟨(some 34),.mv (.tmp 0),none,0⟩,⟨(some 35),.mv (.tmp 7),none,0⟩,⟨(some 36),.cl 146 [(.tmp 34),(.tmp 35)],none,0⟩,⟨(some 37),.ex (.tmp 36) 0,none,0⟩,⟨(some 38),.ex (.tmp 36) 1,none,0⟩,⟨(some 39),.ex (.tmp 36) 2,none,0⟩,⟨(some 40),.cv (.tmp 33) [(.tmp 37),(.tmp 38),(.tmp 39)],none,0⟩] none)))))) (.reg 0 [⟨(some 41),.bin .add (.tmp 17) (.const (.int .i64 1)),none,0⟩,⟨(some 17),.mv (.tmp 41),none,0⟩] none)))))))
theorem ac94_ok:compF Tryz.prog Tryz.f94=some (ac94,42,[]):=by unfold ac94;kernel_rfl
def ac119:ACode:=(.reg 0 [⟨(some 4),.mv (.tmp 0),none,0⟩,⟨(some 5),.nc (.tmp 4),none,0⟩,⟨none,.st 1 (.tmp 5) (.const (.string ⟨#[]⟩)),none,0⟩] none)
theorem ac119_ok:compF Tryz.prog Tryz.f119=some (ac119,6,[]):=by unfold ac119;kernel_rfl
def ac120:ACode:=(.reg 0 [⟨(some 6),.mv (.tmp 0),none,0⟩,⟨(some 7),.nc (.tmp 6),none,0⟩,⟨none,.st 1 (.tmp 7) (.const (.int .i64 0)),none,0⟩] none)
theorem ac120_ok:compF Tryz.prog Tryz.f120=some (ac120,8,[]):=by unfold ac120;kernel_rfl
def ac67:ACode:=(.seq (.reg 1 [⟨(some 1),.bx (.tmp 0),none,0⟩,⟨(some 2),.mv (.const (.bool false)),none,1⟩] none) (.seq (.reg 0 [⟨(some 3),.cl 94 [(.tmp 1),(.func 119),(.func 120)],none,0⟩] none) (.seq (.reg 0 [⟨(some 4),.ld 8 true (.tmp 1),none,0⟩,⟨(some 5),.fa 0 (.tmp 1),none,0⟩,⟨(some 6),.ld 1 false (.tmp 5),none,0⟩,⟨(some 7),.bd [(.lit (.int .u8 0)),(.lit (.string ⟨#[]⟩)),(.lit (.string ⟨#[]⟩)),(.lit (.string ⟨#[]⟩)),(.lit (.int .i64 0)),(.lit (.int .i64 0)),(.lit (.int .i64 0)),(.lit (.int .i64 0))] [(0,1,(.tmp 6))],none,0⟩,⟨(some 8),.eqa false [1,2,2,2,1,1,1,1] (.tmp 4) (.tmp 7),none,0⟩,⟨(some 2),.mv (.tmp 8),none,0⟩] none) .ret)))
theorem ac67_ok:compF Tryz.prog Tryz.f67=some (ac67,9,[.tmp 2]):=by unfold ac67;kernel_rfl
def ac41:ACode:=(.seq (.reg 1 [⟨(some 1),.bx (.tmp 0),none,0⟩,⟨(some 2),.mv (.const (.int .i64 0)),none,1⟩] none) (.seq (.reg 0 [⟨(some 4),.fa 0 (.tmp 1),none,0⟩,⟨(some 5),.ld 1 false (.tmp 4),none,0⟩,⟨(some 6),.cl 65 [(.tmp 5)],none,0⟩,⟨(some 3),.mv (.tmp 6),none,0⟩] none) (.seq (.block 0 (.seq (.reg 0 [⟨(some 8),.fa 0 (.tmp 1),none,0⟩,⟨(some 9),.ld 1 false (.tmp 8),none,0⟩,⟨(some 10),.cl 66 [(.tmp 9)],none,0⟩,⟨(some 11),.un .not (.tmp 10),none,0⟩,⟨(some 7),.mv (.tmp 11),none,0⟩] none) (.cond (.tmp 7) (.seq (.reg 0 [⟨(some 2),.mv (.const (.int .i64 12)),none,0⟩] none) .ret) (.seq (.reg 0 [⟨(some 13),.ld 8 true (.tmp 1),none,0⟩,⟨(some 14),.cl 67 [(.tmp 13)],none,0⟩,⟨(some 15),.un .not (.tmp 14),none,0⟩,⟨(some 12),.mv (.tmp 15),none,0⟩] none) (.cond (.tmp 12) (.seq (.reg 0 [⟨(some 2),.mv (.const (.int .i64 4)),none,0⟩] none) .ret) (.seq (.seq (.reg 0 [⟨(some 17),.fa 4 (.tmp 1),none,0⟩,⟨(some 18),.ld 1 false (.tmp 17),none,0⟩,⟨(some 19),.cl 68 [(.tmp 18),(.const (.int .i64 0)),(.const (.int .i64 63))],none,0⟩,⟨(some 20),.un .not (.tmp 19),none,0⟩,⟨(some 16),.mv (.tmp 20),none,0⟩] none) (.cond (.tmp 16) .skip (.seq (.reg 0 [⟨(some 21),.fa 5 (.tmp 1),none,0⟩,⟨(some 22),.ld 1 false (.tmp 21),none,0⟩,⟨(some 23),.cl 68 [(.tmp 22),(.const (.int .i64 (-128))),(.const (.int .i64 127))],none,0⟩,⟨(some 24),.un .not (.tmp 23),none,0⟩,⟨(some 16),.mv (.tmp 24),none,0⟩] none) (.cond (.tmp 16) .skip (.seq (.reg 0 [⟨(some 25),.fa 6 (.tmp 1),none,0⟩,⟨(some 26),.ld 1 false (.tmp 25),none,0⟩,⟨(some 27),.cl 68 [(.tmp 26),(.const (.int .i64 0)),(.const (.int .i64 255))],none,0⟩,⟨(some 28),.un .not (.tmp 27),none,0⟩,⟨(some 16),.mv (.tmp 28),none,0⟩] none) (.cond (.tmp 16) .skip (.reg 0 [⟨(some 29),.fa 7 (.tmp 1),none,0⟩,⟨(some 30),.ld 1 false (.tmp 29),none,0⟩,⟨(some 31),.cl 68 [(.tmp 30),(.const (.int .i64 0)),(.const (.int .i64 281474976710655))],none,0⟩,⟨(some 32),.un .not (.tmp 31),none,0⟩,⟨(some 16),.mv (.tmp 32),none,0⟩] none))))))) (.cond (.tmp 16) (.seq (.reg 0 [⟨(some 2),.mv (.const (.int .i64 8)),none,0⟩] none) .ret) (.seq (.reg 0 [⟨(some 34),.fa 3 (.tmp 1),none,0⟩,⟨(some 35),.ld 1 false (.tmp 34),none,0⟩,⟨(some 36),.lent (.tmp 35),none,0⟩,⟨(some 37),.bin .gtr (.tmp 36) (.const (.int .i64 24)),none,0⟩,⟨(some 33),.mv (.tmp 37),none,0⟩] none) (.cond (.tmp 33) (.seq (.reg 0 [⟨(some 2),.mv (.const (.int .i64 5)),none,0⟩] none) .ret) (.seq (.seq (.reg 0 [⟨(some 39),.fa 3 (.tmp 1),none,0⟩,⟨(some 40),.ld 1 false (.tmp 39),none,0⟩,⟨(some 41),.cl 69 [(.tmp 40)],none,0⟩,⟨(some 42),.un .not (.tmp 41),none,0⟩,⟨(some 38),.mv (.tmp 42),none,0⟩] none) (.cond (.tmp 38) .skip (.reg 0 [⟨(some 43),.mv (.tmp 3),none,0⟩,⟨(some 44),.bin .neq (.tmp 43) (.const (.string ⟨#[]⟩)),none,0⟩,⟨(some 45),.mv (.tmp 44),none,0⟩,⟨(some 46),.mv (.tmp 3),(some (45,true)),0⟩,⟨(some 47),.ixt (.tmp 46) (.const (.int .i64 0)),(some (45,true)),0⟩,⟨(some 48),.bin .eql (.tmp 47) (.const (.int .u8 117)),(some (45,true)),0⟩,⟨(some 49),.pick (.tmp 45) (.tmp 48) (.const (.bool false)),none,0⟩,⟨(some 50),.mv (.tmp 49),none,0⟩,⟨(some 51),.fa 1 (.tmp 1),(some (50,true)),0⟩,⟨(some 52),.ld 1 false (.tmp 51),(some (50,true)),0⟩,⟨(some 53),.cl 70 [(.tmp 52)],(some (50,true)),0⟩,⟨(some 54),.un .not (.tmp 53),(some (50,true)),0⟩,⟨(some 55),.pick (.tmp 50) (.tmp 54) (.const (.bool false)),none,0⟩,⟨(some 38),.mv (.tmp 55),none,0⟩] none))) (.cond (.tmp 38) (.seq (.reg 0 [⟨(some 2),.mv (.const (.int .i64 11)),none,0⟩] none) .ret) .skip))))))))))) (.seq (.reg 0 [⟨(some 56),.fa 2 (.tmp 1),none,0⟩,⟨(some 57),.ld 1 false (.tmp 56),none,0⟩,⟨(some 58),.cl 71 [(.tmp 57)],none,0⟩,⟨(some 2),.mv (.tmp 58),none,0⟩] none) .ret))))
theorem ac41_ok:compF Tryz.prog Tryz.f41=some (ac41,59,[.tmp 2]):=by unfold ac41;kernel_rfl
end Go.Proofs.YtmmmcpeickfolaaGreat

namespace Go.Proofs.YtmmmcpeickfolaaGreat
open Go.RowKit
def zeroF (s:StzD) (c:UInt8):StzD:=if c=117 then { s with user:=⟨#[]⟩ } else if c=114 then { s with res:=⟨#[]⟩ } else if c=109 then { s with name:=⟨#[]⟩ } else if c=115 then { s with show_:=0 } else if c=112 then { s with prio:=0 } else if c=99 then { s with code:=0 } else { s with n:=0 }
def letV (c:UInt8):V:=if c=117 then .tup [.ptr 0 1,.i 33] else if c=114 then .tup [.ptr 0 2,.i 12] else if c=109 then .tup [.ptr 0 3,.i 24] else .tup [.lit (.pointer none),.i 0]
def numbV (c:UInt8):V:=if c=115 then .tup [.ptr 0 4,.i 1,.i 0] else if c=112 then .tup [.ptr 0 5,.i 1,.i 128] else if c=99 then .tup [.ptr 0 6,.i 1,.i 0] else .tup [.ptr 0 7,.i 6,.i 0]
theorem bytes_idlt (l:List UInt8):V.idlt.belowL 0 (l.map byteV)=true:=belowL_mem fun v hv=>by
 obtain ⟨b,_,rfl⟩:=List.mem_map.1 hv;rfl
attribute [local irreducible] AW Fin FinR seqQ blkQ regQ loopQ CallsV CallsS Callable
theorem text_s (c:UInt8) (s:StzD) (l:List UInt8) (hc:c=117∨c=114∨c=109∨c=115∨c=112∨c=99∨c=110):CallsS Tryz.prog 145 [.ptr 0 0,.u8 c] [.live (stzV s).cells 0] (letV c) [.live (stzV s).cells 0]:=by
 have hid:=bytes_idlt l
 refine callsR_comp mix Tryz.func145 ac145_ok rfl ?_
 unfold ac145
 simp only [List.length_cons,List.length_nil,List.replicate_succ,List.replicate_zero,List.cons_append,List.nil_append,Nat.reduceAdd,Nat.reduceSub]
 rcases hc with rfl | rfl | rfl | rfl | rfl | rfl | rfl
 all_goals (repeat' (first | ((try simp only [Nat.reduceAdd,Nat.reduceMul,Nat.zero_add,Nat.add_zero,Int.toNat_natCast,Int.reduceToNat,stzV]);refine hK' _ _ _ ?_;clear hK' K';first | refine q_regT ?_ | refine q_regD rfl ?_) | first | refine w_seq ?_ | refine q_seqN ?_ | (refine w_reg (by (try simp only [List.length_cons,List.length_nil,Nat.reduceAdd]);rfl) (by (try simp only [List.replicate_succ,List.replicate_zero,List.cons_append,List.nil_append,List.append_nil]);rfl) (fun K' hK'=>wpOps_ok ?_);conv=>whnf) | (refine w_condTst rfl ?_;(repeat refine Tst.not ?_);(first | refine Tst.T ?_ | refine Tst.F ?_ | refine Tst.decT (by assumption) ?_ | refine Tst.decF (by assumption) ?_ | refine Tst.eqT (by assumption) ?_ | refine Tst.eqF (by assumption) ?_ | refine Tst.neT (by assumption) ?_ | refine Tst.neF (by assumption) ?_ | refine Tst.isT (by assumption) ?_ | refine Tst.isF (by assumption) ?_ | refine Tst.dec (fun hb=>?_) (fun hb=>?_) | refine Tst.eqI (fun hb=>?_) (fun hb=>?_) | refine Tst.neI (fun hb=>?_) (fun hb=>?_) | refine Tst.not ?_ | refine Tst.any (fun hb=>?_) (fun hb=>?_)) <;> conv=>whnf) | refine w_ret ?_ | refine w_skip ?_ | refine w_blk ?_ | refine w_exit ?_ | refine q_seqR ?_ | refine q_seqE ?_ | refine q_blkN ?_ | refine q_blkR ?_ | refine q_blkH ?_ | refine q_blkE rfl ?_ | refine q_loopR ?_ | refine q_loopE ?_ | fail | first | (refine LenQ.ok ?_;conv=>whnf) | ((first | refine Tst.T ?_ | refine Tst.F ?_ | refine Tst.decT (by assumption) ?_ | refine Tst.decF (by assumption) ?_ | refine Tst.eqT (by assumption) ?_ | refine Tst.eqF (by assumption) ?_ | refine Tst.neT (by assumption) ?_ | refine Tst.neF (by assumption) ?_ | refine Tst.isT (by assumption) ?_ | refine Tst.isF (by assumption) ?_ | refine Tst.dec (fun hb=>?_) (fun hb=>?_) | refine Tst.eqI (fun hb=>?_) (fun hb=>?_) | refine Tst.neI (fun hb=>?_) (fun hb=>?_) | refine Tst.not ?_ | refine Tst.any (fun hb=>?_) (fun hb=>?_)) <;> conv=>whnf) | (refine Ari.ok (by omega) ?_;conv=>whnf) | (refine IxO.ok (by omega) (by omega) ?_;conv=>whnf) | (refine IxS.M (by omega) (by omega) (fun _=>rfl) ?_;conv=>whnf) | (refine ⟨Nat.le_of_ble_eq_true rfl,?_⟩;conv=>whnf) | (refine ⟨rfl,?_⟩;conv=>whnf) | (refine Cat.ok (by omega) ?_;conv=>whnf)))
 all_goals exact f_R0 (by simp) (ResL.cons (ResOne.tmp rfl) (ResL.cons (ResOne.tmp rfl) ResL.nil)) rfl rfl rfl rfl (by repeat' (first | exact trivial | refine wkS_f ?_ | refine wkS_d ?_ | refine ⟨rfl,?_⟩ | refine wkS_live0 (by assumption) ?_))
theorem number_s (c:UInt8) (s:StzD) (l:List UInt8) (hc:c=115∨c=112∨c=99∨c=110):CallsS Tryz.prog 146 [.ptr 0 0,.u8 c] [.live (stzV s).cells 0] (numbV c) [.live (stzV s).cells 0]:=by
 have hid:=bytes_idlt l
 refine callsR_comp mix Tryz.func146 ac146_ok rfl ?_
 unfold ac146
 simp only [List.length_cons,List.length_nil,List.replicate_succ,List.replicate_zero,List.cons_append,List.nil_append,Nat.reduceAdd,Nat.reduceSub]
 rcases hc with rfl | rfl | rfl | rfl
 all_goals (repeat' (first | ((try simp only [Nat.reduceAdd,Nat.reduceMul,Nat.zero_add,Nat.add_zero,Int.toNat_natCast,Int.reduceToNat,stzV]);refine hK' _ _ _ ?_;clear hK' K';first | refine q_regT ?_ | refine q_regD rfl ?_) | first | refine w_seq ?_ | refine q_seqN ?_ | (refine w_reg (by (try simp only [List.length_cons,List.length_nil,Nat.reduceAdd]);rfl) (by (try simp only [List.replicate_succ,List.replicate_zero,List.cons_append,List.nil_append,List.append_nil]);rfl) (fun K' hK'=>wpOps_ok ?_);conv=>whnf) | (refine w_condTst rfl ?_;(repeat refine Tst.not ?_);(first | refine Tst.T ?_ | refine Tst.F ?_ | refine Tst.decT (by assumption) ?_ | refine Tst.decF (by assumption) ?_ | refine Tst.eqT (by assumption) ?_ | refine Tst.eqF (by assumption) ?_ | refine Tst.neT (by assumption) ?_ | refine Tst.neF (by assumption) ?_ | refine Tst.isT (by assumption) ?_ | refine Tst.isF (by assumption) ?_ | refine Tst.dec (fun hb=>?_) (fun hb=>?_) | refine Tst.eqI (fun hb=>?_) (fun hb=>?_) | refine Tst.neI (fun hb=>?_) (fun hb=>?_) | refine Tst.not ?_ | refine Tst.any (fun hb=>?_) (fun hb=>?_)) <;> conv=>whnf) | refine w_ret ?_ | refine w_skip ?_ | refine w_blk ?_ | refine w_exit ?_ | refine q_seqR ?_ | refine q_seqE ?_ | refine q_blkN ?_ | refine q_blkR ?_ | refine q_blkH ?_ | refine q_blkE rfl ?_ | refine q_loopR ?_ | refine q_loopE ?_ | fail | first | (refine LenQ.ok ?_;conv=>whnf) | ((first | refine Tst.T ?_ | refine Tst.F ?_ | refine Tst.decT (by assumption) ?_ | refine Tst.decF (by assumption) ?_ | refine Tst.eqT (by assumption) ?_ | refine Tst.eqF (by assumption) ?_ | refine Tst.neT (by assumption) ?_ | refine Tst.neF (by assumption) ?_ | refine Tst.isT (by assumption) ?_ | refine Tst.isF (by assumption) ?_ | refine Tst.dec (fun hb=>?_) (fun hb=>?_) | refine Tst.eqI (fun hb=>?_) (fun hb=>?_) | refine Tst.neI (fun hb=>?_) (fun hb=>?_) | refine Tst.not ?_ | refine Tst.any (fun hb=>?_) (fun hb=>?_)) <;> conv=>whnf) | (refine Ari.ok (by omega) ?_;conv=>whnf) | (refine IxO.ok (by omega) (by omega) ?_;conv=>whnf) | (refine IxS.M (by omega) (by omega) (fun _=>rfl) ?_;conv=>whnf) | (refine ⟨Nat.le_of_ble_eq_true rfl,?_⟩;conv=>whnf) | (refine ⟨rfl,?_⟩;conv=>whnf) | (refine Cat.ok (by omega) ?_;conv=>whnf)))
 all_goals exact f_R0 (by simp) (ResL.cons (ResOne.tmp rfl) (ResL.cons (ResOne.tmp rfl) (ResL.cons (ResOne.tmp rfl) ResL.nil))) rfl rfl rfl rfl (by repeat' (first | exact trivial | refine wkS_f ?_ | refine wkS_d ?_ | refine ⟨rfl,?_⟩ | refine wkS_live0 (by assumption) ?_))
theorem bare1_s (s s' : StzD) (l:List UInt8) (off:Nat) (m:Int) (h:off=1∧s'={ s with user:=⟨#[]⟩ }∨off=2∧s'={ s with res:=⟨#[]⟩ }∨off=3∧s'={ s with name:=⟨#[]⟩ }):CallsS Tryz.prog 119 [.ptr 0 off,.i m] [.live (stzV s).cells 0] (.tup []) [.live (stzV s').cells 0]:=by
 have hid:=bytes_idlt l
 refine callsR_comp mix Tryz.func119 ac119_ok rfl ?_
 unfold ac119
 simp only [List.length_cons,List.length_nil,List.replicate_succ,List.replicate_zero,List.cons_append,List.nil_append,Nat.reduceAdd,Nat.reduceSub]
 rcases h with ⟨rfl,rfl⟩ | ⟨rfl,rfl⟩ | ⟨rfl,rfl⟩
 all_goals (repeat' (first | ((try simp only [Nat.reduceAdd,Nat.reduceMul,Nat.zero_add,Nat.add_zero,Int.toNat_natCast,Int.reduceToNat,stzV]);refine hK' _ _ _ ?_;clear hK' K';first | refine q_regT ?_ | refine q_regD rfl ?_) | first | refine w_seq ?_ | refine q_seqN ?_ | (refine w_reg (by (try simp only [List.length_cons,List.length_nil,Nat.reduceAdd]);rfl) (by (try simp only [List.replicate_succ,List.replicate_zero,List.cons_append,List.nil_append,List.append_nil]);rfl) (fun K' hK'=>wpOps_ok ?_);conv=>whnf) | (refine w_condTst rfl ?_;(repeat refine Tst.not ?_);(first | refine Tst.T ?_ | refine Tst.F ?_ | refine Tst.decT (by assumption) ?_ | refine Tst.decF (by assumption) ?_ | refine Tst.eqT (by assumption) ?_ | refine Tst.eqF (by assumption) ?_ | refine Tst.neT (by assumption) ?_ | refine Tst.neF (by assumption) ?_ | refine Tst.isT (by assumption) ?_ | refine Tst.isF (by assumption) ?_ | refine Tst.dec (fun hb=>?_) (fun hb=>?_) | refine Tst.eqI (fun hb=>?_) (fun hb=>?_) | refine Tst.neI (fun hb=>?_) (fun hb=>?_) | refine Tst.not ?_ | refine Tst.any (fun hb=>?_) (fun hb=>?_)) <;> conv=>whnf) | refine w_ret ?_ | refine w_skip ?_ | refine w_blk ?_ | refine w_exit ?_ | refine q_seqR ?_ | refine q_seqE ?_ | refine q_blkN ?_ | refine q_blkR ?_ | refine q_blkH ?_ | refine q_blkE rfl ?_ | refine q_loopR ?_ | refine q_loopE ?_ | fail | first | (refine LenQ.ok ?_;conv=>whnf) | ((first | refine Tst.T ?_ | refine Tst.F ?_ | refine Tst.decT (by assumption) ?_ | refine Tst.decF (by assumption) ?_ | refine Tst.eqT (by assumption) ?_ | refine Tst.eqF (by assumption) ?_ | refine Tst.neT (by assumption) ?_ | refine Tst.neF (by assumption) ?_ | refine Tst.isT (by assumption) ?_ | refine Tst.isF (by assumption) ?_ | refine Tst.dec (fun hb=>?_) (fun hb=>?_) | refine Tst.eqI (fun hb=>?_) (fun hb=>?_) | refine Tst.neI (fun hb=>?_) (fun hb=>?_) | refine Tst.not ?_ | refine Tst.any (fun hb=>?_) (fun hb=>?_)) <;> conv=>whnf) | (refine Ari.ok (by omega) ?_;conv=>whnf) | (refine IxO.ok (by omega) (by omega) ?_;conv=>whnf) | (refine IxS.M (by omega) (by omega) (fun _=>rfl) ?_;conv=>whnf) | (refine ⟨Nat.le_of_ble_eq_true rfl,?_⟩;conv=>whnf) | (refine ⟨rfl,?_⟩;conv=>whnf) | (refine Cat.ok (by omega) ?_;conv=>whnf)))
 all_goals exact f_R0 (by simp) .nil rfl rfl rfl rfl (by repeat' (first | exact trivial | refine wkS_f ?_ | refine wkS_d ?_ | refine ⟨rfl,?_⟩ | refine wkS_live0 (by assumption) ?_))
theorem bare2_s (s s' : StzD) (l:List UInt8) (off:Nat) (m m' : Int) (h:off=4∧s'={ s with show_:=0 }∨off=5∧s'={ s with prio:=0 }∨off=6∧s'={ s with code:=0 }∨off=7∧s'={ s with n:=0 }):CallsS Tryz.prog 120 [.ptr 0 off,.i m,.i m'] [.live (stzV s).cells 0] (.tup []) [.live (stzV s').cells 0]:=by
 have hid:=bytes_idlt l
 refine callsR_comp mix Tryz.func120 ac120_ok rfl ?_
 unfold ac120
 simp only [List.length_cons,List.length_nil,List.replicate_succ,List.replicate_zero,List.cons_append,List.nil_append,Nat.reduceAdd,Nat.reduceSub]
 rcases h with ⟨rfl,rfl⟩ | ⟨rfl,rfl⟩ | ⟨rfl,rfl⟩ | ⟨rfl,rfl⟩
 all_goals (repeat' (first | ((try simp only [Nat.reduceAdd,Nat.reduceMul,Nat.zero_add,Nat.add_zero,Int.toNat_natCast,Int.reduceToNat,stzV]);refine hK' _ _ _ ?_;clear hK' K';first | refine q_regT ?_ | refine q_regD rfl ?_) | first | refine w_seq ?_ | refine q_seqN ?_ | (refine w_reg (by (try simp only [List.length_cons,List.length_nil,Nat.reduceAdd]);rfl) (by (try simp only [List.replicate_succ,List.replicate_zero,List.cons_append,List.nil_append,List.append_nil]);rfl) (fun K' hK'=>wpOps_ok ?_);conv=>whnf) | (refine w_condTst rfl ?_;(repeat refine Tst.not ?_);(first | refine Tst.T ?_ | refine Tst.F ?_ | refine Tst.decT (by assumption) ?_ | refine Tst.decF (by assumption) ?_ | refine Tst.eqT (by assumption) ?_ | refine Tst.eqF (by assumption) ?_ | refine Tst.neT (by assumption) ?_ | refine Tst.neF (by assumption) ?_ | refine Tst.isT (by assumption) ?_ | refine Tst.isF (by assumption) ?_ | refine Tst.dec (fun hb=>?_) (fun hb=>?_) | refine Tst.eqI (fun hb=>?_) (fun hb=>?_) | refine Tst.neI (fun hb=>?_) (fun hb=>?_) | refine Tst.not ?_ | refine Tst.any (fun hb=>?_) (fun hb=>?_)) <;> conv=>whnf) | refine w_ret ?_ | refine w_skip ?_ | refine w_blk ?_ | refine w_exit ?_ | refine q_seqR ?_ | refine q_seqE ?_ | refine q_blkN ?_ | refine q_blkR ?_ | refine q_blkH ?_ | refine q_blkE rfl ?_ | refine q_loopR ?_ | refine q_loopE ?_ | fail | first | (refine LenQ.ok ?_;conv=>whnf) | ((first | refine Tst.T ?_ | refine Tst.F ?_ | refine Tst.decT (by assumption) ?_ | refine Tst.decF (by assumption) ?_ | refine Tst.eqT (by assumption) ?_ | refine Tst.eqF (by assumption) ?_ | refine Tst.neT (by assumption) ?_ | refine Tst.neF (by assumption) ?_ | refine Tst.isT (by assumption) ?_ | refine Tst.isF (by assumption) ?_ | refine Tst.dec (fun hb=>?_) (fun hb=>?_) | refine Tst.eqI (fun hb=>?_) (fun hb=>?_) | refine Tst.neI (fun hb=>?_) (fun hb=>?_) | refine Tst.not ?_ | refine Tst.any (fun hb=>?_) (fun hb=>?_)) <;> conv=>whnf) | (refine Ari.ok (by omega) ?_;conv=>whnf) | (refine IxO.ok (by omega) (by omega) ?_;conv=>whnf) | (refine IxS.M (by omega) (by omega) (fun _=>rfl) ?_;conv=>whnf) | (refine ⟨Nat.le_of_ble_eq_true rfl,?_⟩;conv=>whnf) | (refine ⟨rfl,?_⟩;conv=>whnf) | (refine Cat.ok (by omega) ?_;conv=>whnf)))
 all_goals exact f_R0 (by simp) .nil rfl rfl rfl rfl (by repeat' (first | exact trivial | refine wkS_f ?_ | refine wkS_d ?_ | refine ⟨rfl,?_⟩ | refine wkS_live0 (by assumption) ?_))
theorem bare1_ok:Callable Tryz.prog 119:=callable_comp Tryz.func119 ac119_ok (by kernel_rfl)
theorem bare2_ok:Callable Tryz.prog 120:=callable_comp Tryz.func120 ac120_ok (by kernel_rfl)
end Go.Proofs.YtmmmcpeickfolaaGreat

