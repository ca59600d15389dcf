/- A part of the proof: 17 texts joined. -/
import Derived.Test.YtpkodpcfafipdaaGreatQtA17
import Derived.Defers
import Derived.RegionTactic
import Derived.RegionCalls
import Derived.Laws.NewBlocks
import Derived.Lib.Builder
import Derived.Test.YtpkodpcfafipdaaGreatQtA13
import Derived.Test.YtpkodpcfafipdaaGreatQtA14
import Derived.KernelRfl
set_option linter.all false
namespace Go.Proofs.YtpkodpcfafipdaaGreat
open Go.RowKit
theorem store_deferred (a:Addr) (x:Value) (u:FrameMode) (w:World) (hc:w.cell? a=some x) (hz:w.frozen? a=false) :
  CallsD Tryz.prog 93 #[.pointer (some a),.bool true] u w fun e u' w'=>u'=u∧(e=.returned (.tuple #[])∧w'=w.drew.setCell a (.int .u32 1)):=by
 have hc' : w.drew.cell? a=some x:=by go_simp
 have hz' : w.drew.frozen? a=false:=by go_simp
 have hst:=run_call_store (P:=Tryz.prog) Tryz.func106 (by kernel_rfl) (by kernel_rfl) (by kernel_rfl) (by kernel_rfl) (k:=.u32) (y:=1) hc' hz'
 go_enter_d Tryz.func93,Tryz.ntmps93
 go_wp2
 go_region_calls
 all_goals (go_end0;exact ⟨rfl,rfl⟩)
set_option maxHeartbeats 1000000 in
set_option maxRecDepth 100000 in
theorem b_load (b off:Nat) (n:Int) (w:World) (h0:w.cell? ⟨b,off,none⟩=some (.int .u32 n)) :
  Calls Tryz.prog 80 #[.pointer (some ⟨b,off,none⟩)] w fun e w'=>e=.returned (.bool (n != 0))∧w'=w:=by
 have mixed:Tryz.prog.follows .mixedOrders=true:=mix
 go_enter Tryz.func80,Tryz.ntmps80
 go_wp2
 rw [run_call_load Tryz.func90 (by kernel_rfl) (by kernel_rfl) (by kernel_rfl) .u32 (by kernel_rfl) h0]
 rw [Oper.upon_value]
 go_wp2
 go_ret
 exact ⟨rfl,rfl⟩
theorem lockF (b off:Nat) (w:World) (h1:w.cell? ⟨b,off,none⟩=some (.int .i32 0)) (f1:w.frozen? ⟨b,off,none⟩=false):Calls Tryz.prog 91 #[.pointer (some ⟨b,off,none⟩)] w fun e w'=>e=.returned (.tuple #[])∧w'=w.setCell ⟨b,off,none⟩ (.int .i32 1):=_root_.Go.MuLone.lock_free muLib ⟨b,off,none⟩ w h1 f1
theorem unlockF (b off:Nat) (u:FrameMode) (w:World) (h1:w.cell? ⟨b,off,none⟩=some (.int .i32 1)) (f1:w.frozen? ⟨b,off,none⟩=false):CallsD Tryz.prog 92 #[.pointer (some ⟨b,off,none⟩)] u w fun e u' w'=>u'=u∧(e=.returned (.tuple #[])∧w'=w.setCell ⟨b,off,none⟩ (.int .i32 0)):=_root_.Go.MuLone.unlock_deferred muLib ⟨b,off,none⟩ u w h1 f1
set_option maxRecDepth 100000 in
set_option maxHeartbeats 1600000 in
theorem once_slow (b off:Nat) (caps:Array Value) (R:World→Prop) (w:World)
  (h0:w.cell? ⟨b,off,none⟩=some (.int .u32 0)) (h1:w.cell? ⟨b,off + 1,none⟩=some (.int .i32 0)) (f0:w.frozen? ⟨b,off,none⟩=false) (f1:w.frozen? ⟨b,off + 1,none⟩=false)
  (hf:Calls Tryz.prog 55 caps (w.setCell ⟨b,off + 1,none⟩ (.int .i32 1)) fun e w2=>e=.returned (.tuple #[])∧R w2)
  (hR:∀ w2,R w2→(w2.cell? ⟨b,off,none⟩=some (.int .u32 0)∧w2.frozen? ⟨b,off,none⟩=false)∧w2.cell? ⟨b,off + 1,none⟩=some (.int .i32 1)∧w2.frozen? ⟨b,off + 1,none⟩=false) :
  Calls Tryz.prog 81 #[.pointer (some ⟨b,off,none⟩),.func (.func 55) #[] caps] w fun e w'=>e=.returned (.tuple #[]) ∧
   ∃ w2,R w2∧w'=(w2.drew.setCell ⟨b,off,none⟩ (.int .u32 1)).setCell ⟨b,off + 1,none⟩ (.int .i32 0):=by
 have hl:=run_call_load (P:=Tryz.prog) Tryz.func90 (by kernel_rfl) (by kernel_rfl) (by kernel_rfl) .u32 (by kernel_rfl) (w:=w.setCell ⟨b,off + 1,none⟩ (.int .i32 1)) (a:=⟨b,off,none⟩) (x:=0) ((World.cell?_setCell_other _ ⟨b,off + 1,none⟩ ⟨b,off,none⟩ _ (by simp)).trans h0)
 have hnot:∀ (x:Bool) (w:World),(Op.unary .not (.bool x)).run Tryz.prog w=.ok (.bool (!x)) w:=fun _ _=>rfl
 go_enter_defers Tryz.func81,Tryz.ntmps81
 go_wp2_with (first | (go_at_call 91;refine (lockF b (off + 1) w h1 f1).mono ?_;rintro e w' ⟨rfl,rfl⟩) | (go_at_call 80;refine (b_load b off 0 _ ((World.cell?_setCell_other _ ⟨b,off + 1,none⟩ ⟨b,off,none⟩ _ (by simp)).trans h0)).mono ?_;rintro e w' ⟨rfl,rfl⟩) | (go_at_call 55;refine hf.mono ?_;rintro e w2 ⟨rfl,hr⟩))
 obtain ⟨⟨q1,q2⟩,q3,q4⟩:=hR w2 hr
 refine leaves_cons (f:=93) (args:=#[.pointer (some ⟨b,off,none⟩),.bool true]) (by simp) (by simp [go_sem]) ?_
 refine (store_deferred ⟨b,off,none⟩ (.int .u32 0) .returning _ q1 q2).mono ?_
 rintro e u' w'' ⟨rfl,rfl,rfl⟩
 refine leaves_cons (f:=92) (args:=#[.pointer (some ⟨b,off + 1,none⟩)]) (by simp [settle]) (by simp [go_sem]) ?_
 refine (unlockF b (off + 1) _ (w2.drew.setCell ⟨b,off,none⟩ (.int .u32 1)) ?_ (by simp [q4])).mono ?_
 ·refine (World.cell?_setCell_other _ ⟨b,off,none⟩ ⟨b,off + 1,none⟩ _ (by simp)).trans ?_
  rw [World.cell?_drew];exact q3
 rintro e u' w'' ⟨rfl,rfl,rfl⟩
 simp [Leaves,settle,results,Tryz.results81]
 exact ⟨w2,hr,rfl⟩
set_option maxRecDepth 100000 in
set_option maxHeartbeats 1600000 in
theorem once_first (b off:Nat) (caps:Array Value) (R:World→Prop) (w:World)
  (h0:w.cell? ⟨b,off,none⟩=some (.int .u32 0)) (h1:w.cell? ⟨b,off + 1,none⟩=some (.int .i32 0)) (f0:w.frozen? ⟨b,off,none⟩=false) (f1:w.frozen? ⟨b,off + 1,none⟩=false)
  (hf:Calls Tryz.prog 55 caps (w.setCell ⟨b,off + 1,none⟩ (.int .i32 1)) fun e w2=>e=.returned (.tuple #[])∧R w2)
  (hR:∀ w2,R w2→(w2.cell? ⟨b,off,none⟩=some (.int .u32 0)∧w2.frozen? ⟨b,off,none⟩=false)∧w2.cell? ⟨b,off + 1,none⟩=some (.int .i32 1)∧w2.frozen? ⟨b,off + 1,none⟩=false) :
  Calls Tryz.prog 54 #[.pointer (some ⟨b,off,none⟩),.func (.func 55) #[] caps] w fun e w'=>e=.returned (.tuple #[]) ∧
   ∃ w2,R w2∧w'=(w2.drew.setCell ⟨b,off,none⟩ (.int .u32 1)).setCell ⟨b,off + 1,none⟩ (.int .i32 0):=by
 have hnot:∀ (x:Bool) (w:World),(Op.unary .not (.bool x)).run Tryz.prog w=.ok (.bool (!x)) w:=fun _ _=>rfl
 go_enter Tryz.func54,Tryz.ntmps54
 go_wp2_with (first | (go_at_call 80;refine (b_load b off 0 _ h0).mono ?_;rintro e w' ⟨rfl,rfl⟩) | (go_at_call 81;refine (once_slow b off caps R _ h0 h1 f0 f1 hf hR).mono ?_;rintro e w' ⟨rfl,hw⟩))
 go_end0
 exact ⟨rfl,hw⟩
set_option maxRecDepth 100000 in
set_option maxHeartbeats 1600000 in
theorem once_done (b off:Nat) (d:Int) (hd:¬ d=0) (fv:Value) (w:World) (h0:w.cell? ⟨b,off,none⟩=some (.int .u32 d)) :
  Calls Tryz.prog 54 #[.pointer (some ⟨b,off,none⟩),fv] w fun e w'=>e=.returned (.tuple #[])∧w'=w:=by
 have hnot:∀ (x:Bool) (w:World),(Op.unary .not (.bool x)).run Tryz.prog w=.ok (.bool (!x)) w:=fun _ _=>rfl
 have hd' : (d != 0)=true:=by simp [hd]
 go_enter Tryz.func54,Tryz.ntmps54
 go_wp2_with (go_at_call 80;refine (b_load b off d _ h0).mono ?_;rintro e w' ⟨rfl,rfl⟩)
 go_end0
 exact ⟨rfl,rfl⟩
end Go.Proofs.YtpkodpcfafipdaaGreat

namespace Go.Proofs.YtpkodpcfafipdaaGreat
open Go.RowKit
section
variable {B : Kp} {m0 m : Mem} {bk : Bks} {w : World} {st : List Slot} {id off b bsz : Nat} {cs : List V}
theorem sim_lit {x:Value} (hx:x.oneCell'=true) (hsim:Sim B m0 m bk w st) (hi:st[id]?=some (.live cs 0)) (hb:bk id=some (b,bsz)) (ho:off < cs.length) :
  Sim B m0 m bk (w.setCell ⟨b,off,none⟩ x) (st.set id (.live (cs.set off (.lit x)) 0))∧Bel B w (w.setCell ⟨b,off,none⟩ x):=by
 obtain ⟨arr,tt,lo,hi',hlv,_⟩:=sim_live hsim hi hb
 have hfit:=hlv.fit
 have hsize:=hlv.size
 obtain ⟨⟨arr',g1,g2,g3⟩,g4,g5,g6,g7,g8⟩:=setCells_heap b tt (lo,hi') [x] off w arr hlv.heap (by simp;omega)
 refine ⟨hsim.write hi hlv g1 g2 g4 g5 (fun k hk=>absurd hk (Nat.not_lt_zero _)) (by simpa using hfit) (fun u hu=>?_) (fun k hk=>?_),Bel.write g6 g7 g8 hlv.heap g1 g2 g4 g5 hlv.own⟩
 ·rcases List.mem_or_eq_of_mem_set hu with h | rfl
  ·exact hlv.one u h
  ·exact hx
 ·rw [g3]
  have hk' : k < cs.length:=by simpa using hk
  by_cases c:k=off
  ·subst c
   rw [if_pos (by simp)]
   refine ⟨x,by simp,?_⟩
   rw [List.getElem_set_self]
   exact .lit hx
  ·rw [if_neg (by simp;omega),List.getElem_set_ne (Ne.symm c)]
   exact hlv.rep k hk'
theorem lit_cell (hsim:Sim B m0 m bk w st) (hi:st[id]?=some (.live cs 0)) (hb:bk id=some (b,bsz)) {x:Value} (hc:cs[off]?=some (.lit x)):w.cell? ⟨b,off,none⟩=some x∧w.frozen? ⟨b,off,none⟩=false:=by
 obtain ⟨arr,tt,lo,hi',hlv,_⟩:=sim_live hsim hi hb
 obtain ⟨ho,e⟩:=List.getElem?_eq_some_iff.1 hc
 obtain ⟨u,hu,hr⟩:=hlv.rep off ho
 rw [e] at hr
 have hu2:u=x:=by cases hr;rfl
 subst hu2
 refine ⟨by simp [World.cell?,hlv.heap,hu],?_⟩
 have:=hlv.free
 simp only [World.frozen?,hlv.heap,Bool.and_eq_false_iff,decide_eq_false_iff_not]
 omega
theorem sim_drew (h:Sim B m0 m bk w st):Sim B m0 m bk w.drew st:=h.world (Nat.le_refl _) fun _ _=>rfl
theorem bel_drew (B:Kp) (w:World):Bel B w w.drew:=⟨⟨rfl,rfl,rfl,Nat.le_refl _,fun _ _=>rfl⟩,fun _ _ _=>rfl,fun k c t lo hi h=>⟨c,h,rfl⟩,fun _ _ h _=>h⟩
end
theorem callsS_once_done {st:List Slot} {id off frz:Nat} {cs:List V} {d:Int} (hd:¬ d=0) (f:V) (hi:st[id]?=some (.live cs frz)) (hc:cs[off]?=some (.lit (.int .u32 d))):CallsS Tryz.prog 54 [.ptr id off,f] st (.tup []) st:=by
 intro B m0 m bk w cargs hg hsim hargs
 obtain ⟨c,g,rfl,h0,_⟩:=arg2 hargs
 cases h0 with
 | @ptr _ _ b bsz _ hb =>
  obtain ⟨arr,tt,lo,hi',hlv,_⟩:=sim_live hsim hi hb
  obtain ⟨ho,e⟩:=List.getElem?_eq_some_iff.1 hc
  obtain ⟨u,hu,hr⟩:=hlv.rep off ho
  rw [e] at hr
  have hu2:u=.int .u32 d:=by cases hr;rfl
  subst hu2
  refine (once_done b off d hd g w (by simp [World.cell?,hlv.heap,hu])).mono ?_
  rintro e w' ⟨rfl,rfl⟩
  exact ⟨_,rfl,m,bk,hsim,.tup (by simp) fun j h=>absurd h (Nat.not_lt_zero _),fun _ _ h=>h,fun _ _ h=>h,Bel.refl _ _⟩
theorem callsS_once_first {st st2:List Slot} {id off:Nat} {cs cs2 caps:List V} (hi:st[id]?=some (.live cs 0)) (hd:cs[off]?=some (.lit (.int .u32 0))) (hm:cs[off + 1]?=some (.lit (.int .i32 0)))
  (hf:CallsS Tryz.prog 55 caps (st.set id (.live (cs.set (off + 1) (.lit (.int .i32 1))) 0)) (.tup []) st2) (hi2:st2[id]?=some (.live cs2 0)) (hd2:cs2[off]?=some (.lit (.int .u32 0))) (hm2:cs2[off + 1]?=some (.lit (.int .i32 1))) :
  CallsS Tryz.prog 54 [.ptr id off,.clo (.func 55) caps] st (.tup []) (st2.set id (.live ((cs2.set off (.lit (.int .u32 1))).set (off + 1) (.lit (.int .i32 0))) 0)):=by
 intro B m0 m bk w cargs hg hsim hargs
 obtain ⟨c,g,rfl,h0,h1⟩:=arg2 hargs
 cases h0 with
 | @ptr _ _ b bsz _ hb =>
 cases h1 with
 | @clo _ _ cc _ hv hl h =>
  obtain ⟨p1,p2⟩:=lit_cell hsim hi hb hd
  obtain ⟨p3,p4⟩:=lit_cell hsim hi hb hm
  have ho:=(List.getElem?_eq_some_iff.1 hm).1
  obtain ⟨s1,l1⟩:=sim_lit (x:=.int .i32 1) rfl hsim hi hb ho
  have hf':=hf B m0 m bk _ cc hg s1 ⟨hl,h⟩
  refine (once_first b off cc (fun w2=>Aft B m0 m bk (w.setCell ⟨b,off + 1,none⟩ (.int .i32 1)) st2 (.tup []) (.tuple #[]) w2) w p1 p3 p2 p4 (hf'.mono ?_) ?_).mono ?_
  ·rintro e w2 ⟨c2,rfl,ha⟩
   have e2:c2=.tuple #[]:=by
    obtain ⟨m',bk',_,hr,_⟩:=ha
    cases hr with
    | @tup _ cs3 _ hl3 _ =>
     have:cs3=#[]:=Array.eq_empty_of_size_eq_zero hl3
     rw [this]
   subst e2
   exact ⟨rfl,ha⟩
  ·rintro w2 ⟨m',bk',hs2,_,_,hbk,_⟩
   exact ⟨lit_cell hs2 hi2 (hbk _ _ hb) hd2,lit_cell hs2 hi2 (hbk _ _ hb) hm2⟩
  ·rintro e w' ⟨rfl,w2,⟨m',bk',hs2,hr,hmm,hbk,hl2⟩,rfl⟩
   have hlt:id < st2.length:=(List.getElem?_eq_some_iff.1 hi2).1
   obtain ⟨s3,l3⟩:=sim_lit (x:=.int .u32 1) (off:=off) rfl (sim_drew hs2) hi2 (hbk _ _ hb) (List.getElem?_eq_some_iff.1 hd2).1
   obtain ⟨s4,l4⟩:=sim_lit (x:=.int .i32 0) (off:=off + 1) rfl s3 (List.getElem?_set_self hlt) (hbk _ _ hb) (by rw [List.length_set];exact (List.getElem?_eq_some_iff.1 hm2).1)
   rw [List.set_set] at s4
   exact ⟨_,rfl,m',bk',s4,hr,hmm,hbk,((l1.trans hl2).trans (bel_drew _ _)).trans (l3.trans l4)⟩
end Go.Proofs.YtpkodpcfafipdaaGreat

namespace Go.Proofs.YtpkodpcfafipdaaGreat
open Go.RowKit
section
variable {cs cs' p l m l' : List V} {q : Nat}
theorem lm_len {α:Type} {f:α→V} {es n:Nat} (hes:∀ a,(f a).cells.length=es) {l:List α} (h:n=List.length l):(cellsM f l).length=n * es:=by rw [cellsM_len hes,h]
theorem el_lt {α:Type} {seg:List α} {n es oo z:Nat} {x:α} (hx:seg[n]?=some x) (hz:oo + z≤es):n * es + (oo + z)≤seg.length * es:=by
 have h1:=(List.getElem?_eq_some_iff.1 hx).1
 have h2:(n + 1) * es≤seg.length * es:=Nat.mul_le_mul_right es h1
 rw [Nat.succ_mul] at h2;omega
theorem ldmo_c {α:Type} {f:α→V} {seg:List α} {n es sz:Nat} {ag:Bool} {x:α} {k:V→Prop} (hc:cs=p++cellsM f seg++m) (hx:seg[n]?=some x) (hes:∀ a,(f a).cells.length=es) (oo:Nat) (hp:q=p.length + (n * es + oo)) (hs:oo < es∧oo + agz ag sz≤es) (h:ldK (f x).cells oo sz ag k):ldK cs q sz ag k:=by
 subst hc hp
 refine ldK_app ?_ (ldo_c hx hes oo rfl hs h)
 have h1:=el_lt (z:=1) hx (show oo + 1≤es from hs.1)
 have h2:=el_lt hx hs.2
 rw [cellsM_len hes]
 omega
theorem stmo_c {α:Type} {f:α→V} {seg:List α} {n es:Nat} {vs:List V} {x:α} {k:List V→Prop} (hc:cs=p++cellsM f seg++m) (hx:seg[n]?=some x) {x' : α} (hes:∀ a,(f a).cells.length=es) (oo:Nat) (hp:q=p.length + (n * es + oo)) (hs:oo + vs.length≤es) (h' : layK (f x).cells oo vs fun cs=>cs=(f x').cells)
  (hk:p++cellsM f (seg.set n x')++m=cs') (hK:k cs'):layK cs q vs k:=by
 subst hc hp
 refine layK_app (sto_c hx hes oo rfl hs h' (by rw [hk];exact hK)) ?_
 have h2:=el_lt hx hs
 rw [cellsM_len hes];omega
theorem ldm1_c {c:V} {sz:Nat} {k:V→Prop} (hc:cs=p++[c]++m) (hp:q=p.length) (h:k c):ldK cs q sz false k:=by
 subst hc hp
 exact ldK_app (l:=[c]) (o:=0) ⟨by simp,by simp [agz]⟩ h
theorem stm1_c {c c' : V} {k:List V→Prop} (hc:cs=p++[c]++m) (hp:q=p.length) (hk:p++[c']++m=cs') (hK:k cs'):layK cs q [c'] k:=by
 subst hc hp
 refine layK_app (l:=[c]) (o:=0) (layK_of (by simp) ?_) (by simp)
 show k (p++[c']++m)
 rw [hk];exact hK
mutual
theorem ren_fix {sg:List Nat} {N:Nat} (hf:∀ k,k < N→sgm sg k=k):∀ v:V,v.idlt N=true→v.ren sg=v
 | .lit _,_=>rfl
 | .agg cs,h=>by rw [V.ren,renL_fix hf cs h]
 | .tup cs,h=>by rw [V.ren,renL_fix hf cs h]
 | .sl _ _,_=>rfl
 | .osl _ _ _ _ _,h=>by rw [V.ren,hf _ (by simpa [V.idlt] using h)]
 | .ptr _ _,h=>by rw [V.ren,hf _ (by simpa [V.idlt] using h)]
 | .eptr _,_=>rfl
 | .clo _ cs,h=>by rw [V.ren,renL_fix hf cs h]
 | .any,_=>rfl
theorem renL_fix {sg:List Nat} {N:Nat} (hf:∀ k,k < N→sgm sg k=k):∀ l:List V,V.idlt.belowL N l=true→V.ren.renL sg l=l
 | [],_=>rfl
 | v :: l,h=>by
  simp only [V.idlt.belowL,Bool.and_eq_true] at h
  rw [V.ren.renL,ren_fix hf v h.1,renL_fix hf l h.2]
end
theorem wkB_nil {n i:Nat} {sg:List Nat} {st:List Slot}:wkB n sg st i []:=trivial
theorem one_app {a b:List V} (h1:a.all V.one=true) (h2:b.all V.one=true):(a++b).all V.one=true:=by rw [List.all_append,h1,h2];rfl
theorem one_M {α:Type} {f:α→V} (h:∀ a,(f a).cells.all V.one=true) (l:List α):(cellsM f l).all V.one=true:=by
 rw [List.all_eq_true]
 intro v hv
 obtain ⟨a,_,ha⟩:=List.mem_flatMap.1 hv
 exact List.all_eq_true.1 (h a) v ha
theorem finPs_c {rs:List ARes} {fr:List V} {st st0:List Slot} {α:Type} {enc:α→V} {x y:α} {e:AExit} {T:α→List V} {i:Nat} (is:List Nat) (he:e=.normal∨e=.ret) (H:some x=some y) (hi:i < st0.length)
  (h:frzI is st fun st=>keptK st0.length st0 st i∧(∃ T0 rd,st[i]?=some (.live T0 0)∧FzL st T0 (T x) rd∧(T x).all V.one=true)∧resK fr st rs fun vs=>mkRK vs fun v=>∃ rd,FzC st v (enc x) rd):FinQ (FinR st0 rs (enc y) (st0.set i (.live (T y) 0))) e fr st:=by
 cases H
 obtain ⟨st1,hf,h1,⟨T0,rd,h2,h3,h4⟩,h⟩:=frzI_ok h
 obtain ⟨vs,h5,h6⟩:=resK_ok h
 rw [mkRK_eq] at h6
 obtain ⟨rd6,h6⟩:=h6
 have one:∀ v ∈ T x,v.one=true:=by simpa using h4
 have get:∀ (k:Nat),(st0.set i (.live (T x) 0))[k]?=if i=k then some (.live (T x) 0) else st0[k]?:=fun k=>by
  rw [List.getElem?_set]
  by_cases e:i=k
  ·rw [if_pos e,if_pos hi,if_pos e]
  ·rw [if_neg e,if_neg e]
 refine ⟨he,[],st1,vs,hf,h5,.v (.c (.fz h6)),fun i _ _=>rfl,⟨List.length_set ..,fun k cs f hk=>?_,fun k hk=>?_,fun i j _ _ _ _ _ _ h=>h⟩⟩
 ·rw [get] at hk
  by_cases e:i=k
  ·rw [if_pos e] at hk
   simp only [Option.some.injEq,Slot.live.injEq] at hk
   obtain ⟨rfl,rfl⟩:=hk
   subst e
   exact ⟨T0,h2,wcl_fz h3,.inl one⟩
  ·rw [if_neg e] at hk
   obtain ⟨g1,g2⟩:=keptK_ok h1 k _ (fun q=>e q.symm) hk
   exact ⟨cs,g1,wcl_nil g2,.inr (renL_nil _).symm⟩
 ·rw [get] at hk
  by_cases e:i=k
  ·rw [if_pos e] at hk;cases hk
  ·rw [if_neg e] at hk
   exact (keptK_ok h1 k _ (fun q=>e q.symm) hk).1
theorem fzl_app {st:List Slot} {b b' : List V} {r2:List Nat} (h2:FzL st b b' r2):∀ {a a' : List V} {r1:List Nat},FzL st a a' r1→FzL st (a++b) (a'++b') (r1++r2)
 | _,_,_,.nil=>h2
 | _,_,_,.cons hx t=>by
  have:=fzl_app h2 t
  rw [List.append_assoc]
  exact .cons hx this
theorem fzl_lit {st:List Slot}:∀ {l:List V},V.idlt.belowL 0 l=true→FzL st l l []
 | [],_=>.nil
 | v :: l,h=>by
  rw [V.idlt.belowL,Bool.and_eq_true] at h
  exact .cons (.id h.1) (fzl_lit h.2)
end
end Go.Proofs.YtpkodpcfafipdaaGreat

namespace Go.Proofs.YtpkodpcfafipdaaGreat
open Go.RowKit
section
variable {α : Type} {f : α → V} {seg : List α} {n es oo q : Nat} {x : α} {p m cs : List V}
theorem mix_get (hc:cs=p++cellsM f seg++m) (hx:seg[n]?=some x) (hes:∀ a,(f a).cells.length=es) (oo:Nat) (hp:q=p.length + (n * es + oo)) {v:V} (hv:(f x).cells[oo]?=some v):cs[q]?=some v:=by
 obtain ⟨p2,m2,h1,h2,_⟩:=cellsM_split hes hx
 have ho:=(List.getElem?_eq_some_iff.1 hv).1
 subst hc hp
 rw [h1,List.append_assoc,List.getElem?_append_right (by omega),List.getElem?_append_left (by simp;omega),List.append_assoc,List.getElem?_append_right (by omega),List.getElem?_append_left (by omega)]
 rw [← hv];congr 1;omega
theorem mix_set (hc:cs=p++cellsM f seg++m) (hx:seg[n]?=some x) (hes:∀ a,(f a).cells.length=1) (hp:q=p.length + (n * 1 + 0)) {x' : α} {v:V} (hv:(f x').cells=[v]):cs.set q v=p++cellsM f (seg.set n x')++m:=by
 obtain ⟨p2,m2,h1,h2,h3⟩:=cellsM_split hes hx
 have set1:∀ (u w:List V) (a b:V),(u++a :: w).set u.length b=u++b :: w:=fun u w a b=>by simp
 have h4:=h3 x'
 obtain ⟨a,ha⟩ : ∃ a,(f x).cells=[a]:=List.length_eq_one_iff.1 (hes x)
 subst hc hp
 rw [h4,h1,hv,ha]
 have e:=set1 (p++p2) (m2++m) a v
 have e2:(p++p2).length=p.length + (n * 1 + 0):=by rw [List.length_append];omega
 rw [e2] at e
 simpa using e
end
theorem callsS_loadM {st:List Slot} {id frz off n es:Nat} {α:Type} {f:α→V} {seg:List α} {x:α} {p m cs:List V} {a:Int} (hi:st[id]?=some (.live cs frz)) (hc:cs=p++cellsM f seg++m) (hx:seg[n]?=some x) (hes:∀ a,(f a).cells.length=es) (hp:off=p.length + (n * es + 0)) (hv:(f x).cells[0]?=some (.i a)) :
  CallsS Tryz.prog 34 [.ptr id off] st (.i a) st:=callsS_load hi (mix_get hc hx hes 0 hp hv)
theorem callsS_storeM {st st' : List Slot} {id off n:Nat} {α:Type} {f:α→V} {seg:List α} {x x' : α} {p m cs cs' : List V} {a y:Int} (hi:st[id]?=some (.live cs 0)) (hc:cs=p++cellsM f seg++m) (hx:seg[n]?=some x) (hes:∀ a,(f a).cells.length=1) (hp:off=p.length + (n * 1 + 0)) (hv:(f x).cells[0]?=some (.i a)) (hv' : (f x').cells=[.i y])
  (hk:p++cellsM f (seg.set n x')++m=cs') (hs:st'=st.set id (.live cs' 0)):CallsS Tryz.prog 43 [.ptr id off,.i y] st (.tup []) st':=by
 rw [hs,← hk,← mix_set hc hx hes hp hv']
 exact callsS_store hi (mix_get hc hx hes 0 hp hv)
theorem callsS_addM {st st' : List Slot} {id off n:Nat} {α:Type} {f:α→V} {seg:List α} {x x' : α} {p m cs cs' : List V} {a y:Int} (hi:st[id]?=some (.live cs 0)) (hc:cs=p++cellsM f seg++m) (hx:seg[n]?=some x) (hes:∀ a,(f a).cells.length=1) (hp:off=p.length + (n * 1 + 0)) (hv:(f x).cells[0]?=some (.i a)) (hv' : (f x').cells=[.i (IntKind.wrap .i64 (a + y))])
  (hk:p++cellsM f (seg.set n x')++m=cs') (hs:st'=st.set id (.live cs' 0)):CallsS Tryz.prog 44 [.ptr id off,.i y] st (.i (IntKind.wrap .i64 (a + y))) st':=by
 rw [hs,← hk,← mix_set hc hx hes hp hv']
 exact callsS_add hi (mix_get hc hx hes 0 hp hv)
theorem askOnce_c {β:Type} {r:β} {d s:Int} {st:List Slot} {id off:Nat} {p:List V} {c2 c3:V} {c3' : List ByteArray→V} {caps:List V} {M:Option (List ByteArray)} {X1:Option β} {X0:List ByteArray→Option β} {K:V→List Nat→List Nat→List Slot→Prop}
  (hi:st[id]?=some (.live (p++[.lit (.int .u32 d),.lit (.int .i32 s),c2,c3]) 0)) (hp:off=p.length) (H:(bif d != 0 then X1 else bif s == 0 then M.bind X0 else none)=some r)
  (h1:X1=some r→K (.tup []) [] ((allEff st).map Prod.fst) st)
  (hf:∀ v,M=some v→CallsS Tryz.prog 55 caps (st.set id (.live (p++[.lit (.int .u32 0),.lit (.int .i32 1),c2,c3]) 0)) (.tup []) (st.set id (.live (p++[.lit (.int .u32 0),.lit (.int .i32 1),c2,c3' v]) 0)))
  (h0:∀ v,M=some v→X0 v=some r→K (.tup []) [] ((allEff (st.set id (.live (p++[.lit (.int .u32 1),.lit (.int .i32 0),c2,c3' v]) 0))).map Prod.fst) (st.set id (.live (p++[.lit (.int .u32 1),.lit (.int .i32 0),c2,c3' v]) 0))) :
  Ask Tryz.prog 54 [.ptr id off,.clo (.func 55) caps] st K:=by
 have hlt:id < st.length:=(List.getElem?_eq_some_iff.1 hi).1
 have g0:∀ a b c d:V,(p++[a,b,c,d])[off]?=some a:=fun a b c d=>by rw [hp,List.getElem?_append_right (Nat.le_refl _),Nat.sub_self];rfl
 have g1:∀ a b c d:V,(p++[a,b,c,d])[off + 1]?=some b:=fun a b c d=>by rw [hp,List.getElem?_append_right (by omega),Nat.add_sub_cancel_left];rfl
 have s0:∀ a b c d x:V,(p++[a,b,c,d]).set off x=p++[x,b,c,d]:=fun a b c d x=>by rw [hp,List.set_append_right _ _ (Nat.le_refl _),Nat.sub_self];rfl
 have s1:∀ a b c d x:V,(p++[a,b,c,d]).set (off + 1) x=p++[a,x,c,d]:=fun a b c d x=>by rw [hp,List.set_append_right _ _ (by omega),Nat.add_sub_cancel_left];rfl
 by_cases hd:d=0
 ·subst hd
  have e1:((0:Int) != 0)=false:=rfl
  rw [e1,cond_false] at H
  by_cases hs:s=0
  ·subst hs
   rw [show ((0:Int) == 0)=true from rfl,cond_true] at H
   obtain ⟨v,hv,H⟩:=bind_c H
   have hfv:=hf v hv
   rw [← s1 (.lit (.int .u32 0)) (.lit (.int .i32 0)) c2 c3] at hfv
   have hc:=callsS_once_first (off:=off) (caps:=caps) hi (g0 _ _ _ _) (g1 _ _ _ _) hfv (List.getElem?_set_self hlt) (g0 _ _ _ _) (g1 _ _ _ _)
   rw [List.set_set,s0,s1] at hc
   exact Ask_S hc (by simp) (h0 v hv H)
  ·have e2:(s == 0)=false:=by simpa using hs
   rw [e2] at H;cases H
 ·have e1:(d != 0)=true:=by simpa using hd
  rw [e1,cond_true] at H
  exact Ask_S (callsS_once_done hd _ hi (g0 _ _ _ _)) rfl (h1 H)
end Go.Proofs.YtpkodpcfafipdaaGreat

namespace Go.Proofs.YtpkodpcfafipdaaGreat
open Go.RowKit
theorem run_eq_ptr_same {tp te:TypeId} {j:TypeInfo} (w:World) (a:Addr) (hp:Tryz.prog.underlying tp=some (.pointer te)) (hte:Tryz.prog.info? te=some j):(binOp .eql tp (.pointer (some a)) (.pointer (some a))).run Tryz.prog w=.ok (.bool true) w:=by
 have h:∀ d:Nat,(Op.equalIn (d + 1) tp (.pointer (some a)) (.pointer (some a))).run Tryz.prog w=.ok true w:=fun d=>by
  simp [Op.equalIn,run_underlying hp,sizeOf,typeInfo,hte,run_sameAddr_same]
 simp only [binOp]
 simp [Op.equal,Op.maxDepth,h 9999]
set_option maxHeartbeats 1000000 in
set_option maxRecDepth 100000 in
theorem join_same (a:Addr) (w:World):Calls Tryz.prog 21 #[.pointer (some a),.pointer (some a)] w fun e w'=>e=.returned (.bool false)∧w'=w:=by
 have mixed:Tryz.prog.follows .mixedOrders=true:=mix
 obtain ⟨j,hj⟩ : ∃ j,Tryz.prog.info? (Tryz.prog.pointee 25)=some j:=Option.isSome_iff_exists.1 (by kernel_rfl)
 go_enter Tryz.func21,Tryz.ntmps21
 go_wp2
 rw [run_eq_ptr_same w _ Tryz.underlying25 hj]
 simp only [Result.andThen]
 rw [Oper.upon_value]
 go_wp2
 go_ret
 exact ⟨rfl,rfl⟩
theorem callsS_join_same {st:List Slot} {id:Nat}:CallsS Tryz.prog 21 [.ptr id 0,.ptr id 0] st (.b false) st:=by
 intro B m0 m bk w cargs hg hsim hargs
 obtain ⟨c,d,rfl,h0,h1⟩:=arg2 hargs
 cases h0 with
 | @ptr _ _ b bsz _ hb =>
 cases h1 with
 | @ptr _ _ b2 bsz2 _ hb2 =>
  have e:b2=b:=by rw [hb] at hb2;injection hb2 with h;injection h with h1 h2;exact h1.symm
  subst e
  refine (join_same ⟨b2,0,none⟩ w).mono ?_
  rintro e w' ⟨rfl,rfl⟩
  exact ⟨_,rfl,m,bk,hsim,.lit rfl,fun _ _ h=>h,fun _ _ h=>h,Bel.refl _ _⟩
end Go.Proofs.YtpkodpcfafipdaaGreat

namespace Go.Proofs.YtpkodpcfafipdaaGreat
open Go.RowKit
inductive FzN (st:List Slot) (sg:List Nat):List V→List V→List Nat→Prop
 | nil:FzN st sg [] [] []
 | kp {v u l l' r} (h:v=u.ren sg) (t:FzN st sg l l' r):FzN st sg (v :: l) (u :: l') r
 | fz {v v' r l l' r'} (h:FzV st v v' r) (h0:v'.idlt 0=true) (t:FzN st sg l l' r'):FzN st sg (v :: l) (v' :: l') (r++r')
theorem FzN.congr {st st2:List Slot} {sg:List Nat} {l l' : List V} {r:List Nat} (h:FzN st sg l l' r):(∀ k,k ∈ r→st2[k]?=st[k]?)→FzN st2 sg l l' r:=by
 induction h with
 | nil=>exact fun _=>.nil
 | kp h _ ih=>exact fun hk=>.kp h (ih hk)
 | fz h h0 _ ih=>exact fun hk=>.fz (h.congr fun k q=>hk k (by simp [q])) h0 (ih fun k q=>hk k (by simp [q]))
theorem ren_idlt0 {sg:List Nat} {v:V} (h:v.idlt 0=true):v.ren sg=v:=by
 have:=renL_id (sg:=sg) [v] (by simp [V.idlt.belowL,h])
 simpa [V.ren.renL] using this
theorem FzN.rep {B:Kp} {m0 m:Mem} {bk:Bks} {w:World} {st:List Slot} {sg:List Nat} (hsim:Sim B m0 m bk w st) {l l' : List V} {r:List Nat} (hf:FzN st sg l l' r):∀ {cs:List Value},RepL m bk cs l→RepL m bk cs (V.ren.renL sg l'):=by
 induction hf with
 | nil=>exact fun h=>h
 | @kp v u l l' r h _ ih =>
  intro cs hr
  cases cs with
  | nil=>have:=hr.1;simp at this
  | cons c cs =>
   have g0:=hr.2 0 (by simp) (by simp)
   have ih':=@ih cs ⟨by simpa using hr.1,fun j h1 h2=>hr.2 (j + 1) (Nat.succ_lt_succ h1) (Nat.succ_lt_succ h2)⟩
   refine ⟨by simpa [V.ren.renL] using ih'.1,fun j h1 h2=>?_⟩
   cases j with
   | zero=>subst h;exact g0
   | succ j=>exact ih'.2 j (Nat.lt_of_succ_lt_succ h1) (by simpa [V.ren.renL] using h2)
 | @fz v v' r l l' r' h h0 _ ih =>
  intro cs hr
  cases cs with
  | nil=>have:=hr.1;simp at this
  | cons c cs =>
   have g0:=hr.2 0 (by simp) (by simp)
   have ih':=@ih cs ⟨by simpa using hr.1,fun j h1 h2=>hr.2 (j + 1) (Nat.succ_lt_succ h1) (Nat.succ_lt_succ h2)⟩
   refine ⟨by simpa [V.ren.renL] using ih'.1,fun j h1 h2=>?_⟩
   cases j with
   | zero =>
    have q:=(FzV.rep hsim g0 h).mono (bk':=bk) (fun _ _ h=>h) fun _ _ h=>by cases h
    show Rep m bk c (v'.ren sg)
    rw [ren_idlt0 h0];exact q
   | succ j=>exact ih'.2 j (Nat.lt_of_succ_lt_succ h1) (by simpa [V.ren.renL] using h2)
def atL (st:List Slot):List Nat→List Slot→Bool→Prop
 | [],[],_=>True
 | i :: sg,s :: l,b=>st[i]?=some s∧atL st sg l b
 | _,_,_=>False
theorem atL_ok {st:List Slot}:∀ {sg:List Nat} {l:List Slot} {b:Bool},atL st sg l b→sg.length=l.length∧∀ k (hk:k < sg.length),st[sg[k]]?=l[k]?
 | [],[],_,_=>⟨rfl,fun k hk=>absurd hk (Nat.not_lt_zero _)⟩
 | i :: sg,s :: l,b,h=>by
  obtain ⟨h1,h2⟩:=h
  obtain ⟨g1,g2⟩:=atL_ok h2
  refine ⟨by simp [g1],fun k hk=>?_⟩
  cases k with
  | zero=>simpa using h1
  | succ k=>simpa using g2 k (by simpa using hk)
 | [],_ :: _,_,h=>h.elim
 | _ :: _,[],_,h=>h.elim
def ndB:List Nat→Bool
 | []=>true
 | i :: l=>l.all (fun j=>!Nat.beq i j) && ndB l
theorem ndB_ok:∀ {l:List Nat},ndB l=true→l.Nodup
 | [],_=>.nil
 | i :: l,h=>by
  rw [ndB,Bool.and_eq_true,List.all_eq_true] at h
  refine List.nodup_cons.2 ⟨fun hi=>?_,ndB_ok h.2⟩
  have:=h.1 i hi
  simp at this
structure ClosedS (n:Nat) (st0:List Slot):Prop where
 out:∀ s ∈ st0,∀ cs f,s=.live cs f→V.idlt.belowL n cs=true
theorem callsL_among {P:Program} {f:FuncId} {args args0:List V} {v0:V} {st0 st0' st:List Slot} {rd:List Nat} (h:CallsS P f args0 st0 v0 st0') (hl:st0'.length=st0.length) (sg:List Nat) (hnd:ndB sg=true) (hst:atL st sg (st0.map (Slot.ren sg)) true)
  (ha:V.idlt.belowL st0.length args0=true) (hc:ClosedS st0.length st0) (hf:FzN st sg args args0 rd):CallsL P f args st (v0.ren sg) (sg++rd) (sg.zip (st0'.map (Slot.ren sg))):=by
 intro st2 _ hk
 obtain ⟨g1,g2⟩:=atL_ok hst
 rw [List.length_map] at g1
 have key:=callsS_among h hl sg g1 (ndB_ok hnd) (st:=st2) (fun k hk'=>by rw [hk _ (.inl (by simp [List.getElem_mem hk']))];exact g2 k hk') ha (fun k cs fz hk'=>hc.out _ (List.mem_of_getElem? hk') cs fz rfl)
 rw [updL_eff] at key
 intro B m0 m bk w cargs hg hsim hargs
 refine key B m0 m bk w cargs hg hsim ?_
 have q:=FzN.rep hsim (hf.congr fun k hk'=>hk k (.inl (by simp [hk']))) (cs:=cargs.toList) ⟨by simpa using hargs.1,fun j a b=>by simpa using hargs.2 j (by simpa using a) b⟩
 exact ⟨by simpa using q.1,fun j a b=>by have:=q.2 j (by simpa using a) b;rw [Array.getElem_toList] at this;exact this⟩
theorem fst_zip {α β:Type}:∀ (l:List α) (m:List β),m.length=l.length→(l.zip m).map Prod.fst=l
 | [],_,_=>by simp
 | a :: l,[],h=>by simp at h
 | a :: l,b :: m,h=>by simp [fst_zip l m (by simpa using h)]
def slotsK (st:List Slot):List Nat→List Slot→(List Slot→Prop)→Prop
 | i :: sg,s :: l,K=>ssetK st i s fun st'=>slotsK st' sg l K
 | _,_,K=>K st
theorem slotsK_ok:∀ {sg:List Nat} {l:List Slot} {st:List Slot} {K:List Slot→Prop},slotsK st sg l K→K (AStep.eff st (sg.zip l))
 | [],l,st,K,h=>by cases l <;> exact h
 | i :: sg,[],st,K,h=>h
 | i :: sg,s :: l,st,K,h=>by
  rw [slotsK,ssetK_eq] at h
  exact slotsK_ok (sg:=sg) (l:=l) h
theorem askA_c {β:Type} {r:β} {P:Program} {st st0:List Slot} {α:Type} {enc:α→V} {st' : α→List Slot} {m:Option α} {X:α→Option β} {f:Nat} {vs vs0:List V} {rd:List Nat} {k:V→List Nat→List Nat→List Slot→Prop} (sg:List Nat) (hc:∀ s,m=some s→CallsS P f vs0 st0 (enc s) (st' s)) (H:m.bind X=some r) (hl:∀ s,(st' s).length=st0.length) (hnd:ndB sg=true)
  (hst:atL st sg (st0.map (Slot.ren sg)) true) (ha:V.idlt.belowL st0.length vs0=true) (hcl:ClosedS st0.length st0) (hf:FzN st sg vs vs0 rd) (h:∀ s,X s=some r→slotsK st sg ((st' s).map (Slot.ren sg)) fun st2=>k ((enc s).ren sg) (sg++rd) sg st2):Ask P f vs st k:=by
 obtain ⟨s,hs,H⟩:=bind_c H
 have hk:=slotsK_ok (h s H)
 refine Ask_L (callsL_among (hc s hs) (hl s) sg hnd hst ha hcl hf) ?_
 rwa [fst_zip _ _ (by rw [List.length_map,hl s];have:=(atL_ok hst).1;rw [List.length_map] at this;exact this.symm)]
theorem closed_cons {n:Nat} {cs:List V} {f:Nat} {st:List Slot} (h:V.idlt.belowL n cs=true) (t:ClosedS n st):ClosedS n (.live cs f :: st):=⟨fun s hs c g e=>by
 rcases List.mem_cons.1 hs with rfl | hs
 ·injection e with e1 e2;rw [← e1];exact h
 ·exact t.out s hs c g e⟩
theorem closed_nil {n:Nat}:ClosedS n []:=⟨fun s hs=>by cases hs⟩
theorem closed_fresh {n:Nat} {st:List Slot} (t:ClosedS n st):ClosedS n (.fresh :: st):=⟨fun s hs c g e=>by
 rcases List.mem_cons.1 hs with rfl | hs
 ·cases e
 ·exact t.out s hs c g e⟩
theorem ren0 {sg:List Nat}:∀ {l:List Slot},ClosedS 0 l→l.map (Slot.ren sg)=l
 | [],_=>rfl
 | s :: l,h=>by
  rw [List.map_cons,ren0 ⟨fun t ht=>h.out t (List.mem_cons_of_mem _ ht)⟩]
  cases s with
  | live cs f=>show Slot.live (V.ren.renL sg cs) f :: l=_;rw [renL_id _ (h.out _ List.mem_cons_self cs f rfl)]
  | fresh=>rfl
  | dead=>rfl
theorem closed_up {n:Nat} {l:List Slot} (h:ClosedS 0 l):ClosedS n l:=⟨fun s hs cs f e=>idltL_up _ (h.out s hs cs f e)⟩
theorem askCo_c {β:Type} {r:β} {P:Program} {st st0:List Slot} {α:Type} {enc:α→V} {st' : α→List Slot} {m:Option α} {X:α→Option β} {f:Nat} {vs vs0:List V} {rd:List Nat} {k:V→List Nat→List Nat→List Slot→Prop} (sg:List Nat) (hc:∀ s,m=some s→CallsS P f vs0 st0 (enc s) (st' s)) (H:m.bind X=some r) (hl:∀ s,(st' s).length=st0.length) (hnd:ndB sg=true)
  (hst:atL st sg st0 true) (ha:V.idlt.belowL st0.length vs0=true) (h0:ClosedS 0 st0) (hT:∀ s,ClosedS 0 (st' s)) (hE:∀ s,(enc s).idlt 0=true) (hf:FzN st sg vs vs0 rd) (h:∀ s,X s=some r→slotsK st sg (st' s) fun st2=>k (enc s) (sg++rd) sg st2):Ask P f vs st k :=
 askA_c sg hc H hl hnd (by rw [ren0 h0];exact hst) ha (closed_up h0) hf fun s hs=>by
  rw [ren0 (hT s),ren_idlt0 (hE s)];exact h s hs
theorem askN_c {β:Type} {r:β} {P:Program} {st:List Slot} {α:Type} {T:α→List V} {m:Option α} {X:α→Option β} {f:Nat} {vs vs0:List V} {rd:List Nat} {k:V→List Nat→List Nat→List Slot→Prop} (i j:Nat) (hc:∀ s,m=some s→CallsS P f vs0 [.fresh,.fresh] (.ptr 0 0) [.live (T s) 0,.fresh]) (H:m.bind X=some r) (hij:ndB [i,j]=true) (hi:st[i]?=some .fresh) (hj:st[j]?=some .fresh)
  (ha:V.idlt.belowL 2 vs0=true) (hT:∀ s,V.idlt.belowL 0 (T s)=true) (hf:FzN st [i,j] vs vs0 rd) (h:∀ s,X s=some r→ssetK st i (.live (T s) 0) fun st1=>ssetK st1 j .fresh fun st2=>k (.ptr i 0) ([i,j]++rd) [i,j] st2):Ask P f vs st k :=
 askA_c (enc:=fun _=>.ptr 0 0) (st':=fun s=>[.live (T s) 0,.fresh]) [i,j] hc H (fun _=>rfl) hij ⟨hi,hj,trivial⟩ ha (closed_fresh (closed_fresh closed_nil)) hf fun s hs=>by
  rw [ren0 (closed_cons (hT s) (closed_fresh closed_nil))]
  exact h s hs
theorem finNw_c {rs:List ARes} {fr:List V} {st:List Slot} {α:Type} {x y:α} {e:AExit} {T:α→List V} (is:List Nat) (id:Nat) (he:e=.normal∨e=.ret) (H:some x=some y)
  (h:frzI is st fun st=>(∃ T0 rd,st[id]?=some (.live T0 0)∧FzL st T0 (T x) rd∧(T x).all V.one=true)∧st[1]?=some .fresh∧resK fr st rs fun vs=>mkRK vs fun v=>v=.ptr id 0):FinQ (FinR [.fresh,.fresh] rs (.ptr 0 0) [.live (T y) 0,.fresh]) e fr st:=by
 cases H
 obtain ⟨st1,hf,⟨T0,rd,h2,h3,h4⟩,hfr,h⟩:=frzI_ok h
 obtain ⟨vs,h5,h6⟩:=resK_ok h
 rw [mkRK_eq] at h6
 have one:∀ v ∈ T x,v.one=true:=by simpa using h4
 refine ⟨he,[id,1],st1,vs,hf,h5,.v (.c (.ren (by rw [h6];rfl) rfl)),fun i hi hn=>?_,⟨rfl,fun k cs f hk=>?_,fun k hk=>?_,fun i j _ _ _ _ h1 h2 _=>?_⟩⟩
 ·exfalso;apply hn
  rcases i with _ | _ | i
  ·rfl
  ·rfl
  ·simp at hi;omega
 ·rcases k with _ | _ | k
  ·simp only [List.getElem?_cons_zero,Option.some.injEq,Slot.live.injEq] at hk
   obtain ⟨rfl,rfl⟩:=hk
   exact ⟨T0,h2,wcl_fz h3,.inl one⟩
  ·simp at hk
  ·simp at hk
 ·rcases k with _ | _ | k
  ·simp at hk
  ·exact hfr
  ·simp at hk
 ·rcases i with _ | _ | i
  ·rcases j with _ | _ | j
   ·rfl
   ·simp at h2
   ·simp at h2
  ·simp at h1
  ·simp at h1
end Go.Proofs.YtpkodpcfafipdaaGreat

namespace Go.Proofs.YtpkodpcfafipdaaGreat
open Go.RowKit
end Go.Proofs.YtpkodpcfafipdaaGreat

namespace Go.Proofs.YtpkodpcfafipdaaGreat
open Go.RowKit
def p_tally_New:Option (TallyTally) :=
 some (TallyTally.mk (List.replicate 12 (SyncatomicInt64.mk (SyncatomicNoCopy.mk ) (SyncatomicNoCopy.mk ) (0:Int))) (SyncOnce.mk (SyncatomicNoCopy.mk ) (SyncatomicBool.mk (SyncatomicNoCopy.mk ) (0:Int)) (SyncMutex.mk (SyncatomicNoCopy.mk ) (InternalsyncMutex.mk (0:Int) (0:Int)))) [])
def p_tally_Tally_more (a0:TallyTally) (a1:Int) (a2:Int):Option (TallyTally) :=
 (arr? 12 a0.counts a1).bind fun x1 =>
 bif (decide (w64 ((4611686018427387904:Int) - x1.v_) < a2)) then
  some (TallyTally.mk (List.set a0.counts (Int.toNat a1) (SyncatomicInt64.mk (SyncatomicNoCopy.mk ) (SyncatomicNoCopy.mk ) (4611686018427387904:Int))) a0.once a0.names)
 else
 some (TallyTally.mk (List.set a0.counts (Int.toNat a1) (SyncatomicInt64.mk (SyncatomicNoCopy.mk ) (SyncatomicNoCopy.mk ) (w64 (x1.v_ + a2)))) a0.once a0.names)
def p_frame_Size (a0:ByteArray):Option (Int) :=
 bif (a0.toList == (⟨#[]⟩ : ByteArray).toList) then
  some (0:Int)
 else
 bif (decide ((128:Int) < (a0.size:Int))) then
  some (0:Int)
 else
 some (w64 ((2:Int) + (a0.size:Int)))
def p_tally_kind (a0:Int):Option (Int) :=
 bif (a0 == (32:Int)) then
  some (4:Int)
 else
 bif (a0 == (33:Int)) then
  some (5:Int)
 else
 bif (a0 == (34:Int)) then
  some (6:Int)
 else
 bif (a0 == (35:Int)) then
  some (7:Int)
 else
 bif (a0 == (36:Int)) then
  some (8:Int)
 else
 bif (a0 == (38:Int)) then
  some (9:Int)
 else
 bif (a0 == (39:Int)) then
  some (9:Int)
 else
 bif (a0 == (40:Int)) then
  some (10:Int)
 else
 some (-1:Int)
def p_tally_Tally_Note_l1 (z26:List Ref33Said) (z27:Int):Nat→Int→TallyTally→Option ((Int × TallyTally))
 | 0,_,_=>none
 | n + 1,y28,y29 =>
  bif (decide (y28 < z27)) then
   (at? z26 y28).bind fun x31 =>
   (p_stanza_Put x31.S).bind fun v32 =>
   (p_frame_Size v32.1).bind fun v33 =>
   (p_tally_Tally_more y29 (3:Int) v33).bind fun v34 =>
   (p_tally_kind x31.S.Kind).bind fun v35 =>
   bif (v35 != (-1:Int)) then
    (p_tally_Tally_more v34 v35 (1:Int)).bind fun v37 =>
    p_tally_Tally_Note_l1 z26 z27 n (w64 (y28 + (1:Int))) v37
   else
   p_tally_Tally_Note_l1 z26 z27 n (w64 (y28 + (1:Int))) v34
  else
  some (y28,y29)
def p_tally_Tally_Note (a0:TallyTally) (a1:Ref33Result):Option (TallyTally) :=
 (p_tally_Tally_more a0 (0:Int) (1:Int)).bind fun v1 =>
 bif (a1.E != (0:Int)) then
  (p_tally_Tally_more v1 (1:Int) (1:Int)).bind fun v3 =>
  (p_tally_Tally_more v3 (2:Int) (a1.Said.length:Int)).bind fun v4 =>
  (p_tally_Tally_more v4 (11:Int) (a1.Shut.length:Int)).bind fun v5 =>
  (p_tally_Tally_Note_l1 a1.Said (a1.Said.length:Int) fuel (0:Int) v5).bind fun q23 =>
  some q23.2
 else
 (p_tally_Tally_more v1 (2:Int) (a1.Said.length:Int)).bind fun v24 =>
 (p_tally_Tally_more v24 (11:Int) (a1.Shut.length:Int)).bind fun v25 =>
 (p_tally_Tally_Note_l1 a1.Said (a1.Said.length:Int) fuel (0:Int) v25).bind fun q39 =>
 some q39.2
def p_tally_Names:Option ((List ByteArray)) :=
 some [(⟨#[115,116,101,112,115]⟩ : ByteArray),(⟨#[119,114,111,110,103]⟩ : ByteArray),(⟨#[115,97,105,100]⟩ : ByteArray),(⟨#[98,121,116,101,115]⟩ : ByteArray),(⟨#[103,114,97,110,116,101,100]⟩ : ByteArray),(⟨#[114,101,102,117,115,101,100]⟩ : ByteArray),(⟨#[115,101,101,110]⟩ : ByteArray),(⟨#[103,111,110,101]⟩ : ByteArray),(⟨#[115,110,97,112,115]⟩ : ByteArray),(⟨#[114,111,115,116,101,114,115]⟩ : ByteArray),(⟨#[110,111,116,101,115]⟩ : ByteArray),(⟨#[115,104,117,116]⟩ : ByteArray)]
def p_tally_Tally_place_1 (a0:TallyTally):Option (TallyTally) :=
 (p_tally_Names).bind fun v1 =>
 (lenG? 12 a0.counts).bind fun _ =>
 some (TallyTally.mk a0.counts a0.once v1)
def p_slices_Index_string_l1 (z6:List ByteArray) (z7:ByteArray) (z8:Int):Nat→Int→Option (Int ⊕ Int)
 | 0,_=>none
 | n + 1,y9 =>
  bif (decide (y9 < z8)) then
   (at? z6 y9).bind fun x11 =>
   bif (z7.toList == x11.toList) then
    some (.inl y9)
   else
   p_slices_Index_string_l1 z6 z7 z8 n (w64 (y9 + (1:Int)))
  else
  some (.inr y9)
def p_slices_Index_string (a0:List ByteArray) (a1:ByteArray):Option (Int) :=
 (p_slices_Index_string_l1 a0 a1 (a0.length:Int) fuel (0:Int)).bind fun o13=>match o13 with
 | .inl q14 =>
  some q14
 | .inr q15 =>
  some (-1:Int)
def p_tally_Tally_place (a0:TallyTally) (a1:ByteArray):Option (TallyTally × Int) :=
 (lenG? 12 a0.counts).bind fun _ =>
 bif (a0.once.done.v_ != 0) then
  (p_slices_Index_string a0.names a1).bind fun v3 =>
  some (a0,v3)
 else
 bif (a0.once.m.mu.state == 0) then
  (p_tally_Names).bind fun v2 =>
  (p_slices_Index_string v2 a1).bind fun v4 =>
  some ((TallyTally.mk a0.counts (SyncOnce.mk (SyncatomicNoCopy.mk ) (SyncatomicBool.mk (SyncatomicNoCopy.mk ) (1:Int)) (SyncMutex.mk (SyncatomicNoCopy.mk ) (InternalsyncMutex.mk (0:Int) a0.once.m.mu.sema))) v2),v4)
 else
 none
def p_tally_Tally_Add (a0:TallyTally) (a1:ByteArray) (a2:Int):Option (TallyTally × Bool) :=
 bif (decide (a2 < (0:Int))) then
  some (a0,false)
 else
 (p_tally_Tally_place a0 a1).bind fun v2 =>
 bif (v2.2 == (-1:Int)) then
  some (v2.1,false)
 else
 (p_tally_Tally_more v2.1 v2.2 a2).bind fun v4 =>
 some (v4,true)
def p_tally_Tally_Get (a0:TallyTally) (a1:ByteArray):Option (TallyTally × Int) :=
 (p_tally_Tally_place a0 a1).bind fun v1 =>
 bif (v1.2 == (-1:Int)) then
  some (v1.1,(0:Int))
 else
 (arr? 12 v1.1.counts v1.2).bind fun x3 =>
 some (v1.1,x3.v_)
def p_tally_Tally_List_l1 (z9:List ByteArray) (z10:Int) (z12:TallyTally):Nat→(List TallyCount)→Int→Option (((List TallyCount) × Int))
 | 0,_,_=>none
 | n + 1,y8,y11 =>
  bif (decide (y11 < z10)) then
   (at? z9 y11).bind fun x14 =>
   (arr? 12 z12.counts y11).bind fun x15 =>
   (app? y8 [(TallyCount.mk x14 x15.v_)]).bind fun l17 =>
   p_tally_Tally_List_l1 z9 z10 z12 n l17 (w64 (y11 + (1:Int)))
  else
  some (y8,y11)
def p_tally_Tally_List (a0:TallyTally):Option (TallyTally × (List TallyCount)) :=
 (p_tally_Names).bind fun v1 =>
 (p_tally_Tally_List_l1 v1 (v1.length:Int) a0 fuel [] (0:Int)).bind fun q19 =>
 some (a0,q19.1)
def p_law36_awake:Option (Bool) :=
 (p_tally_New).bind fun y1 =>
 (p_tally_Tally_Note y1 (Ref33Result.mk (6:Int) [] [(4:Int)])).bind fun v2 =>
 (p_tally_Tally_Note v2 (Ref33Result.mk (0:Int) [(Ref33Said.mk (0:Int) (StanzaStanza.mk (32:Int) (⟨#[]⟩ : ByteArray) (⟨#[]⟩ : ByteArray) (⟨#[]⟩ : ByteArray) (0:Int) (0:Int) (0:Int) (0:Int))),(Ref33Said.mk (0:Int) (StanzaStanza.mk (37:Int) (⟨#[]⟩ : ByteArray) (⟨#[]⟩ : ByteArray) (⟨#[]⟩ : ByteArray) (0:Int) (0:Int) (0:Int) (0:Int))),(Ref33Said.mk (0:Int) (StanzaStanza.mk (39:Int) (⟨#[97,64,98]⟩ : ByteArray) (⟨#[]⟩ : ByteArray) (⟨#[]⟩ : ByteArray) (0:Int) (0:Int) (0:Int) (0:Int)))] [])).bind fun v3 =>
 (p_tally_Tally_Add v3 (⟨#[115,101,101,110]⟩ : ByteArray) (5:Int)).bind fun v4 =>
 (p_tally_Tally_Add v4.1 (⟨#[110,111,110,101]⟩ : ByteArray) (5:Int)).bind fun v5 =>
 (p_tally_Names).bind fun v6 =>
 (p_tally_Tally_Get v5.1 (⟨#[115,116,101,112,115]⟩ : ByteArray)).bind fun v7 =>
 bif (v7.2 == (2:Int)) then
  (p_tally_Tally_Get v7.1 (⟨#[119,114,111,110,103]⟩ : ByteArray)).bind fun v9 =>
  bif (v9.2 == (1:Int)) then
   (p_tally_Tally_Get v9.1 (⟨#[115,104,117,116]⟩ : ByteArray)).bind fun v11 =>
   bif (v11.2 == (1:Int)) then
    (p_tally_Tally_Get v11.1 (⟨#[115,97,105,100]⟩ : ByteArray)).bind fun v13 =>
    bif (v13.2 == (3:Int)) then
     (p_tally_Tally_Get v13.1 (⟨#[103,114,97,110,116,101,100]⟩ : ByteArray)).bind fun v15 =>
     bif (v15.2 == (1:Int)) then
      (p_tally_Tally_Get v15.1 (⟨#[114,111,115,116,101,114,115]⟩ : ByteArray)).bind fun v17 =>
      bif (v17.2 == (1:Int)) then
       (p_tally_Tally_Get v17.1 (⟨#[98,121,116,101,115]⟩ : ByteArray)).bind fun v19 =>
       bif (v19.2 == (26:Int)) then
        bif v4.2 then
         bif v5.2 then
          some false
         else
         (p_tally_Tally_Get v19.1 (⟨#[115,101,101,110]⟩ : ByteArray)).bind fun v23 =>
         bif (v23.2 == (5:Int)) then
          bif ((v6.length:Int) == (12:Int)) then
           (at? v6 (11:Int)).bind fun x26 =>
           bif (x26.toList == (⟨#[115,104,117,116]⟩ : ByteArray).toList) then
            (p_tally_Tally_List v23.1).bind fun v28 =>
            bif ((v28.2.length:Int) == (12:Int)) then
             some (!false)
            else
            some false
           else
           some false
          else
          some false
         else
         some false
        else
        some false
       else
       some false
      else
      some false
     else
     some false
    else
    some false
   else
   some false
  else
  some false
 else
 some false
def p_ref10_Light (a0:StanzaStanza):Option (Bool) :=
 bif (decide ((a0.User.size:Int)≤(100:Int))) then
  bif (decide ((a0.Res.size:Int)≤(100:Int))) then
   some (decide ((a0.Name.size:Int)≤(100:Int)))
  else
  some false
 else
 some false
def p_deframe_Encode_l1 (z8:List StanzaStanza) (z9:Int):Nat→(List ByteArray)→Int→Option ((ByteArray × Int) ⊕ ((List ByteArray) × Int))
 | 0,_,_=>none
 | n + 1,y7,y10 =>
  bif (decide (y10 < z9)) then
   (at? z8 y10).bind fun x12 =>
   (p_stanza_Put x12).bind fun v13 =>
   bif (v13.2 != (0:Int)) then
    some (.inl ((⟨#[]⟩ : ByteArray),v13.2))
   else
   (app? y7 [v13.1]).bind fun l15 =>
   p_deframe_Encode_l1 z8 z9 n l15 (w64 (y10 + (1:Int)))
  else
  some (.inr (y7,y10))
def p_deframe_Encode (a0:List StanzaStanza):Option (ByteArray × Int) :=
 (p_deframe_Encode_l1 a0 (a0.length:Int) fuel [] (0:Int)).bind fun o16=>match o16 with
 | .inl q17 =>
  some q17
 | .inr q18 =>
  (p_frame_Join q18.1).bind fun v19 =>
  some (v19.1,v19.2)
def p_law36_TallyBytes_l1 (z10:List StanzaStanza):Nat→(List StanzaStanza)→Int→Ref33Result→Option (Bool ⊕ ((List StanzaStanza) × Int × Ref33Result))
 | 0,_,_,_=>none
 | n + 1,y11,y12,y14 =>
  bif (decide (y12 < (z10.length:Int))) then
   (at? z10 y12).bind fun x16 =>
   (p_ref10_Light x16).bind fun v17 =>
   bif v17 then
    (at? z10 y12).bind fun x19 =>
    (app? y14.Said [(Ref33Said.mk y12 x19)]).bind fun l20 =>
    (at? z10 y12).bind fun x21 =>
    (p_stanza_Check x21).bind fun v22 =>
    bif (v22 == (0:Int)) then
     (at? z10 y12).bind fun x24 =>
     (app? y11 [x24]).bind fun l25 =>
     p_law36_TallyBytes_l1 z10 n l25 (w64 (y12 + (1:Int))) (Ref33Result.mk y14.E l20 y14.Shut)
    else
    p_law36_TallyBytes_l1 z10 n y11 (w64 (y12 + (1:Int))) (Ref33Result.mk y14.E l20 y14.Shut)
   else
   (p_law36_awake).bind fun v26 =>
   some (.inl v26)
  else
  some (.inr (y11,y12,y14))
def p_law36_TallyBytes (a0:List StanzaStanza):Option (Bool) :=
 bif (decide ((20:Int) < (a0.length:Int))) then
  (p_law36_awake).bind fun v2 =>
  some v2
 else
 (p_tally_New).bind fun y3 =>
 (p_law36_TallyBytes_l1 a0 fuel [] (0:Int) (Ref33Result.mk (0:Int) [] [])).bind fun o27=>match o27 with
 | .inl q28 =>
  some q28
 | .inr q29 =>
  (p_tally_Tally_Note y3 q29.2.2).bind fun v30 =>
  (p_deframe_Encode q29.1).bind fun v31 =>
  bif (v31.2 == (0:Int)) then
   (p_tally_Tally_Get v30 (⟨#[98,121,116,101,115]⟩ : ByteArray)).bind fun v33 =>
   bif (v33.2 == (v31.1.size:Int)) then
    (p_tally_Tally_Get v33.1 (⟨#[115,97,105,100]⟩ : ByteArray)).bind fun v35 =>
    bif (v35.2 == (a0.length:Int)) then
     (p_tally_Tally_Get v35.1 (⟨#[115,116,101,112,115]⟩ : ByteArray)).bind fun v37 =>
     bif (v37.2 == (1:Int)) then
      (p_tally_Tally_Get v37.1 (⟨#[119,114,111,110,103]⟩ : ByteArray)).bind fun v39 =>
      bif (v39.2 == (0:Int)) then
       (p_law36_awake).bind fun v41 =>
       some v41
      else
      some false
     else
     some false
    else
    some false
   else
   some false
  else
  some false
end Go.Proofs.YtpkodpcfafipdaaGreat

namespace Go.Proofs.YtpkodpcfafipdaaGreat
open Go.RowKit
set_option maxRecDepth 100000 in
theorem aw36:p_law36_awake=some true:=by kernel_rfl
end Go.Proofs.YtpkodpcfafipdaaGreat

namespace Go.Proofs.YtpkodpcfafipdaaGreat
open Go.RowKit
theorem at_nat {α:Type} (l:List α) (k:Nat):at? l (k:Int)=l[k]?:=by
 unfold at?;rw [if_pos (Int.natCast_nonneg k)];rfl
theorem at_lt {α:Type} {l:List α} {k:Nat} (h:k < l.length):at? l (k:Int)=some l[k]:=by rw [at_nat,List.getElem?_eq_getElem h]
theorem w64_id {r:Int} (h:-9223372036854775808≤r∧r≤9223372036854775807):w64 r=r:=wrap_ok h
theorem w64_succ {k:Nat} (h:k≤1000000):w64 ((k:Int) + 1)=((k + 1:Nat):Int):=by rw [w64_id (by omega)];rfl
theorem lt_tt {a b:Nat} (h:a < b):decide ((a:Int) < (b:Int))=true:=by simpa using h
theorem lt_ff {a b:Nat} (h:b≤a):decide ((a:Int) < (b:Int))=false:=by simpa using h
theorem drop_at {α:Type} {l:List α} {k:Nat} (h:k < l.length):l.drop k=l[k] :: l.drop (k + 1):=List.drop_eq_getElem_cons h
theorem fuel_pos:(1000000:Nat) < fuel:=by decide
theorem fdivN (m p:Nat):(m:Int).fdiv (2 ^ p)=((m / 2 ^ p:Nat):Int):=by
 rw [show ((2:Int) ^ p)=((2 ^ p:Nat):Int) by simp,Int.fdiv_eq_ediv_of_nonneg _ (Int.natCast_nonneg _)];rfl
theorem app_ok {α:Type} {a b:List α} (h:a.length + b.length≤1000000):app? a b=some (a++b):=if_pos h
theorem byte_at {s:ByteArray} {k:Nat} (h:k < s.size):byte? s (k:Int)=some (s[k].toNat:Int):=by
 unfold byte?
 rw [dif_pos ⟨Int.natCast_nonneg k,h⟩];rfl
theorem tl_data (s:ByteArray):s.toList=s.data.toList:=by rw [ByteArray.toList_eq]
def eqT (a b:ByteArray):Bool:=a.toList == b.toList
theorem eqT_iff {a b:ByteArray}:(a.toList == b.toList)=true ↔ a=b:=by
 rw [beq_iff_eq,tl_data,tl_data]
 exact ⟨fun h=>by cases a;cases b;congr 1;exact Array.ext' h,fun h=>by rw [h]⟩
end Go.Proofs.YtpkodpcfafipdaaGreat

namespace Go.Proofs.YtpkodpcfafipdaaGreat
open Go.RowKit
theorem arrT {α:Type} {l:List α} {n k:Nat} {d:α} (hl:l.length=n) (h:k < n):arr? n l (k:Int)=some (l.getD k d):=by
 unfold arr?
 rw [if_pos hl,at_lt (by omega)]
 rw [List.getD_eq_getElem?_getD,List.getElem?_eq_getElem (by omega)];rfl
def cntT (T:TallyTally) (i:Nat):Int:=(T.counts.getD i ⟨⟨⟩,⟨⟩,0⟩).v_
def addT (T:TallyTally) (i:Nat) (n:Int):TallyTally:=⟨T.counts.set i ⟨⟨⟩,⟨⟩,cntT T i + n⟩,T.once,T.names⟩
theorem cnt_add {T:TallyTally} {i j:Nat} {n:Int} (hl:T.counts.length=12) (hi:i < 12):cntT (addT T i n) j=cntT T j + (if j=i then n else 0):=by
 unfold cntT addT
 by_cases h:j=i
 ·subst h
  rw [if_pos rfl]
  show ((T.counts.set j _).getD j _).v_=_
  rw [List.getD_eq_getElem?_getD,List.getElem?_set_self (by omega)];rfl
 ·rw [if_neg h,Int.add_zero]
  show ((T.counts.set i _).getD j _).v_=_
  rw [List.getD_eq_getElem?_getD,List.getElem?_set_ne (Ne.symm h),← List.getD_eq_getElem?_getD]
theorem more_p {T:TallyTally} {i:Nat} {n:Int} (hl:T.counts.length=12) (hi:i < 12) (hc:0≤cntT T i∧cntT T i≤1000000000000) (hn:0≤n∧n≤1000000000000):p_tally_Tally_more T (i:Int) n=some (addT T i n):=by
 have a:arr? 12 T.counts (i:Int)=some (T.counts.getD i ⟨⟨⟩,⟨⟩,0⟩):=arrT hl hi
 have e:(T.counts.getD i ⟨⟨⟩,⟨⟩,0⟩).v_=cntT T i:=rfl
 unfold p_tally_Tally_more
 rw [a]
 simp only [Option.bind_some,e]
 rw [w64_id (by omega),decide_eq_false (by omega),cond_false,w64_id (by omega),Int.toNat_natCast]
 rfl
def namesL:List ByteArray:=p_tally_Names.getD []
def PT (T:TallyTally):Prop:=(T.once.done.v_≠0∧T.names=namesL)∨(T.once.done.v_=0∧T.once.m.mu.state=0)
theorem place_p {T:TallyTally} (hl:T.counts.length=12) (h:PT T) (nm:ByteArray) {i:Int} (hi:p_slices_Index_string namesL nm=some i):∃ T',p_tally_Tally_place T nm=some (T',i)∧T'.counts=T.counts∧PT T':=by
 have g:lenG? 12 T.counts=some ():=by unfold lenG?;rw [if_pos hl.symm]
 unfold p_tally_Tally_place
 rw [g]
 rcases h with ⟨h1,h2⟩ | ⟨h1,h2⟩
 ·have e:(T.once.done.v_ != 0)=true:=by simpa using h1
  rw [Option.bind_some,e,cond_true,h2,hi]
  exact ⟨T,rfl,rfl,.inl ⟨h1,h2⟩⟩
 ·have e:(T.once.done.v_ != 0)=false:=by simpa using h1
  have e2:(T.once.m.mu.state == 0)=true:=by simpa using h2
  have e3:p_tally_Names=some namesL:=rfl
  rw [Option.bind_some,e,cond_false,e2,cond_true,e3,Option.bind_some,hi]
  exact ⟨_,rfl,rfl,.inl ⟨(fun h=>by cases h),rfl⟩⟩
theorem get_p {T:TallyTally} (hl:T.counts.length=12) (h:PT T) (nm:ByteArray) {i:Nat} (h12:i < 12) (hi:p_slices_Index_string namesL nm=some (i:Int)):∃ T',p_tally_Tally_Get T nm=some (T',cntT T i)∧T'.counts=T.counts∧PT T':=by
 obtain ⟨T',p1,p2,p3⟩:=place_p hl h nm hi
 have a:arr? 12 T'.counts (i:Int)=some (T.counts.getD i ⟨⟨⟩,⟨⟩,0⟩):=by rw [p2];exact arrT hl h12
 refine ⟨T',?_,p2,p3⟩
 unfold p_tally_Tally_Get
 rw [p1]
 simp only [Option.bind_some]
 have e:((i:Int) == (-1:Int))=false:=beq_eq_false_iff_ne.2 (by omega)
 rw [e,cond_false,a];rfl
theorem kind_p (k:Int):p_tally_kind k=some (-1)∨∃ i:Nat,4≤i∧i≤10∧p_tally_kind k=some (i:Int):=by
 unfold p_tally_kind
 cases (k == (32:Int)) with
 | true=>exact .inr ⟨4,by omega,by omega,rfl⟩
 | false =>
 cases (k == (33:Int)) with
 | true=>exact .inr ⟨5,by omega,by omega,rfl⟩
 | false =>
 cases (k == (34:Int)) with
 | true=>exact .inr ⟨6,by omega,by omega,rfl⟩
 | false =>
 cases (k == (35:Int)) with
 | true=>exact .inr ⟨7,by omega,by omega,rfl⟩
 | false =>
 cases (k == (36:Int)) with
 | true=>exact .inr ⟨8,by omega,by omega,rfl⟩
 | false =>
 cases (k == (38:Int)) with
 | true=>exact .inr ⟨9,by omega,by omega,rfl⟩
 | false =>
 cases (k == (39:Int)) with
 | true=>exact .inr ⟨9,by omega,by omega,rfl⟩
 | false =>
 cases (k == (40:Int)) with
 | true=>exact .inr ⟨10,by omega,by omega,rfl⟩
 | false=>exact .inl rfl
def fszT (b:ByteArray):Int:=if b.size=0 then 0 else if 128 < b.size then 0 else 2 + b.size
theorem fsz_p (b:ByteArray):p_frame_Size b=some (fszT b)∧0≤fszT b∧fszT b≤130:=by
 unfold p_frame_Size fszT
 by_cases h:b.size=0
 ·have e:(b.toList == (⟨#[]⟩ : ByteArray).toList)=true:=by
   rw [eqT_iff];cases b with | mk d=>cases d with | mk l=>cases l with
    | nil=>rfl
    | cons x t=>exact absurd h (by show (t.length + 1)≠0;omega)
  rw [e,if_pos h];exact ⟨rfl,by omega,by omega⟩
 ·have e:(b.toList == (⟨#[]⟩ : ByteArray).toList)=false:=by
   rw [← Bool.not_eq_true,eqT_iff];intro g;exact h (by rw [g];rfl)
  rw [e,if_neg h]
  by_cases h2:128 < b.size
  ·rw [decide_eq_true (by omega),if_pos h2];exact ⟨rfl,by omega,by omega⟩
  ·rw [decide_eq_false (by omega),if_neg h2,cond_false,cond_false,w64_id (by omega)];exact ⟨rfl,by omega,by omega⟩
end Go.Proofs.YtpkodpcfafipdaaGreat

namespace Go.Proofs.YtpkodpcfafipdaaGreat
open Go.RowKit
def putT (s:StanzaStanza):Int:=match p_stanza_Put s with | some v=>fszT v.1 | none=>0
def sumT (l:List Ref33Said):Int:=(l.map fun x=>putT x.S).foldr (· + ·) 0
structure CntOK (T:TallyTally) (M:Int):Prop where
 len:T.counts.length=12
 bd:∀ i,i < 12→0≤cntT T i∧cntT T i≤M
theorem cnt_step {T:TallyTally} {M n N:Int} {i:Nat} (h:CntOK T M) (hi:i < 12) (hM:M≤1000000000) (hn:0≤n∧n≤1000000000) (hN:M + n≤N):p_tally_Tally_more T (i:Int) n=some (addT T i n)∧CntOK (addT T i n) N:=by
 have b:=h.bd i hi
 refine ⟨more_p h.len hi (by omega) (by omega),by show (List.set _ _ _).length=12;rw [List.length_set];exact h.len,fun j hj=>?_⟩
 have bj:=h.bd j hj
 rw [cnt_add h.len hi]
 split <;> omega
theorem note_l (l : List Ref33Said) (hf : ∀ x ∈ l, stzFits x.S) : ∀ (n k F : Nat) (T : TallyTally) (M : Int), k + n = l.length → n < F → k + n ≤ 1000 → CntOK T M → M + 131 * n ≤ 1000000000 → ∃ T', p_tally_Tally_Note_l1 l (l.length : Int) F (k : Int) T = some ((l.length : Int), T') ∧ CntOK T' (M + 131 * n) ∧ T'.once = T.once ∧ T'.names = T.names ∧
      cntT T' 3 = cntT T 3 + sumT (l.drop k) ∧ ∀ i, i < 3 ∨ i = 11 → cntT T' i = cntT T i
  | 0, k, F + 1, T, M, hk, hF, hl, hc, hM => by
    rw [p_tally_Tally_Note_l1, lt_ff (by omega), show k = l.length by omega, List.drop_length]
    exact ⟨T, rfl, by simpa using hc, rfl, rfl, by simp [sumT], fun i _ => rfl⟩
  | n + 1, k, F + 1, T, M, hk, hF, hl, hc, hM => by
    have hlt : k < l.length := by omega
    have hs := hf _ (List.getElem_mem hlt)
    obtain ⟨v, hv⟩ : ∃ v, p_stanza_Put l[k].S = some v := by unfold p_stanza_Put; rw [if_pos hs]; exact ⟨_, rfl⟩
    obtain ⟨z1, z2, z3⟩ := fsz_p v.1
    have hput : putT l[k].S = fszT v.1 := by unfold putT; rw [hv]
    obtain ⟨m1, c1⟩ := cnt_step (i := 3) (N := M + 130) hc (by omega) (by omega) ⟨z2, by omega⟩ (by omega)
    have m1' : p_tally_Tally_more T (3 : Int) (fszT v.1) = _ := m1
    have hd : sumT (l.drop k) = fszT v.1 + sumT (l.drop (k + 1)) := by rw [drop_at hlt]; unfold sumT; rw [List.map_cons, List.foldr_cons, hput]
    have e3 : ∀ i, cntT (addT T 3 (fszT v.1)) i = cntT T i + (if i = 3 then fszT v.1 else 0) := fun i => cnt_add hc.len (by omega)
    rw [p_tally_Tally_Note_l1, lt_tt hlt, at_lt hlt]
    simp only [cond_true, Option.bind_some]
    rw [hv]
    simp only [Option.bind_some]
    rw [z1]
    simp only [Option.bind_some]
    rw [m1']
    simp only [Option.bind_some]
    rcases kind_p l[k].S.Kind with hk1 | ⟨i, i4, i10, hk1⟩
    · rw [hk1]
      simp only [Option.bind_some, bne_self_eq_false, cond_false]
      rw [w64_succ (by omega)]
      obtain ⟨T', r1, r2, r3, r4, r5, r6⟩ := note_l l hf n (k + 1) F _ (M + 131) (by omega) (by omega) (by omega) ⟨c1.len, fun i hi => by have := c1.bd i hi; omega⟩ (by omega)
      refine ⟨T', r1, ⟨r2.len, fun i hi => by have := r2.bd i hi; omega⟩, r3, r4, ?_, fun i hi => ?_⟩
      · rw [r5, e3, if_pos rfl, hd]; omega
      · rw [r6 i hi, e3, if_neg (by omega)]; omega
    · rw [hk1]
      have hne : ((i : Int) != (-1 : Int)) = true := bne_iff_ne.2 (by omega)
      obtain ⟨m2, c2⟩ := cnt_step (i := i) (n := 1) (N := M + 131) c1 (by omega) (by omega) (by omega) (by omega)
      simp only [Option.bind_some, hne, cond_true]
      rw [m2]
      simp only [Option.bind_some]
      rw [w64_succ (by omega)]
      have ei : ∀ j, cntT (addT (addT T 3 (fszT v.1)) i 1) j = cntT (addT T 3 (fszT v.1)) j + (if j = i then 1 else 0) := fun j => cnt_add c1.len (by omega)
      obtain ⟨T', r1, r2, r3, r4, r5, r6⟩ := note_l l hf n (k + 1) F _ (M + 131) (by omega) (by omega) (by omega) c2 (by omega)
      refine ⟨T', r1, ⟨r2.len, fun i hi => by have := r2.bd i hi; omega⟩, r3, r4, ?_, fun j hj => ?_⟩
      · rw [r5, ei, e3, if_pos rfl, if_neg (by omega), hd]; omega
      · rw [r6 j hj, ei, e3, if_neg (by omega), if_neg (by omega)]; omega
end Go.Proofs.YtpkodpcfafipdaaGreat

namespace Go.Proofs.YtpkodpcfafipdaaGreat
def letterS (c:UInt8):Prop:=c=117∨c=114∨c=109∨c=115∨c=112∨c=99∨c=110
theorem letters (k:Nat):∀ c ∈ hasN k,letterS c:=hasN_in k
end Go.Proofs.YtpkodpcfafipdaaGreat

namespace Go.Proofs.YtpkodpcfafipdaaGreat
def encS (s:StzD):List UInt8:=s.kind :: bodyB s (hasN s.kind.toNat)
theorem let_ok {s:StzD} (h:checkS s=0):∀ c ∈ hasN s.kind.toNat,letterS c∧okF s c:=fun c hc=>⟨letters _ c hc,check_ok h c hc⟩
def fmax (c:UInt8):Nat:=if c=117 then 34 else if c=114 then 13 else if c=109 then 25 else if c=110 then 6 else 1
theorem field_max {s:StzD} {c:UInt8} (hc:letterS c) (h:okF s c):(fieldB s c).length≤fmax c:=by
 have b1:∀ n,(beL n 1).length=1:=fun _=>rfl
 have b6:∀ n,(beL n 6).length=6:=fun _=>rfl
 rcases hc with rfl | rfl | rfl | rfl | rfl | rfl | rfl
 ·rw [fld117,sayB_len];have:=ok117 h;show _≤34;omega
 ·rw [fld114,sayB_len];have:=ok114 h;show _≤13;omega
 ·rw [fld109,sayB_len];have:=ok109 h;show _≤25;omega
 ·rw [fld115,b1];decide
 ·rw [fld112,b1];decide
 ·rw [fld99,b1];decide
 ·rw [fld110,b6];decide
theorem body_max {s:StzD}:∀ {L:List UInt8},(∀ c ∈ L,letterS c∧okF s c)→(bodyB s L).length≤(L.map fmax).sum
 | [],_=>by simp [bodyB]
 | c :: L,h=>by
  have h1:=body_max (s:=s) (L:=L) (fun d hd=>h d (List.mem_cons_of_mem _ hd))
  have h2:=field_max (h c (by simp)).1 (h c (by simp)).2
  have e:bodyB s (c :: L)=fieldB s c++bodyB s L:=by simp [bodyB]
  rw [e,List.length_append,List.map_cons,List.sum_cons];omega
theorem ite_p {p:Prop} [Decidable p] {a b:List UInt8} {Q:List UInt8→Prop} (ha:Q a) (hb:Q b):Q (if p then a else b):=by split <;> assumption
theorem sum_max (k:Nat):((hasN k).map fmax).sum≤80:=by
 have:(fun l:List UInt8=>(l.map fmax).sum≤80) (hasN k):=by
  unfold hasN
  repeat' (refine ite_p (Q:=fun l:List UInt8=>(l.map fmax).sum≤80) ?_ ?_)
  all_goals decide
 exact this
theorem enc_len {s:StzD} (h:checkS s=0):0 < (encS s).length∧(encS s).length≤81:=by
 have:=body_max (let_ok h)
 have:=sum_max s.kind.toNat
 unfold encS
 rw [List.length_cons];omega
end Go.Proofs.YtpkodpcfafipdaaGreat

namespace Go.Proofs.YtpkodpcfafipdaaGreat
open Go.RowKit
theorem u8_fit {n:Int} (h:0≤n∧n≤255):IntKind.wrap .u8 n=n:=by
 obtain ⟨k,rfl⟩ : ∃ k:Nat,n=k:=⟨n.toNat,by omega⟩
 show (k:Int) % 256=k
 omega
def frm (t:List UInt8):List UInt8:=0 :: UInt8.ofNat t.length :: t
theorem lay2 {n:Nat} (h:n≤255):p_octet_Lay (n:Int) 2=some ([0,(n:Int)],0):=by
 have key:∀ F,p_octet_Lay_l1 2 n 2 2 (F + 3) 0 [0,0]=some (2,[0,(n:Int)]):=fun F=>by
  have u0:IntKind.wrap .u8 (shrI .i64 (n:Int) 0)=(n:Int):=by
   have e:shrI .i64 (n:Int) 0=(n:Int):=by
    show (n:Int).fdiv (2 ^ (min (0:Int).toNat 64))=_
    simp
   rw [e]
   exact u8_fit (by omega)
  have u1:IntKind.wrap .u8 (shrI .i64 (n:Int) 8)=0:=by
   have e:shrI .i64 (n:Int) 8=0:=by
    show (n:Int).fdiv (2 ^ 8)=_
    rw [fdivN]
    have:n / 2 ^ 8=0:=Nat.div_eq_of_lt (by omega)
    rw [this];rfl
   rw [e];rfl
  rw [p_octet_Lay_l1]
  show p_octet_Lay_l1 2 n 2 2 (F + 2) 1 (List.set [0,0] 1 (IntKind.wrap .u8 (shrI .i64 (n:Int) 0)))=_
  rw [u0,p_octet_Lay_l1]
  show p_octet_Lay_l1 2 n 2 2 (F + 1) 2 (List.set [0,(n:Int)] 0 (IntKind.wrap .u8 (shrI .i64 (n:Int) 8)))=_
  rw [u1,p_octet_Lay_l1];rfl
 have k2:p_octet_Lay_l1 2 n 2 2 fuel 0 [0,0]=_:=key (fuel - 3)
 have s0:(shrI .i64 (n:Int) 16 != 0)=false:=by
  have e:shrI .i64 (n:Int) 16=0:=by
   show (n:Int).fdiv (2 ^ 16)=_
   rw [fdivN]
   have:n / 2 ^ 16=0:=Nat.div_eq_of_lt (by omega)
   rw [this];rfl
  rw [e];rfl
 unfold p_octet_Lay
 rw [show p_octet_wide 2=some true from rfl]
 simp only [Option.bind_some,cond_true]
 rw [show decide ((n:Int) < 0)=false by simp,cond_false,show pos? (w64 ((8:Int) * 2))=some () from rfl,Option.bind_some,show w64 ((8:Int) * 2)=16 from rfl,s0,cond_false,show mk? (2:Int) (0:Int)=some [0,0] from rfl,Option.bind_some,k2]
 rfl
theorem put_frm (t:List UInt8) (h0:0 < t.length) (h:t.length≤128):p_frame_Put (ba t)=some (ba (frm t),0):=by
 have e1:((ba t).toList == (⟨#[]⟩ : ByteArray).toList)=false:=by
  rw [Bool.eq_false_iff]
  intro g
  have:=eqT_iff.1 g
  have:=congrArg ByteArray.size this
  rw [ba_size] at this
  have e:(⟨#[]⟩ : ByteArray).size=0:=rfl
  omega
 have tx:text? [0,(t.length:Int)]=some (ba [0,UInt8.ofNat t.length]):=by
  unfold text?
  rw [if_pos (by simp;omega)];rfl
 have ct:cat? (ba [0,UInt8.ofNat t.length]) (ba t)=some (ba (frm t)):=by
  unfold cat?
  rw [if_pos (by rw [ba_size,ba_size];simp;omega),ba_app];rfl
 unfold p_frame_Put
 rw [e1,cond_false,ba_size,decide_eq_false (show ¬ (128:Int) < (t.length:Int) by omega),cond_false,lay2 (by omega),Option.bind_some,tx,Option.bind_some,ct];rfl
theorem join_frm:∀ (ts:List (List UInt8)) (acc:List UInt8),(∀ t ∈ ts,0 < t.length∧t.length≤128)→acc.length + 200 * ts.length≤1000000→joinL p_frame_Put (ts.map ba) acc=some (ba (acc++(ts.map frm).flatten),0)
 | [],acc,_,_=>by simp [joinL,ba]
 | t :: ts,acc,h,hl=>by
  obtain ⟨h0,h1⟩:=h t (List.mem_cons_self ..)
  rw [List.length_cons] at hl
  have hf:(ba (frm t)).size=t.length + 2:=by rw [ba_size];rfl
  rw [List.map_cons,joinL,put_frm t h0 h1]
  rw [Option.bind_some,if_neg (by simp),if_pos (show acc.length + (ba (frm t)).size≤1000000000 by omega),show (ba (frm t),(0:Int)).1=ba (frm t) from rfl,ba_list,join_frm ts _ (fun x hx=>h x (List.mem_cons_of_mem _ hx)) (by rw [List.length_append];show acc.length + (t.length + 2) + _≤_;omega)]
  simp
structure Fine (x:StanzaStanza):Prop where
 kind:0≤x.Kind∧x.Kind≤255
 user:x.User.size≤100
 res:x.Res.size≤100
 name:x.Name.size≤100
theorem Fine.fits {x:StanzaStanza} (h:Fine x):stzFits x:=⟨h.kind,by have:=h.user;omega,by have:=h.res;omega,by have:=h.name;omega⟩
def encX (x:StanzaStanza):List UInt8:=encS (stzOf x)
theorem put_fine {x:StanzaStanza} (h:Fine x) (hc:checkS (stzOf x)=0):p_stanza_Put x=some (ba (encX x),0):=by
 unfold p_stanza_Put putP
 rw [if_pos h.fits,if_neg (by simpa using hc)];rfl
theorem encode_l (ws:List StanzaStanza) (hw:∀ x ∈ ws,Fine x∧checkS (stzOf x)=0) (hn:ws.length≤1000):∀ (n k F:Nat) (acc:List ByteArray),k + n=ws.length→n < F→acc.length≤k→p_deframe_Encode_l1 ws (ws.length:Int) F acc (k:Int)=some (.inr (acc++(ws.drop k).map fun x=>ba (encX x),(ws.length:Int)))
 | 0,k,F + 1,acc,hk,hF,ha=>by
  rw [p_deframe_Encode_l1,lt_ff (by omega),show k=ws.length by omega,List.drop_length];simp
 | n + 1,k,F + 1,acc,hk,hF,ha=>by
  have hlt:k < ws.length:=by omega
  obtain ⟨f1,f2⟩:=hw _ (List.getElem_mem hlt)
  rw [p_deframe_Encode_l1,lt_tt hlt,cond_true,at_lt hlt,Option.bind_some,put_fine f1 f2,Option.bind_some]
  simp only [bne_self_eq_false,cond_false]
  rw [app_ok (by simp;omega),Option.bind_some,w64_succ (by omega),encode_l ws hw hn n (k + 1) F _ (by omega) (by omega) (by simp;omega),drop_at hlt,List.map_cons,List.append_assoc]
  rfl
theorem encode_p (ws:List StanzaStanza) (hw:∀ x ∈ ws,Fine x∧checkS (stzOf x)=0) (hn:ws.length≤1000):p_deframe_Encode ws=some (ba ((ws.map fun x=>frm (encX x)).flatten),0):=by
 unfold p_deframe_Encode
 have e:=encode_l ws hw hn ws.length 0 fuel [] (by omega) (by have:=fuel_pos;omega) (Nat.zero_le _)
 rw [List.drop_zero,List.nil_append] at e
 have e' : p_deframe_Encode_l1 ws (ws.length:Int) fuel [] (0:Int)=_:=e
 rw [e']
 simp only [Option.bind_some]
 have hm:(ws.map fun x=>ba (encX x))=(ws.map encX).map ba:=by rw [List.map_map];rfl
 have hj:=join_frm (ws.map encX) [] (fun t ht=>by
  obtain ⟨x,hx,rfl⟩:=List.mem_map.1 ht
  have:=enc_len (hw x hx).2
  exact ⟨this.1,by have:=this.2;show (encS (stzOf x)).length≤128;omega⟩) (by rw [List.length_map];simp;omega)
 unfold p_frame_Join
 rw [if_pos (by rw [List.length_map];omega),hm,hj,List.nil_append,List.map_map]
 rfl
end Go.Proofs.YtpkodpcfafipdaaGreat

namespace Go.Proofs.YtpkodpcfafipdaaGreat
open Go.RowKit
def okS (x:StanzaStanza):Bool:=checkS (stzOf x) == 0
theorem light_p (x:StanzaStanza) (hk:0≤x.Kind∧x.Kind≤255):p_ref10_Light x=some false∨(p_ref10_Light x=some true∧Fine x):=by
 unfold p_ref10_Light
 by_cases h1:(x.User.size:Int)≤100
 ·rw [decide_eq_true h1,cond_true]
  by_cases h2:(x.Res.size:Int)≤100
  ·rw [decide_eq_true h2,cond_true]
   by_cases h3:(x.Name.size:Int)≤100
   ·rw [decide_eq_true h3];exact .inr ⟨rfl,⟨hk,by omega,by omega,by omega⟩⟩
   ·rw [decide_eq_false h3];exact .inl rfl
  ·rw [decide_eq_false h2];exact .inl rfl
 ·rw [decide_eq_false h1];exact .inl rfl
theorem tb_l1 (l:List StanzaStanza) (hk:∀ x ∈ l,0≤x.Kind∧x.Kind≤255) (hl:l.length≤20):∀ (n k F:Nat) (fine:List StanzaStanza) (said:List Ref33Said),k + n=l.length→n < F→fine.length≤k→said.length=k →
  p_law36_TallyBytes_l1 l F fine (k:Int) ⟨0,said,[]⟩=some (.inl true)∨((∀ x ∈ l.drop k,Fine x)∧∃ said',p_law36_TallyBytes_l1 l F fine (k:Int) ⟨0,said,[]⟩=some (.inr (fine++(l.drop k).filter okS,(l.length:Int),⟨0,said++said',[]⟩))∧said'.map (fun x=>x.S)=l.drop k)
 | 0,k,F + 1,fine,said,hkn,hF,h1,h2=>by
  right
  rw [p_law36_TallyBytes_l1,lt_ff (by omega),show k=l.length by omega,List.drop_length]
  exact ⟨(fun x hx=>by cases hx),[],by simp,rfl⟩
 | n + 1,k,F + 1,fine,said,hkn,hF,h1,h2=>by
  have hlt:k < l.length:=by omega
  rw [p_law36_TallyBytes_l1,lt_tt hlt,at_lt hlt]
  simp only [cond_true,Option.bind_some]
  rcases light_p l[k] (hk _ (List.getElem_mem hlt)) with g | ⟨g,gf⟩
  ·left;rw [g,aw36];rfl
  ·have hc:p_stanza_Check l[k]=some (checkS (stzOf l[k])):=if_pos gf.fits
   rw [g]
   simp only [cond_true,Option.bind_some]
   rw [app_ok (by simp;omega),hc,w64_succ (by omega)]
   simp only [Option.bind_some]
   have hd:=drop_at hlt
   cases ho:(checkS (stzOf l[k]) == (0:Int)) with
   | true =>
    simp only [cond_true]
    rw [app_ok (by simp;omega)]
    simp only [Option.bind_some]
    rcases tb_l1 l hk hl n (k + 1) F (fine++[l[k]]) (said++[⟨(k:Int),l[k]⟩]) (by omega) (by omega) (by simp;omega) (by simp;omega) with e | ⟨e1,s',e2,e3⟩
    ·exact .inl e
    ·refine .inr ⟨fun x hx=>?_,⟨(k:Int),l[k]⟩ :: s',by rw [e2,hd,List.filter_cons_of_pos (show okS l[k]=true from ho)];simp,by rw [hd,List.map_cons,e3]⟩
     rw [hd] at hx
     rcases List.mem_cons.1 hx with rfl | hx
     ·exact gf
     ·exact e1 x hx
   | false =>
    simp only [cond_false]
    rcases tb_l1 l hk hl n (k + 1) F fine (said++[⟨(k:Int),l[k]⟩]) (by omega) (by omega) (by omega) (by simp;omega) with e | ⟨e1,s',e2,e3⟩
    ·exact .inl e
    ·refine .inr ⟨fun x hx=>?_,⟨(k:Int),l[k]⟩ :: s',by rw [e2,hd,List.filter_cons_of_neg (by rw [show okS l[k]=false from ho];simp)];simp,by rw [hd,List.map_cons,e3]⟩
     rw [hd] at hx
     rcases List.mem_cons.1 hx with rfl | hx
     ·exact gf
     ·exact e1 x hx
theorem putT_fine {x:StanzaStanza} (h:Fine x):putT x=if okS x=true then ((2 + (encX x).length:Nat):Int) else 0:=by
 by_cases hc:checkS (stzOf x)=0
 ·have ho:okS x=true:=by unfold okS;rw [hc];rfl
  have hl:=enc_len hc
  have hs:(ba (encX x)).size=(encX x).length:=ba_size _
  have h2:(encX x).length=(encS (stzOf x)).length:=rfl
  unfold putT
  rw [put_fine h hc,if_pos ho]
  show fszT (ba (encX x))=_
  unfold fszT
  rw [hs,if_neg (by omega),if_neg (by omega)];omega
 ·have ho:¬ okS x=true:=by unfold okS;simpa using hc
  have hp:p_stanza_Put x=some (⟨#[]⟩,checkS (stzOf x)):=by unfold p_stanza_Put putP;rw [if_pos h.fits,if_pos hc]
  unfold putT
  rw [hp,if_neg ho];rfl
theorem sum_fine:∀ (l:List StanzaStanza) (s:List Ref33Said),s.map (fun x=>x.S)=l→(∀ x ∈ l,Fine x)→sumT s=((((l.filter okS).map fun x=>frm (encX x)).flatten).length:Int)
 | [],s,hs,_=>by rw [List.map_eq_nil_iff.1 hs];rfl
 | x :: l,[],hs,_=>by cases hs
 | x :: l,y :: s,hs,h=>by
  rw [List.map_cons] at hs
  injection hs with h1 h2
  have ih:=sum_fine l s h2 fun z hz=>h z (List.mem_cons_of_mem _ hz)
  have hp:=putT_fine (h x (List.mem_cons_self ..))
  have e:sumT (y :: s)=putT y.S + sumT s:=rfl
  rw [e,h1,hp,ih]
  by_cases ho:okS x=true
  ·rw [if_pos ho,List.filter_cons_of_pos ho,List.map_cons,List.flatten_cons,List.length_append]
   show _=(((encX x).length + 2 + _:Nat):Int)
   omega
  ·rw [if_neg ho,List.filter_cons_of_neg (by simpa using ho)];omega
end Go.Proofs.YtpkodpcfafipdaaGreat

namespace Go.Proofs.YtpkodpcfafipdaaGreat
open Go.RowKit
def zT:TallyTally:=p_tally_New.getD ⟨[],⟨⟨⟩,⟨⟨⟩,0⟩,⟨⟨⟩,⟨0,0⟩⟩⟩,[]⟩
theorem new_z:p_tally_New=some zT:=rfl
theorem cnt_z (i:Nat):cntT zT i=0:=by
 show ((List.replicate 12 (⟨⟨⟩,⟨⟩,0⟩ : SyncatomicInt64)).getD i ⟨⟨⟩,⟨⟩,0⟩).v_=0
 rw [List.getD_eq_getElem?_getD,List.getElem?_replicate]
 split <;> rfl
theorem note_p (said:List Ref33Said) (hf:∀ x ∈ said,stzFits x.S) (hl:said.length≤100):∃ T',p_tally_Tally_Note zT ⟨0,said,[]⟩=some T'∧T'.counts.length=12∧PT T'∧cntT T' 0=1∧cntT T' 1=0∧cntT T' 2=said.length∧cntT T' 3=sumT said:=by
 have c0:CntOK zT 0:=⟨rfl,fun i _=>by rw [cnt_z];omega⟩
 obtain ⟨m1,c1⟩:=cnt_step (i:=0) (n:=1) (N:=1) c0 (by omega) (by omega) (by omega) (by omega)
 obtain ⟨m2,c2⟩:=cnt_step (i:=2) (n:=(said.length:Int)) (N:=101) c1 (by omega) (by omega) (by omega) (by omega)
 obtain ⟨m3,c3⟩:=cnt_step (i:=11) (n:=0) (N:=101) c2 (by omega) (by omega) (by omega) (by omega)
 obtain ⟨T',r1,r2,r3,r4,r5,r6⟩:=note_l said hf said.length 0 fuel _ 101 (by omega) (by have:=fuel_pos;omega) (by omega) c3 (by omega)
 have m1' : p_tally_Tally_more zT (0:Int) (1:Int)=_:=m1
 have m2' : p_tally_Tally_more (addT zT 0 1) (2:Int) (said.length:Int)=_:=m2
 have m3' : p_tally_Tally_more (addT (addT zT 0 1) 2 (said.length:Int)) (11:Int) (0:Int)=_:=m3
 have r1' : p_tally_Tally_Note_l1 said (said.length:Int) fuel (0:Int) (addT (addT (addT zT 0 1) 2 (said.length:Int)) 11 0)=_:=r1
 have a1:∀ j,cntT (addT zT 0 1) j=cntT zT j + (if j=0 then 1 else 0):=fun j=>cnt_add c0.len (by omega)
 have a2:∀ j,cntT (addT (addT zT 0 1) 2 (said.length:Int)) j=cntT (addT zT 0 1) j + (if j=2 then (said.length:Int) else 0):=fun j=>cnt_add c1.len (by omega)
 have a3:∀ j,cntT (addT (addT (addT zT 0 1) 2 (said.length:Int)) 11 0) j=cntT (addT (addT zT 0 1) 2 (said.length:Int)) j + (if j=11 then 0 else 0):=fun j=>cnt_add c2.len (by omega)
 have a:∀ j,cntT (addT (addT (addT zT 0 1) 2 (said.length:Int)) 11 0) j=(if j=0 then 1 else 0) + (if j=2 then (said.length:Int) else 0):=fun j=>by
  rw [a3,a2,a1,cnt_z];split <;> split <;> split <;> omega
 refine ⟨T',?_,r2.len,.inr ⟨by rw [r3];rfl,by rw [r3];rfl⟩,?_,?_,?_,?_⟩
 ·unfold p_tally_Tally_Note
  rw [m1']
  simp only [Option.bind_some,bne_self_eq_false,cond_false]
  rw [m2']
  simp only [Option.bind_some,List.length_nil]
  rw [show (((0:Nat):Int))=(0:Int) from rfl,m3']
  simp only [Option.bind_some]
  rw [r1'];rfl
 ·rw [r6 0 (by omega),a];simp
 ·rw [r6 1 (by omega),a];simp
 ·rw [r6 2 (by omega),a];simp
 ·rw [r5,a,List.drop_zero];simp
theorem tallyBytes_pure (l:List StanzaStanza) (hk:∀ x ∈ l,0≤x.Kind∧x.Kind≤255):p_law36_TallyBytes l=some true:=by
 have hf:=fuel_pos
 unfold p_law36_TallyBytes
 rw [aw36]
 by_cases hl:(20:Int) < (l.length:Int)
 ·rw [decide_eq_true hl];rfl
 rw [decide_eq_false hl,cond_false,new_z,Option.bind_some]
 rcases tb_l1 l hk (by omega) l.length 0 fuel [] [] (by omega) (by omega) (Nat.le_refl _) rfl with e | ⟨hfine,said,e,hs⟩
 ·have e' : p_law36_TallyBytes_l1 l fuel [] (0:Int) (Ref33Result.mk (0:Int) [] [])=_:=e
  rw [e'];rfl
 ·have e' : p_law36_TallyBytes_l1 l fuel [] (0:Int) (Ref33Result.mk (0:Int) [] [])=_:=e
  rw [e',Option.bind_some]
  rw [List.drop_zero] at hfine hs
  have hlen:said.length=l.length:=by rw [← hs,List.length_map]
  obtain ⟨T,n1,n2,n3,n4,n5,n6,n7⟩:=note_p said (fun x hx=>(hfine x.S (by rw [← hs];exact List.mem_map.2 ⟨x,hx,rfl⟩)).fits) (by omega)
  have en:=encode_p (l.filter okS) (fun x hx=>⟨hfine x (List.mem_filter.1 hx).1,by have:=(List.mem_filter.1 hx).2;unfold okS at this;simpa using this⟩) (by have:=List.length_filter_le okS l;omega)
  have hsum:=sum_fine l said hs hfine
  simp only [List.nil_append,List.drop_zero]
  rw [n1]
  simp only [Option.bind_some]
  rw [en]
  simp only [Option.bind_some,beq_self_eq_true,cond_true]
  obtain ⟨T1,g1,p1,q1⟩:=get_p n2 n3 (⟨#[98,121,116,101,115]⟩ : ByteArray) (i:=3) (by omega) (by kernel_rfl)
  have c1:∀ i,cntT T1 i=cntT T i:=fun i=>by unfold cntT;rw [p1]
  obtain ⟨T2,g2,p2,q2⟩:=get_p (T:=T1) (by rw [p1];exact n2) q1 (⟨#[115,97,105,100]⟩ : ByteArray) (i:=2) (by omega) (by kernel_rfl)
  have c2:∀ i,cntT T2 i=cntT T i:=fun i=>by rw [← c1];unfold cntT;rw [p2]
  obtain ⟨T3,g3,p3,q3⟩:=get_p (T:=T2) (by rw [p2,p1];exact n2) q2 (⟨#[115,116,101,112,115]⟩ : ByteArray) (i:=0) (by omega) (by kernel_rfl)
  have c3:∀ i,cntT T3 i=cntT T i:=fun i=>by rw [← c2];unfold cntT;rw [p3]
  obtain ⟨T4,g4,_,_⟩:=get_p (T:=T3) (by rw [p3,p2,p1];exact n2) q3 (⟨#[119,114,111,110,103]⟩ : ByteArray) (i:=1) (by omega) (by kernel_rfl)
  rw [g1]
  simp only [Option.bind_some]
  rw [n7,hsum,ba_size,beq_self_eq_true,cond_true,g2]
  simp only [Option.bind_some]
  rw [c1,n6,hlen,beq_self_eq_true,cond_true,g3]
  simp only [Option.bind_some]
  rw [c2,n4,beq_self_eq_true,cond_true,g4]
  simp only [Option.bind_some]
  rw [c3,n5]
  rfl
end Go.Proofs.YtpkodpcfafipdaaGreat

