/- A part of the proof: 4 texts joined. -/
import Derived.Test.YthnihifblmnkdaaGreatPdA13
import Derived.Test.YthnihifblmnkdaaGreatPdA12
import Derived.Test.YthnihifblmnkdaaGreatPdA11
import Derived.Sort.LoopGhostIn
import Derived.KernelRfl
import Derived.Test.YthnihifblmnkdaaGreatPdA1
set_option linter.all false
namespace Go.Proofs.YthnihifblmnkdaaGreat
open Go.RowKit
section
variable {P : Program} {w0 : Org} {B : Nat} {m0 : Mem} {bk0 : Bks} {n : Nat}
theorem aw_soundF {n0:Nat} (hk0:∀ id x,bk0 id=some x→id < n0) (hmix:P.follows .mixedOrders=true) (hg:GM m0) {c:Code} {ac:ACode} (hm:MatchC P c ac):ac.flat=true→∀ (Q:AExit→List V→List Slot→Prop) (fr:List V) (st:List Slot) (a:Act) (w:World),Cn B m0 bk0 w0 a w fr st→AW P n0 ac Q fr st→c.wp P (PostC B m0 bk0 w0 Q) a w:=by
 induction hm with
 | skip=>intro _ Q fr st a w hc h;exact wp_skip ⟨.normal,fr,st,rfl,hc,h⟩
 | label=>intro _ Q fr st a w hc h;exact wp_label ⟨.normal,fr,st,rfl,hc,h⟩
 | @regT id ops aos nc hn hm =>
  intro _ Q fr st a w hc h
  obtain ⟨st0,xr,hf,h⟩:=h
  obtain ⟨fps,fr',st',hr,hk⟩:=aops_run h
  refine wp_region ?_
  have:=run_text (ops:=ops) (Q:=PostC B m0 bk0 w0 Q) hg aos 0 _ _ _ _ _ a w hr (by omega) (fun j h o ho=>hm j h o (by simpa using ho)) ((hc.frz hf).room (nc + xr)) fun a w hc'=>⟨.normal,fr',st',rfl,hc',hk⟩
  rw [← hn] at this
  rw [List.range_eq_range']
  exact this
 | @regD id ops aos nc bef hn hm hr =>
  intro _ Q fr st a w hc h
  obtain ⟨st0,xr,hf,h⟩:=h
  obtain ⟨fps,fr',st',hrun,hk1,hk⟩:=aops_run h
  simp only [List.append_nil,List.reverse_reverse] at hk1
  exact reg_draw hmix hr (footB_ok hk1) hg hn hm hrun ((hc.frz hf).room (nc + xr)) fun a w hc'=>⟨.normal,fr',st',rfl,hc',hk⟩
 | seq _ _ ih1 ih2 =>
  intro hfl Q fr st a w hc h
  simp only [ACode.flat,Bool.and_eq_true] at hfl
  refine wp_seq (wp_mono (ih1 hfl.1 _ fr st a w hc h) ?_)
  rintro e a w ⟨ae,fr,st,h1,h2,h3⟩
  cases e <;> simp only [exitOf,Option.some.injEq,reduceCtorEq] at h1 <;> subst h1
  ·rcases h3 with h3 | ⟨k,sg,fr',st',hw,h3⟩
   ·exact ih2 hfl.2 Q fr st a w h2 h3
   ·exact ih2 hfl.2 Q fr' st' a w (Cn.wk hk0 h2 hw) h3
  ·exact ⟨_,fr,st,rfl,h2,h3⟩
  ·exact ⟨_,fr,st,rfl,h2,h3⟩
 | @cond c x y _ _ _ _ ih1 ih2 =>
  intro hfl Q fr st a w hc h
  simp only [ACode.flat,Bool.and_eq_true] at hfl
  obtain ⟨t,he,h1,h2⟩:=h
  have hv:a.eval c=.bool t:=by
   obtain ⟨m,bk,_,hfr,_,_⟩:=hc
   exact (he ▸ hfr.ev c).int
  exact wp_cond_split hv (fun e=>ih1 hfl.1 Q fr st a w hc (h1 e)) (fun e=>ih2 hfl.2 Q fr st a w hc (h2 e))
 | @block id x y _ ih =>
  intro hfl Q fr st a w hc h
  refine wp_block (wp_mono (ih hfl _ fr st a w hc h) ?_)
  rintro e a w ⟨ae,fr,st,h1,h2,h3⟩
  cases e <;> simp only [exitOf,Option.some.injEq,reduceCtorEq] at h1 <;> subst h1
  ·exact ⟨_,fr,st,rfl,h2,h3⟩
  ·rename_i j
   by_cases e:j=id
   ·simp only [e,if_true,Exit.inBlock] at h3 ⊢
    exact ⟨_,fr,st,rfl,h2,h3⟩
   ·simp only [e,if_false,Exit.inBlock] at h3 ⊢
    exact ⟨_,fr,st,rfl,h2,h3⟩
  ·exact ⟨_,fr,st,rfl,h2,h3⟩
 | loop=>intro hfl;cases hfl
 | raw=>intro hfl;cases hfl
 | scope _ ih =>
  intro hfl Q fr st a w hc h
  refine wp_scope_straight (wp_mono (ih hfl Q fr st a w hc h) ?_)
  rintro e a w ⟨ae,fr,st,h1,h2,h3⟩
  cases e <;> simp only [exitOf,Option.some.injEq,reduceCtorEq] at h1 <;> subst h1 <;> exact ⟨_,fr,st,rfl,h2,h3⟩
 | exit=>intro _ Q fr st a w hc h;exact wp_exit ⟨_,fr,st,rfl,hc,h⟩
 | ret=>intro _ Q fr st a w hc h;exact wp_ret ⟨_,fr,st,rfl,hc,h⟩
theorem piece {n0:Nat} (hk0:∀ id x,bk0 id=some x→id < n0) (hmix:P.follows .mixedOrders=true) (hg:GM m0) {c:Code} {x:BCode} (hc:comp P c=some x.er) (hf:x.er.flat=true) {Q:AExit→List V→List Slot→Prop} {fr:List V} {st:List Slot} {a:Act} {w:World} (hcn:Cn B m0 bk0 w0 a w fr st) (h:wpC P n0 x Q fr st):c.wpIn Fence.wide n P (PostC B m0 bk0 w0 Q) a w :=
 wpIn_wide.2 (aw_soundF hk0 hmix hg (comp_ok hc) hf Q fr st a w hcn (wpC_ok (fun _ _ _ h=>h) h))
theorem rowsIn_wide {row:String} {args:Array Value} {w:World} {R:Value→World→Prop} (h:Rows P row args w R):RowsIn Fence.wide n P row args w R :=
 fun c cs _=>let ⟨v,w',r,s⟩:=h c cs;⟨v,w',r,stepsIn_wide.2 s⟩
theorem upon_wide {o:Oper} {a:Act} {w:World} {next next' : Act→World→Prop} {Q:Exit→Act→World→Prop} (hn:∀ a w,next a w→next' a w) (h:o.wp P a w next Q):o.wpIn Fence.wide n P a w next' Q:=by
 refine ⟨fun _ _=>trivial,?_⟩
 show o.uponIn Fence.wide n P a next' Q ((execOp a.eval o).run P w)
 unfold Oper.wp at h
 generalize (execOp a.eval o).run P w=r at h
 cases r with
 | ok x w' =>
  cases x with
  | enter f args =>
   refine ⟨fun hh=>by simp [Fence.wide] at hh,callsIn_wide.2 (Calls.mono h fun e w'' he=>?_)⟩
   cases e <;> first | exact hn _ _ he | exact he
  | row row args=>exact ⟨fun hh=>by simp [Fence.wide] at hh,rowsIn_wide (Rows.mono h fun _ _ he=>hn _ _ he)⟩
  | _=>first | exact hn _ _ h | exact h.elim
 | halt x w'=>cases x <;> exact h
def Kept (aos:List AOper) (a a' : Act):Prop:=∀ t,(∀ o ∈ aos,o.dst≠some t)→a'.tmps[t]?=a.tmps[t]?
theorem put_keep {a:Act} {d:Option Nat} {c:Value} {t:Nat} (h:d≠some t):(a.put d c).tmps[t]?=a.tmps[t]?:=by
 cases d with
 | none=>rfl
 | some d =>
  have:d≠t:=fun e=>h (by rw [e])
  simp only [Act.put]
  rw [Array.getElem?_setIfInBounds_ne this]
section
variable {ops : Array Oper} {o : Oper} {a : Act} {w : World} {K : Act → World → Prop} {Q : Exit → Act → World → Prop} {st : List Slot} {fr : List V}
theorem Cn.stepK (hg:GM m0) (h:Cn B m0 bk0 w0 a w fr st) {i:Nat} {ao:AOper} (hi:ops[i]?=some o) (hm:MatchOp P ops o ao) {v:V} {rd:List Nat} {ef:List (Nat × Slot)} {id:Nat} (hgv:gval ao.guard fr=some true) (hs:AStep P (evO fr) st id ao.op v rd ef)
  (hK:∀ c w',Cn B m0 bk0 w0 (a.put o.dst c) w' (putF fr ao.dst v) (AStep.eff st ef)→K (a.put o.dst c) w'):Go.wpOp P ops Q i K a w:=by
 obtain ⟨m,bk,hsim,hfr,hd,hb,hbk⟩:=h
 have hgm:GM m:=by obtain ⟨n,hn⟩:=hg;exact ⟨n,hsim.ext _ _ hn⟩
 have hw:=gval_sound hfr hm hgv
 unfold Go.wpOp
 simp only [hi,hw,if_true]
 left
 refine op_sound hm.1 hs hsim hgm hfr fun c w' hA=>?_
 obtain ⟨m',bk',h1,h2,h3,h4,h5⟩:=hA
 refine hK _ _ ⟨m',bk',h1,?_,?_,hb.trans h5,fun id x h=>h4 _ _ (hbk _ _ h)⟩
 ·rw [hm.2.1];exact (hfr.mono h3 h4).put h2 _
 ·cases o.dst <;> exact hd.bel h5
theorem Cn.skipK (h:Cn B m0 bk0 w0 a w fr st) {i:Nat} {ao:AOper} (hi:ops[i]?=some o) (hm:MatchOp P ops o ao) (hgv:gval ao.guard fr=some false)
  (hK:Cn B m0 bk0 w0 (a.put o.dst undef) w (putF fr ao.dst (.tup [])) st→K (a.put o.dst undef) w):Go.wpOp P ops Q i K a w:=by
 obtain ⟨m,bk,hsim,hfr,hd,hb,hbk⟩:=h
 have hw:=gval_sound hfr hm hgv
 unfold Go.wpOp
 simp only [hi,hw,Bool.false_eq_true,if_false]
 refine hK ⟨m,bk,hsim,?_,?_,hb,hbk⟩
 ·rw [hm.2.1];exact hfr.put (.tup rfl fun j h1 _=>absurd h1 (Nat.not_lt_zero _)) _
 ·cases o.dst <;> exact hd
end
theorem pre_in {ops:Array Oper} {Q:Exit→Act→World→Prop} {rest:List Nat} (hQ:¬ LetsOut Q) (hg:GM m0) {base:Nat}:∀ (aos:List AOper) (i:Nat) (fr fr' : List V) (st st' : List Slot) (fp:List (List Nat × List Nat)) (a:Act) (w:World),Run P base aos fr st fp fr' st' →
  (∀ j (h:j < aos.length),∃ o,ops[i + j]?=some o∧MatchOp P ops o aos[j])→Cn B m0 bk0 w0 a w fr st→(∀ a' w',Cn B m0 bk0 w0 a' w' fr' st'→Kept aos a a'→wpOpsIn Fence.wide n P ops Q rest a' w')→wpOpsIn Fence.wide n P ops Q (List.range' i aos.length++rest) a w
 | [],i,fr,fr',st,st',fp,a,w,hr,hm,hc,hQ'=>by
  cases hr
  exact hQ' _ _ hc fun _ _=>rfl
 | ao :: aos,i,fr,fr',st,st',fp,a,w,hr,hm,hc,hQ'=>by
  obtain ⟨o,ho,hm0⟩:=hm 0 (by simp)
  simp only [Nat.add_zero,List.getElem_cons_zero] at ho hm0
  have hm' : ∀ j (h:j < aos.length),∃ o,ops[i + 1 + j]?=some o∧MatchOp P ops o aos[j]:=fun j h=>by
   have:=hm (j + 1) (by simpa using h)
   rw [show i + (j + 1)=i + 1 + j by omega] at this
   simpa using this
  rw [List.length_cons,List.range'_succ,List.cons_append]
  unfold wpOpsIn
  rw [ho]
  simp only
  have go:∀ (K:Act→World→Prop),Go.wpOp P ops Q i K a w→(∀ a w,K a w→wpOpsIn Fence.wide n P ops Q (List.range' (i + 1) aos.length++rest) a w)→(if Region.wanted o (yielded ops a.tmps) then o.wpIn Fence.wide n P a w (wpOpsIn Fence.wide n P ops Q (List.range' (i + 1) aos.length++rest)) Q else (∀ f,o.about P w a.eval=some f→Fence.wide.fn f)∧wpOpsIn Fence.wide n P ops Q (List.range' (i + 1) aos.length++rest) (a.put o.dst undef) w):=fun K h hK=>by
   unfold Go.wpOp at h
   simp only [ho] at h
   split
   ·rename_i hw
    rw [if_pos hw] at h
    rcases h with h | ⟨_,h⟩
    ·exact upon_wide hK h
    ·exact absurd h hQ
   ·rename_i hw
    rw [if_neg hw] at h
    exact ⟨fun _ _=>trivial,hK _ _ h⟩
  have kp:∀ c a',Kept aos (a.put o.dst c) a'→Kept (ao :: aos) a a':=fun c a' hk t ht=>by
   rw [hk t fun o' ho'=>ht o' (by simp [ho']),put_keep]
   rw [hm0.2.1];exact ht ao (by simp)
  cases hr with
  | on hgv hs h=>exact go _ (hc.stepK (K:=fun a w=>wpOpsIn Fence.wide n P ops Q (List.range' (i + 1) aos.length++rest) a w) hg ho hm0 hgv hs fun c w' hc'=>pre_in hQ hg aos (i + 1) _ _ _ _ _ _ w' h hm' hc' fun a' w' h1 h2=>hQ' a' w' h1 (kp c a' h2)) fun _ _ h=>h
  | off hgv h=>exact go _ (hc.skipK (K:=fun a w=>wpOpsIn Fence.wide n P ops Q (List.range' (i + 1) aos.length++rest) a w) ho hm0 hgv fun hc'=>pre_in hQ hg aos (i + 1) _ _ _ _ _ _ w h hm' hc' fun a' w' h1 h2=>hQ' a' w' h1 (kp undef a' h2)) fun _ _ h=>h
theorem matchT {id nc:Nat} {ops:Array Oper} {aos:List AOper} (h:MatchC P (.region id ops false) (.reg nc aos none)):ops.size=aos.length∧∀ j (_:j < aos.length) (o:Oper),ops[j]?=some o→MatchOp P ops o aos[j]:=by
 cases h with
 | regT hn hm=>exact ⟨hn,fun j h o ho=>hm j h o ho⟩
theorem reg_w {id nc:Nat} {ops:Array Oper} {aos:List AOper} {Q:Exit→Act→World→Prop} (hQ:¬ LetsOut Q) (hg:GM m0) (hm:MatchC P (.region id ops false) (.reg nc aos none)) {fr:List V} {st:List Slot} {a:Act} {w:World} (hc:Cn B m0 bk0 w0 a w fr st) {G:List V→List Slot→Prop}
  (h:wpOps P st.length aos [] fr (st++List.replicate nc .fresh) fun _ fr' st'=>G fr' st') (hK:∀ fr' st' a' w',G fr' st'→Cn B m0 bk0 w0 a' w' fr' st'→Kept aos a a'→Q .normal a' w'):(Code.region id ops false).wpIn Fence.wide n P Q a w:=by
 obtain ⟨hn,hm⟩:=matchT hm
 obtain ⟨fps,fr',st',hr,hk⟩:=aops_run (wpOps_ok h)
 refine wpIn_region ?_
 have:=pre_in (n:=n) (rest:=[]) hQ hg aos 0 _ _ _ _ _ a w hr (fun j h=>⟨ops[j]'(by omega),by simp [show j < ops.size by omega],hm j h _ (by simp [show j < ops.size by omega])⟩) (hc.room nc) fun a' w' h1 h2=>hK fr' st' a' w' hk h1 h2
 rw [List.append_nil,← hn] at this
 rw [List.range_eq_range']
 exact this
theorem pre_w {ops:Array Oper} {aos:List AOper} {Q:Exit→Act→World→Prop} {rest:List Nat} {i:Nat} (hQ:¬ LetsOut Q) (hg:GM m0) (hm:∀ j (h:j < aos.length),∃ o,ops[i + j]?=some o∧MatchOp P ops o aos[j]) {fr:List V} {st:List Slot} {a:Act} {w:World} (hc:Cn B m0 bk0 w0 a w fr st) {G:List V→List Slot→Prop}
  (h:wpOps P st.length aos [] fr st fun _ fr' st'=>G fr' st') (hK:∀ fr' st' a' w',G fr' st'→Cn B m0 bk0 w0 a' w' fr' st'→Kept aos a a'→wpOpsIn Fence.wide n P ops Q rest a' w'):wpOpsIn Fence.wide n P ops Q (List.range' i aos.length++rest) a w:=by
 obtain ⟨fps,fr',st',hr,hk⟩:=aops_run (wpOps_ok h)
 exact pre_in hQ hg aos i _ _ _ _ _ a w hr hm hc fun a' w' h1 h2=>hK fr' st' a' w' hk h1 h2
theorem matchD {ops:Array Oper} {aos:List AOper} (hn:ops.size=aos.length) (hm:∀ j (_:j < aos.length) (o:Oper),ops[j]?=some o→MatchOp P ops o aos[j]) (i k:Nat):∀ j (h:j < ((aos.drop i).take k).length),∃ o,ops[i + j]?=some o∧MatchOp P ops o ((aos.drop i).take k)[j]:=fun j h=>by
 have h1:i + j < aos.length:=by rw [List.length_take,List.length_drop] at h;omega
 refine ⟨ops[i + j]'(by omega),by simp [show i + j < ops.size by omega],?_⟩
 rw [List.getElem_take,List.getElem_drop]
 exact hm (i + j) h1 _ (by simp [show i + j < ops.size by omega])
theorem Cn.canon {fr fr2:List V} {st:List Slot} {a:Act} {w:World} (hc:Cn B m0 bk0 w0 a w fr st) (hl:fr2.length=fr.length) (h:∀ (i:Nat) (v:V),fr2[i]?=some v→v=.any∨fr[i]?=some v):Cn B m0 bk0 w0 a w fr2 st:=by
 obtain ⟨m,bk,h1,h2,h3⟩:=hc
 refine ⟨m,bk,h1,⟨h2.1.trans hl.symm,fun j g1 g2=>?_⟩,h3⟩
 rcases h j fr2[j] (List.getElem?_eq_getElem g2) with e | e
 ·rw [e];exact .any
 ·have hj:j < fr.length:=by omega
  have:=h2.2 j g1 hj
  rw [List.getElem?_eq_getElem hj] at e
  injection e with e
  rw [← e];exact this
theorem Cn.none {fr:List V} {st:List Slot} {a:Act} {w W:World} (hc:Cn B m0 bk0 ⟨W,false⟩ a w fr st):a.defers=[]:=by
 obtain ⟨_,_,_,_,hd,_⟩:=hc
 exact hd.none
theorem Cn.tmp {fr:List V} {st:List Slot} {a:Act} {w:World} (hc:Cn B m0 bk0 w0 a w fr st) {t:Nat} {v:V} (h:fr[t]?=some v) (hv:v.litE=true):a.tmps[t]?=some v.conc:=by
 obtain ⟨m,bk,_,h2,_⟩:=hc
 obtain ⟨g1,g2⟩:=List.getElem?_eq_some_iff.1 h
 have g3:t < a.tmps.size:=by rw [h2.1];exact g1
 have:=h2.2 t g3 g1
 rw [g2] at this
 rw [Array.getElem?_eq_getElem g3,this.conc hv]
theorem Cn.size {fr:List V} {st:List Slot} {a:Act} {w:World} (hc:Cn B m0 bk0 w0 a w fr st):a.tmps.size=fr.length:=by
 obtain ⟨m,bk,_,h2,_⟩:=hc
 exact h2.1
theorem Cn.cond {fr:List V} {st:List Slot} {a:Act} {w:World} (hc:Cn B m0 bk0 w0 a w fr st) {c:Operand} {t:Bool} (h:evO fr c=.b t):a.eval c=.bool t:=by
 obtain ⟨m,bk,_,h2,_⟩:=hc
 exact (h ▸ h2.ev c).int
end
def memB (bs:Nat) (m:Mem) (W:World):Mem:=fun a=>if a.block=bs then m a else W.cell? a
def bk1 (bs sz:Nat):Bks:=fun i=>if i=0 then some (bs,sz) else none
section
variable {P : Program} {B bs : Nat} {m : Mem} {W W' : World} {s s' : ByteArray} {T lo hi sz : Nat} {arr : Array Value}
theorem memB_at {a:Addr} (h:a.block≠bs):memB bs m W a=W.cell? a:=if_neg h
theorem memB_bs {a:Addr} (h:a.block=bs):memB bs m W a=m a:=if_pos h
theorem memB_le (hm:FastIn m W):∀ a u,m a=some u→memB bs m W a=some u:=fun a u h=>by
 by_cases e:a.block=bs
 ·rw [memB_bs e];exact h
 ·rw [memB_at e];exact hm a u h
theorem sim_start (hB:B≤W.heap.size) (hbB:B≤bs) (hm:FastIn m W) (hno:∀ k,m ⟨bs,k,none⟩=none) (hb:W.heap[bs]?=some (.cells arr T (lo,hi))) (hsz:arr.size=sz) (ht0:arr[0]?=some (.string s)) (hf:hi≤lo):Sim B (memB bs m W) (memB bs m W) (bk1 bs sz) W [.live [.s s] 0]:=by
 refine ⟨hB,fun a u h=>?_,fun _ _ h=>h,fun _ _ h=>.inl h,fun id cs frz h=>?_,fun i j ci fi cj fj x y h1 h2 _ _ _=>?_,fun id h=>?_⟩
 ·by_cases e:a.block=bs
  ·rw [memB_bs e] at h;exact hm a u h
  ·rw [memB_at e] at h;exact h
 ·have h0:id=0:=by have:=(List.getElem?_eq_some_iff.1 h).1;simpa using this
  subst h0
  simp only [List.getElem?_cons_zero,Option.some.injEq,Slot.live.injEq] at h
  obtain ⟨rfl,rfl⟩:=h
  have hp:0 < sz:=by rw [← hsz];exact (Array.getElem?_eq_some_iff.1 ht0).1
  exact ⟨bs,sz,arr,T,lo,hi,⟨rfl,hbB,hb,hsz,hf,Nat.succ_le_of_lt hp,(fun u hu=>by simp at hu;subst hu;rfl),fun k hk=>by
   have:k=0:=by simp at hk;exact hk
   subst this;exact ⟨_,ht0,.lit rfl⟩,fun k _=>by rw [memB_bs (bs:=bs) (a:=⟨bs,k,none⟩) rfl];exact hno k,fun k hk=>absurd hk (Nat.not_lt_zero _)⟩⟩
 ·have e1:i=0:=by have:=(List.getElem?_eq_some_iff.1 h1).1;simpa using this
  have e2:j=0:=by have:=(List.getElem?_eq_some_iff.1 h2).1;simpa using this
  rw [e1,e2]
 ·unfold bk1
  rw [if_neg]
  rintro rfl
  rcases h with h | h <;> simp at h
structure Grew (bs sz:Nat) (m:Mem) (s' : ByteArray) (T lo hi:Nat) (W W' : World):Prop where
 grown:W.grownBy W' (some bs)
 self:SelfS bs W W'
 fast:FastIn m W'
 text:∃ arr,W'.heap[bs]?=some (.cells arr T (lo,hi))∧arr.size=sz∧arr[0]?=some (.string s')
theorem cn_grown {a:Act} {fr:List V} {st:List Slot} (hm:FastIn m W) (hb:W.heap[bs]?=some (.cells arr T (lo,hi))) (h:Cn B (memB bs m W) (bk1 bs sz) ⟨W,false⟩ a W' fr st) (h0:st[0]?=some (.live [.s s'] 0)):Grew bs sz m s' T lo hi W W':=by
 obtain ⟨arr',T',lo',hi',ht,ht1,ht2⟩:=h.text h0 (show bk1 bs sz 0=some (bs,sz) from rfl)
 have hbel:Bel B W W':=h.bel
 obtain ⟨c',g1,gsz⟩:=hbel.shp _ _ _ _ _ hb
 rw [ht] at g1
 injection g1 with g1
 injection g1 with e1 e2 e3
 injection e3 with e3 e4
 subst e1 e2 e3 e4
 have hbl:=hbel.toBelow
 refine ⟨⟨hbl.os,hbl.tape,hbl.output,hbl.size,fun k hk hne=>?_⟩,⟨fun a0 s0 t f h0 h1=>?_,fun o h0 h1=>?_⟩,?_,_,ht,ht1,ht2⟩
 ·have hne' : k≠bs:=fun e=>hne (by rw [e])
  obtain ⟨o,ho⟩ : ∃ o,W.heap[k]?=some o:=⟨_,Array.getElem?_eq_getElem hk⟩
  by_cases hc:o.isCells=true
  ·cases o with
   | cells c t f =>
    rw [ho]
    exact h.fast (w0:=⟨W,false⟩) ho fun t ht=>by
     rw [memB_at hne'];simp [World.cell?,ho]
   | _=>simp [Obj.isCells] at hc
  ·rw [ho];exact hbel.oth k o ho (by simpa using hc)
 ·rw [hb] at h0
  injection h0 with h0
  injection h0 with x0 x1 x2
  subst x0 x1 x2
  exact ⟨_,s',ht,gsz,ht2⟩
 ·rw [hb] at h0
  injection h0 with h0
  subst h0
  simp [Obj.isCells] at h1
 ·obtain ⟨m2,bk2,q1,_,_,_,_⟩:=h
  exact fun a u hu=>q1.mem a u (q1.ext a u (memB_le hm a u hu))
theorem cn_new {a:Act} {fr:List V} {st:List Slot} (h:Cn B (memB bs m W) (bk1 bs sz) ⟨W,false⟩ a W' fr st) (hbs:bs < W.heap.size) {i:Nat} {cs:List V} {v:V} (hi:st[i]?=some (.live (v :: cs) 0)) (hi0:i≠0) {t:Nat} {s0:ByteArray} (h0:st[0]?=some (.live [.s s0] 0)) (ht:fr[t]?=some (.ptr i 0)) :
  ∃ b arr T f,a.tmps[t]?=some (.pointer (some ⟨b,0,none⟩))∧W.heap.size≤b∧W'.heap[b]?=some (.cells arr T f)∧∃ m2 bk2,Sim B (memB bs m W) m2 bk2 W' st∧RepL m2 bk2 (arr.toList.take (cs.length + 1)) (v :: cs):=by
 obtain ⟨m2,bk2,q1,q2,_,q4,q5⟩:=h
 have htl:=(List.getElem?_eq_some_iff.1 ht).1
 have hta:t < a.tmps.size:=by rw [q2.1];exact htl
 have hr:=q2.2 t hta htl
 rw [(List.getElem?_eq_some_iff.1 ht).2] at hr
 have go:∀ c,Rep m2 bk2 c (.ptr i 0)→∃ b sz,c=.pointer (some ⟨b,0,none⟩)∧bk2 i=some (b,sz):=fun c hr=>by
  cases hr with
  | ptr hb=>exact ⟨_,_,rfl,hb⟩
 obtain ⟨b,szb,hc,hb⟩:=go _ hr
 obtain ⟨arr,T,lo,hi',hlv,hrep⟩:=sim_live q1 hi hb
 refine ⟨b,arr,T,(lo,hi'),by rw [Array.getElem?_eq_getElem hta,hc],?_,hlv.heap,m2,bk2,q1,by simpa using hrep⟩
 rcases Nat.lt_or_ge b W.heap.size with g | g
 ·exfalso
  have hne:b≠bs:=fun e=>hi0 (q1.inj i 0 _ _ _ _ (b,szb) (bs,sz) hi h0 hb (q5 0 (bs,sz) rfl) e)
  obtain ⟨u,g1,_⟩:=hlv.rep 0 (by simp)
  -- the cell was there
  obtain ⟨o,ho⟩ : ∃ o,W.heap[b]?=some o:=⟨_,Array.getElem?_eq_getElem g⟩
  cases o with
  | cells c t f =>
   obtain ⟨c',s1,s2⟩:=q4.shp b c t f.1 f.2 ho
   rw [hlv.heap] at s1
   injection s1 with s1
   injection s1 with s1 _ _
   subst s1
   have hpos:0 < arr.size:=(Array.getElem?_eq_some_iff.1 g1).1
   have hm2:m2 ⟨b,0,none⟩=some c[0]:=q1.ext _ _ (by rw [memB_at hne];simp [World.cell?,ho])
   rw [hlv.mu 0 (Nat.zero_le _)] at hm2
   cases hm2
  | _ =>
   have:=q4.oth b _ ho rfl
   rw [hlv.heap] at this
   injection this with this
   cases this
 ·exact g
end
theorem yield_in {P:Program} {n l:Nat} {ops:Array Oper} {i:Nat} {o:Oper} {rest:List Nat} {a:Act} {w:World} {Q:Exit→Act→World→Prop} {f:Operand} {args:Array Operand} {tys:Array TypeId} {vs:Array Value} {R:Ending→World→Prop} (hi:ops[i]?=some o) (hop:o.op=.call ⟨.value f,args,tys⟩) (hw:Region.wanted o (yielded ops a.tmps)=true)
  (hf:a.eval f=.func (.yield l) #[] #[]) (ha:args.map a.eval=vs) (hY:YieldAt Fence.wide (n - 1) P l vs w R) (hR:∀ e w',R e w'→∃ v,e=.returned v∧wpOpsIn Fence.wide n P ops Q rest (a.put o.dst v) w'):wpOpsIn Fence.wide n P ops Q (i :: rest) a w:=by
 unfold wpOpsIn
 rw [hi]
 simp only
 rw [if_pos hw]
 refine ⟨fun _ _=>trivial,?_⟩
 show o.uponIn Fence.wide n P a _ Q ((execOp a.eval o).run P w)
 obtain ⟨fn,tmps,assign,body,hy,hr⟩:=hY
 have he:(execOp a.eval o).run P w=.ok (.round l fn tmps assign body) w:=by
  unfold execOp
  rw [hop]
  simp only [resolve,hf,ha,Deferred.ofValue,invoke]
  simpa [go_sem] using hy
 rw [he,Oper.uponIn_round]
 refine ⟨fun h=>by simp [Fence.wide] at h,hr.mono fun e w' h=>?_⟩
 obtain ⟨v,rfl,h2⟩:=hR e w' h
 exact h2
theorem grown_trans {A W C:World} {row:Option Nat} (h:A.grownBy W row) (k:W.grownBy C row):A.grownBy C row :=
 ⟨k.os.trans h.os,k.tape.trans h.tape,k.output.trans h.output,Nat.le_trans h.size k.size,fun i hi hn=>(k.block i (Nat.lt_of_lt_of_le hi h.size) hn).trans (h.block i hi hn)⟩
theorem self_trans {bs:Nat} {A W C:World} (h:SelfS bs A W) (k:SelfS bs W C):SelfS bs A C :=
 ⟨fun arr s t f h1 h2=>by obtain ⟨a1,s1,g1,g2,g3⟩:=h.self arr s t f h1 h2;obtain ⟨a2,s2,k1,k2,k3⟩:=k.self a1 s1 t f g1 g3;exact ⟨a2,s2,k1,k2.trans g2,k3⟩,fun o h1 h2=>k.not o (h.not o h1 h2) h2⟩
theorem arr3 {lb:Array Value} (h:lb.size=3):∃ c0 c1 c2,lb=#[c0,c1,c2]:=by
 refine ⟨lb[0],lb[1],lb[2],?_⟩
 apply Array.ext
 ·simpa using h
 ·intro i h1 h2
  have:i=0∨i=1∨i=2:=by simp at h2;omega
  rcases this with rfl | rfl | rfl <;> rfl
end Go.Proofs.YthnihifblmnkdaaGreat

namespace Go.Proofs.YthnihifblmnkdaaGreat
open Go.RowKit
abbrev ItmS:=ByteArray × BookRow
def rowC (r:BookRow):Value:=.agg #[.string r.User,.string r.Res,.bool r.P.On,.int .i64 r.P.Show,.int .i64 r.P.Prio,.int .i64 r.P.Seq]
def encS (x:ItmS):List Value:=[.string x.1,rowC x.2]
def rowsI (nx:BookState→ByteArray→Option (BookRow × Bool)) (ky:ByteArray→ByteArray→Option ByteArray) (se:SnapEyes→BookRow→Option Bool) (e:SnapEyes) (b:BookState):Nat→ByteArray→Option (List ItmS)
 | 0,_=>none
 | n + 1,a=>(nx b a).bind fun r=>bif r.2 then (ky r.1.User r.1.Res).bind fun k=>(se e r.1).bind fun s=>(rowsI nx ky se e b n k).bind fun l=>some (bif s then (k,r.1) :: l else l) else some []
namespace SnI
def cfst:Code→Code
 | .seq a _=>a
 | c=>c
def csnd:Code→Code
 | .seq _ b=>b
 | c=>c
def cinn:Code→Code
 | .block _ a=>a
 | .loop a=>a
 | c=>c
def cops:Code→Array Oper
 | .region _ o _=>o
 | _=>#[]
def cid:Code→Nat
 | .region i _ _=>i
 | _=>0
abbrev reg (c:Code):Code:=.region (cid c) (cops c) false
def lp (c:Code):Code:=cinn (cinn (csnd c))
def mid (c:Code):Code:=cinn (cfst (csnd (lp c)))
def tl (c:Code):Code:=csnd (csnd (lp c))
def q1 (c:Code):Code:=cfst c
def q2 (c:Code):Code:=cfst (cfst (lp c))
def q3 (c:Code):Code:=cfst (mid c)
def q4 (c:Code):Code:=cfst (csnd (mid c))
def q5 (c:Code):Code:=cfst (cfst (tl c))
def q6 (c:Code):Code:=csnd (cfst (tl c))
def q7 (c:Code):Code:=csnd (tl c)
def bodyOf (f:Func):Code:=f.body.getD .skip
def skel (c:Code):Code:=.seq (reg (q1 c)) (.block 0 (.loop (.seq (.seq (reg (q2 c)) (.cond (.tmp 13) .skip (.exit 0))) (.seq (.block 1 (.seq (reg (q3 c)) (.seq (reg (q4 c)) (.cond (.tmp 34) .ret .skip)))) (.seq (.seq (reg (q5 c)) (reg (q6 c))) (reg (q7 c)))))))
theorem skel_ok:Tryz.f120.body=some (skel (bodyOf Tryz.f120)):=by kernel_rfl
abbrev o1:List AOper:=[⟨(some 8),.ld 2 true (.tmp 1),none,0⟩,⟨(some 9),.ld 1 false (.tmp 2),none,0⟩,⟨(some 10),.cl 121 [(.tmp 8),(.tmp 9)],none,0⟩,⟨(some 7),.mv (.tmp 10),none,0⟩,⟨(some 11),.ex (.tmp 7) 0,none,0⟩,⟨(some 12),.ex (.tmp 7) 1,none,0⟩,⟨(some 5),(.al (.agg [(.lit (.string ⟨#[]⟩)),(.lit (.string ⟨#[]⟩)),(.lit (.bool false)),(.lit (.int .i64 0)),(.lit (.int .i64 0)),(.lit (.int .i64 0))])),none,0⟩,⟨none,.st 6 (.tmp 5) (.tmp 11),none,1⟩,⟨(some 6),.mv (.tmp 12),none,1⟩]
theorem m1:MatchC Tryz.prog (reg (q1 (bodyOf Tryz.f120))) (.reg 1 o1 none):=comp_ok (by kernel_rfl)
abbrev o2:List AOper:=[⟨(some 13),.mv (.tmp 6),none,0⟩]
theorem m2:MatchC Tryz.prog (reg (q2 (bodyOf Tryz.f120))) (.reg 0 o2 none):=comp_ok (by kernel_rfl)
abbrev o3:List AOper:=[⟨(some 20),.fa 0 (.tmp 5),none,0⟩,⟨(some 21),.ld 1 false (.tmp 20),none,0⟩,⟨(some 22),.fa 1 (.tmp 5),none,0⟩,⟨(some 23),.ld 1 false (.tmp 22),none,0⟩,⟨(some 24),.cl 26 [(.tmp 21),(.tmp 23)],none,0⟩,⟨none,.st 1 (.tmp 2) (.tmp 24),none,0⟩]
theorem m3:MatchC Tryz.prog (reg (q3 (bodyOf Tryz.f120))) (.reg 0 o3 none):=comp_ok (by kernel_rfl)
abbrev o4:List AOper:=[⟨(some 25),.ld 2 true (.tmp 3),none,0⟩,⟨(some 26),.ld 6 true (.tmp 5),none,0⟩,⟨(some 27),.cl 28 [(.tmp 25),(.tmp 26)],none,0⟩,⟨(some 28),.mv (.tmp 27),none,0⟩,⟨(some 29),.mv (.tmp 0),(some (28,true)),0⟩,⟨(some 30),.ld 1 false (.tmp 2),(some (28,true)),0⟩,⟨(some 31),.ld 6 true (.tmp 5),(some (28,true)),0⟩,⟨(some 32),.cv (.tmp 29) [(.tmp 30),(.tmp 31)],(some (28,true)),0⟩,⟨(some 33),.un .not (.tmp 32),(some (28,true)),0⟩,⟨(some 34),.pick (.tmp 28) (.tmp 33) (.const (.bool false)),none,0⟩]
theorem m4:MatchC Tryz.prog (reg (q4 (bodyOf Tryz.f120))) (.reg 0 o4 none):=comp_ok (by kernel_rfl)
abbrev o5:List AOper:=[⟨(some 35),.ld 6 true (.tmp 5),none,0⟩]
theorem m5:MatchC Tryz.prog (reg (q5 (bodyOf Tryz.f120))) (.reg 0 o5 none):=comp_ok (by kernel_rfl)
abbrev o6:List AOper:=[⟨(some 5),(.al (.agg [(.lit (.string ⟨#[]⟩)),(.lit (.string ⟨#[]⟩)),(.lit (.bool false)),(.lit (.int .i64 0)),(.lit (.int .i64 0)),(.lit (.int .i64 0))])),none,0⟩,⟨none,.st 6 (.tmp 5) (.tmp 35),none,1⟩]
theorem m6:MatchC Tryz.prog (reg (q6 (bodyOf Tryz.f120))) (.reg 1 o6 none):=comp_ok (by kernel_rfl)
abbrev o7:List AOper:=[⟨(some 15),.ld 2 true (.tmp 1),none,0⟩,⟨(some 16),.ld 1 false (.tmp 2),none,0⟩,⟨(some 17),.cl 121 [(.tmp 15),(.tmp 16)],none,0⟩,⟨(some 14),.mv (.tmp 17),none,0⟩,⟨(some 18),.ex (.tmp 14) 0,none,0⟩,⟨(some 19),.ex (.tmp 14) 1,none,0⟩,⟨none,.st 6 (.tmp 5) (.tmp 18),none,0⟩,⟨(some 6),.mv (.tmp 19),none,0⟩]
theorem m7:MatchC Tryz.prog (reg (q7 (bodyOf Tryz.f120))) (.reg 0 o7 none):=comp_ok (by kernel_rfl)

def yv (l:Nat):Value:=.func (.yield l) #[] #[]
abbrev fr1 (yv:Value) (e:SnapEyes) (b:BookState):List V:=[.lit yv,.eptr [.i b.Seq,.sl (List.map BookRow.v b.Rows) false],.ptr 0 0,.eptr [.sl (List.map V.s e.Users) false,.sl (List.map V.s e.Keys) false],.any,.any,.any,.any,.any,.any,.any,.any,.any,.any,.any,.any,.any,.any,.any,.any,.any,.any,.any,.any,.any,.any,.any,.any,.any,.any,.any,.any,.any,.any,.any,.any]
abbrev fr2 (yv:Value) (e:SnapEyes) (b:BookState) (r:BookRow × Bool):List V:=[.lit yv,.eptr [.i b.Seq,.sl (List.map BookRow.v b.Rows) false],.ptr 0 0,.eptr [.sl (List.map V.s e.Users) false,.sl (List.map V.s e.Keys) false],.any,.eptr [.s r.1.User,.s r.1.Res,.b r.1.P.On,.i r.1.P.Show,.i r.1.P.Prio,.i r.1.P.Seq],.b r.2,.any,.any,.any,.any,.any,.any,.any,.any,.any,.any,.any,.any,.any,.any,.any,.any,.any,.any,.any,.any,.any,.any,.any,.any,.any,.any,.any,.any,.any]
abbrev frh (yv:Value) (e:SnapEyes) (b:BookState) (r:BookRow × Bool):List V:=[.lit yv,.eptr [.i b.Seq,.sl (List.map BookRow.v b.Rows) false],.ptr 0 0,.eptr [.sl (List.map V.s e.Users) false,.sl (List.map V.s e.Keys) false],.any,.ptr 1 0,.b r.2,.any,.any,.any,.any,.any,.any,.any,.any,.any,.any,.any,.any,.any,.any,.any,.any,.any,.any,.any,.any,.any,.any,.any,.any,.any,.any,.any,.any,.any]
abbrev fr5 (yv:Value) (e:SnapEyes) (b:BookState) (r:BookRow × Bool):List V:=[.lit yv,.eptr [.i b.Seq,.sl (List.map BookRow.v b.Rows) false],.ptr 0 0,.eptr [.sl (List.map V.s e.Users) false,.sl (List.map V.s e.Keys) false],.any,.eptr [.s r.1.User,.s r.1.Res,.b r.1.P.On,.i r.1.P.Show,.i r.1.P.Prio,.i r.1.P.Seq],.any,.any,.any,.any,.any,.any,.any,.any,.any,.any,.any,.any,.any,.any,.any,.any,.any,.any,.any,.any,.any,.any,.any,.any,.any,.any,.any,.any,.any,.agg [.s r.1.User,.s r.1.Res,.b r.1.P.On,.i r.1.P.Show,.i r.1.P.Prio,.i r.1.P.Seq]]
abbrev fr6 (yv:Value) (e:SnapEyes) (b:BookState):List V:=[.lit yv,.eptr [.i b.Seq,.sl (List.map BookRow.v b.Rows) false],.ptr 0 0,.eptr [.sl (List.map V.s e.Users) false,.sl (List.map V.s e.Keys) false],.any,.ptr 1 0,.any,.any,.any,.any,.any,.any,.any,.any,.any,.any,.any,.any,.any,.any,.any,.any,.any,.any,.any,.any,.any,.any,.any,.any,.any,.any,.any,.any,.any,.any]
abbrev fr4 (yv:Value) (e:SnapEyes) (b:BookState) (r:BookRow × Bool) (s:Bool):List V:=[.lit yv,.eptr [.i b.Seq,.sl (List.map BookRow.v b.Rows) false],.ptr 0 0,.eptr [.sl (List.map V.s e.Users) false,.sl (List.map V.s e.Keys) false],.any,.eptr [.s r.1.User,.s r.1.Res,.b r.1.P.On,.i r.1.P.Show,.i r.1.P.Prio,.i r.1.P.Seq],.any,.any,.any,.any,.any,.any,.any,.any,.any,.any,.any,.any,.any,.any,.any,.any,.any,.any,.any,.any,.any,.any,.b s,.any,.any,.any,.any,.any,.any,.any]
abbrev fr4y (yv:Value) (e:SnapEyes) (b:BookState) (r:BookRow × Bool) (k:ByteArray):List V:=[.lit yv,.eptr [.i b.Seq,.sl (List.map BookRow.v b.Rows) false],.ptr 0 0,.eptr [.sl (List.map V.s e.Users) false,.sl (List.map V.s e.Keys) false],.any,.eptr [.s r.1.User,.s r.1.Res,.b r.1.P.On,.i r.1.P.Show,.i r.1.P.Prio,.i r.1.P.Seq],.any,.any,.any,.any,.any,.any,.any,.any,.any,.any,.any,.any,.any,.any,.any,.any,.any,.any,.any,.any,.any,.any,.b true,.lit yv,.s k,.agg [.s r.1.User,.s r.1.Res,.b r.1.P.On,.i r.1.P.Show,.i r.1.P.Prio,.i r.1.P.Seq],.any,.any,.any,.any]
abbrev frz (yv:Value) (e:SnapEyes) (b:BookState) (r:BookRow × Bool):List V:=[.lit yv,.eptr [.i b.Seq,.sl (List.map BookRow.v b.Rows) false],.ptr 0 0,.eptr [.sl (List.map V.s e.Users) false,.sl (List.map V.s e.Keys) false],.any,.eptr [.s r.1.User,.s r.1.Res,.b r.1.P.On,.i r.1.P.Show,.i r.1.P.Prio,.i r.1.P.Seq],.any,.any,.any,.any,.any,.any,.any,.any,.any,.any,.any,.any,.any,.any,.any,.any,.any,.any,.any,.any,.any,.any,.any,.any,.any,.any,.any,.any,.any,.any]
abbrev fr4r (yv:Value) (e:SnapEyes) (b:BookState) (r:BookRow × Bool):List V:=[.lit yv,.eptr [.i b.Seq,.sl (List.map BookRow.v b.Rows) false],.ptr 0 0,.eptr [.sl (List.map V.s e.Users) false,.sl (List.map V.s e.Keys) false],.any,.eptr [.s r.1.User,.s r.1.Res,.b r.1.P.On,.i r.1.P.Show,.i r.1.P.Prio,.i r.1.P.Seq],.any,.any,.any,.any,.any,.any,.any,.any,.any,.any,.any,.any,.any,.any,.any,.any,.any,.any,.any,.any,.any,.any,.b true,.any,.any,.any,.b true,.any,.any,.any]
abbrev frq:List V:=[.any,.any,.any,.any,.any,.any,.any,.any,.any,.any,.any,.any,.any,.any,.any,.any,.any,.any,.any,.any,.any,.any,.any,.any,.any,.any,.any,.any,.b true,.any,.any,.any,.b false,.any,.any,.any]
abbrev rowCells (r:BookRow):List V:=[.s r.User,.s r.Res,.b r.P.On,.i r.P.Show,.i r.P.Prio,.i r.P.Seq]
end SnI
def CanonL:List V→List V→Prop
 | [],[]=>True
 | v :: l,u :: l'=>(v=.any∨v=u)∧CanonL l l'
 | _,_=>False
theorem canonL_get:∀ {l l' : List V},CanonL l l'→l.length=l'.length∧∀ (i:Nat) (v:V),l[i]?=some v→v=.any∨l'[i]?=some v
 | [],[],_=>⟨rfl,fun i v h=>by simp at h⟩
 | v :: l,u :: l',h=>by
  obtain ⟨h1,h2⟩:=canonL_get h.2
  refine ⟨by simp [h1],fun i x hx=>?_⟩
  cases i with
  | zero =>
   simp only [List.getElem?_cons_zero,Option.some.injEq] at hx ⊢
   subst hx
   rcases h.1 with e | e
   ·exact .inl e
   ·exact .inr e.symm
  | succ i=>simpa using h2 i x (by simpa using hx)
 | [],_ :: _,h=>h.elim
 | _ :: _,[],h=>h.elim
theorem Cn.canonL {w0:Org} {B:Nat} {m0:Mem} {bk0:Bks} {fr fr2:List V} {st:List Slot} {a:Act} {w:World} (hc:Cn B m0 bk0 w0 a w fr st) (h:CanonL fr2 fr):Cn B m0 bk0 w0 a w fr2 st :=
 hc.canon (canonL_get h).1 (canonL_get h).2
def CanonR (mm:Mem) (bk:Bks) (tmps:Array Value):Nat→List V→Prop
 | _,[]=>True
 | j,v :: l=>(v=.any∨∃ c,tmps[j]?=some c∧Rep mm bk c v)∧CanonR mm bk tmps (j + 1) l
theorem canonR_get {mm:Mem} {bk:Bks} {tmps:Array Value}:∀ {l:List V} {j:Nat},CanonR mm bk tmps j l→∀ (i:Nat) (h:i < l.length) (c:Value),tmps[j + i]?=some c→Rep mm bk c l[i]
 | v :: l,j,h,0,_,c,hc=>by
  rcases h.1 with e | ⟨c',h1,h2⟩
  ·rw [List.getElem_cons_zero,e];exact .any
  ·rw [Nat.add_zero,h1] at hc
   injection hc with hc
   subst hc;exact h2
 | v :: l,j,h,i + 1,hi,c,hc=>by
  have:=canonR_get h.2 i (by simpa using hi) c (by rw [show j + 1 + i=j + (i + 1) by omega];exact hc)
  simpa using this
theorem CanonR.rep {mm:Mem} {bk:Bks} {tmps:Array Value} {l:List V} (h:CanonR mm bk tmps 0 l) (hs:tmps.size=l.length):FrRep mm bk tmps l :=
 ⟨hs,fun j h1 h2=>canonR_get h j h2 _ (by rw [Nat.zero_add];exact Array.getElem?_eq_getElem h1)⟩
theorem ptr_inv {m:Mem} {bk:Bks} {c:Value} {i:Nat} (h:Rep m bk c (.ptr i 0)):∃ b sz,c=.pointer (some ⟨b,0,none⟩)∧bk i=some (b,sz):=by
 cases h with
 | ptr hb=>exact ⟨_,_,rfl,hb⟩
theorem eptr2 {m:Mem} {bk:Bks} {k:Nat} {x y:Value} {v u:V} (hx:m ⟨k,0,none⟩=some x) (hy:m ⟨k,1,none⟩=some y) (rx:Rep m noBk x v) (ry:Rep m noBk y u) (hv:v.one=true) (hu:u.one=true):Rep m bk (.pointer (some ⟨k,0,none⟩)) (.eptr [v,u]):=by
 refine .eptr (us:=fun j=>if j=0 then x else y) (fun z hz=>?_) (fun j hj=>?_) (fun j hj=>?_)
 ·simp at hz;rcases hz with rfl | rfl <;> assumption
 ·have:j=0∨j=1:=by simp at hj;omega
  rcases this with rfl | rfl
  ·exact hx
  ·exact hy
 ·have:j=0∨j=1:=by simp at hj;omega
  rcases this with rfl | rfl
  ·exact rx
  ·exact ry
theorem eptrL {mm:Mem} {bk:Bks} {k:Nat} {arr:Array Value} {vs:List V} (hm:∀ t,t < vs.length→mm ⟨k,t,none⟩=arr[t]?) (ha:arr.toList.take vs.length=V.conc.concL vs) (hv:∀ v ∈ vs,∃ u:Value,v=.lit u∧u.oneCell'=true):Rep mm bk (.pointer (some ⟨k,0,none⟩)) (.eptr vs):=by
 have hat:∀ t (h:t < vs.length),arr[t]?=some vs[t].conc:=fun t h=>by
  have h2:(arr.toList.take vs.length)[t]?=(V.conc.concL vs)[t]?:=by rw [ha]
  rw [List.getElem?_take,if_pos h,List.getElem?_eq_getElem (l:=V.conc.concL vs) (by rw [concL_len];exact h),concL_get vs t h (by rw [concL_len];exact h)] at h2
  simpa using h2
 refine .eptr (us:=fun t=>(vs.getD t .any).conc) (fun z hz=>?_) (fun j hj=>?_) (fun j hj=>?_)
 ·obtain ⟨u,rfl,hu⟩:=hv z hz;exact hu
 ·rw [Nat.zero_add,hm j hj,hat j hj];simp [List.getD,hj]
 ·obtain ⟨u,e,hu⟩:=hv vs[j] (List.getElem_mem hj)
  have:(vs.getD j .any)=vs[j]:=by simp [List.getD,hj]
  rw [this,e];exact .lit hu
section
open SnI
variable {nx : BookState → ByteArray → Option (BookRow × Bool)} {ky : ByteArray → ByteArray → Option ByteArray} {se : SnapEyes → BookRow → Option Bool}
abbrev encN:BookRow × Bool→V:=fun r=>.tup [BookRow.v r.1,V.b r.2]
section
variable (y : Value) (e : SnapEyes) (b : BookState) {r r2 : BookRow × Bool} {s k : ByteArray} {t : Bool}
theorem w1_w (hN:∀ b a,CallsO Tryz.prog 121 [b.v,.s a] encN (nx b a)) (hr:nx b s=some r):wpOps Tryz.prog 1 o1 [] (fr1 y e b) ([.live [.s s] 0]++List.replicate 1 .fresh) fun _ fr' st'=>CanonL (frh y e b r) fr'∧st'=[.live [.s s] 0,.live (rowCells r.1) 0]:=by
 conv=>whnf
 refine Ask_V0 (hN b s r hr) rfl rfl ?_;conv=>whnf
 refine ⟨Nat.le_of_ble_eq_true rfl,?_⟩;conv=>whnf
 refine ⟨?_,rfl⟩
 repeat' (first | exact trivial | refine ⟨?_,?_⟩ | exact .inl rfl | exact .inr rfl)
theorem w2_w:wpOps Tryz.prog 1 o2 [] (fr2 y e b r) ([.live [.s s] 0]++List.replicate 0 .fresh) fun _ fr' st'=>CanonL (fr2 y e b r) fr'∧evO fr' (.tmp 13)=.b r.2∧st'=[.live [.s s] 0]:=by
 conv=>whnf
 refine ⟨?_,rfl,rfl⟩
 repeat' (first | exact trivial | refine ⟨?_,?_⟩ | exact .inl rfl | exact .inr rfl)
theorem w3_w (hK:∀ u r,CallsO Tryz.prog 26 [.s u,.s r] V.s (ky u r)) (hk:ky r.1.User r.1.Res=some k):wpOps Tryz.prog 1 o3 [] (fr2 y e b r) ([.live [.s s] 0]++List.replicate 0 .fresh) fun _ fr' st'=>CanonL (fr2 y e b r) fr'∧st'=[.live [.s k] 0]:=by
 conv=>whnf
 refine ⟨Nat.le_of_ble_eq_true rfl,?_⟩;conv=>whnf
 refine ⟨Nat.le_of_ble_eq_true rfl,?_⟩;conv=>whnf
 refine Ask_V0 (hK _ _ k hk) rfl rfl ?_;conv=>whnf
 refine ⟨Nat.le_of_ble_eq_true rfl,?_⟩;conv=>whnf
 refine ⟨?_,rfl⟩
 repeat' (first | exact trivial | refine ⟨?_,?_⟩ | exact .inl rfl | exact .inr rfl)
theorem w4a_w (hS:∀ e x,CallsO Tryz.prog 28 [e.v,BookRow.v x] V.b (se e x)) (hs:se e r.1=some t):wpOps Tryz.prog 1 (o4.take 4) [] (fr2 y e b r) [.live [.s k] 0] fun _ fr' st'=>CanonL (fr4 y e b r t) fr'∧st'=[.live [.s k] 0]:=by
 conv=>whnf
 refine Ask_V0 (hS e r.1 t hs) rfl rfl ?_;conv=>whnf
 refine ⟨?_,rfl⟩
 repeat' (first | exact trivial | refine ⟨?_,?_⟩ | exact .inl rfl | exact .inr rfl)
theorem w4b_w:wpOps Tryz.prog 1 ((o4.drop 4).take 3) [] (fr4 y e b r true) [.live [.s k] 0] fun _ fr' st'=>CanonL (fr4y y e b r k) fr'∧st'=[.live [.s k] 0]:=by
 conv=>whnf
 iterate 3 (first | (refine Tst.T ?_;conv=>whnf) | skip)
 refine ⟨?_,rfl⟩
 repeat' (first | exact trivial | refine ⟨?_,?_⟩ | exact .inl rfl | exact .inr rfl)
theorem w4c_w:wpOps Tryz.prog 1 (o4.drop 4) [] (fr4 y e b r false) [.live [.s k] 0] fun _ fr' st'=>CanonL (frz y e b r) fr'∧evO fr' (.tmp 34)=.b false∧st'=[.live [.s k] 0]:=by
 conv=>whnf
 iterate 6 (first | (refine Tst.F ?_;conv=>whnf) | skip)
 refine ⟨?_,rfl,rfl⟩
 repeat' (first | exact trivial | refine ⟨?_,?_⟩ | exact .inl rfl | exact .inr rfl)
theorem w4d_w:wpOps Tryz.prog 1 (o4.drop 8) [] (fr4r y e b r) [.live [.s k] 0] fun _ fr' st'=>CanonL (frz y e b r) fr'∧evO fr' (.tmp 34)=.b false∧st'=[.live [.s k] 0]:=by
 conv=>whnf
 iterate 2 (first | (refine Tst.T ?_;conv=>whnf) | skip)
 refine ⟨?_,rfl,rfl⟩
 repeat' (first | exact trivial | refine ⟨?_,?_⟩ | exact .inl rfl | exact .inr rfl)
theorem w5_w:wpOps Tryz.prog 1 o5 [] (frz y e b r) ([.live [.s k] 0]++List.replicate 0 .fresh) fun _ fr' st'=>CanonL (fr5 y e b r) fr'∧st'=[.live [.s k] 0]:=by
 conv=>whnf
 refine ⟨?_,rfl⟩
 repeat' (first | exact trivial | refine ⟨?_,?_⟩ | exact .inl rfl | exact .inr rfl)
theorem w6_w:wpOps Tryz.prog 1 o6 [] (fr5 y e b r) ([.live [.s k] 0]++List.replicate 1 .fresh) fun _ fr' st'=>CanonL (fr6 y e b) fr'∧st'=[.live [.s k] 0,.live (rowCells r.1) 0]:=by
 conv=>whnf
 refine ⟨Nat.le_of_ble_eq_true rfl,?_⟩;conv=>whnf
 refine ⟨?_,rfl⟩
 repeat' (first | exact trivial | refine ⟨?_,?_⟩ | exact .inl rfl | exact .inr rfl)
theorem w7_w (hN:∀ b a,CallsO Tryz.prog 121 [b.v,.s a] encN (nx b a)) (hr:nx b k=some r2):wpOps Tryz.prog 2 o7 [] (fr6 y e b) ([.live [.s k] 0,.live (rowCells r.1) 0]++List.replicate 0 .fresh) fun _ fr' st'=>CanonL (frh y e b r2) fr'∧st'=[.live [.s k] 0,.live (rowCells r2.1) 0]:=by
 conv=>whnf
 refine Ask_V0 (hN b k r2 hr) rfl rfl ?_;conv=>whnf
 refine ⟨Nat.le_of_ble_eq_true rfl,?_⟩;conv=>whnf
 refine ⟨?_,rfl⟩
 repeat' (first | exact trivial | refine ⟨?_,?_⟩ | exact .inl rfl | exact .inr rfl)
end
theorem rowLits (r:BookRow):∀ v ∈ rowCells r,∃ u:Value,v=.lit u∧u.oneCell'=true:=fun v hv=>by
 simp only [rowCells,List.mem_cons,List.not_mem_nil,or_false] at hv
 rcases hv with rfl | rfl | rfl | rfl | rfl | rfl <;> exact ⟨_,rfl,rfl⟩
structure HeadI (nx:BookState→ByteArray→Option (BookRow × Bool)) (ky:ByteArray→ByteArray→Option ByteArray) (se:SnapEyes→BookRow→Option Bool) (e:SnapEyes) (b:BookState) (xs:List ItmS) (J:List ItmS→World→Prop) (B bs sz T lo hi:Nat) (m:Mem) (y c0 c2:Value) (n:Nat) (a:Act) (w:World):Prop where
 ex:∃ (pre ys:List ItmS) (s:ByteArray) (r:BookRow × Bool) (W0:World) (bx:Nat) (arx:Array Value) (T' : TypeId) (f' : Nat × Nat),
  xs=pre++ys∧rowsI nx ky se e b n s=some ys∧nx b s=some r∧J pre W0∧W0.grownBy w (some bs)∧SelfS bs W0 w∧B≤W0.heap.size∧FastIn m w∧(∃ arr,w.heap[bs]?=some (.cells arr T (lo,hi))∧arr.size=sz∧arr[0]?=some (.string s)) ∧
  a.defers=[]∧a.tmps.size=36∧a.tmps[0]?=some y∧a.tmps[1]?=some c0∧a.tmps[2]?=some (.pointer (some ⟨bs,0,none⟩))∧a.tmps[3]?=some c2∧a.tmps[5]?=some (.pointer (some ⟨bx,0,none⟩))∧a.tmps[6]?=some (.bool r.2) ∧
  W0.heap.size≤bx∧w.heap[bx]?=some (.cells arx T' f')∧arx.toList.take 6=V.conc.concL (rowCells r.1)∧bx≠bs
set_option maxHeartbeats 4000000 in
theorem it_rows (hN:∀ b a,CallsO Tryz.prog 121 [b.v,.s a] encN (nx b a)) (hK:∀ u r,CallsO Tryz.prog 26 [.s u,.s r] V.s (ky u r)) (hS:∀ e x,CallsO Tryz.prog 28 [e.v,BookRow.v x] V.b (se e x))
  {e:SnapEyes} {b:BookState} {xs:List ItmS} {F:Nat} {s:ByteArray} {st:List Slot} {i3 i4 i5:Nat} (hx:rowsI nx ky se e b F s=some xs) (h3:st[i3]?=some (.live [.i b.Seq,.sl (List.map BookRow.v b.Rows) false] 2)) (h4:st[i4]?=some (.live [.s s] 0)) (h5:st[i5]?=some (.live [.sl (List.map V.s e.Users) false,.sl (List.map V.s e.Keys) false] 2)) :
  ItS Tryz.prog 120 [.ptr i3 0,.ptr i4 0,.ptr i5 0] st i4 encS xs:=by
 intro B m0 m bk w lb hg hsim hlb
 obtain ⟨c0,c1,c2,rfl⟩:=arr3 hlb.1
 have r0:Rep m bk c0 (.ptr i3 0):=hlb.2 0 (by simp) (by simp)
 have r1:Rep m bk c1 (.ptr i4 0):=hlb.2 1 (by simp) (by simp)
 have r2:Rep m bk c2 (.ptr i5 0):=hlb.2 2 (by simp) (by simp)
 obtain ⟨kb,x0,y0,rfl,hx0,hy0,rx0,ry0⟩:=fast2 hsim h3 rfl rfl r0
 obtain ⟨ke,x2,y2,rfl,hx2,hy2,rx2,ry2⟩:=fast2 hsim h5 rfl rfl r2
 obtain ⟨bs,sz,rfl,hbs⟩:=ptr_inv r1
 obtain ⟨hB,hno,arr,T,lo,hi,ht,hsz,ht0,hf⟩:=text_block hsim h4 hbs
 refine ⟨bs,sz,hbs,lt_of_some ht,?_⟩
 have RB:∀ {mm:Mem} {bk' : Bks},(∀ a u,m a=some u→mm a=some u)→Rep mm bk' (.pointer (some ⟨kb,0,none⟩)) (.eptr [.i b.Seq,.sl (List.map BookRow.v b.Rows) false]):=fun hle=>(eptr2 (bk:=noBk) hx0 hy0 rx0 ry0 rfl rfl).mono hle fun _ _ h=>by cases h
 have RE:∀ {mm:Mem} {bk' : Bks},(∀ a u,m a=some u→mm a=some u)→Rep mm bk' (.pointer (some ⟨ke,0,none⟩)) (.eptr [.sl (List.map V.s e.Users) false,.sl (List.map V.s e.Keys) false]):=fun hle=>(eptr2 (bk:=noBk) hx2 hy2 rx2 ry2 rfl rfl).mono hle fun _ _ h=>by cases h
 intro n l J Jx W hBW hJ hJx hst hY hJ0
 obtain ⟨hst1,hst2⟩:=hst
 have htW:W.heap[bs]?=some (.cells arr T (lo,hi)):=hst1.trans ht
 have GMB:∀ {W:World},FastIn m W→GM (memB bs m W):=fun hm=>by obtain ⟨n,hn⟩:=hg;exact ⟨n,memB_le hm _ _ hn⟩
 -- where a piece begins
 have begins:∀ {W:World} {a:Act} {fr:List V} {s:ByteArray},B≤W.heap.size→FastIn m W→(∃ arr,W.heap[bs]?=some (.cells arr T (lo,hi))∧arr.size=sz∧arr[0]?=some (.string s))→a.defers=[]→FrRep (memB bs m W) (bk1 bs sz) a.tmps fr→Cn B (memB bs m W) (bk1 bs sz) ⟨W,false⟩ a W fr [.live [.s s] 0]:=fun {W a fr s} h1 h2 h3 h4 h5=>by
  obtain ⟨ar,g1,g2,g3⟩:=h3
  have:=Cn.start (sim_start h1 hB h2 hno g1 g2 g3 hf) h5
  have ea:a={ tmps:=a.tmps,defers:=[] }:=by cases a;simp only at h4;rw [h4]
  rw [← ea] at this;exact this
 obtain ⟨R,hR⟩ : ∃ R:Ending→World→Prop,R=fun e W'=>(∃ v,e=.returned v)∧(J xs W'∨∃ pre post,xs=pre++post∧Jx pre W'):=⟨_,rfl⟩
 rw [← hR]
 refine callsIn_of_wp Tryz.func120 skel_ok trivial ?_
 have hLO:¬ LetsOut (bodyPost Tryz.prog Tryz.f120 R):=by
  rintro ⟨a,w,h⟩
  have h:R .outgrown w:=h
  rw [hR] at h
  obtain ⟨⟨v,hv⟩,_⟩:=h
  cases hv
 have hend:∀ {a:Act} {w:World},a.defers=[]→J xs w→bodyPost Tryz.prog Tryz.f120 R .normal a w:=fun h1 h2=>bodyPost_end (results_none rfl _ _ _) h1 (by rw [hR];exact ⟨⟨_,rfl⟩,.inl h2⟩)
 have hret:∀ {a:Act} {w:World} {pre post:List ItmS},a.defers=[]→xs=pre++post→Jx pre w→bodyPost Tryz.prog Tryz.f120 R .ret a w:=fun h1 h2 h3=>bodyPost_ret (results_none rfl _ _ _) h1 (by rw [hR];exact ⟨⟨_,rfl⟩,.inr ⟨_,_,h2,h3⟩⟩)
 clear hR
 obtain ⟨Q,hQ⟩ : ∃ Q,Q=bodyPost Tryz.prog Tryz.f120 R:=⟨_,rfl⟩
 rw [← hQ] at hLO hend hret ⊢
 clear hQ
 obtain ⟨a,ha⟩ : ∃ a:Act,a={ tmps:=#[.func (.yield l) #[] #[]]++#[.pointer (some ⟨kb,0,none⟩),.pointer (some ⟨bs,0,none⟩),.pointer (some ⟨ke,0,none⟩)]++Array.replicate (Tryz.f120.ntmps - (#[.func (.yield l) #[] #[]]++#[.pointer (some ⟨kb,0,none⟩),.pointer (some ⟨bs,0,none⟩),.pointer (some ⟨ke,0,none⟩)]:Array Value).size) undef,defers:=[] }:=⟨_,rfl⟩
 rw [← ha]
 have asz:a.tmps.size=36:=by rw [ha];simp [Tryz.ntmps120]
 have ad:a.defers=[]:=by rw [ha]
 have a0:a.tmps[0]?=some (yv l):=by rw [ha];simp [yv]
 have a1:a.tmps[1]?=some (.pointer (some ⟨kb,0,none⟩)):=by rw [ha];simp
 have a2:a.tmps[2]?=some (.pointer (some ⟨bs,0,none⟩)):=by rw [ha];simp
 have a3:a.tmps[3]?=some (.pointer (some ⟨ke,0,none⟩)):=by rw [ha];simp
 clear ha
 have RY:∀ {mm:Mem} {bk' : Bks},Rep mm bk' (yv l) (.lit (yv l)):=.lit rfl
 have RP:∀ {mm:Mem},Rep mm (bk1 bs sz) (.pointer (some ⟨bs,0,none⟩)) (.ptr 0 0):=.ptr (sz:=sz) rfl
 -- the first row
 obtain ⟨r,hr⟩ : ∃ r,nx b s=some r:=by
  cases F with
  | zero=>cases hx
  | succ F =>
   simp only [rowsI] at hx
   obtain ⟨r,hr,_⟩:=Option.bind_eq_some_iff.1 hx
   exact ⟨r,hr⟩
 -- what a piece ends with
 have ends:∀ {W W' : World} {a' : Act} {fr:List V} {s s0:ByteArray} {r:BookRow × Bool} {pre ys:List ItmS} {W0:World} {k:Nat},xs=pre++ys→rowsI nx ky se e b k s=some ys→nx b s=some r→J pre W0→W0.grownBy W (some bs)→SelfS bs W0 W→B≤W0.heap.size→FastIn m W→(∃ arr,W.heap[bs]?=some (.cells arr T (lo,hi))∧arr.size=sz∧arr[0]?=some (.string s0)) →
   Cn B (memB bs m W) (bk1 bs sz) ⟨W,false⟩ a' W' fr [.live [.s s] 0,.live (rowCells r.1) 0]→CanonL (frh (yv l) e b r) fr→a'.tmps[0]?=some (yv l)→a'.tmps[1]?=some (.pointer (some ⟨kb,0,none⟩))→a'.tmps[2]?=some (.pointer (some ⟨bs,0,none⟩))→a'.tmps[3]?=some (.pointer (some ⟨ke,0,none⟩)) →
   HeadI nx ky se e b xs J B bs sz T lo hi m (yv l) (.pointer (some ⟨kb,0,none⟩)) (.pointer (some ⟨ke,0,none⟩)) k a' W':=by
  intro W W' a' fr s s0 r pre ys W0 k h1 h2 h3 h4 h5 h6 h7 h8 h9 hc hcl t0 t1 t2 t3
  obtain ⟨ar,g1,g2,g3⟩:=h9
  have hc:=hc.canonL hcl
  have hgr:=cn_grown h8 g1 hc rfl
  obtain ⟨bx,arx,T',f',b1,b2,b3,m2,bk2,q1,q2⟩:=cn_new (i:=1) (cs:=[.s r.1.Res,.b r.1.P.On,.i r.1.P.Show,.i r.1.P.Prio,.i r.1.P.Seq]) (v:=.s r.1.User) (t:=5) hc (Nat.lt_of_lt_of_le (lt_of_some g1) (Nat.le_refl _)) rfl (by decide) rfl rfl
  refine ⟨pre,ys,s,r,W0,bx,arx,T',f',h1,h2,h3,h4,grown_trans h5 hgr.grown,self_trans h6 hgr.self,h7,hgr.fast,hgr.text,hc.none,hc.size,t0,t1,t2,t3,b1,hc.tmp (t:=6) (v:=.b r.2) rfl rfl,Nat.le_trans h5.size b2,b3,?_,?_⟩
  ·apply List.ext_getElem
   ·have:=q2.1;rw [concL_len];simpa using this
   ·intro j j1 j2
    have j3:j < (rowCells r.1).length:=by rw [concL_len] at j2;exact j2
    have hrep:=q2.2 j (by simpa using j1) j3
    rw [concL_get _ j j3 j2]
    refine hrep.conc ?_
    obtain ⟨u,e1,_⟩:=rowLits r.1 _ (List.getElem_mem j3)
    rw [e1];rfl
  ·have:=lt_of_some g1
   omega
 unfold skel
 have c1:=begins (a:=a) (fr:=fr1 (yv l) e b) (s:=s) hBW hst2 ⟨arr,htW,hsz,ht0⟩ ad (CanonR.rep (by
  have hle:=memB_le (bs:=bs) hst2
  repeat' (first | exact trivial | refine ⟨?_,?_⟩ | exact .inl rfl | exact .inr ⟨_,a0,RY⟩ | exact .inr ⟨_,a1,RB hle⟩ | exact .inr ⟨_,a2,RP⟩ | exact .inr ⟨_,a3,RE hle⟩)) asz)
 have hL2:∀ K,¬ LetsOut (Exit.then K Q):=fun K ⟨a,w,h⟩=>hLO ⟨a,w,h⟩
 refine wpIn_seq (reg_w (hL2 _) (GMB hst2) m1 c1 (w1_w _ e b hN hr) ?_)
 rintro fr' st' a' w' ⟨hcl,rfl⟩ hc hkp
 have kp:∀ t,t < 4→a'.tmps[t]?=a.tmps[t]?:=fun t ht=>hkp t fun o ho=>by
  simp only [o1,List.mem_cons,List.not_mem_nil,or_false] at ho
  rcases ho with rfl | rfl | rfl | rfl | rfl | rfl | rfl | rfl | rfl <;> simp <;> omega
 have hinv:=ends (W0:=W) (pre:=[]) (ys:=xs) (k:=F) rfl hx hr hJ0 ⟨rfl,rfl,rfl,Nat.le_refl _,fun _ _ _=>rfl⟩ (.of_eq fun _ h=>h) hBW hst2 ⟨arr,htW,hsz,ht0⟩ hc hcl ((kp 0 (by omega)).trans a0) ((kp 1 (by omega)).trans a1) ((kp 2 (by omega)).trans a2) ((kp 3 (by omega)).trans a3)
 clear kp hkp hc hcl c1 a0 a1 a2 a3 ad asz hr hx hJ0
 refine wpIn_block (wpIn_loop_ghost _ F hinv ?_)
 clear hinv
 rintro k a w ⟨pre,ys,s,r,W0,bx,arx,T',f',hxs,hrw,hr,hjp,hgr,hse,hBW0,hfm,htx,ad,asz,a0,a1,a2,a3,a5,a6,hbx,hax,har,hbxs⟩
 have hBw:B≤w.heap.size:=Nat.le_trans hBW0 hgr.size
 have hle:=memB_le (bs:=bs) hfm
 have RX:Rep (memB bs m w) (bk1 bs sz) (.pointer (some ⟨bx,0,none⟩)) (.eptr (rowCells r.1)):=eptrL (arr:=arx) (fun t ht=>by
  rw [memB_at (by exact hbxs)]
  have:t < arx.size:=by
   have:=congrArg List.length har
   rw [concL_len,List.length_take,Array.length_toList] at this
   simp at this ht;omega
  simp [World.cell?,hax,this]) (by simpa using har) (rowLits r.1)
 have c1:=begins (a:=a) (fr:=fr2 (yv l) e b r) (s:=s) hBw hfm htx ad (CanonR.rep (by
  repeat' (first | exact trivial | refine ⟨?_,?_⟩ | exact .inl rfl | exact .inr ⟨_,a0,RY⟩ | exact .inr ⟨_,a1,RB hle⟩ | exact .inr ⟨_,a2,RP⟩ | exact .inr ⟨_,a3,RE hle⟩ | exact .inr ⟨_,a5,RX⟩ | exact .inr ⟨_,a6,.lit rfl⟩)) asz)
 refine wpIn_seq (wpIn_seq (reg_w (by rintro ⟨a,w,h⟩;exact hLO ⟨a,w,h⟩) (GMB hfm) m2 c1 (w2_w _ e b) ?_))
 rintro fr' st' b2 w2 ⟨hcl,h13,rfl⟩ hc2 hk2
 obtain ⟨ar,g1,g2,g3⟩:=htx
 have gg2:=cn_grown hfm g1 hc2 rfl
 have d2:=hc2.none
 refine wpIn_cond_split (hc2.cond h13) (fun ht=>?_) (fun hf'=>?_)
 ·refine wpIn_skip ?_
  obtain ⟨k,rfl⟩ : ∃ k',k=k' + 1:=by
   cases k with
   | zero=>cases hrw
   | succ k=>exact ⟨k,rfl⟩
  simp only [rowsI,hr,Option.bind_some,ht,cond_true] at hrw
  obtain ⟨key,hkey,hrw⟩:=Option.bind_eq_some_iff.1 hrw
  obtain ⟨t,hsee,hrw⟩:=Option.bind_eq_some_iff.1 hrw
  obtain ⟨l',hl',hrw⟩:=Option.bind_eq_some_iff.1 hrw
  simp only [Option.some.injEq] at hrw
  obtain ⟨r2,hr2⟩ : ∃ r,nx b key=some r:=by
   cases k with
   | zero=>cases hl'
   | succ k =>
    simp only [rowsI] at hl'
    obtain ⟨r,hr,_⟩:=Option.bind_eq_some_iff.1 hl'
    exact ⟨r,hr⟩
  -- from the test's end on
  obtain ⟨QL,hQL⟩ : ∃ QL:Exit→Act→World→Prop,QL=Exit.then (fun a' w'=>∃ n',n' < k + 1∧HeadI nx ky se e b xs J B bs sz T lo hi m (yv l) (.pointer (some ⟨kb,0,none⟩)) (.pointer (some ⟨ke,0,none⟩)) n' a' w') (Exit.inBlock 0 Q):=⟨_,rfl⟩
  rw [← hQL]
  have hLL:¬ LetsOut QL:=by rw [hQL];rintro ⟨a,w,h⟩;exact hLO ⟨a,w,h⟩
  have hQr:∀ {a w},Q .ret a w→QL .ret a w:=fun h=>by rw [hQL];exact h
  have hQn:∀ {a w},HeadI nx ky se e b xs J B bs sz T lo hi m (yv l) (.pointer (some ⟨kb,0,none⟩)) (.pointer (some ⟨ke,0,none⟩)) k a w→QL .normal a w:=fun h=>by rw [hQL];exact ⟨k,Nat.lt_succ_self k,h⟩
  clear hQL
  have tail:∀ {Wb W5:World} {a5:Act} {fr5:List V} {pre' : List ItmS} {W0' : World} {s0:ByteArray},xs=pre'++l'→J pre' W0'→W0'.grownBy Wb (some bs)→SelfS bs W0' Wb→B≤W0'.heap.size→FastIn m Wb→(∃ arr,Wb.heap[bs]?=some (.cells arr T (lo,hi))∧arr.size=sz∧arr[0]?=some (.string s0)) →
    Cn B (memB bs m Wb) (bk1 bs sz) ⟨Wb,false⟩ a5 W5 fr5 [.live [.s key] 0]→CanonL (frz (yv l) e b r) fr5→(∀ t,t < 4→a5.tmps[t]?=a.tmps[t]?) →
    (Code.seq (.seq (reg (q5 (bodyOf Tryz.f120))) (reg (q6 (bodyOf Tryz.f120)))) (reg (q7 (bodyOf Tryz.f120)))).wpIn Fence.wide n Tryz.prog QL a5 W5:=by
   intro Wb W5 a5 fr5 pre' W0' s0 x1 x2 x3 x4 x5 x6 x7 hc hcl hk
   refine wpIn_seq (wpIn_seq (reg_w (by rintro ⟨a,w,h⟩;exact hLL ⟨a,w,h⟩) (GMB x6) m5 (hc.canonL hcl) (w5_w _ e b) ?_))
   rintro fr6' st6 a6 w6 ⟨hcl6,rfl⟩ hc6 hk6
   refine reg_w (by rintro ⟨a,w,h⟩;exact hLL ⟨a,w,h⟩) (GMB x6) m6 (hc6.canonL hcl6) (w6_w _ e b) ?_
   rintro fr7' st7 a7 w7 ⟨hcl7,rfl⟩ hc7 hk7
   refine reg_w hLL (GMB x6) m7 (hc7.canonL hcl7) (w7_w _ e b hN hr2) ?_
   rintro fr8' st8 a8 w8 ⟨hcl8,rfl⟩ hc8 hk8
   have kk:∀ t,t < 4→a8.tmps[t]?=a.tmps[t]?:=fun t ht=>by
    rw [hk8 t (fun o ho=>by
     simp only [o7,List.mem_cons,List.not_mem_nil,or_false] at ho
     rcases ho with rfl | rfl | rfl | rfl | rfl | rfl | rfl | rfl <;> simp <;> omega),hk7 t (fun o ho=>by
     simp only [o6,List.mem_cons,List.not_mem_nil,or_false] at ho
     rcases ho with rfl | rfl <;> simp <;> omega),hk6 t (fun o ho=>by
     simp only [o5,List.mem_cons,List.not_mem_nil,or_false] at ho
     rcases ho with rfl;simp;omega)]
    exact hk t ht
   exact hQn (ends x1 hl' hr2 x2 x3 x4 x5 x6 x7 hc8 hcl8 ((kk 0 (by omega)).trans a0) ((kk 1 (by omega)).trans a1) ((kk 2 (by omega)).trans a2) ((kk 3 (by omega)).trans a3))
  refine wpIn_seq (wpIn_block (wpIn_seq (reg_w (by rintro ⟨a,w,h⟩;exact hLL ⟨a,w,h⟩) (GMB hfm) m3 (hc2.canonL hcl) (w3_w _ e b hK hkey) ?_)))
  rintro fr3' st3 b3 w3 ⟨hcl3,rfl⟩ hc3 hk3
  refine wpIn_seq (wpIn_region ?_)
  obtain ⟨hn4,hm4⟩:=matchT m4
  obtain ⟨ops,hops⟩ : ∃ ops,ops=cops (q4 (bodyOf Tryz.f120)):=⟨_,rfl⟩
  rw [← hops] at hn4 hm4 ⊢
  have e10:List.range ops.size=List.range' 0 ((o4.drop 0).take 4).length++(List.range' 4 ((o4.drop 4).take 3).length++(7 :: (List.range' 8 ((o4.drop 8).take 2).length++[]))):=by rw [hn4];rfl
  obtain ⟨Q4,hQ4⟩ : ∃ Q4:Exit→Act→World→Prop,Q4=Exit.then ((Code.cond (.tmp 34) .ret .skip).wpIn Fence.wide n Tryz.prog (Exit.inBlock 1 (Exit.then ((Code.seq (.seq (reg (q5 (bodyOf Tryz.f120))) (reg (q6 (bodyOf Tryz.f120)))) (reg (q7 (bodyOf Tryz.f120)))).wpIn Fence.wide n Tryz.prog QL) QL))) (Exit.inBlock 1 (Exit.then ((Code.seq (.seq (reg (q5 (bodyOf Tryz.f120))) (reg (q6 (bodyOf Tryz.f120)))) (reg (q7 (bodyOf Tryz.f120)))).wpIn Fence.wide n Tryz.prog QL) QL)):=⟨_,rfl⟩
  rw [← hQ4]
  have hL4:¬ LetsOut Q4:=by rw [hQ4];rintro ⟨a,w,h⟩;exact hLL ⟨a,w,h⟩
  have q4F:∀ {a' w'},a'.eval (.tmp 34)=.bool false→(Code.seq (.seq (reg (q5 (bodyOf Tryz.f120))) (reg (q6 (bodyOf Tryz.f120)))) (reg (q7 (bodyOf Tryz.f120)))).wpIn Fence.wide n Tryz.prog QL a' w'→Q4 .normal a' w':=fun h1 h2=>by
   rw [hQ4];exact wpIn_cond_false h1 (wpIn_skip h2)
  have q4T:∀ {a' w'},a'.eval (.tmp 34)=.bool true→Q .ret a' w'→Q4 .normal a' w':=fun h1 h2=>by
   rw [hQ4];exact wpIn_cond_true h1 (wpIn_ret (hQr h2))
  clear hQ4
  have gg3:=cn_grown hfm g1 hc3 rfl
  have k3:∀ t,t < 7→b3.tmps[t]?=a.tmps[t]?:=fun t ht=>by
   rw [hk3 t (fun o ho=>by
    simp only [o3,List.mem_cons,List.not_mem_nil,or_false] at ho
    rcases ho with rfl | rfl | rfl | rfl | rfl | rfl <;> simp <;> omega),hk2 t (fun o ho=>by
    simp only [o2,List.mem_cons,List.not_mem_nil,or_false] at ho
    rcases ho with rfl;simp;omega)]
  rw [e10]
  refine pre_w hL4 (GMB hfm) (matchD hn4 hm4 0 4) (hc3.canonL hcl3) (w4a_w _ e b hS hsee) ?_
  rintro fr4' st4 b4 w4 ⟨hcl4,rfl⟩ hc4 hk4
  have k4:∀ t,t < 7→b4.tmps[t]?=a.tmps[t]?:=fun t ht=>by
   rw [hk4 t (fun o ho=>by
    simp only [o4,List.drop_zero,List.take_succ_cons,List.take_zero,List.mem_cons,List.not_mem_nil,or_false] at ho
    rcases ho with rfl | rfl | rfl | rfl <;> simp <;> omega)]
   exact k3 t ht
  cases t with
  | false =>
   simp only [cond_false] at hrw
   subst hrw
   have e6:List.range' 4 ((o4.drop 4).take 3).length++(7 :: (List.range' 8 ((o4.drop 8).take 2).length++[]))=List.range' 4 ((o4.drop 4).take 6).length++[]:=rfl
   rw [e6]
   refine pre_w hL4 (GMB hfm) (matchD hn4 hm4 4 6) (hc4.canonL hcl4) (w4c_w _ e b) ?_
   rintro fr5' st5 b5 w5 ⟨hcl5,h34,rfl⟩ hc5 hk5
   exact q4F (hc5.cond h34) (tail hxs hjp hgr hse hBW0 hfm ⟨ar,g1,g2,g3⟩ hc5 hcl5 fun t ht=>by
    rw [hk5 t (fun o ho=>by
     simp only [o4,List.drop_succ_cons,List.drop_zero,List.take_succ_cons,List.take_zero,List.mem_cons,List.not_mem_nil,or_false] at ho
     rcases ho with rfl | rfl | rfl | rfl | rfl | rfl <;> simp <;> omega)]
    exact k4 t (by omega))
  | true =>
   simp only [cond_true] at hrw
   subst hrw
   refine pre_w hL4 (GMB hfm) (matchD hn4 hm4 4 3) (hc4.canonL hcl4) (w4b_w _ e b) ?_
   rintro fr5' st5 b5 w5 ⟨hcl5,rfl⟩ hc5 hk5
   have hc5:=hc5.canonL hcl5
   have k5:∀ t,t < 7→b5.tmps[t]?=a.tmps[t]?:=fun t ht=>by
    rw [hk5 t (fun o ho=>by
     simp only [o4,List.drop_succ_cons,List.drop_zero,List.take_succ_cons,List.take_zero,List.mem_cons,List.not_mem_nil,or_false] at ho
     rcases ho with rfl | rfl | rfl <;> simp <;> omega)]
    exact k4 t ht
   have gg5:=cn_grown hfm g1 hc5 rfl
   have d5:=hc5.none
   have t28:b5.tmps[28]?=some (.bool true):=hc5.tmp (t:=28) (v:=.b true) rfl rfl
   have t29:b5.tmps[29]?=some (yv l):=hc5.tmp (t:=29) (v:=.lit (yv l)) rfl rfl
   have t30:b5.tmps[30]?=some (.string key):=hc5.tmp (t:=30) (v:=.s key) rfl rfl
   have t31:b5.tmps[31]?=some (rowC r.1):=hc5.tmp (t:=31) (v:=.agg (rowCells r.1)) rfl rfl
   have s5:b5.tmps.size=36:=hc5.size
   have ev:∀ {t v},b5.tmps[t]?=some v→b5.eval (.tmp t)=v:=fun {t v} h=>by
    show b5.tmps.getD t undef=v
    rw [Array.getD_eq_getD_getElem?,h];rfl
   obtain ⟨o7,ho7⟩ : ∃ o,ops[7]?=some o:=⟨ops[7]'(by rw [hn4];decide),by simp [show 7 < ops.size by rw [hn4];decide]⟩
   have m7':=hm4 7 (by decide) o7 ho7
   have w7:Region.wanted o7 (yielded ops b5.tmps)=true:=by
    obtain ⟨_,_,_,hfr,_⟩:=hc5
    exact gval_sound hfr m7' rfl
   obtain ⟨cop7,dst7,_⟩:=m7'
   have dst7:o7.dst=some 32:=dst7
   obtain ⟨tys,op7⟩ : ∃ tys,o7.op=.call ⟨.value (.tmp 29),#[.tmp 30,.tmp 31],tys⟩:=by
    have go:∀ {op:Op} {ty:TypeId},Cop Tryz.prog op ty (.cv (.tmp 29) [.tmp 30,.tmp 31])→∃ tys,op=.call ⟨.value (.tmp 29),#[.tmp 30,.tmp 31],tys⟩:=fun h=>by
     generalize hao:AOp.cv (.tmp 29) [.tmp 30,.tmp 31]=ao at h
     cases h with
     | @cv ty f args tys =>
      injection hao with e1 e2
      subst e1
      have:args=#[.tmp 30,.tmp 31]:=by
       apply Array.ext';exact e2.symm
      exact ⟨tys,by rw [this]⟩
     | _=>cases hao
    exact go cop7
   refine yield_in ho7 op7 w7 (ev t29) (vs:=(encS (key,r.1)).toArray) (by simp [ev t30,ev t31,encS]) (hY pre (key,r.1) l' W0 w5 hxs hjp (grown_trans hgr gg5.grown) (self_trans hse gg5.self)) ?_
   obtain ⟨ar5,y1,y2,y3⟩:=gg5.text
   rintro en W' (⟨rfl,hj2,hkk⟩ | ⟨rfl,hjx⟩)
   ·refine ⟨_,rfl,?_⟩
    rw [dst7]
    have hfm' : FastIn m W':=fun u v h=>hkk.fast u v h (gg5.fast u v h)
    have htx' : ∃ arr,W'.heap[bs]?=some (.cells arr T (lo,hi))∧arr.size=sz∧arr[0]?=some (.string key):=by
     obtain ⟨a',z1,z2,z3⟩:=hkk.text _ _ _ _ y1 y3
     exact ⟨a',z1,z2.trans y2,z3⟩
    have hax5:w5.heap[bx]?=some (.cells arx T' f'):=(gg5.grown.block bx (lt_of_some hax) (fun e=>hbxs (by injection e))).trans hax
    have hax' : W'.heap[bx]?=some (.cells arx T' f'):=hkk.priv _ _ _ _ ⟨hbx,_,_,_,hax5⟩ hax5
    have hB' : B≤W'.heap.size:=Nat.le_trans (Nat.le_trans hBw gg5.grown.size) hkk.below.size
    have hle':=memB_le (bs:=bs) hfm'
    have RX' : Rep (memB bs m W') (bk1 bs sz) (.pointer (some ⟨bx,0,none⟩)) (.eptr (rowCells r.1)):=eptrL (arr:=arx) (fun t ht=>by
     rw [memB_at (by exact hbxs)]
     have:t < arx.size:=by
      have:=congrArg List.length har
      rw [concL_len,List.length_take,Array.length_toList] at this
      simp at this ht;omega
     simp [World.cell?,hax',this]) (by simpa using har) (rowLits r.1)
    have pk:∀ {t v},t≠32→b5.tmps[t]?=some v→(b5.put (some 32) (.bool true)).tmps[t]?=some v:=fun h1 h2=>(put_keep (by simpa using h1.symm)).trans h2
    have p32:(b5.put (some 32) (.bool true)).tmps[32]?=some (.bool true):=by
     simp only [Act.put];rw [Array.getElem?_setIfInBounds_self_of_lt (by omega)]
    have c6:=begins (W:=W') (a:=b5.put (some 32) (.bool true)) (fr:=fr4r (yv l) e b r) (s:=key) hB' hfm' htx' d5 (CanonR.rep (by
     repeat' (first | exact trivial | refine ⟨?_,?_⟩ | exact .inl rfl | exact .inr ⟨_,pk (by decide) ((k5 0 (by omega)).trans a0),RY⟩ | exact .inr ⟨_,pk (by decide) ((k5 1 (by omega)).trans a1),RB hle'⟩ | exact .inr ⟨_,pk (by decide) ((k5 2 (by omega)).trans a2),RP⟩ | exact .inr ⟨_,pk (by decide) ((k5 3 (by omega)).trans a3),RE hle'⟩ | exact .inr ⟨_,pk (by decide) ((k5 5 (by omega)).trans a5),RX'⟩ | exact .inr ⟨_,pk (by decide) t28,.lit rfl⟩ | exact .inr ⟨_,p32,.lit rfl⟩)) (by simp [Act.put,s5]))
    refine pre_w hL4 (GMB hfm') (matchD hn4 hm4 8 2) c6 (w4d_w _ e b) ?_
    rintro fr7' st7 b7 w7 ⟨hcl7,h34,rfl⟩ hc7 hk7
    refine q4F (hc7.cond h34) (tail (pre':=pre++[(key,r.1)]) (by rw [hxs];simp) hj2 ⟨rfl,rfl,rfl,Nat.le_refl _,fun _ _ _=>rfl⟩ (.of_eq fun _ h=>h) hB' hfm' htx' hc7 hcl7 fun t ht=>?_)
    rw [hk7 t (fun o ho=>by
     simp only [o4,List.drop_succ_cons,List.drop_zero,List.take_succ_cons,List.take_zero,List.mem_cons,List.not_mem_nil,or_false] at ho
     rcases ho with rfl | rfl <;> simp <;> omega),put_keep (t:=t) (d:=some 32) (fun e=>absurd (Option.some.inj e) (by omega))]
    exact k5 t (by omega)
   ·refine ⟨_,rfl,?_⟩
    rw [dst7]
    obtain ⟨o8,ho8⟩ : ∃ o,ops[8]?=some o:=⟨ops[8]'(by rw [hn4];decide),by simp [show 8 < ops.size by rw [hn4];decide]⟩
    obtain ⟨o9,ho9⟩ : ∃ o,ops[9]?=some o:=⟨ops[9]'(by rw [hn4];decide),by simp [show 9 < ops.size by rw [hn4];decide]⟩
    have m8':=hm4 8 (by decide) o8 ho8
    have m9':=hm4 9 (by decide) o9 ho9
    have pk:∀ {t v},t≠32→b5.tmps[t]?=some v→(b5.put (some 32) (.bool false)).tmps[t]?=some v:=fun h1 h2=>(put_keep (by simpa using h1.symm)).trans h2
    have p32:(b5.put (some 32) (.bool false)).tmps[32]?=some (.bool false):=by
     simp only [Act.put];rw [Array.getElem?_setIfInBounds_self_of_lt (by omega)]
    have psz:(b5.put (some 32) (.bool false)).tmps.size=36:=by simp [Act.put,s5]
    have pd:(b5.put (some 32) (.bool false)).defers=[]:=d5
    have pk28:=pk (t:=28) (by decide) t28
    generalize b5.put (some 32) (.bool false)=b6 at pk28 p32 psz pd ⊢
    have hfr:FrRep (fun _=>none) noBk b6.tmps frq:=CanonR.rep (by
     repeat' (first | exact trivial | refine ⟨?_,?_⟩ | exact .inl rfl | exact .inr ⟨_,pk28,.lit rfl⟩ | exact .inr ⟨_,p32,.lit rfl⟩)) psz
    have w8:Region.wanted o8 (yielded ops b6.tmps)=true:=gval_sound hfr m8' rfl
    obtain ⟨cop8,dst8,_⟩:=m8'
    obtain ⟨cop9,dst9,gd9⟩:=m9'
    have dst8:o8.dst=some 33:=dst8
    have dst9:o9.dst=some 34:=dst9
    have ev:∀ {b6:Act} {t v},b6.tmps[t]?=some v→b6.eval (.tmp t)=v:=fun {b6 t v} h=>by
     show b6.tmps.getD t undef=v
     rw [Array.getD_eq_getD_getElem?,h];rfl
    have op8:∃ ty,o8.op=.unOp .not ty (.tmp 32):=by
     have go:∀ {op:Op} {ty:TypeId},Cop Tryz.prog op ty (.un .not (.tmp 32))→∃ ty,op=.unOp .not ty (.tmp 32):=fun h=>by
      generalize hao:AOp.un .not (.tmp 32)=ao at h
      cases h with
      | un=>injection hao with e1 e2;subst e1 e2;exact ⟨_,rfl⟩
      | _=>cases hao
     exact go cop8
    have op9:o9.op=.pick (.tmp 28) (.tmp 33) (.const (.bool false)):=by
     have go:∀ {op:Op} {ty:TypeId},Cop Tryz.prog op ty (.pick (.tmp 28) (.tmp 33) (.const (.bool false)))→op=.pick (.tmp 28) (.tmp 33) (.const (.bool false)):=fun h=>by
      generalize hao:AOp.pick (.tmp 28) (.tmp 33) (.const (.bool false))=ao at h
      cases h with
      | pick=>injection hao with e1 e2 e3;subst e1 e2 e3;rfl
      | _=>cases hao
     exact go cop9
    obtain ⟨ty8,op8⟩:=op8
    show wpOpsIn Fence.wide n Tryz.prog ops Q4 [8,9] b6 W'
    unfold wpOpsIn
    rw [ho8]
    simp only
    rw [if_pos w8]
    refine ⟨fun _ _=>trivial,?_⟩
    show o8.uponIn Fence.wide n Tryz.prog b6 _ Q4 ((execOp b6.eval o8).run Tryz.prog W')
    have r8:(execOp b6.eval o8).run Tryz.prog W'=.ok (.value (.bool true)) W':=by
     unfold execOp;rw [op8];simp [p32,go_sem,Op.unary]
    rw [r8,Oper.uponIn_value,dst8]
    unfold wpOpsIn
    rw [ho9]
    simp only
    have g9:o9.guard=none:=by
     generalize o9.guard=g at gd9
     cases g with
     | none=>rfl
     | some x=>exact gd9.elim
    rw [if_pos (by simp [Region.wanted,g9])]
    refine ⟨fun _ _=>trivial,?_⟩
    have q28:(b6.put (some 33) (.bool true)).tmps[28]?=some (.bool true):=(put_keep (by decide)).trans pk28
    have q33:(b6.put (some 33) (.bool true)).tmps[33]?=some (.bool true):=by
     simp only [Act.put];rw [Array.getElem?_setIfInBounds_self_of_lt (by omega)]
    show o9.uponIn Fence.wide n Tryz.prog (b6.put (some 33) (.bool true)) _ Q4 ((execOp (b6.put (some 33) (.bool true)).eval o9).run Tryz.prog W')
    have r9:(execOp (b6.put (some 33) (.bool true)).eval o9).run Tryz.prog W'=.ok (.value (.bool true)) W':=by
     have e28:=ev q28
     have e33:=ev q33
     generalize (b6.put (some 33) (.bool true)).eval=ρ at e28 e33 ⊢
     unfold execOp;rw [op9];simp [e28,e33,go_sem]
    rw [r9,Oper.uponIn_value,dst9]
    unfold wpOpsIn
    have q34:((b6.put (some 33) (.bool true)).put (some 34) (.bool true)).tmps[34]?=some (.bool true):=by
     simp only [Act.put];rw [Array.getElem?_setIfInBounds_self_of_lt (by simp;omega)]
    exact q4T (ev q34) (hret (pre:=pre++[(key,r.1)]) (post:=l') (by simpa [Act.put] using pd) (by rw [hxs];simp) hjx)
 ·refine wpIn_exit ?_
  have hys:ys=[]:=by
   cases k with
   | zero=>cases hrw
   | succ k=>simp only [rowsI,hr,Option.bind_some,hf',cond_false,Option.some.injEq] at hrw;exact hrw.symm
  subst hys
  rw [List.append_nil] at hxs
  subst hxs
  exact hend d2 (hJ _ _ _ hjp (grown_trans hgr gg2.grown) (self_trans hse gg2.self))
end
end Go.Proofs.YthnihifblmnkdaaGreat

namespace Go.Proofs.YthnihifblmnkdaaGreat
open Go.RowKit
theorem callsO_if {α:Type} {P:Program} {f:FuncId} {args:List V} {enc:α→V} {c:Prop} [Decidable c] {v:α} (h:c→CallsV P f args (enc v)):CallsO P f args enc (if c then some v else none):=by
 intro r hr
 split at hr
 ·cases hr;exact h ‹_›
 ·cases hr
def p_addr_IsBare (s:ByteArray):Option Bool:=if s.size≤100000 then some (isBareL s.data.toList) else none
theorem p_addr_IsBare_v (s:ByteArray):CallsO Tryz.prog 86 [.s s] V.b (p_addr_IsBare s):=callsO_if fun h=>isBare_v s h
def p_ref09_IsBare (s:ByteArray):Option Bool:=if s.size≤100000 then some (isBareL s.data.toList) else none
def p_addr_Resource (s:ByteArray):Option Int:=if s.size≤100000 then some (resL s.data.toList) else none
theorem p_addr_Resource_v (s:ByteArray):CallsO Tryz.prog 85 [.s s] V.i (p_addr_Resource s):=callsO_if fun h=>res_v s h
def p_ref09_Resource (s:ByteArray):Option Int:=if s.size≤100000 then some (resL s.data.toList) else none
def p_strings_Cut (s sep:ByteArray):Option (ByteArray × ByteArray × Bool) :=
 match sep.data.toList with
 | [c]=>if s.size≤100000 then some (ba (s.data.toList.take (findL s.data.toList c)),ba (s.data.toList.drop (findL s.data.toList c + 1)),decide (findL s.data.toList c < s.data.toList.length)) else none
 | _=>none
theorem p_strings_Cut_v (s sep:ByteArray):CallsO Tryz.prog 107 [.s s,.s sep] (fun r:ByteArray × ByteArray × Bool=>.tup [V.s r.1,V.s r.2.1,V.b r.2.2]) (p_strings_Cut s sep):=by
 intro r hr
 unfold p_strings_Cut at hr
 split at hr
 ·rename_i c hc
  split at hr
  ·cases hr
   have e:sep=⟨#[c]⟩:=by
    cases sep with
    | mk d=>congr 1;exact Array.ext' hc
   subst e
   exact cut_v s c ‹_›
  ·cases hr
 ·cases hr
def p_strings_Compare (a b:ByteArray):Option Int:=some (Lib.compareBytes a.data.toList b.data.toList)
theorem p_strings_Compare_v (a b:ByteArray):CallsO Tryz.prog 83 [.s a,.s b] V.i (p_strings_Compare a b):=by
 intro r hr
 cases hr
 exact callsV_old #[.string a,.string b] (fun _ _ h=>lits_eq (vs:=[.string a,.string b]) h) (fun w _=>ret_of ((Tryz.strings_Compare a b w).mono fun e w' h=>⟨h.1,h.2.symm⟩)) fun _=>.lit rfl
end Go.Proofs.YthnihifblmnkdaaGreat

namespace Go.Proofs.YthnihifblmnkdaaGreat
open Go.RowKit
def p_pres_named (a0:ByteArray) (a1:ByteArray):Option (Bool) :=
 (p_addr_Resource a1).bind fun v1 =>
 bif (v1 == (0:Int)) then
  (p_addr_IsBare a0).bind fun v3 =>
  some v3
 else
 some false
def p_pres_Key (a0:ByteArray) (a1:ByteArray):Option (ByteArray) :=
 (p_pres_named a0 a1).bind fun v1 =>
 bif v1 then
  (cat? a0 (⟨#[32]⟩ : ByteArray)).bind fun s3 =>
  (cat? s3 a1).bind fun s4 =>
  some s4
 else
 some (⟨#[]⟩ : ByteArray)
def p_book_Row_key (a0:BookRow):Option (ByteArray) :=
 (p_pres_Key a0.User a0.Res).bind fun v1 =>
 some v1
def p_book_Check_1 (a0:BookRow):Option (Bool) :=
 (p_book_Row_key a0).bind fun v1 =>
 some (v1.toList == (⟨#[]⟩ : ByteArray).toList)
def p_slices_IndexFunc_book_Row_l1 (a1:BookRow→Option Bool) (z5:List BookRow) (z6:Int):Nat→Int→Option (Int ⊕ Int)
 | 0,_=>none
 | n + 1,y7 =>
  bif (decide (y7 < z6)) then
   (at? z5 y7).bind fun x9 =>
   (a1 x9).bind fun v10 =>
   bif v10 then
    some (.inl y7)
   else
   p_slices_IndexFunc_book_Row_l1 a1 z5 z6 n (w64 (y7 + (1:Int)))
  else
  some (.inr y7)
def p_slices_IndexFunc_book_Row (a0:List BookRow) (a1:BookRow→Option Bool):Option (Int) :=
 (p_slices_IndexFunc_book_Row_l1 a1 a0 (a0.length:Int) fuel (0:Int)).bind fun o12=>match o12 with
 | .inl q13 =>
  some q13
 | .inr q14 =>
  some (-1:Int)
def p_slices_ContainsFunc_book_Row (a0:List BookRow) (a1:BookRow→Option Bool):Option (Bool) :=
 (p_slices_IndexFunc_book_Row a0 a1).bind fun v1 =>
 some (decide ((0:Int)≤v1))
def p_pres_in (a0:Int) (a1:Int) (a2:Int):Option (Bool) :=
 bif (decide (a1≤a0)) then
  some (decide (a0≤a2))
 else
 some false
def p_pres_Check (a0:PresPres):Option (Int) :=
 (p_pres_in a0.Show (0:Int) (4:Int)).bind fun v1 =>
 bif v1 then
  (p_pres_in a0.Prio (-128:Int) (127:Int)).bind fun v3 =>
  bif v3 then
   (p_pres_in a0.Seq (0:Int) (1099511627776:Int)).bind fun v5 =>
   bif v5 then
    bif a0.On then
     some (0:Int)
    else
    bif ((a0.On == false) && ((a0.Show == (0:Int)) && ((a0.Prio == (0:Int)) && ((a0.Seq == a0.Seq) && true)))) then
     some (0:Int)
    else
    some (4:Int)
   else
   some (8:Int)
  else
  some (8:Int)
 else
 some (8:Int)
def p_book_State_errors_l1 (z5:List BookRow) (z6:Int):Nat→Int→Option (Int ⊕ Int)
 | 0,_=>none
 | n + 1,y7 =>
  bif (decide (y7 < z6)) then
   (at? z5 y7).bind fun x9 =>
   (p_pres_Check x9.P).bind fun v10 =>
   bif (v10 != (0:Int)) then
    some (.inl v10)
   else
   bif x9.P.On then
    p_book_State_errors_l1 z5 z6 n (w64 (y7 + (1:Int)))
   else
   some (.inl (4:Int))
  else
  some (.inr y7)
def p_book_State_errors (a0:BookState):Option (Int) :=
 (p_book_State_errors_l1 a0.Rows (a0.Rows.length:Int) fuel (0:Int)).bind fun o13=>match o13 with
 | .inl q14 =>
  some q14
 | .inr q15 =>
  some (0:Int)
def p_book_State_ordered_1 (a0:BookRow) (c0:BookRow):Option (Bool) :=
 some (a0.P.Seq == c0.P.Seq)
def p_book_State_ordered_l1 (z6:List BookRow) (z7:Int) (z9:BookState):Nat→Int→Option (Bool ⊕ Int)
 | 0,_=>none
 | n + 1,y8 =>
  bif (decide (y8 < z7)) then
   (at? z6 y8).bind fun x11 =>
   bif (decide (x11.P.Seq < (1:Int))) then
    some (.inl false)
   else
   bif (decide (z9.Seq < x11.P.Seq)) then
    some (.inl false)
   else
   bif (decide ((0:Int) < y8)) then
    (at? z9.Rows (w64 (y8 - (1:Int)))).bind fun x15 =>
    (p_book_Row_key x15).bind fun v16 =>
    (p_book_Row_key x11).bind fun v17 =>
    bif (Op.bytesLess v16.toList v17.toList) then
     (cut? z9.Rows none (some y8)).bind fun x19 =>
     (p_slices_ContainsFunc_book_Row x19 (fun x0=>p_book_State_ordered_1 x0 x11)).bind fun v20 =>
     bif v20 then
      some (.inl false)
     else
     p_book_State_ordered_l1 z6 z7 z9 n (w64 (y8 + (1:Int)))
    else
    some (.inl false)
   else
   (cut? z9.Rows none (some y8)).bind fun x22 =>
   (p_slices_ContainsFunc_book_Row x22 (fun x0=>p_book_State_ordered_1 x0 x11)).bind fun v23 =>
   bif v23 then
    some (.inl false)
   else
   p_book_State_ordered_l1 z6 z7 z9 n (w64 (y8 + (1:Int)))
  else
  some (.inr y8)
def p_book_State_ordered (a0:BookState):Option (Bool) :=
 (p_book_State_ordered_l1 a0.Rows (a0.Rows.length:Int) a0 fuel (0:Int)).bind fun o25=>match o25 with
 | .inl q26 =>
  some q26
 | .inr q27 =>
  some true
def p_book_State_many_l1 (z7:ByteArray) (z9:List BookRow) (z10:Int):Nat→Int→Int→Option ((Int × Int))
 | 0,_,_=>none
 | n + 1,y8,y11 =>
  bif (decide (y11 < z10)) then
   (at? z9 y11).bind fun x13 =>
   bif (x13.User.toList == z7.toList) then
    p_book_State_many_l1 z7 z9 z10 n (w64 (y8 + (1:Int))) (w64 (y11 + (1:Int)))
   else
   p_book_State_many_l1 z7 z9 z10 n y8 (w64 (y11 + (1:Int)))
  else
  some (y8,y11)
def p_book_State_many (a0:BookState) (a1:ByteArray):Option (Int) :=
 (p_book_State_many_l1 a1 a0.Rows (a0.Rows.length:Int) fuel (0:Int) (0:Int)).bind fun q16 =>
 some q16.1
def p_book_Check_2 (a0:BookRow) (c0:BookState):Option (Bool) :=
 (p_book_State_many c0 a0.User).bind fun v1 =>
 some (decide ((3:Int) < v1))
def p_book_Check (a0:BookState):Option (Int) :=
 bif (decide ((16:Int) < (a0.Rows.length:Int))) then
  some (5:Int)
 else
 bif (decide (a0.Seq < (0:Int))) then
  some (8:Int)
 else
 bif (decide ((1099511627776:Int) < a0.Seq)) then
  some (8:Int)
 else
 (p_slices_ContainsFunc_book_Row a0.Rows (fun x0=>p_book_Check_1 x0)).bind fun v4 =>
 bif v4 then
  some (11:Int)
 else
 (p_book_State_errors a0).bind fun v6 =>
 bif (v6 != (0:Int)) then
  some v6
 else
 (p_book_State_ordered a0).bind fun v8 =>
 bif v8 then
  (p_slices_ContainsFunc_book_Row a0.Rows (fun x0=>p_book_Check_2 x0 a0)).bind fun v10 =>
  bif v10 then
   some (7:Int)
  else
  some (0:Int)
 else
 some (10:Int)
def p_book_State_find_1 (a0:BookRow) (a1:ByteArray):Option (Int) :=
 (p_book_Row_key a0).bind fun v1 =>
 (p_strings_Compare v1 a1).bind fun v2 =>
 some v2
def p_slices_BinarySearchFunc_book_Row_l1 (a2:BookRow→ByteArray→Option Int) (z8:List BookRow) (z9:ByteArray):Nat→Int→Int→Option ((Int × Int))
 | 0,_,_=>none
 | n + 1,y11,y12 =>
  bif (decide (y11 < y12)) then
   (at? z8 (w64 (shrI .u64 (IntKind.wrap .u64 (w64 (y11 + y12))) (1:Int)))).bind fun x14 =>
   (a2 x14 z9).bind fun v15 =>
   bif (decide (v15 < (0:Int))) then
    p_slices_BinarySearchFunc_book_Row_l1 a2 z8 z9 n (w64 (w64 (shrI .u64 (IntKind.wrap .u64 (w64 (y11 + y12))) (1:Int)) + (1:Int))) y12
   else
   p_slices_BinarySearchFunc_book_Row_l1 a2 z8 z9 n y11 (w64 (shrI .u64 (IntKind.wrap .u64 (w64 (y11 + y12))) (1:Int)))
  else
  some (y11,y12)
def p_slices_BinarySearchFunc_book_Row (a0:List BookRow) (a1:ByteArray) (a2:BookRow→ByteArray→Option Int):Option (Int × Bool) :=
 (p_slices_BinarySearchFunc_book_Row_l1 a2 a0 a1 fuel (0:Int) (a0.length:Int)).bind fun q18 =>
 bif (decide (q18.1 < (a0.length:Int))) then
  (at? a0 q18.1).bind fun x20 =>
  (a2 x20 a1).bind fun v21 =>
  some (q18.1,(v21 == (0:Int)))
 else
 some (q18.1,false)
def p_book_State_find (a0:BookState) (a1:ByteArray):Option (Int × Bool) :=
 (p_slices_BinarySearchFunc_book_Row a0.Rows a1 (fun x0 x1=>p_book_State_find_1 x0 x1)).bind fun v1 =>
 some (v1.1,v1.2)
def p_book_Set (a0:BookState) (a1:ByteArray) (a2:ByteArray) (a3:Int) (a4:Int):Option (BookState × PresPres × Int) :=
 (p_book_Check a0).bind fun v1 =>
 bif (v1 != (0:Int)) then
  some (a0,(PresPres.mk false (0:Int) (0:Int) (0:Int)),v1)
 else
 (p_book_Row_key (BookRow.mk a1 a2 (PresPres.mk true a3 a4 (0:Int)))).bind fun v3 =>
 bif (v3.toList == (⟨#[]⟩ : ByteArray).toList) then
  some (a0,(PresPres.mk false (0:Int) (0:Int) (0:Int)),(11:Int))
 else
 (p_pres_Check (PresPres.mk true a3 a4 (0:Int))).bind fun v5 =>
 bif (v5 != (0:Int)) then
  some (a0,(PresPres.mk false (0:Int) (0:Int) (0:Int)),v5)
 else
 (p_book_Row_key (BookRow.mk a1 a2 (PresPres.mk true a3 a4 (0:Int)))).bind fun v7 =>
 (p_book_State_find a0 v7).bind fun v8 =>
 bif v8.2 then
  bif (decide ((1099511627776:Int)≤a0.Seq)) then
   some (a0,(PresPres.mk false (0:Int) (0:Int) (0:Int)),(9:Int))
  else
  (cut? a0.Rows (some v8.1) none).bind fun x11 =>
  (cut? a0.Rows (some (w64 (v8.1 + (1:Int)))) none).bind fun x12 =>
  (cut? a0.Rows none (some v8.1)).bind fun x13 =>
  (app? x13 [(BookRow.mk a1 a2 (PresPres.mk true a3 a4 (w64 (a0.Seq + (1:Int)))))]).bind fun l14 =>
  (app? l14 x12).bind fun l15 =>
  some ((BookState.mk (w64 (a0.Seq + (1:Int))) l15),(PresPres.mk true a3 a4 (w64 (a0.Seq + (1:Int)))),(0:Int))
 else
 bif (decide ((16:Int)≤(a0.Rows.length:Int))) then
  some (a0,(PresPres.mk false (0:Int) (0:Int) (0:Int)),(7:Int))
 else
 (p_book_State_many a0 a1).bind fun v17 =>
 bif (decide ((3:Int)≤v17)) then
  some (a0,(PresPres.mk false (0:Int) (0:Int) (0:Int)),(7:Int))
 else
 bif (decide ((1099511627776:Int)≤a0.Seq)) then
  some (a0,(PresPres.mk false (0:Int) (0:Int) (0:Int)),(9:Int))
 else
 (cut? a0.Rows (some v8.1) none).bind fun x20 =>
 (cut? a0.Rows none (some v8.1)).bind fun x21 =>
 (app? x21 [(BookRow.mk a1 a2 (PresPres.mk true a3 a4 (w64 (a0.Seq + (1:Int)))))]).bind fun l22 =>
 (app? l22 x20).bind fun l23 =>
 some ((BookState.mk (w64 (a0.Seq + (1:Int))) l23),(PresPres.mk true a3 a4 (w64 (a0.Seq + (1:Int)))),(0:Int))
def p_book_Off (a0:BookState) (a1:ByteArray) (a2:ByteArray):Option (BookState × PresPres × Int) :=
 (p_book_Check a0).bind fun v1 =>
 bif (v1 != (0:Int)) then
  some (a0,(PresPres.mk false (0:Int) (0:Int) (0:Int)),v1)
 else
 (p_pres_Key a1 a2).bind fun v3 =>
 (p_book_State_find a0 v3).bind fun v4 =>
 bif v4.2 then
  bif (v3.toList == (⟨#[]⟩ : ByteArray).toList) then
   some (a0,(PresPres.mk false (0:Int) (0:Int) (0:Int)),(6:Int))
  else
  bif (decide ((1099511627776:Int)≤a0.Seq)) then
   some (a0,(PresPres.mk false (0:Int) (0:Int) (0:Int)),(9:Int))
  else
  (cut? a0.Rows none (some v4.1)).bind fun x8 =>
  (cut? a0.Rows (some (w64 (v4.1 + (1:Int)))) none).bind fun x9 =>
  (app? x8 x9).bind fun l10 =>
  some ((BookState.mk (w64 (a0.Seq + (1:Int))) l10),(PresPres.mk false (0:Int) (0:Int) (w64 (a0.Seq + (1:Int)))),(0:Int))
 else
 some (a0,(PresPres.mk false (0:Int) (0:Int) (0:Int)),(6:Int))
def p_book_Get (a0:BookState) (a1:ByteArray) (a2:ByteArray):Option (PresPres × Bool) :=
 (p_pres_Key a1 a2).bind fun v1 =>
 bif (v1.toList == (⟨#[]⟩ : ByteArray).toList) then
  some ((PresPres.mk false (0:Int) (0:Int) (0:Int)),false)
 else
 (p_book_Check a0).bind fun v3 =>
 bif (v3 != (0:Int)) then
  some ((PresPres.mk false (0:Int) (0:Int) (0:Int)),false)
 else
 (p_book_State_find a0 v1).bind fun v5 =>
 bif v5.2 then
  (at? a0.Rows v5.1).bind fun x7 =>
  some (x7.P,true)
 else
 some ((PresPres.mk false (0:Int) (0:Int) (0:Int)),false)
def p_book_Next (a0:BookState) (a1:ByteArray):Option (BookRow × Bool) :=
 (p_book_Check a0).bind fun v1 =>
 bif (v1 != (0:Int)) then
  some ((BookRow.mk (⟨#[]⟩ : ByteArray) (⟨#[]⟩ : ByteArray) (PresPres.mk false (0:Int) (0:Int) (0:Int))),false)
 else
 (p_book_State_find a0 a1).bind fun v3 =>
 bif v3.2 then
  bif (w64 (v3.1 + (1:Int)) == (a0.Rows.length:Int)) then
   some ((BookRow.mk (⟨#[]⟩ : ByteArray) (⟨#[]⟩ : ByteArray) (PresPres.mk false (0:Int) (0:Int) (0:Int))),false)
  else
  (at? a0.Rows (w64 (v3.1 + (1:Int)))).bind fun x6 =>
  some (x6,true)
 else
 bif (v3.1 == (a0.Rows.length:Int)) then
  some ((BookRow.mk (⟨#[]⟩ : ByteArray) (⟨#[]⟩ : ByteArray) (PresPres.mk false (0:Int) (0:Int) (0:Int))),false)
 else
 (at? a0.Rows v3.1).bind fun x8 =>
 some (x8,true)
def p_pres_Say (a0:ByteArray) (a1:ByteArray) (a2:PresPres):Option (StanzaStanza) :=
 (p_pres_Check a2).bind fun v1 =>
 bif (v1 != (0:Int)) then
  some (StanzaStanza.mk (0:Int) (⟨#[]⟩ : ByteArray) (⟨#[]⟩ : ByteArray) (⟨#[]⟩ : ByteArray) (0:Int) (0:Int) (0:Int) (0:Int))
 else
 (p_pres_named a0 a1).bind fun v3 =>
 bif v3 then
  bif a2.On then
   some (StanzaStanza.mk (34:Int) a0 a1 (⟨#[]⟩ : ByteArray) a2.Show a2.Prio (0:Int) a2.Seq)
  else
  some (StanzaStanza.mk (35:Int) a0 a1 (⟨#[]⟩ : ByteArray) (0:Int) (0:Int) (0:Int) a2.Seq)
 else
 some (StanzaStanza.mk (0:Int) (⟨#[]⟩ : ByteArray) (⟨#[]⟩ : ByteArray) (⟨#[]⟩ : ByteArray) (0:Int) (0:Int) (0:Int) (0:Int))
def p_slices_Index_string_l1 (z6:List ByteArray) (z7:ByteArray) (z8:Int):Nat→Int→Option (Int ⊕ Int)
 | 0,_=>none
 | n + 1,y9 =>
  bif (decide (y9 < z8)) then
   (at? z6 y9).bind fun x11 =>
   bif (z7.toList == x11.toList) then
    some (.inl y9)
   else
   p_slices_Index_string_l1 z6 z7 z8 n (w64 (y9 + (1:Int)))
  else
  some (.inr y9)
def p_slices_Index_string (a0:List ByteArray) (a1:ByteArray):Option (Int) :=
 (p_slices_Index_string_l1 a0 a1 (a0.length:Int) fuel (0:Int)).bind fun o13=>match o13 with
 | .inl q14 =>
  some q14
 | .inr q15 =>
  some (-1:Int)
def p_slices_Contains_string (a0:List ByteArray) (a1:ByteArray):Option (Bool) :=
 (p_slices_Index_string a0 a1).bind fun v1 =>
 some (decide ((0:Int)≤v1))
def p_snap_Sees (a0:SnapEyes) (a1:BookRow):Option (Bool) :=
 (p_slices_Contains_string a0.Users a1.User).bind fun v1 =>
 bif v1 then
  some true
 else
 (p_pres_Key a1.User a1.Res).bind fun v3 =>
 (p_slices_Contains_string a0.Keys v3).bind fun v4 =>
 some v4
def p_snap_Check (a0:SnapState):Option (Int) :=
 bif a0.On then
  bif a0.Begun then
   bif ((false == false) && ((false == false) && (((⟨#[]⟩ : ByteArray).toList == (⟨#[]⟩ : ByteArray).toList) && (((0:Int) == (0:Int)) && true)))) then
    bif (decide (a0.Told < (0:Int))) then
     some (8:Int)
    else
    bif (decide ((1099511627776:Int) < a0.Told)) then
     some (8:Int)
    else
    some (0:Int)
   else
   some (4:Int)
  else
  bif ((false == false) && ((false == false) && ((a0.After.toList == (⟨#[]⟩ : ByteArray).toList) && ((a0.Told == (0:Int)) && true)))) then
   bif (decide (a0.Told < (0:Int))) then
    some (8:Int)
   else
   bif (decide ((1099511627776:Int) < a0.Told)) then
    some (8:Int)
   else
   some (0:Int)
  else
  some (4:Int)
 else
 bif a0.Begun then
  bif ((a0.On == false) && ((a0.Begun == false) && ((a0.After.toList == (⟨#[]⟩ : ByteArray).toList) && ((a0.Told == (0:Int)) && true)))) then
   bif (decide (a0.Told < (0:Int))) then
    some (8:Int)
   else
   bif (decide ((1099511627776:Int) < a0.Told)) then
    some (8:Int)
   else
   some (0:Int)
  else
  some (4:Int)
 else
 bif ((a0.On == false) && ((a0.Begun == false) && ((a0.After.toList == (⟨#[]⟩ : ByteArray).toList) && ((a0.Told == (0:Int)) && true)))) then
  bif (decide (a0.Told < (0:Int))) then
   some (8:Int)
  else
  bif (decide ((1099511627776:Int) < a0.Told)) then
   some (8:Int)
  else
  some (0:Int)
 else
 some (4:Int)
def p_snap_Covers (a0:SnapState) (a1:ByteArray):Option (Bool) :=
 bif a0.On then
  bif a0.Begun then
   some (Op.bytesLess a0.After.toList a1.toList)
  else
  some true
 else
 some false
def p_snap_Begin:Option (SnapState) :=
 some (SnapState.mk true false (⟨#[]⟩ : ByteArray) (0:Int))
end Go.Proofs.YthnihifblmnkdaaGreat

