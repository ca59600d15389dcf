/- A part of the proof: 4 texts joined. -/
import Derived.Test.YtmmmcpeickfolaaGreatZdA8
import Derived.Great.BuildSlice
import Derived.Laws.StructEq
import Derived.ChangeKeysEq
set_option linter.all false
namespace Go.Proofs.YtmmmcpeickfolaaGreat
open Go.RowKit
section
variable {P : Program} {o : Oper} {a : Act} {w : World} {K : Act → World → Prop} {Q : Exit → Act → World → Prop} {B : Nat} {m0 m : Mem} {bk : Bks} {st : List Slot} {fr : List V}
theorem opt_lo {k:IntKind} {l d:Nat} {lo:Option Operand} (hfr:FrRep m bk a.tmps fr) (hl:∀ y,lo=some y→evO fr y=.lit (.int k l)) (hl0:lo=none→l=d):lo.map a.eval=some (.int k l)∨lo.map a.eval=none∧l=d:=by
 cases lo with
 | none=>exact .inr ⟨rfl,hl0 rfl⟩
 | some y =>
  left
  have:=hfr.ev y
  rw [hl y rfl] at this
  simp [this.int]
def AOp.late:AOp→Bool
 | .eqa .. | .bd .. | .mf .. | .cl .. | .cv .. | .lent .. | .lens .. | .b2s .. | .ap .. | .st .. | .al .. | .bx .. | .bs .. | .s2b .. | .mn .. | .mks .. | .clr ..=>true
 | _=>false
theorem pure_sound {ty:TypeId} {op:Op} {ao:AOp} {v:V} {rd:List Nat} {id:Nat} (he:o.op=op) (hty:o.type=ty) (hc:Cop P op ty ao) (hs:AStep P (evO fr) st id ao v rd []) (hsim:Sim B m0 m bk w st) (hg:GM m) (hfr:FrRep m bk a.tmps fr) (hlate:ao.late=false)
  (hK:∀ c w',Aft B m0 m bk w st v c w'→K (a.put o.dst c) w'):o.wp P a w K Q:=by
 cases hs with
 | mv x =>
  cases hc with
  | mv=>exact op_val (S:=pure (a.eval x)) (by simp [execOp,he]) rfl hsim (hfr.ev x) hK
  | «as»=>exact op_val (S:=pure (a.eval x)) (by simp [execOp,he]) rfl hsim (hfr.ev x) hK
  | @bs0 _ t e i hd hi =>
   have hz:Array.map (fun _:Nat=>(default:Value)) (Array.range 0)=#[]:=by apply Array.ext';simp
   have hrun:(Instr.buildSlice t 0 #[]).run P w=.ok (.slice (some ⟨w.heap.size,0,none⟩) 0 0) (w.alloc (.cells #[] e)):=by simp [Instr.buildSlice,run_underlying hd,sizeOf,typeInfo,hi,newRow,Instr.fill];rw [hz]
   have hex:(execOp a.eval o).run P w=.ok (.value (.slice (some ⟨w.heap.size,0,none⟩) 0 0)) (w.alloc (.cells #[] e)):=by
    unfold execOp
    simp only [he,Sem.run_bind]
    rw [show (Array.map (fun x:Nat × Operand=>(x.1,a.eval x.2)) #[])=#[] by simp,hrun]
    rfl
   refine wp_val hex (hK _ _ ⟨m,bk,hsim.world (by simp) (fun k hk=>heap_alloc_old w _ hk),.slnil fun _=>rfl,fun _ _ h=>h,fun _ _ h=>h,(Bel.refl B w).alloc hsim.base _⟩)
 | pick c x y h =>
  rename_i t
  cases hc
  have hcv:=hfr.ev c
  rw [h] at hcv
  refine wp_val (c:=if t then a.eval x else a.eval y) (w':=w) ?_ (hK _ _ (Aft.same hsim ?_))
  ·simp [execOp,he,hcv.int,asBool]
  ·cases t
   ·exact hfr.ev y
   ·exact hfr.ev x
 | @ldE sz ag x cs h hs =>
  cases hc with
  | @ld _ t d i _ hd hi =>
   have hx:=hfr.ev x
   rw [h] at hx
   cases hce:a.eval x <;> rw [hce] at hx <;> try (cases hx;done)
   rename_i A
   obtain ⟨b,oo,hA,_⟩:=eptr_drop hx 0
   injection hA with hA
   subst hA
   cases hx with
   | @eptr _ _ _ us _ h1 hm h =>
    refine op_val (S:=loadVar t ⟨b,oo,none⟩) (by simp [execOp,he,hce,Instr.loadAt,Instr.sureAddr]) (run_loadVar hd hi w b oo us fun k hk=>hsim.mem _ _ (hm k (by omega))) hsim (rep_part hs h1 fun k hk _=>rep_usE hm h k hk) hK
 | @ldP sz ag x i off cs frz h hi hs =>
  cases hc with
  | @ld _ t d ii _ hd hii =>
   have hx:=hfr.ev x
   rw [h] at hx
   obtain ⟨b,sz,arr,tt,lo,hi',hl⟩:=hsim.blk _ _ _ hi
   cases hce:a.eval x <;> rw [hce] at hx <;> try (cases hx;done)
   cases hx with
   | @ptr _ _ b' sz' _ hb =>
    have hbb:=hl.at_
    rw [hb] at hbb
    injection hbb with hbb
    injection hbb with hb1 hb2
    subst hb1 hb2
    have hcell:∀ k,k < cs.length→w.cell? ⟨b',k,none⟩=some (arr.getD k undef):=fun k hk=>by
     obtain ⟨u,hu,_⟩:=hl.rep k hk
     simp [World.cell?,hl.heap,hu,Array.getD_eq_getD_getElem?]
    refine op_val (S:=loadVar t ⟨b',off,none⟩) (by simp [execOp,he,hce,Instr.loadAt,Instr.sureAddr]) (run_loadVar hd hii w b' off (fun k=>arr.getD (off + k) undef) fun k hk=>hcell _ (by omega)) hsim
     (rep_part (by simp;omega) (fun u hu=>hl.one u (List.mem_of_mem_drop hu)) fun k hk _=>?_) hK
    obtain ⟨u,hu,hr⟩:=hl.rep (off + k) (by simp at hk;omega)
    simp only [List.getElem_drop]
    simpa [Array.getD_eq_getD_getElem?,hu] using hr
 | @ncP x i off h =>
  cases hc
  have hx:=hfr.ev x
  rw [h] at hx
  cases hce:a.eval x <;> rw [hce] at hx <;> try (cases hx;done)
  cases hx with
  | ptr hb=>exact wp_val (by simp [execOp,he,hce]) (hK _ _ (Aft.same hsim (.ptr hb)))
 | @ncE x cs h =>
  cases hc
  have hx:=hfr.ev x
  rw [h] at hx
  have hx':=hx
  cases hce:a.eval x <;> rw [hce] at hx <;> try (cases hx;done)
  cases hx with
  | eptr=>rw [hce] at hx';exact wp_val (by simp [execOp,he,hce]) (hK _ _ (Aft.same hsim hx'))
 | @ncC x g caps h =>
  cases hc
  have hx:=hfr.ev x
  rw [h] at hx
  have hx':=hx
  cases hce:a.eval x <;> rw [hce] at hx <;> try (cases hx;done)
  cases hx with
  | clo=>rw [hce] at hx';exact wp_val (by simp [execOp,he,hce]) (hK _ _ (Aft.same hsim hx'))
 | @binI op x y k p q r hx hy hr =>
  cases hc
  have h1:=(hx ▸ hfr.ev x).int
  have h2:=(hy ▸ hfr.ev y).int
  refine wp_val (c:=r) (w':=w) ?_ (hK _ _ (Aft.same hsim (.lit ?_)))
  ·simp only [execOp,he,h1,h2,Sem.run_bind,run_eqGuard_one (a:=.int k p) (fun _ h=>by cases h) (fun h=>by cases h),Result.andThen_ok,run_binI hr,Sem.run_pure]
  ·cases op <;> simp only [intB,Option.some.injEq,reduceCtorEq,Option.ite_none_left_eq_some] at hr <;> first | (subst hr;rfl) | (obtain ⟨_,rfl⟩:=hr;rfl)
 | @binSh op x y k p k' q r hx hy hr =>
  cases hc
  have h1:=(hx ▸ hfr.ev x).int
  have h2:=(hy ▸ hfr.ev y).int
  refine wp_val (c:=r) (w':=w) ?_ (hK _ _ (Aft.same hsim (.lit ?_)))
  ·simp only [execOp,he,h1,h2,Sem.run_bind,run_eqGuard_one (a:=.int k p) (fun _ h=>by cases h) (fun h=>by cases h),Result.andThen_ok,run_binSh hr,Sem.run_pure]
  ·unfold intSh at hr
   split at hr
   ·cases hr
   ·cases op <;> simp only [Option.some.injEq,reduceCtorEq] at hr <;> (subst hr;rfl)
 | @binS op x y p q r hx hy hr =>
  cases hc
  have h1:=(hx ▸ hfr.ev x).int
  have h2:=(hy ▸ hfr.ev y).int
  refine wp_val (c:=r) (w':=w) ?_ (hK _ _ (Aft.same hsim (.lit ?_)))
  ·simp only [execOp,he,h1,h2,Sem.run_bind,run_eqGuard_one (a:=.string p) (fun _ h=>by cases h) (fun h=>by cases h),Result.andThen_ok,run_binS hr,Sem.run_pure]
  ·cases op <;> simp only [strB,Option.some.injEq,reduceCtorEq,Option.ite_none_right_eq_some] at hr <;> first | (subst hr;rfl) | (obtain ⟨_,rfl⟩:=hr;rfl)
 | @binb neg x y p q hx hy =>
  cases hc with
  | @binb _ _ t _ _ t' hd =>
  have h1:=(hx ▸ hfr.ev x).int
  have h2:=(hy ▸ hfr.ev y).int
  refine wp_val (c:=.bool (if neg then p != q else p == q)) (w':=w) ?_ (hK _ _ (Aft.same hsim (.lit rfl)))
  have heq:(Op.equal t (.bool p) (.bool q)).run P w=.ok (p == q) w:=by
   show (Op.equalIn (9999 + 1) t (.bool p) (.bool q)).run P w=_
   rw [Op.equalIn];simp [run_underlying hd]
  cases neg <;> simp only [execOp,he,h1,h2,Sem.run_bind,run_eqGuard_one (a:=.bool p) (fun _ h=>by cases h) (fun h=>by cases h),Result.andThen_ok,binOp,heq,Sem.run_pure,if_true,if_false,Bool.false_eq_true,bne]
 | @eqpP neg x y i off hx hy =>
  cases hc with
  | @eqp _ _ t _ _ t' hd =>
  have h2:=(hy ▸ hfr.ev y).int
  have h0:=hfr.ev x
  rw [hx] at h0
  cases hce:a.eval x <;> rw [hce] at h0 <;> try (cases h0;done)
  cases h0 with
  | @ptr _ _ b sz _ hb =>
  have heq:=run_equal_pointer_nil (P:=P) w t (some ⟨b,off,none⟩) hd
  refine wp_val (c:=.bool neg) (w':=w) ?_ (hK _ _ (Aft.same hsim (.lit rfl)))
  cases neg <;> simp only [execOp,he,h2,hce,Sem.run_bind,run_eqGuard_one (a:=.pointer (some ⟨b,off,none⟩)) (fun _ h=>by cases h) (fun h=>by cases h),Result.andThen_ok,binOp,heq,Sem.run_pure,if_true,if_false,Bool.false_eq_true,Option.isNone_some,Bool.not_false]
 | @eqpN neg x y hx hy =>
  cases hc with
  | @eqp _ _ t _ _ t' hd =>
  have h2:=(hy ▸ hfr.ev y).int
  have h1:=(hx ▸ hfr.ev x).int
  have heq:=run_equal_pointer_nil (P:=P) w t none hd
  refine wp_val (c:=.bool (!neg)) (w':=w) ?_ (hK _ _ (Aft.same hsim (.lit rfl)))
  cases neg <;> simp only [execOp,he,h2,h1,Sem.run_bind,run_eqGuard_one (a:=.pointer none) (fun _ h=>by cases h) (fun h=>by cases h),Result.andThen_ok,binOp,heq,Sem.run_pure,if_true,if_false,Bool.false_eq_true,Option.isNone_none,Bool.not_true,Bool.not_false]
 | @un op x p r hx hr =>
  cases hc
  have h1:=(hx ▸ hfr.ev x).int
  refine op_val (S:=Op.unary op (a.eval x)) (c:=r) (by simp [execOp,he]) (by rw [h1];exact run_un hr w) hsim (.lit ?_) hK
  unfold unV at hr
  split at hr <;> first | (simp only [Option.some.injEq] at hr;subst hr;rfl) | cases hr
 | @cvi k x k' n hx =>
  cases hc with
  | @cvi _ s d _ _ _ hs hd =>
  have h1:=(hx ▸ hfr.ev x).int
  refine op_val (S:=convert s d (a.eval x)) (c:=.int k (k.wrap n)) (by simp [execOp,he]) ?_ hsim (.lit rfl) hK
  simp [convert,run_underlying hs,run_underlying hd,h1,Conv.intToInt]
 | @cvs x s hx =>
  cases hc with
  | @cvs _ s d _ hs hd =>
  have h1:=(hx ▸ hfr.ev x).int
  refine op_val (S:=convert s d (a.eval x)) (c:=.string _) (by simp [execOp,he]) ?_ hsim (.lit rfl) hK
  simp [convert,run_underlying hs,run_underlying hd,h1]
 | @faP o' x i off h =>
  cases hc with
  | @fa _ t fs f _ n ii hd hf hi h0 =>
  have hx:=hfr.ev x
  rw [h] at hx
  cases hce:a.eval x <;> rw [hce] at hx <;> try (cases hx;done)
  cases hx with
  | ptr hb=>exact op_val (S:=Instr.fieldAt t (a.eval x) n) (by simp [execOp,he]) (by rw [hce];exact addr_field hd hf hi h0 _ _ w) hsim (.ptr hb) hK
 | @faE o' x cs h hs =>
  cases hc with
  | @fa _ t fs f _ n ii hd hf hi h0 =>
  have hx:=hfr.ev x
  rw [h] at hx
  obtain ⟨b,oo,hce,hx'⟩:=eptr_drop hx f.offset
  exact op_val (S:=Instr.fieldAt t (a.eval x) n) (by simp [execOp,he]) (by rw [hce];exact addr_field hd hf hi h0 _ _ w) hsim hx' hK
 | @fd o' sz ag x cs h hs =>
  cases hc with
  | @fd _ t fs f _ n ii d hd hf hi hdd =>
  have hx:=hfr.ev x
  rw [h] at hx
  obtain ⟨ds,hce,hl,h1,h2⟩:=agg_inv hx
  refine op_val (S:=Instr.field t (a.eval x) n) (by simp [execOp,he]) ?_ hsim (rep_aggpart hl h1 h2 hs) hK
  simp [Instr.field,run_underlying hd,hf,hce,asAgg,run_part hdd hi w ds f.offset (by rw [hl];exact hs)]
 | @ixs es x ix xs full k n j h hi hj hn hes =>
  cases hc with
  | @ixs _ t e i _ _ hd hii =>
  have hx:=hfr.ev x
  rw [h] at hx
  obtain ⟨b,oo,cap,hce,hx'⟩:=sl_at hx hn hes
  have h1:=(hi ▸ hfr.ev ix).int
  subst hj
  exact op_val (S:=Instr.indexAt t (a.eval x) (a.eval ix)) (by simp [execOp,he]) (by rw [hce,h1];exact index_slice hd hii w b oo _ cap n k hn) hsim hx' hK
 | @ixo es x ix i off mm full k n j h hi hj hn =>
  cases hc with
  | @ixs _ t e ii _ _ hd hii =>
  have hx:=hfr.ev x
  rw [h] at hx
  have h1:=(hi ▸ hfr.ev ix).int
  subst hj
  cases hce:a.eval x <;> rw [hce] at hx <;> try (cases hx;done)
  cases hx with
  | osl hb=>exact op_val (S:=Instr.indexAt t (a.eval x) (a.eval ix)) (by simp [execOp,he]) (by rw [hce,h1];exact index_slice hd hii w _ _ _ _ n k hn) hsim (.ptr hb) hK
 | @ixa len es x ix i off k n j h hi hj hn =>
  cases hc with
  | @ixa _ t e ii _ _ _ hd hii =>
  have hx:=hfr.ev x
  rw [h] at hx
  have h1:=(hi ▸ hfr.ev ix).int
  subst hj
  cases hce:a.eval x <;> rw [hce] at hx <;> try (cases hx;done)
  cases hx with
  | ptr hb=>exact op_val (S:=Instr.indexAt t (a.eval x) (a.eval ix)) (by simp [execOp,he]) (by rw [hce,h1];exact index_array hd hii w _ _ n k hn) hsim (.ptr hb) hK
 | @ixae len es x ix cs k n j h hi hj hn hs =>
  cases hc with
  | @ixa _ t e ii _ _ _ hd hii =>
  have hx:=hfr.ev x
  rw [h] at hx
  have h1:=(hi ▸ hfr.ev ix).int
  subst hj
  obtain ⟨b,oo,hce,hx'⟩:=eptr_drop hx (n * ii.size)
  exact op_val (S:=Instr.indexAt t (a.eval x) (a.eval ix)) (by simp [execOp,he]) (by rw [hce,h1];exact index_array hd hii w b oo n k hn) hsim hx' hK
 | @ixg len es ag x ix cs k n j h hi hj hn hs =>
  cases hc with
  | @ixg _ t e ii _ _ _ d hd hii hdd =>
  have hx:=hfr.ev x
  rw [h] at hx
  have h1:=(hi ▸ hfr.ev ix).int
  subst hj
  obtain ⟨ds,hce,hl,h3,h2⟩:=agg_inv hx
  refine op_val (S:=Instr.index t (a.eval x) (a.eval ix)) (by simp [execOp,he]) ?_ hsim (rep_aggpart hl h3 h2 hs) hK
  simp [Instr.index,h1,hce,asIntOf,run_underlying hd,hn,run_sizeOf hii,run_part hdd hii w ds (n * ii.size) (by rw [hl];exact hs)]
 | @ixt x ix s k n j h hi hj hn =>
  cases hc with
  | @ixt _ t _ _ hd =>
  have h0:=(h ▸ hfr.ev x).int
  have h1:=(hi ▸ hfr.ev ix).int
  subst hj
  refine op_val (S:=Instr.index t (a.eval x) (a.eval ix)) (c:=.int .u8 s[n].toNat) (by simp [execOp,he]) ?_ hsim (.lit rfl) hK
  have hs:s[n]?=some s[n]:=by simp [hn]
  simp [Instr.index,h1,h0,asIntOf,run_underlying hd,hs]
 | @slt x lo hi s k k' l hh hx hl hl0 hh' hh0 h1 h2 =>
  cases hc with
  | @slt _ t _ _ _ hd =>
  have h0:=(hx ▸ hfr.ev x).int
  refine op_val (S:=Instr.sliceAt t (a.eval x) (lo.map a.eval) (hi.map a.eval) none) (c:=.string (s.extract l hh)) (by simp [execOp,he]) ?_ hsim (.lit rfl) hK
  simp [Instr.sliceAt,Instr.slice,run_underlying hd,h0,run_bounds_slice false (opt_lo hfr hl hl0) (opt_lo hfr hh' hh0) h1 h2]
 | @slsE es x lo xs full k l hx hl hl0 h1 hes =>
  cases hc with
  | @sls _ t e ii _ _ _ _ hd hii =>
  have hx':=hfr.ev x
  rw [hx] at hx'
  have hxx:=hx'
  cases hce:a.eval x <;> rw [hce] at hx' <;> try (cases hx';done)
  rename_i A n cap
  have hn:n=xs.length∧n≤cap∧(full=true→cap=n):=by
   cases hx' with
   | slnil hf=>exact ⟨rfl,by omega,hf⟩
   | sl hn hc hf=>exact ⟨hn,hc,hf⟩
  obtain ⟨hn1,hn2,hn3⟩:=hn
  subst hn1
  rw [hce] at hxx
  have:=sl_sub (full':=full) (mm:=cap) hxx hes h1 (Nat.le_refl _) (by omega) (Nat.le_refl _) fun e=>hn3 e
  rw [List.take_of_length_le (by simp)] at this
  refine op_val (S:=Instr.sliceAt t (a.eval x) (lo.map a.eval) none none) (by simp [execOp,he]) ?_ hsim this hK
  simp [Instr.sliceAt,Instr.slice,run_underlying hd,hce,run_sizeOf hii,run_bounds_slice (k':=.i64) true (opt_lo hfr hl hl0) (.inr ⟨rfl,rfl⟩) h1 hn2]
 | @sls es x lo hi xs full k k' l hh hx hl hl0 hh' hh0 h1 h2 hes =>
  cases hc with
  | @sls _ t e ii _ _ _ _ hd hii =>
  have hx':=hfr.ev x
  rw [hx] at hx'
  have hxx:=hx'
  cases hce:a.eval x <;> rw [hce] at hx' <;> try (cases hx';done)
  rename_i A n cap
  have hn:n=xs.length∧n≤cap:=by
   cases hx' with
   | slnil hf=>exact ⟨rfl,by omega⟩
   | sl hn hc hf=>exact ⟨hn,hc⟩
  obtain ⟨hn1,hn2⟩:=hn
  subst hn1
  rw [hce] at hxx
  refine op_val (S:=Instr.sliceAt t (a.eval x) (lo.map a.eval) (hi.map a.eval) none) (by simp [execOp,he]) ?_ hsim (sl_sub (full':=false) (mm:=cap) hxx hes h1 h2 (by omega) (Nat.le_refl _) fun e=>by cases e) hK
  simp [Instr.sliceAt,Instr.slice,run_underlying hd,hce,run_sizeOf hii,run_bounds_slice true (opt_lo hfr hl hl0) (opt_lo hfr hh' hh0) h1 (Nat.le_trans h2 hn2)]
 | @slsO es x lo hi i off n full k k' l hh hx hl hl0 hh' hh0 h1 h2 h3 =>
  cases hc with
  | @sls _ t e ii _ _ _ _ hd hii =>
  have hx':=hfr.ev x
  rw [hx] at hx'
  cases hce:a.eval x <;> rw [hce] at hx' <;> try (cases hx';done)
  cases hx' with
  | @osl _ _ b sz _ _ _ _ _ hb hcc hf hs =>
  rename_i cap
  have hr:Rep m bk (.slice (if cap=l then (some ⟨b,off,none⟩ : Option Addr) else (some ⟨b,off,none⟩ : Option Addr).map (·.add (l * ii.size))) (hh - l) (cap - l)) (.osl i (off + l * ii.size) (hh - l) ii.size false):=by
   have hle:l * ii.size≤cap * ii.size:=Nat.mul_le_mul_right _ (by omega)
   have hsub:(cap - l) * ii.size=cap * ii.size - l * ii.size:=Nat.sub_mul _ _ _
   by_cases hcl:cap=l
   ·have:l=0:=by omega
    subst this
    rw [if_pos hcl]
    simp only [Nat.zero_mul,Nat.add_zero]
    exact .osl hb (by omega) (fun e=>by cases e) (by simpa using hs)
   ·rw [if_neg hcl]
    simp only [Option.map_some,Addr.add_lit]
    exact .osl hb (by omega) (fun e=>by cases e) (by omega)
  refine op_val (S:=Instr.sliceAt t (a.eval x) (lo.map a.eval) (hi.map a.eval) none) (by simp [execOp,he]) ?_ hsim hr hK
  simp [Instr.sliceAt,Instr.slice,run_underlying hd,hce,run_sizeOf hii,run_bounds_slice true (opt_lo hfr hl hl0) (opt_lo hfr hh' hh0) h1 (Nat.le_trans h2 hcc)]
 | @slsZ es x lo hi i off n full k k' hx hl hl0 hh' =>
  cases hc with
  | @sls _ t e ii _ _ _ _ hd hii =>
  have hx':=hfr.ev x
  rw [hx] at hx'
  cases hce:a.eval x <;> rw [hce] at hx' <;> try (cases hx';done)
  cases hx' with
  | @osl _ _ b sz _ _ _ _ _ hb hcc hf hs =>
  rename_i cap
  have hr:Rep m bk (.slice (if cap=n then (some ⟨b,off,none⟩ : Option Addr) else (some ⟨b,off,none⟩ : Option Addr).map (·.add (n * ii.size))) (n - n) (cap - n)) (.sl [] false):=by
   rw [Nat.sub_self];exact .slnil (fun e=>by cases e)
  refine op_val (S:=Instr.sliceAt t (a.eval x) (lo.map a.eval) (hi.map a.eval) none) (by simp [execOp,he]) ?_ hsim hr hK
  simp [Instr.sliceAt,Instr.slice,run_underlying hd,hce,run_sizeOf hii,run_bounds_slice true (opt_lo hfr hl hl0) (opt_lo hfr hh' (fun _=>rfl)) (Nat.le_refl n) hcc]
 | @sls3 es x lo hi mx xs full k k' k'' l hh hx hl hl0 hh' hm h1 h2 hes =>
  cases hc with
  | @sls _ t e ii _ _ _ _ hd hii =>
  have hx':=hfr.ev x
  rw [hx] at hx'
  have hxx:=hx'
  cases hce:a.eval x <;> rw [hce] at hx' <;> try (cases hx';done)
  rename_i A n cap
  have hn:n=xs.length∧n≤cap:=by
   cases hx' with
   | slnil hf=>exact ⟨rfl,by omega⟩
   | sl hn hc hf=>exact ⟨hn,hc⟩
  obtain ⟨hn1,hn2⟩:=hn
  subst hn1
  rw [hce] at hxx
  have g1:=(hh' ▸ hfr.ev hi).int
  have g2:=(hm ▸ hfr.ev mx).int
  refine op_val (S:=Instr.sliceAt t (a.eval x) (lo.map a.eval) (some (a.eval hi)) (some (a.eval mx))) (by simp [execOp,he]) ?_ hsim (sl_sub (mm:=hh) hxx hes h1 h2 (Nat.le_refl _) (by omega) fun _=>rfl) hK
  simp [Instr.sliceAt,Instr.slice,run_underlying hd,hce,run_sizeOf hii,g1,g2,run_bounds_slice3 true (opt_lo hfr hl hl0) h1 (Nat.le_refl _) (Nat.le_trans h2 hn2)]
 | @ex x i vs v h hv =>
  cases hc
  have hx:=hfr.ev x
  rw [h] at hx
  cases hce:a.eval x <;> rw [hce] at hx <;> try (cases hx;done)
  rename_i cs
  cases hx with
  | tup hl hr =>
  have hi:i < vs.length:=(List.getElem?_eq_some_iff.1 hv).1
  have hi' : i < cs.size:=by omega
  have hvv:vs[i]=v:=(List.getElem?_eq_some_iff.1 hv).2
  refine op_val (S:=Instr.extract (a.eval x) i) (c:=cs[i]) (by simp [execOp,he]) ?_ hsim (by rw [← hvv];exact hr i hi' hi) hK
  simp [Instr.extract,hce,hi']
 | _=>simp [AOp.late] at hlate
end
end Go.Proofs.YtmmmcpeickfolaaGreat

namespace Go.Proofs.YtmmmcpeickfolaaGreat
open Go.RowKit
theorem setCells_heap (b:Nat) (t:TypeId) (fr:Nat × Nat):∀ (vs:List Value) (o:Nat) (w:World) (arr:Array Value),w.heap[b]?=some (.cells arr t fr)→o + vs.length≤arr.size →
  (∃ arr' : Array Value,(w.setCells b o vs).heap[b]?=some (.cells arr' t fr)∧arr'.size=arr.size∧∀ k,arr'[k]?=if o≤k∧k < o + vs.length then vs[k - o]? else arr[k]?) ∧
  (w.setCells b o vs).heap.size=w.heap.size∧(∀ k,k≠b→(w.setCells b o vs).heap[k]?=w.heap[k]?)∧(w.setCells b o vs).os=w.os∧(w.setCells b o vs).tape=w.tape∧(w.setCells b o vs).output=w.output
 | [],o,w,arr,h,_=>⟨⟨arr,h,rfl,fun k=>by rw [if_neg (fun h=>by simp at h;omega)]⟩,rfl,fun _ _=>rfl,rfl,rfl,rfl⟩
 | v :: vs,o,w,arr,h,hl=>by
  have h1:(w.setCell ⟨b,o,none⟩ v).heap[b]?=some (.cells (arr.setIfInBounds o v) t fr):=by
   simp [World.setCell,Array.getElem?_modify,h]
  have h2:(w.setCell ⟨b,o,none⟩ v).heap.size=w.heap.size:=by simp [World.setCell]
  have h3:∀ k,k≠b→(w.setCell ⟨b,o,none⟩ v).heap[k]?=w.heap[k]?:=fun k hk=>Below.heap_setCell w _ v k hk
  obtain ⟨⟨arr',g1,g2,g3⟩,g4,g5,g6,g7,g8⟩:=setCells_heap b t fr vs (o + 1) (w.setCell ⟨b,o,none⟩ v) _ h1 (by simp at hl ⊢;omega)
  rw [World.setCells]
  refine ⟨⟨arr',g1,by simpa using g2,fun k=>?_⟩,g4.trans h2,fun k hk=>(g5 k hk).trans (h3 k hk),g6,g7,g8⟩
  rw [g3 k]
  simp only [List.length_cons] at hl ⊢
  by_cases ho:k=o
  ·subst ho
   rw [if_neg (by omega),if_pos (by omega)]
   simp [Array.getElem?_setIfInBounds]
   omega
  ·by_cases hk:o + 1≤k∧k < o + 1 + vs.length
   ·rw [if_pos hk,if_pos (by omega)]
    obtain ⟨j,rfl⟩ : ∃ j,k=o + 1 + j:=⟨k - (o + 1),by omega⟩
    rw [show o + 1 + j - o=j + 1 by omega,show o + 1 + j - (o + 1)=j by omega]
    rfl
   ·rw [if_neg hk,if_neg (by omega)]
    rw [Array.getElem?_setIfInBounds_ne (by omega)]
section
variable {P : Program} {B : Nat} {m0 m : Mem} {bk : Bks} {w : World} {st : List Slot}
theorem live_lt {id b sz:Nat} {cs:List V} {frz:Nat} {arr:Array Value} {t:TypeId} {lo hi:Nat} (h:LiveAt B m bk w id cs frz b sz arr t lo hi):b < w.heap.size:=by
 rcases Nat.lt_or_ge b w.heap.size with g | g
 ·exact g
 ·have:=h.heap;rw [Array.getElem?_eq_none g] at this;cases this
theorem Sim.write (hsim:Sim B m0 m bk w st) {i:Nat} {cs cs' : List V} {frz:Nat} (hi:st[i]?=some (.live cs frz)) {b sz:Nat} {arr:Array Value} {t:TypeId} {lo hi' : Nat} (hl:LiveAt B m bk w i cs frz b sz arr t lo hi')
  {w' : World} {arr' : Array Value} (g1:w'.heap[b]?=some (.cells arr' t (lo,hi'))) (g2:arr'.size=arr.size) (g4:w'.heap.size=w.heap.size) (g5:∀ k,k≠b→w'.heap[k]?=w.heap[k]?)
  (hfz:∀ k,k < frz→arr'[k]?=arr[k]?) (hlen:cs'.length≤sz) (hone:∀ u ∈ cs',u.one=true) (hrep:∀ k (hk:k < cs'.length),∃ u,arr'[k]?=some u∧Rep m bk u cs'[k]):Sim B m0 m bk w' (st.set i (.live cs' frz)) where
 base:=by rw [g4];exact hsim.base
 mem a u hu:=by
  have h0:=hsim.mem a u hu
  by_cases hb:a.block=b
  ·obtain ⟨ab,ao,sp⟩:=a
   simp only at hb
   subst hb
   have has:sp=none:=by
    cases sp with
    | none=>rfl
    | some s =>
     simp only [World.cell?,hl.heap] at h0
     simp at h0
   subst has
   have hlt:ao < frz:=by
    rcases Nat.lt_or_ge ao frz with h | h
    ·exact h
    ·have:=hl.mu ao h;rw [this] at hu;cases hu
   simp only [World.cell?,hl.heap] at h0
   simp only [World.cell?,g1]
   simpa [hfz ao hlt] using h0
  ·rw [World.cell?_of_block (w:=w) (g5 _ hb)];exact h0
 ext:=hsim.ext
 old:=hsim.old
 blk id c f hid:=by
  rw [List.getElem?_set] at hid
  by_cases hii:i=id
  ·subst hii
   rw [if_pos rfl] at hid
   split at hid
   ·simp only [Option.some.injEq,Slot.live.injEq] at hid
    obtain ⟨rfl,rfl⟩:=hid
    exact ⟨b,sz,arr',t,lo,hi',⟨hl.at_,hl.own,g1,by rw [g2];exact hl.size,hl.free,hlen,hone,hrep,hl.mu,fun k hk=>by rw [hfz k hk];exact hl.fz k hk⟩⟩
   ·cases hid
  ·rw [if_neg hii] at hid
   obtain ⟨b2,sz2,arr2,t2,lo2,hi2,h2⟩:=hsim.blk id c f hid
   have hne:b2≠b:=fun e=>hii (hsim.inj i id _ _ _ _ _ _ hi hid hl.at_ h2.at_ e.symm)
   exact ⟨b2,sz2,arr2,t2,lo2,hi2,⟨h2.at_,h2.own,by rw [g5 _ hne];exact h2.heap,h2.size,h2.free,h2.fit,h2.one,h2.rep,h2.mu,h2.fz⟩⟩
 inj a c ci fi cj fj x y ha hc hx hy e:=by
  have aux:∀ (a:Nat) (ci:List V) (fi:Nat),(st.set i (Slot.live cs' frz))[a]?=some (Slot.live ci fi)→∃ ci fi,st[a]?=some (Slot.live ci fi):=by
   intro a ci fi h
   rw [List.getElem?_set] at h
   by_cases hia:i=a
   ·subst hia;exact ⟨_,_,hi⟩
   ·rw [if_neg hia] at h;exact ⟨_,_,h⟩
  obtain ⟨c1,f1,h1⟩:=aux _ _ _ ha
  obtain ⟨c2,f2,h2⟩:=aux _ _ _ hc
  exact hsim.inj a c _ _ _ _ x y h1 h2 hx hy e
 nb id hid:=by
  refine hsim.nb id ?_
  rw [List.getElem?_set] at hid
  by_cases hii:i=id
  ·subst hii
   rw [if_pos rfl] at hid
   split at hid
   ·rcases hid with h | h <;> cases h
   ·rename_i h;have:=(List.getElem?_eq_some_iff.1 hi).1;exact absurd this h
  ·rw [if_neg hii] at hid;exact hid
def newBk (bk:Bks) (id:Nat) (x:Nat × Nat):Bks:=fun k=>if k=id then some x else bk k
theorem newBk_ge {bk:Bks} {id:Nat} {x:Nat × Nat} (h:bk id=none):∀ k y,bk k=some y→newBk bk id x k=some y:=by
 intro k y hy
 unfold newBk
 split
 ·rename_i e;subst e;rw [h] at hy;cases hy
 ·exact hy
theorem Sim.make (hsim:Sim B m0 m bk w st) {id:Nat} (hf:st[id]?=some .fresh) {w' : World} {cs:List V} {arr:Array Value} {t:TypeId} {lo hi:Nat} (hs:w.heap.size < w'.heap.size) (hk:∀ k,k < w.heap.size→w'.heap[k]?=w.heap[k]?)
  (hh:w'.heap[w.heap.size]?=some (.cells arr t (lo,hi))) (hfree:hi≤lo) (hlen:cs.length≤arr.size) (hone:∀ u ∈ cs,u.one=true) (hrep:∀ k (hk:k < cs.length),∃ u,arr[k]?=some u∧Rep m bk u cs[k]) :
  Sim B m0 m (newBk bk id (w.heap.size,arr.size)) w' (st.set id (.live cs 0)):=by
 generalize hfrz:(0:Nat)=frz
 have hn:=hsim.nb id (.inr hf)
 have hge:=newBk_ge (x:=(w.heap.size,arr.size)) hn
 have hw:=hsim.world (Nat.le_of_lt hs) hk
 have hidl:=(List.getElem?_eq_some_iff.1 hf).1
 refine ⟨hw.base,hw.mem,hw.ext,hw.old,fun k c f hkk=>?_,fun i j ci fi cj fj x y h1 h2 hx hy e=>?_,fun k hkk=>?_⟩
 ·rw [List.getElem?_set] at hkk
  by_cases e:id=k
  ·subst e
   rw [if_pos rfl,if_pos hidl] at hkk
   simp only [Option.some.injEq,Slot.live.injEq] at hkk
   obtain ⟨rfl,rfl⟩:=hkk
   refine ⟨w.heap.size,arr.size,arr,t,lo,hi,⟨by simp [newBk],hsim.base,hh,rfl,hfree,hlen,hone,fun k hk=>?_,fun k _=>?_,fun k hk=>by omega⟩⟩
   ·obtain ⟨u,h1,h2⟩:=hrep k hk
    exact ⟨u,h1,h2.mono (fun _ _ h=>h) hge⟩
   ·cases h:m ⟨w.heap.size,k,none⟩ with
    | none=>rfl
    | some u=>exact absurd (cell_lt (hsim.mem _ _ h)) (Nat.lt_irrefl _)
  ·rw [if_neg e] at hkk
   obtain ⟨b2,sz2,arr2,t2,lo2,hi2,h2⟩:=hw.blk k c f hkk
   exact ⟨b2,sz2,arr2,t2,lo2,hi2,⟨hge _ _ h2.at_,h2.own,h2.heap,h2.size,h2.free,h2.fit,h2.one,fun k hk=>by obtain ⟨u,g1,g2⟩:=h2.rep k hk;exact ⟨u,g1,g2.mono (fun _ _ h=>h) hge⟩,h2.mu,h2.fz⟩⟩
 ·have aux:∀ (i:Nat) (ci:List V) (fi:Nat) (x:Nat × Nat),i≠id→(st.set id (Slot.live cs frz))[i]?=some (Slot.live ci fi)→newBk bk id (w.heap.size,arr.size) i=some x→st[i]?=some (Slot.live ci fi)∧bk i=some x∧x.1 < w.heap.size:=by
   intro i ci fi x hi h hx
   rw [List.getElem?_set,if_neg (fun e=>hi e.symm)] at h
   unfold newBk at hx
   rw [if_neg hi] at hx
   obtain ⟨b2,sz2,arr2,t2,lo2,hi2,h2⟩:=hsim.blk i ci fi h
   have:=live_lt h2
   have e2:=h2.at_
   rw [hx] at e2
   injection e2 with e2
   subst e2
   exact ⟨h,hx,this⟩
  have self:∀ x,newBk bk id (w.heap.size,arr.size) id=some x→x.1=w.heap.size:=by
   intro x hx;simp [newBk] at hx;subst hx;rfl
  by_cases hi:i=id
  ·by_cases hj:j=id
   ·rw [hi,hj]
   ·subst hi
    obtain ⟨_,_,g⟩:=aux j cj fj y hj h2 hy
    have:=self x hx
    omega
  ·by_cases hj:j=id
   ·subst hj
    obtain ⟨_,_,g⟩:=aux i ci fi x hi h1 hx
    have:=self y hy
    omega
   ·obtain ⟨a1,a2,_⟩:=aux i ci fi x hi h1 hx
    obtain ⟨b1,b2,_⟩:=aux j cj fj y hj h2 hy
    exact hsim.inj i j _ _ _ _ x y a1 b1 a2 b2 e
 ·have hne:k≠id:=by
   intro e
   subst e
   rw [List.getElem?_set,if_pos rfl,if_pos hidl] at hkk
   rcases hkk with h | h <;> cases h
  rw [List.getElem?_set,if_neg (fun e=>hne e.symm)] at hkk
  unfold newBk
  rw [if_neg hne]
  exact hsim.nb k hkk
theorem Sim.call (hsim:Sim B m0 m bk w st) {w' : World} {m' : Mem} (hb:Below w.heap.size w w') (h1:∀ a u,m' a=some u→w'.cell? a=some u) (h2:∀ a u,m a=some u→m' a=some u)
  (h3:∀ a u,m' a=some u→m a=some u∨w.heap.size≤a.block):Sim B m0 m' bk w' st where
 base:=Nat.le_trans hsim.base hb.size
 mem:=h1
 ext a u h:=h2 _ _ (hsim.ext a u h)
 old a u h:=by
  rcases h3 a u h with h | h
  ·exact hsim.old a u h
  ·exact .inr (Nat.le_trans hsim.base h)
 blk id cs frz hid:=by
  obtain ⟨b,sz,arr,t,lo,hi,h⟩:=hsim.blk id cs frz hid
  refine ⟨b,sz,arr,t,lo,hi,⟨h.at_,h.own,by rw [hb.block b (live_lt h)];exact h.heap,h.size,h.free,h.fit,h.one,fun k hk=>?_,fun k hk=>?_,fun k hk=>?_⟩⟩
  ·obtain ⟨u,g1,g2⟩:=h.rep k hk
   exact ⟨u,g1,g2.mono h2 (fun _ _ h=>h)⟩
  ·cases hm:m' ⟨b,k,none⟩ with
   | none=>rfl
   | some u =>
    rcases h3 _ _ hm with g | g
    ·rw [h.mu k hk] at g;cases g
    ·have:=live_lt h;simp at g;omega
  ·rw [← h.fz k hk]
   cases hm:m' ⟨b,k,none⟩ with
   | none =>
    cases hm2:m ⟨b,k,none⟩ with
    | none=>rfl
    | some u=>rw [h2 _ _ hm2] at hm;cases hm
   | some u =>
    rcases h3 _ _ hm with g | g
    ·exact g.symm
    ·have:=live_lt h;simp at g;omega
 inj:=hsim.inj
 nb:=hsim.nb
theorem Sim.freeze (hsim:Sim B m0 m bk w st) {i:Nat} {cs:List V} {frz:Nat} (hi:st[i]?=some (.live cs frz)) {f:Nat} (hf1:frz≤f) (hf2:f≤cs.length) :
  ∃ m',Sim B m0 m' bk w (st.set i (.live cs f))∧∀ a u,m a=some u→m' a=some u:=by
 obtain ⟨b,sz,arr,t,lo,hi',hl⟩:=hsim.blk _ _ _ hi
 have hfit:=hl.fit
 have hsize:=hl.size
 have hil:=(List.getElem?_eq_some_iff.1 hi).1
 let m' : Mem:=fun a=>if a.block=b∧a.off < f∧a.spot=none then arr[a.off]? else m a
 have hge:∀ a u,m a=some u→m' a=some u:=by
  intro a u h
  show (if a.block=b∧a.off < f∧a.spot=none then arr[a.off]? else m a)=some u
  by_cases hc:a.block=b∧a.off < f∧a.spot=none
  ·rw [if_pos hc]
   have:=hsim.mem a u h
   obtain ⟨ab,ao,sp⟩:=a
   obtain ⟨h1,h2,h3⟩:=hc
   simp only at h1 h2 h3
   subst h1 h3
   simpa [World.cell?,hl.heap] using this
  ·rw [if_neg hc];exact h
 refine ⟨m',⟨hsim.base,fun a u h=>?_,fun a u h=>hge _ _ (hsim.ext a u h),fun a u h=>?_,fun id c g hid=>?_,fun p q cp fp cq fq x y hp hq hx hy e=>?_,fun id hid=>?_⟩,hge⟩
 ·change (if a.block=b∧a.off < f∧a.spot=none then arr[a.off]? else m a)=some u at h
  by_cases hc:a.block=b∧a.off < f∧a.spot=none
  ·rw [if_pos hc] at h
   obtain ⟨ab,ao,sp⟩:=a
   obtain ⟨h1,h2,h3⟩:=hc
   simp only at h1 h2 h3 h
   subst h1 h3
   simpa [World.cell?,hl.heap] using h
  ·rw [if_neg hc] at h;exact hsim.mem a u h
 ·change (if a.block=b∧a.off < f∧a.spot=none then arr[a.off]? else m a)=some u at h
  by_cases hc:a.block=b∧a.off < f∧a.spot=none
  ·exact .inr (by rw [hc.1];exact hl.own)
  ·rw [if_neg hc] at h;exact hsim.old a u h
 ·rw [List.getElem?_set] at hid
  by_cases e:i=id
  ·subst e
   rw [if_pos rfl,if_pos hil] at hid
   simp only [Option.some.injEq,Slot.live.injEq] at hid
   obtain ⟨rfl,rfl⟩:=hid
   refine ⟨b,sz,arr,t,lo,hi',⟨hl.at_,hl.own,hl.heap,hl.size,hl.free,hl.fit,hl.one,fun k hk=>?_,fun k hk=>?_,fun k hk=>?_⟩⟩
   ·obtain ⟨u,g1,g2⟩:=hl.rep k hk
    exact ⟨u,g1,g2.mono hge (fun _ _ h=>h)⟩
   ·show (if b=b∧k < f∧none=none then arr[k]? else m ⟨b,k,none⟩)=none
    rw [if_neg (by omega)]
    exact hl.mu k (by omega)
   ·show (if b=b∧k < f∧none=none then arr[k]? else m ⟨b,k,none⟩)=arr[k]?
    rw [if_pos ⟨rfl,hk,rfl⟩]
  ·rw [if_neg e] at hid
   obtain ⟨b2,sz2,arr2,t2,lo2,hi2,h2⟩:=hsim.blk id c g hid
   have hne:b2≠b:=fun q=>e (hsim.inj i id _ _ _ _ _ _ hi hid hl.at_ h2.at_ q.symm)
   refine ⟨b2,sz2,arr2,t2,lo2,hi2,⟨h2.at_,h2.own,h2.heap,h2.size,h2.free,h2.fit,h2.one,fun k hk=>?_,fun k hk=>?_,fun k hk=>?_⟩⟩
   ·obtain ⟨u,g1,g2⟩:=h2.rep k hk
    exact ⟨u,g1,g2.mono hge (fun _ _ h=>h)⟩
   ·show (if b2=b∧k < f∧none=none then arr[k]? else m ⟨b2,k,none⟩)=none
    rw [if_neg (fun q=>hne q.1)];exact h2.mu k hk
   ·show (if b2=b∧k < f∧none=none then arr[k]? else m ⟨b2,k,none⟩)=arr2[k]?
    rw [if_neg (fun q=>hne q.1)];exact h2.fz k hk
 ·have aux:∀ (a:Nat) (ci:List V) (fi:Nat),(st.set i (Slot.live cs f))[a]?=some (Slot.live ci fi)→∃ ci fi,st[a]?=some (Slot.live ci fi):=by
   intro a ci fi h
   rw [List.getElem?_set] at h
   by_cases hia:i=a
   ·subst hia;exact ⟨_,_,hi⟩
   ·rw [if_neg hia] at h;exact ⟨_,_,h⟩
  obtain ⟨c1,f1,h1⟩:=aux _ _ _ hp
  obtain ⟨c2,f2,h2⟩:=aux _ _ _ hq
  exact hsim.inj p q _ _ _ _ x y h1 h2 hx hy e
 ·refine hsim.nb id ?_
  rw [List.getElem?_set] at hid
  by_cases e:i=id
  ·subst e
   rw [if_pos rfl,if_pos hil] at hid
   rcases hid with h | h <;> cases h
  ·rw [if_neg e] at hid;exact hid
theorem Sim.dead (hsim:Sim B m0 m bk w st) (i:Nat) (hi:st[i]?≠some .fresh):Sim B m0 m bk w (st.set i .dead) where
 base:=hsim.base
 mem:=hsim.mem
 ext:=hsim.ext
 old:=hsim.old
 blk id cs frz hid:=by
  rw [List.getElem?_set] at hid
  by_cases e:i=id
  ·subst e;rw [if_pos rfl] at hid;split at hid <;> cases hid
  ·rw [if_neg e] at hid;exact hsim.blk id cs frz hid
 inj a c ci fi cj fj x y ha hc hx hy e:=by
  have aux:∀ (a:Nat) (ci:List V) (fi:Nat),(st.set i Slot.dead)[a]?=some (Slot.live ci fi)→st[a]?=some (Slot.live ci fi):=by
   intro a ci fi h
   rw [List.getElem?_set] at h
   by_cases hia:i=a
   ·subst hia;rw [if_pos rfl] at h;split at h <;> cases h
   ·rw [if_neg hia] at h;exact h
  exact hsim.inj a c _ _ _ _ x y (aux _ _ _ ha) (aux _ _ _ hc) hx hy e
 nb id hid:=by
  refine hsim.nb id ?_
  rw [List.getElem?_set] at hid
  by_cases e:i=id
  ·subst e
   rw [if_pos rfl] at hid
   split at hid
   ·rcases hid with h | h <;> cases h
   ·rename_i h;exact .inl (List.getElem?_eq_none (by omega))
  ·rw [if_neg e] at hid;exact hid
end
end Go.Proofs.YtmmmcpeickfolaaGreat

namespace Go.Proofs.YtmmmcpeickfolaaGreat
open Go.RowKit
def eqVals:List Nat→List Value→List Value→Option Bool
 | [],[],[]=>some true
 | k :: ks,a :: l,b :: m=>(cellEq k a b).bind fun r=>(eqVals ks l m).map (r && ·)
 | _,_,_=>none
theorem eqVals_split:∀ (n:Nat) (ks:List Nat) (l m:List Value) (r:Bool),eqVals ks l m=some r→∃ r1 r2,eqVals (ks.take n) (l.take n) (m.take n)=some r1∧eqVals (ks.drop n) (l.drop n) (m.drop n)=some r2∧r=(r1 && r2)
 | 0,ks,l,m,r,h=>⟨true,r,by simp [eqVals],by simpa using h,by simp⟩
 | n + 1,[],[],[],r,h=>⟨true,r,by simp [eqVals],by simpa using h,by simp⟩
 | n + 1,k :: ks,a :: l,b :: m,r,h=>by
  simp only [eqVals,Option.bind_eq_some_iff,Option.map_eq_some_iff] at h
  obtain ⟨x,hx,y,hy,rfl⟩:=h
  obtain ⟨r1,r2,h1,h2,rfl⟩:=eqVals_split n ks l m y hy
  exact ⟨x && r1,r2,by simp [eqVals,hx,h1],by simpa using h2,by rw [Bool.and_assoc]⟩
 | n + 1,[],_ :: _,_,r,h=>by simp [eqVals] at h
 | n + 1,[],[],_ :: _,r,h=>by simp [eqVals] at h
 | n + 1,_ :: _,[],_,r,h=>by simp [eqVals] at h
 | n + 1,_ :: _,_ :: _,[],r,h=>by simp [eqVals] at h
theorem run_part_mk {P:Program} {t:TypeId} {i:TypeInfo} (hd:(P.underlying t).isSome=true) (hi:P.info? t=some i) (w:World) (cs:Array Value) (off:Nat) (h:off + i.size≤cs.size) (h1:isAggT P t=false→i.size=1) :
  (part t cs off).run P w=.ok (mkV (isAggT P t) ((cs.toList.drop off).take i.size)) w:=by
 obtain ⟨d,hd⟩:=Option.isSome_iff_exists.1 hd
 have e:isAggT P t=isAggD d:=by simp [isAggT,hd]
 rw [e] at h1 ⊢
 simp only [part,Sem.run_bind,run_isAgg hd,Result.andThen_ok]
 cases hb:isAggD d with
 | true =>
  simp only [if_true,Sem.run_bind,run_sizeOf hi,Result.andThen_ok,Sem.run_pure,mkV]
  congr 2
  apply Array.ext'
  simp [Array.toList_extract,List.extract_eq_take_drop]
 | false =>
  have hs:=h1 hb
  have hlt:off < cs.size:=by omega
  have h1:cs[off]?=some cs[off]:=by simp [hlt]
  simp only [Bool.false_eq_true,if_false,h1,Sem.run_pure,mkV,hs]
  congr 1
  simp [List.getD,hlt]
theorem eqTy_struct {P:Program} {d:Nat} {t:TypeId} {ks:List Nat} {fs:Array Field} (h:eqTy P (d + 1) t ks=true) (hu:P.underlying t=some (.struct fs)):P.stoodInHeld t=false∧tilesF P (eqTy P d) 0 fs.toList (P.cellsOf t) ks=true:=by
 unfold eqTy at h
 rw [hu] at h
 simpa using h
theorem eqTy_und {P:Program} {d:Nat} {t:TypeId} {ks:List Nat} (h:eqTy P d t ks=true):(P.underlying t).isSome=true∧(isAggT P t=false→(P.info? t).map (·.size)=some 1):=by
 cases d with
 | zero=>simp [eqTy] at h
 | succ d =>
  unfold eqTy at h
  cases hu:P.underlying t with
  | none=>rw [hu] at h;cases h
  | some x =>
   refine ⟨rfl,fun ha=>?_⟩
   rw [hu] at h
   cases x <;> first | (simp at h;exact Option.map_eq_some_iff.2 h.1) | (simp [isAggT,hu,isAggD] at ha;done) | (simp at h;done)
theorem run_eqFields_tiles {P : Program} (d e : Nat) (ih : ∀ (t : TypeId) (ks : List Nat) (cs ds : List Value) (r : Bool) (w : World), eqTy P d t ks = true → cs.length = P.cellsOf t → ds.length = P.cellsOf t → eqVals ks cs ds = some r →
      (Op.equalIn (e + d) t (mkV (isAggT P t) cs) (mkV (isAggT P t) ds)).run P w = .ok r w) (xs ys : Array Value) (w : World) : ∀ (fs : List Field) (off n : Nat) (ks : List Nat) (r : Bool), tilesF P (eqTy P d) off fs n ks = true → xs.size = n → ys.size = n →
      eqVals ks (xs.toList.drop off) (ys.toList.drop off) = some r → (Op.eqFields (e + d) xs ys fs).run P w = .ok r w
  | [], off, n, ks, r, h, hx, hy, hr => by
    simp only [tilesF, beq_iff_eq] at h
    subst h
    rw [List.drop_of_length_le (by simp [hx]), List.drop_of_length_le (by simp [hy])] at hr
    cases ks <;> simp only [eqVals, Option.some.injEq, reduceCtorEq] at hr
    subst hr
    simp [Op.eqFields]
  | f :: fs, off, n, ks, r, h, hx, hy, hr => by
    simp only [tilesF, Bool.and_eq_true, bne_iff_ne, ne_eq, beq_iff_eq] at h
    obtain ⟨⟨⟨⟨h1, h2⟩, h3⟩, h4⟩, h5⟩ := h
    obtain ⟨i, hi⟩ := Option.isSome_iff_exists.1 h3
    have hc : P.cellsOf f.type = i.size := by simp [Program.cellsOf, hi]
    have hle : ∀ (fs : List Field) (off : Nat) (ks : List Nat), tilesF P (eqTy P d) off fs n ks = true → off ≤ n := by
      intro fs
      induction fs with
      | nil => intro off ks h; simp only [tilesF, beq_iff_eq] at h; omega
      | cons g gs ihg => intro off ks h; simp only [tilesF, Bool.and_eq_true] at h; have := ihg _ _ h.2; omega
    have hbound := hle _ _ _ h5
    rw [hc] at h4 h5 hbound
    obtain ⟨r1, r2, g1, g2, rfl⟩ := eqVals_split i.size _ _ _ _ hr
    obtain ⟨u1, u2⟩ := eqTy_und h4
    have hs1 : isAggT P f.type = false → i.size = 1 := fun ha => by have := u2 ha; simpa [hi] using this
    have p1 := run_part_mk (P := P) u1 hi w xs off (by omega) hs1
    have p2 := run_part_mk (P := P) u1 hi w ys off (by omega) hs1
    have p3 := ih f.type _ _ _ r1 w h4 (by simp; omega) (by simp; omega) g1
    have p4 := run_eqFields_tiles d e ih xs ys w fs (off + i.size) n _ r2 h5 hx hy (by simpa [List.drop_drop] using g2)
    subst h2
    simp only [Op.eqFields, h1, ne_eq, not_false_eq_true, if_true, Sem.run_bind, p1, p2, p3, Result.andThen_ok, Sem.run_ite]
    cases r1
    · simp
    · simpa using p4
theorem run_eqItems_tiles {P : Program} (d e : Nat) (ih : ∀ (t : TypeId) (ks : List Nat) (cs ds : List Value) (r : Bool) (w : World), eqTy P d t ks = true → cs.length = P.cellsOf t → ds.length = P.cellsOf t → eqVals ks cs ds = some r →
      (Op.equalIn (e + d) t (mkV (isAggT P t) cs) (mkV (isAggT P t) ds)).run P w = .ok r w) (xs ys : Array Value) (w : World) {t : TypeId} {i : TypeInfo} (hi : P.info? t = some i) : ∀ (n off : Nat) (ks : List Nat) (r : Bool), tilesA (eqTy P d t) i.size n ks = true → (off + n) * i.size = xs.size → (off + n) * i.size = ys.size →
      eqVals ks (xs.toList.drop (off * i.size)) (ys.toList.drop (off * i.size)) = some r → (Op.eqItems (e + d) t i.size xs ys (List.range' off n)).run P w = .ok r w
  | 0, off, ks, r, h, hx, hy, hr => by
    simp only [tilesA, beq_iff_eq] at h
    subst h
    rw [Nat.add_zero] at hx hy
    rw [List.drop_of_length_le (by simp [hx]), List.drop_of_length_le (by simp [hy])] at hr
    simp only [eqVals, Option.some.injEq] at hr
    subst hr
    simp [Op.eqItems]
  | n + 1, off, ks, r, h, hx, hy, hr => by
    simp only [tilesA, Bool.and_eq_true] at h
    obtain ⟨h4, h5⟩ := h
    have hm : (off + (n + 1)) * i.size = off * i.size + i.size + n * i.size := by rw [Nat.add_mul, Nat.add_mul, Nat.one_mul]; omega
    have hc : P.cellsOf t = i.size := by simp [Program.cellsOf, hi]
    obtain ⟨r1, r2, g1, g2, rfl⟩ := eqVals_split i.size _ _ _ _ hr
    obtain ⟨u1, u2⟩ := eqTy_und h4
    have hs1 : isAggT P t = false → i.size = 1 := fun ha => by have := u2 ha; simpa [hi] using this
    have p1 := run_part_mk (P := P) u1 hi w xs (off * i.size) (by omega) hs1
    have p2 := run_part_mk (P := P) u1 hi w ys (off * i.size) (by omega) hs1
    have p3 := ih t _ _ _ r1 w h4 (by simp; omega) (by simp; omega) g1
    have p4 := run_eqItems_tiles d e ih xs ys w hi n (off + 1) _ r2 h5 (by rw [← hx]; congr 1; omega) (by rw [← hy]; congr 1; omega) (by rw [Nat.add_mul, Nat.one_mul]; simpa [List.drop_drop] using g2)
    rw [List.range'_succ]
    simp only [Op.eqItems, Sem.run_bind, p1, p2, p3, Result.andThen_ok]
    cases r1
    · simp
    · simpa using p4
theorem eqIn {P : Program} (e : Nat) : ∀ (d : Nat) (t : TypeId) (ks : List Nat) (cs ds : List Value) (r : Bool) (w : World), eqTy P d t ks = true → cs.length = P.cellsOf t → ds.length = P.cellsOf t → eqVals ks cs ds = some r →
      (Op.equalIn (e + d) t (mkV (isAggT P t) cs) (mkV (isAggT P t) ds)).run P w = .ok r w
  | 0, t, ks, cs, ds, r, w, h, _, _, _ => by simp [eqTy] at h
  | d + 1, t, ks, cs, ds, r, w, h, hc, hd, hr => by
    cases hu : P.underlying t with
    | none => have := (eqTy_und h).1; rw [hu] at this; cases this
    | some x =>
      by_cases hx : ∃ fs, x = .struct fs
      · obtain ⟨fs, rfl⟩ := hx
        obtain ⟨g1, g2⟩ := eqTy_struct h hu
        have hf : P.fieldsOf t = fs := by simp [Program.fieldsOf, hu]
        have ha : isAggT P t = true := by simp [isAggT, hu, isAggD]
        simp only [ha, mkV, if_true]
        rw [← Nat.add_assoc, run_equalIn_struct w (e + d) t _ _ (by rw [hf]; exact hu) g1, hf]
        exact run_eqFields_tiles d e (eqIn e d) _ _ w _ 0 _ ks r g2 (by simpa using hc) (by simpa using hd) (by simpa using hr)
      by_cases hx2 : ∃ n e', x = .array n e'
      · obtain ⟨n, e', rfl⟩ := hx2
        have h2 := h
        unfold eqTy at h2
        rw [hu] at h2
        simp only [Bool.and_eq_true, beq_iff_eq] at h2
        obtain ⟨⟨q1, q2⟩, q3⟩ := h2
        obtain ⟨i, hi⟩ := Option.isSome_iff_exists.1 q1
        have hci : P.cellsOf e' = i.size := by simp [Program.cellsOf, hi]
        have ha : isAggT P t = true := by simp [isAggT, hu, isAggD]
        simp only [ha, mkV, if_true]
        rw [← Nat.add_assoc, run_equalIn_array w (e + d) _ _ hu hi, hci, List.range_eq_range']
        rw [hci] at q2 q3
        exact run_eqItems_tiles d e (eqIn e d) _ _ w hi n 0 ks r q3 (by rw [Nat.zero_add, q2, ← hc]; simp) (by rw [Nat.zero_add, q2, ← hd]; simp) (by simpa using hr)
      · have ha : isAggT P t = false := by
          unfold eqTy at h
          rw [hu] at h
          cases x <;> first | (simp [isAggT, hu, isAggD]; done) | (exact absurd ⟨_, rfl⟩ hx) | (exact absurd ⟨_, _, rfl⟩ hx2) | (simp at h; done)
        have hs := (eqTy_und h).2 ha
        have hcl : P.cellsOf t = 1 := by unfold Program.cellsOf; rw [hs]; rfl
        rw [hcl] at hc hd
        obtain ⟨a, rfl⟩ := List.length_eq_one_iff.1 hc
        obtain ⟨b, rfl⟩ := List.length_eq_one_iff.1 hd
        simp only [ha, mkV, Bool.false_eq_true, if_false, List.getD_cons_zero]
        unfold eqTy at h
        rw [hu] at h
        rw [← Nat.add_assoc]
        cases x with
        | bool =>
          simp only [Bool.and_eq_true, beq_iff_eq] at h
          obtain ⟨_, rfl⟩ := h
          cases a <;> cases b <;> simp [eqVals, cellEq] at hr
          subst hr
          exact run_equalIn_bool' w _ t _ _ hu
        | int k0 =>
          simp only [Bool.and_eq_true, beq_iff_eq] at h
          obtain ⟨_, rfl⟩ := h
          cases a <;> cases b <;> simp [eqVals, cellEq] at hr
          rename_i k1 n1 k2 n2
          by_cases hk : k1 = k2
          · subst hk
            simp at hr
            subst hr
            exact run_equalIn_int w _ t _ _ _ _ hu
          · simp [hk] at hr
        | string =>
          simp only [Bool.and_eq_true, beq_iff_eq] at h
          obtain ⟨_, rfl⟩ := h
          cases a <;> cases b <;> simp [eqVals, cellEq] at hr
          subst hr
          exact run_equalIn_string w _ t _ _ hu
        | struct fs => exact absurd ⟨_, rfl⟩ hx
        | array n e' => exact absurd ⟨_, _, rfl⟩ hx2
        | _ => simp at h
end Go.Proofs.YtmmmcpeickfolaaGreat

namespace Go.Proofs.YtmmmcpeickfolaaGreat
open Go.RowKit
theorem wp_of_run {P:Program} {o:Oper} {a:Act} {w w' : World} {c:Value} {K:Act→World→Prop} {Q:Exit→Act→World→Prop} {S:Sem Value} (he:execOp a.eval o=(do pure (.value (← S)))) (hr:S.run P w=.ok c w') (hk:K (a.put o.dst c) w'):o.wp P a w K Q :=
 wp_val (by rw [he];simp [hr]) hk
theorem eqL_vals {m:Mem} {bk:Bks}:∀ (ks:List Nat) (l r:List V) (ds es:List Value) (b:Bool),eqL ks l r=some b→l.length=ds.length→r.length=es.length→(∀ j (h1:j < ds.length) (h2:j < l.length),Rep m bk ds[j] l[j])→(∀ j (h1:j < es.length) (h2:j < r.length),Rep m bk es[j] r[j])→eqVals ks ds es=some b
 | [],[],[],[],[],b,h,_,_,_,_=>by simpa [eqL,eqVals] using h
 | k :: ks,.lit x :: l,.lit y :: r,d :: ds,e :: es,b,h,h1,h2,g1,g2=>by
  have e1:=(g1 0 (by simp) (by simp)).int
  have e2:=(g2 0 (by simp) (by simp)).int
  simp only [List.getElem_cons_zero] at e1 e2
  subst e1 e2
  simp only [eqL,Option.bind_eq_some_iff,Option.map_eq_some_iff] at h
  obtain ⟨x',hx,y',hy,rfl⟩:=h
  have:=eqL_vals ks l r ds es y' hy (by simpa using h1) (by simpa using h2) (fun j a b=>g1 (j + 1) (by simpa using a) (by simpa using b)) (fun j a b=>g2 (j + 1) (by simpa using a) (by simpa using b))
  simp [eqVals,hx,this]
 | [],_ :: _,_,_,_,b,h,_,_,_,_=>by simp [eqL] at h
 | [],[],_ :: _,_,_,b,h,_,_,_,_=>by simp [eqL] at h
 | [],[],[],_ :: _,_,b,h,h1,_,_,_=>by simp at h1
 | [],[],[],[],_ :: _,b,h,_,h2,_,_=>by simp at h2
 | _ :: _,[],_,_,_,b,h,_,_,_,_=>by simp [eqL] at h
 | _ :: _,_ :: _,[],_,_,b,h,_,_,_,_=>by simp [eqL] at h
 | _ :: _,_ :: _,_ :: _,[],_,b,h,h1,_,_,_=>by simp at h1
 | _ :: _,_ :: _,_ :: _,_ :: _,[],b,h,_,h2,_,_=>by simp at h2
theorem foldl_put:∀ (l:List Value) (k off:Nat) (cs:Array Value),off + k + l.length≤cs.size →
  ((l.zipIdx k).foldl (fun cs (x:Value × Nat)=>cs.setIfInBounds (off + x.2) x.1) cs).toList=cs.toList.take (off + k)++l++cs.toList.drop (off + k + l.length)
 | [],k,off,cs,h=>by simp
 | v :: l,k,off,cs,h=>by
  simp only [List.length_cons] at h
  rw [List.zipIdx_cons,List.foldl_cons,foldl_put l (k + 1) off _ (by simp;omega)]
  have e:(cs.setIfInBounds (off + k) v).toList=cs.toList.take (off + k)++v :: cs.toList.drop (off + k + 1):=by
   rw [Array.toList_setIfInBounds]
   rw [List.set_eq_take_append_cons_drop,if_pos (by simp;omega)]
  rw [e]
  have hl:(cs.toList.take (off + k)).length=off + k:=by simp;omega
  rw [show off + (k + 1)=(cs.toList.take (off + k)).length + 1 by omega]
  rw [List.take_append,List.drop_append]
  simp only [Nat.add_sub_cancel_left,List.take_succ_cons,List.take_zero,List.length_cons,hl]
  rw [show off + k + 1 + l.length - (off + k)=l.length + 1 by omega,List.drop_succ_cons,List.drop_drop]
  have h2:(cs.toList.take (off + k)).take (off + k + 1)=cs.toList.take (off + k):=List.take_of_length_le (by omega)
  have h3:(cs.toList.take (off + k)).drop (off + k + 1 + l.length)=[]:=List.drop_of_length_le (by omega)
  rw [h2,h3]
  simp only [List.nil_append,List.append_assoc,List.cons_append]
  rw [show off + k + 1 + l.length=off + k + (l.length + 1) by omega]
def RepL (m:Mem) (bk:Bks) (ds:List Value) (l:List V):Prop:=ds.length=l.length∧∀ j (h1:j < ds.length) (h2:j < l.length),Rep m bk ds[j] l[j]
theorem RepL.append {m:Mem} {bk:Bks} {a b:List Value} {l r:List V} (h1:RepL m bk a l) (h2:RepL m bk b r):RepL m bk (a++b) (l++r):=by
 refine ⟨by simp [h1.1,h2.1],fun j g1 g2=>?_⟩
 by_cases hj:j < a.length
 ·rw [List.getElem_append_left hj,List.getElem_append_left (by rw [← h1.1];exact hj)]
  exact h1.2 _ _ _
 ·rw [List.getElem_append_right (by omega),List.getElem_append_right (by have:=h1.1;omega)]
  have e:j - a.length=j - l.length:=by rw [h1.1]
  simp only [e]
  exact h2.2 _ _ _
theorem RepL.take {m:Mem} {bk:Bks} {a:List Value} {l:List V} (h:RepL m bk a l) (n:Nat):RepL m bk (a.take n) (l.take n) :=
 ⟨by simp [h.1],fun j g1 g2=>by simp only [List.getElem_take];exact h.2 _ _ _⟩
theorem RepL.drop {m:Mem} {bk:Bks} {a:List Value} {l:List V} (h:RepL m bk a l) (n:Nat):RepL m bk (a.drop n) (l.drop n) :=
 ⟨by simp [h.1],fun j g1 g2=>by simp only [List.getElem_drop];exact h.2 _ _ _⟩
theorem Rep.cellsL {m:Mem} {bk:Bks} {c:Value} {v:V} (h:Rep m bk c v) (hv:v.stb=true):RepL m bk c.cells.toList v.cells∧∀ u ∈ v.cells,u.one=true:=by
 obtain ⟨h1,h2,h3⟩:=h.cells (V.stb_or hv)
 exact ⟨⟨by simpa using h1,fun j a b=>by simpa using h3 j (by simpa using a) b⟩,h2⟩
theorem fill_rep {m:Mem} {bk:Bks} (pl:Nat→Option (Nat × Nat)):∀ (parts:List (Nat × Value)) (ps:List (Nat × Nat × V)) (z:Array Value) (zs:List V) (cs:List V),RepL m bk z.toList zs→(∀ u ∈ zs,u.one=true) →
  parts.length=ps.length→(∀ j (h1:j < parts.length) (h2:j < ps.length),pl parts[j].1=some (ps[j].1,ps[j].2.1)∧Rep m bk parts[j].2 ps[j].2.2)→fillV zs ps=some cs →
  ∃ c:Array Value,Instr.fill pl z parts=some c∧RepL m bk c.toList cs∧∀ u ∈ cs,u.one=true
 | [],[],z,zs,cs,hz,h1,_,_,h=>by
  simp only [fillV,Option.some.injEq] at h
  subst h
  exact ⟨z,rfl,hz,h1⟩
 | [],_ :: _,_,_,_,_,_,h,_,_=>by simp at h
 | _ :: _,[],_,_,_,_,_,h,_,_=>by simp at h
 | (i,v) :: parts,(off,sz,u) :: ps,z,zs,cs,hz,h1,hl,hp,h=>by
  obtain ⟨p1,p2⟩:=hp 0 (by simp) (by simp)
  simp only [List.getElem_cons_zero] at p1 p2
  simp only [fillV] at h
  split at h
  ·rename_i hc
   obtain ⟨c1,c2,c3⟩:=hc
   obtain ⟨q1,q2⟩:=p2.cellsL c3
   have hsz:v.cells.size=sz:=by have:=q1.1;simp at this;omega
   have hzl:z.size=zs.length:=by simpa using hz.1
   have hbig:¬ (v.cells.size≠sz || off + v.cells.size > z.size)=true:=by simp [hsz];omega
   have hfold:(v.cells.zipIdx.foldl (fun cs (c,j)=>cs.setIfInBounds (off + j) c) z).toList=z.toList.take off++v.cells.toList++z.toList.drop (off + sz):=by
    rw [← Array.foldl_toList,Array.toList_zipIdx]
    have:=foldl_put v.cells.toList 0 off z (by simp;omega)
    simp only [Nat.add_zero,Array.length_toList,hsz] at this
    exact this
   have hrep:RepL m bk (v.cells.zipIdx.foldl (fun cs (c,j)=>cs.setIfInBounds (off + j) c) z).toList (zs.take off++u.cells++zs.drop (off + sz)):=by
    rw [hfold]
    exact ((hz.take off).append q1).append (hz.drop _)
   obtain ⟨c,g1,g2,g3⟩:=fill_rep pl parts ps _ _ cs hrep (fun x hx=>by
    simp only [List.mem_append] at hx
    rcases hx with (hx | hx) | hx
    ·exact h1 x (List.mem_of_mem_take hx)
    ·exact q2 x hx
    ·exact h1 x (List.mem_of_mem_drop hx)) (by simpa using hl) (fun j a b=>hp (j + 1) (by simpa using a) (by simpa using b)) h
   refine ⟨c,?_,g2,g3⟩
   simp only [Instr.fill,p1]
   rw [if_neg hbig]
   exact g1
  ·cases h
end Go.Proofs.YtmmmcpeickfolaaGreat

