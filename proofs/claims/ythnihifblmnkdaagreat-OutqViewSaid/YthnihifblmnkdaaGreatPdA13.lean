/- A part of the proof: 7 texts joined. -/
import Derived.Test.YthnihifblmnkdaaGreatPdA12
import Derived.Shelf.Spec.SlicesInsertGrow
import Derived.Test.YthnihifblmnkdaaGreatPdA11
import Derived.KernelRfl
set_option linter.all false
namespace Go.Proofs.YthnihifblmnkdaaGreat
open Go.RowKit
theorem run_copy_es {P:Program} (w:World) (dT sT ty elem:TypeId) (es b o dLen dCap:Nat) (a:Addr) (sLen sCap:Nat) (cs:List Value)
  (hu:P.underlying dT=some (.slice elem)) (hs:(P.info? elem).map (·.size)=some es) (hn:cs.length=Nat.min sLen dLen * es)
  (hsrc:∀ j v,cs[j]?=some v→w.cell? (a.add j)=some v) (hc:∀ j,j < cs.length→(w.cell? ⟨b,o + j,none⟩).isSome=true) (hf:∀ j,j < cs.length→w.frozen? ⟨b,o + j,none⟩=false) (h1:∀ v ∈ cs,v.oneCell'=true) :
  (Builtin.copy_ #[dT,sT] ty #[.slice (some ⟨b,o,none⟩) dLen dCap,.slice (some a) sLen sCap]).run P w=.ok (goInt (Nat.min sLen dLen)) (w.setCells b o cs):=by
 have hl:=run_loadCells_list (P:=P) w a cs hsrc
 have hst:=run_storeCells_cells (P:=P) b o cs 0 w (by simpa using hc) (by simpa using hf) h1
 rw [hn] at hl
 cases hq:P.info? elem with
 | none=>simp [hq] at hs
 | some i =>
  have hi:i.size=es:=by simpa [hq] using hs
  simp [Builtin.copy_,run_underlying hu,Builtin.lenOf,Builtin.firstCells,sizeOf,typeInfo,hq,hi,hl,hst]
theorem run_overlaps_own {P:Program} (w:World) (tS tR e:TypeId) (ht:P.underlying tS=some (.slice e)) (size:Nat) (hz:∀ w,(Go.sizeOf e).run P w=.ok size w)
  (a b:Addr) (la ca lb cb:Nat) (hne:a.block≠b.block) (tA tB:TypeId) (kA kB:Nat)
  (hsa:w.shape? a.block=some (tA,kA)) (hsb:w.shape? b.block=some (tB,kB)) (hkA:kA≠0) (hkB:kB≠0)
  (hfb:w.frozen? b=false) (hfe:w.frozen? { block:=b.block,off:=kB }=false) :
  (Extern.SlicesOverlaps.overlaps #[tS,tS] #[tR] #[.slice (some a) la ca,.slice (some b) lb cb]).run P w=.ok (.bool false) w:=by
 have hnb:(a.block != b.block)=true:=by simpa using hne
 have hnb' : (a.block == b.block)=false:=by simpa using hne
 change Sem.run P (α:=Value) (do
  let some t:=(#[tS,tS]:Array TypeId)[0]? | stuck "slices.overlaps: no parameter types"
  let .slice elem ← underlying t | stuck "slices.overlaps: slice type expected"
  let size ← sizeOf elem
  match (some a:Option Addr),(some b:Option Addr) with
  | some a,some b =>
   if la=0∨lb=0∨size=0 then pure (Value.bool false)
   else if a.block != b.block && (← frozen a) && (← frozen b) then unsupported .addressObserved
   else do
    if a.block != b.block then do
     noView a;noView b
     if ← mayBeOne a b then return Value.bool ((← choose (.extern "sameAddr.stringBytes" 2)) == 1)
    pure (Value.bool (a.block == b.block && a.off < b.off + lb * size && b.off < a.off + la * size))
  | _,_=>pure (Value.bool false)) w=_
 by_cases h0:la=0∨lb=0∨size=0
 ·simp [run_underlying ht,hz,h0]
 ·cases kB with
  | zero=>exact absurd rfl hkB
  | succ kB =>
   cases kA with
   | zero=>exact absurd rfl hkA
   | succ kA =>
    cases hfa:w.frozen? a <;> cases hfa2:w.frozen? { block:=a.block,off:=kA + 1 } <;> simp [run_underlying ht,hz,h0,hnb,hnb',frozen,noView,viewAt,mayBeOne,stringish,shape,Sem.run,hsa,hsb,hfa,hfa2,hfb,hfe]
def infB (P:Program) (e:TypeId) (es:Nat):Bool:=match P.info? e with
 | some i=>i.size == es && (match i.zero with | some z=>z.cells.size == es | none=>false) && decide (i.bytes≤1000)
 | none=>false
theorem infB_ok {P:Program} {e:TypeId} {es:Nat} (h:infB P e es=true):∃ i z,P.info? e=some i∧i.size=es∧i.zero=some z∧z.cells.size=es∧i.bytes≤1000:=by
 unfold infB at h
 split at h
 ·rename_i i hi
  simp only [Bool.and_eq_true,beq_iff_eq,decide_eq_true_eq] at h
  obtain ⟨⟨h1,h2⟩,h3⟩:=h
  split at h2
  ·rename_i z hz
   exact ⟨i,z,hi,h1,hz,by simpa using h2,h3⟩
  ·cases h2
 ·cases h
structure InsRoads (P:Program) (k:FuncId) (es:Nat) (E:TypeId):Prop where
 shift:∀ (b n c i vb voff vc:Nat) (cs vs:List Value) (w:World) (tA tB:TypeId) (kA kB:Nat),i < n→n + 1≤c→n + 1≤1000000→vb≠b→cs.length=n * es→vs.length=es →
  (∀ j v,cs[j]?=some v→w.cell? ⟨b,j,none⟩=some v)→(∀ j,j < (n + 1) * es→(w.cell? ⟨b,j,none⟩).isSome=true)→(∀ j,j < (n + 1) * es→w.frozen? ⟨b,j,none⟩=false) →
  (∀ j v,vs[j]?=some v→w.cell? ⟨vb,voff + j,none⟩=some v)→(∀ v ∈ cs,v.oneCell'=true)→(∀ v ∈ vs,v.oneCell'=true) →
  w.shape? vb=some (tA,kA)→w.shape? b=some (tB,kB)→kA≠0→kB≠0→w.frozen? ⟨b,kB,none⟩=false →
  Calls P k #[.slice (some ⟨b,0,none⟩) n c,.int .i64 i,.slice (some ⟨vb,voff,none⟩) 1 vc] w fun e w' =>
   e=.returned (.slice (some ⟨b,0,none⟩) (n + 1) c)∧w'=(w.drew.setCells b ((i + 1) * es) (cs.drop (i * es))).setCells b (i * es) vs
 end_room:∀ (b n c vb voff vc:Nat) (vs:List Value) (w:World),n + 1≤c→n + 1≤1000000→vs.length=es →
  (∀ j,j < es→(w.cell? ⟨b,n * es + j,none⟩).isSome=true)→(∀ j,j < es→w.frozen? ⟨b,n * es + j,none⟩=false) →
  (∀ j v,vs[j]?=some v→w.cell? ⟨vb,voff + j,none⟩=some v)→(∀ v ∈ vs,v.oneCell'=true) →
  Calls P k #[.slice (some ⟨b,0,none⟩) n c,.int .i64 n,.slice (some ⟨vb,voff,none⟩) 1 vc] w fun e w' =>
   e=.returned (.slice (some ⟨b,0,none⟩) (n + 1) c)∧w'=w.setCells b (n * es) vs
 end_grow:∀ (base:Option Addr) (n c vb voff vc:Nat) (cs vs:List Value) (w:World),n≤c→c < n + 1→n + 1≤1000000→cs.length=n * es→vs.length=es→(base=none→n=0) →
  (∀ a,base=some a→∀ j v,cs[j]?=some v→w.cell? (a.add j)=some v)→(∀ j v,vs[j]?=some v→w.cell? ⟨vb,voff + j,none⟩=some v)→(∀ v ∈ vs,v.oneCell'=true) →
  Calls P k #[.slice base n c,.int .i64 n,.slice (some ⟨vb,voff,none⟩) 1 vc] w fun e w' =>
   ∃ zs:Array Value,e=.returned (.slice (some ⟨w.heap.size,0,none⟩) (n + 1) (grownCap w (n + 1) c E))∧w'=w.drew.alloc (.cells ((cs++vs).toArray++zs) E)
 grow:∀ (b n c i vb voff vc:Nat) (cs vs:List Value) (w:World),i < n→n≤c→c < n + 1→n + 1≤1000000→cs.length=n * es→vs.length=es →
  (∀ j v,cs[j]?=some v→w.cell? ⟨b,j,none⟩=some v)→(∀ j v,vs[j]?=some v→w.cell? ⟨vb,voff + j,none⟩=some v)→(∀ v ∈ cs,v.oneCell'=true)→(∀ v ∈ vs,v.oneCell'=true) →
  Calls P k #[.slice (some ⟨b,0,none⟩) n c,.int .i64 i,.slice (some ⟨vb,voff,none⟩) 1 vc] w fun e w' =>
   ∃ ROW:Array Value,(n + 1) * es≤ROW.size∧(∀ (j:Nat) (v:Value),(cs.take (i * es))[j]?=some v→ROW[j]?=some v)∧e=.returned (.slice (some ⟨w.heap.size,0,none⟩) (n + 1) (grownCap w (n + 1) c E)) ∧
    w'=(((w.alloc (.cells ROW E)).drew.setCells w.heap.size (i * es) vs).drew).setCells w.heap.size ((i + 1) * es) (cs.drop (i * es))
theorem place_aft {P:Program} {B:Nat} {m0 m:Mem} {bk:Bks} {w w' : World} {st:List Slot} {id b sz cap es:Nat} {cs:List V} {xs:List V} (hsim:Sim B m0 m bk w' (st.set id (.live cs 0))) (hid:id < st.length) (hbk:bk id=some (b,sz)) (hc:xs.length≤cap) (hs:cap * es≤sz)
  (hcs:cs=xs.flatMap V.cells) (hes:∀ x ∈ xs,x.cells.length=es) (h0:V.idlt.belowL 0 cs=true) (hb:Bel B w w'):Aft B m0 m bk w (st.set id .dead) (.sl xs false) (.slice (some ⟨b,0,none⟩) xs.length cap) w':=by
 have hi:(st.set id (.live cs 0))[id]?=some (.live cs 0):=by rw [List.getElem?_set,if_pos rfl,if_pos hid]
 obtain ⟨m',g1,g2⟩:=hsim.freeze hi (Nat.zero_le _) (Nat.le_refl cs.length)
 rw [List.set_set] at g1
 have hi2:(st.set id (.live cs cs.length))[id]?=some (.live cs cs.length):=by rw [List.getElem?_set,if_pos rfl,if_pos hid]
 have hlen:(xs.flatMap V.cells).length=xs.length * es:=by
  rw [List.length_flatMap,show xs.map (fun x=>x.cells.length)=xs.map (fun _=>es) from List.map_congr_left hes,List.map_const']
  simp
 have hr:Rep m' bk (.slice (some ⟨b,0,none⟩) xs.length cap) (.osl id 0 xs.length es false):=.osl hbk hc (fun e=>by cases e) (by omega)
 have hf:FzC (st.set id (.live cs cs.length)) (.osl id 0 xs.length es false) (.sl xs false) [id] :=
  .osl (fun e=>by cases e) hi2 (by rw [hcs];omega) (by rw [hcs];omega) rfl hes (by rw [hcs,List.drop_zero,← hlen,List.take_length]) (hcs ▸ h0)
 have hr2:=hf.rep g1 hr
 have g3:=g1.dead id (by rw [hi2];simp)
 rw [List.set_set] at g3
 exact ⟨m',bk,g3,hr2.mono (fun _ _ h=>h) (fun _ _ h=>by cases h),g2,fun _ _ h=>h,hb⟩
def insAt? {α:Type} (l:List α) (at_:Int) (x:α):Option (List α):=if 0≤at_∧at_≤l.length∧l.length + 1≤1000000 then some (l.take at_.toNat++x :: l.drop at_.toNat) else none
theorem rep_lit1 {m:Mem} {bk:Bks} {c v:Value} (h:Rep m bk c (.lit v)):c=v:=by cases h;rfl
theorem cargs3 {cargs:Array Value} (h:cargs.size=3):∃ a b c,cargs=#[a,b,c] :=
 ⟨cargs[0],cargs[1],cargs[2],by apply Array.ext;simp [h];intro i a b;simp at b;match i,b with | 0,_=>rfl | 1,_=>rfl | 2,_=>rfl⟩
theorem cellsM_take {α:Type} {f:α→V} {es:Nat} (hes:∀ a,(f a).cells.length=es) (l:List α) (i:Nat) (hi:i≤l.length):cellsM f (l.take i)=(cellsM f l).take (i * es)∧cellsM f (l.drop i)=(cellsM f l).drop (i * es):=by
 have h1:cellsM f l=cellsM f (l.take i)++cellsM f (l.drop i):=by rw [← cellsM_app',List.take_append_drop]
 have h2:(cellsM f (l.take i)).length=i * es:=by rw [cellsM_len hes,List.length_take,Nat.min_eq_left hi]
 constructor
 ·rw [h1,← h2,List.take_left]
 ·rw [h1,← h2,List.drop_left]
theorem ins_get (cs vs:List Value) (p k:Nat) (hp:p≤cs.length):(cs.take p++vs++cs.drop p)[k]?=if k < p then cs[k]? else if k < p + vs.length then vs[k - p]? else (cs.drop p)[k - p - vs.length]?:=by
 have hl:(cs.take p).length=p:=by rw [List.length_take];omega
 rw [List.append_assoc,List.getElem?_append,hl]
 by_cases h:k < p
 ·rw [if_pos h,if_pos h,List.getElem?_take,if_pos h]
 ·rw [if_neg h,if_neg h,List.getElem?_append]
  by_cases h2:k - p < vs.length
  ·rw [if_pos h2,if_pos (by omega)]
  ·rw [if_neg h2,if_neg (by omega)]
theorem ins_of {P:Program} {k:FuncId} {es:Nat} {E:TypeId} (hR:InsRoads P k es E) (hes0:0 < es) {α:Type} {f:α→V} (hes:∀ a,(f a).cells.length=es) (hone:∀ a,∀ u ∈ (f a).cells,u.one=true) (h0:∀ a,V.idlt.belowL 0 (f a).cells=true)
  {id:Nat} {st:List Slot} (l:List α) (fu fv:Bool) (at_:Int) (x:α) (hi:st[id]?=some (.live (cellsM f l) 0)):∀ L,insAt? l at_ x=some L→CallsS P k [.osl id 0 l.length es fu,.i at_,.sl [f x] fv] st (.sl (L.map f) false) (st.set id .dead):=by
 intro L hL
 unfold insAt? at hL
 split at hL
 ·rename_i hb
  obtain ⟨hb0,hb1,hb2⟩:=hb
  obtain ⟨i,rfl⟩:=Int.eq_ofNat_of_zero_le hb0
  simp only [Option.some.injEq,Int.toNat_natCast] at hL
  have hin:i≤l.length:=by omega
  intro B m0 m bk w cargs hg hsim hargs
  obtain ⟨hsz,hrp⟩:=hargs
  obtain ⟨c0,c1,c2,rfl⟩:=cargs3 hsz
  have hr0:Rep m bk c0 (.osl id 0 l.length es fu):=hrp 0 (by simp) (by simp)
  have hr1:Rep m bk c1 (.i i):=hrp 1 (by simp) (by simp)
  have hr2:Rep m bk c2 (.sl [f x] fv):=hrp 2 (by simp) (by simp)
  have e1:=rep_lit1 hr1
  subst e1
  obtain ⟨vb,vo,vc,us,rfl,hvm,hvr⟩ : ∃ (vb vo vc:Nat) (us:Nat→Value),c2=.slice (some ⟨vb,vo,none⟩) 1 vc∧(∀ j,j < es→m ⟨vb,vo + j,none⟩=some (us j))∧(∀ j (hj:j < (f x).cells.length),Rep m noBk (us j) (f x).cells[j]):=by
   cases hr2 with
   | @sl _ b o n cap es' _ _ us hn hcc hf hes' h1 hm hr =>
    have e:[f x].flatMap V.cells=(f x).cells:=by simp
    refine ⟨b,o,cap,us,by rw [hn];rfl,fun j hj=>hm j (by rw [e,hes];exact hj),fun j hj=>?_⟩
    have:=hr j (by rw [e];exact hj)
    simpa only [e] using this
  cases hr0 with
  | @osl _ _ b sz _ n cap _ _ hbk hcap hful hszc =>
  obtain ⟨arr,t,lo,hi',hlv,hrep⟩:=sim_live hsim hi hbk
  have hM:=cellsM_len hes l
  have hfit:=hlv.fit
  have hsize:=hlv.size
  have hfree:=hlv.free
  rw [hM] at hfit hrep
  generalize hq:l.length * es=q at *
  obtain ⟨p,hp⟩ : ∃ p,p=i * es:=⟨_,rfl⟩
  have hpq:p≤q:=by rw [hp,← hq];exact Nat.mul_le_mul_right _ hin
  have hi1:(i + 1) * es=p + es:=by rw [Nat.succ_mul,hp]
  have hn1:(l.length + 1) * es=q + es:=by rw [Nat.succ_mul,hq]
  obtain ⟨cs,hcsd⟩ : ∃ cs,cs=arr.toList.take q:=⟨_,rfl⟩
  obtain ⟨vs,hvsd⟩ : ∃ vs,vs=(List.range es).map us:=⟨_,rfl⟩
  rw [← hcsd] at hrep
  have hcl:cs.length=q:=by rw [hcsd];simp;omega
  have hvl:vs.length=es:=by rw [hvsd];simp
  have hca:∀ j,j < q→cs[j]?=arr[j]?:=fun j hj=>by rw [hcsd,List.getElem?_take,if_pos hj,Array.getElem?_toList]
  have hcell:∀ j,w.cell? ⟨b,j,none⟩=arr[j]?:=fun j=>by simp [World.cell?,hlv.heap]
  have hcs:∀ j v,cs[j]?=some v→w.cell? ⟨b,j,none⟩=some v:=fun j v h=>by
   have hj:j < q:=by have:=(List.getElem?_eq_some_iff.1 h).1;omega
   rw [hcell,← hca j hj,h]
  have hvs:∀ j v,vs[j]?=some v→w.cell? ⟨vb,vo + j,none⟩=some v:=fun j v h=>by
   have hj:j < es:=by have:=(List.getElem?_eq_some_iff.1 h).1;omega
   rw [hvsd,List.getElem?_map,List.getElem?_range hj] at h
   rw [← h]
   exact hsim.mem _ _ (hvm j hj)
  have hvb:vb≠b:=by
   intro e
   have h1:=hvm 0 hes0
   rw [e] at h1
   rw [hlv.mu _ (Nat.zero_le _)] at h1
   cases h1
  have h1c:∀ v ∈ cs,v.oneCell'=true:=rep_one_cells hrep hlv.one
  have hrv:RepL m noBk vs (f x).cells:=⟨by rw [hvl,hes],fun j g1 g2=>by
   have:=hvr j g2
   simpa only [hvsd,List.getElem_map,List.getElem_range] using this⟩
  have h1v:∀ v ∈ vs,v.oneCell'=true:=rep_one_cells hrv (hone x)
  have hfz:∀ j,w.frozen? ⟨b,j,none⟩=false:=fun j=>by
   simp only [World.frozen?,hlv.heap,Bool.and_eq_false_iff,decide_eq_false_iff_not]
   omega
  have hct:=cellsM_take hes l i hin
  have hcM:cellsM f L=(cellsM f l).take p++(f x).cells++(cellsM f l).drop p:=by
   rw [← hL,cellsM_app',hct.1,← hp,List.append_assoc]
   have:cellsM f (x :: l.drop i)=(f x).cells++cellsM f (l.drop i):=by unfold cellsM;rw [List.flatMap_cons]
   rw [this,hct.2,← hp]
  have hLl:(L.map f).length=l.length + 1:=by rw [← hL];simp;omega
  have hML:(cellsM f L).length=q + es:=by rw [cellsM_len hes,← hn1];congr 1;simpa using hLl
  have hvals:RepL m bk (cs.take p++vs++cs.drop p) (cellsM f L):=by
   rw [hcM]
   exact ((hrep.take p).append ⟨hrv.1,fun j g1 g2=>(hrv.2 j g1 g2).mono (fun _ _ h=>h) fun _ _ h=>by cases h⟩).append (hrep.drop p)
  obtain ⟨vals,hvd⟩ : ∃ vals,vals=cs.take p++vs++cs.drop p:=⟨_,rfl⟩
  have hget:=fun k=>ins_get cs vs p k (by omega)
  rw [← hvd] at hvals
  simp only [← hvd] at hget
  have hvll:vals.length=q + es:=by rw [hvals.1,hML]
  have hone' : ∀ u ∈ cellsM f L,u.one=true:=fun u hu=>by
   unfold cellsM at hu
   obtain ⟨a,_,ha⟩:=List.mem_flatMap.1 hu
   exact hone a u ha
  have h0' : V.idlt.belowL 0 (cellsM f L)=true:=cellsM_idlt h0 L
  have hxs:∀ y ∈ L.map f,y.cells.length=es:=fun y hy=>by obtain ⟨a,_,rfl⟩:=List.mem_map.1 hy;exact hes a
  have PL:∀ (w' : World) (arr' : Array Value),l.length + 1≤cap→w'.heap[b]?=some (.cells arr' t (lo,hi'))→arr'.size=arr.size→w'.heap.size=w.heap.size→(∀ k,k≠b→w'.heap[k]?=w.heap[k]?)→w'.os=w.os→w'.tape=w.tape→w'.output=w.output →
    (∀ k,k < q + es→arr'[k]?=vals[k]?)→Aft B m0 m bk w (st.set id .dead) (.sl (L.map f) false) (.slice (some ⟨b,0,none⟩) (l.length + 1) cap) w':=by
   intro w' arr' hroom g1 g2 g4 g5 g6 g7 g8 ga
   have hmul:(l.length + 1) * es≤cap * es:=Nat.mul_le_mul_right _ hroom
   have hw:=hsim.write (cs':=cellsM f L) hi hlv g1 g2 g4 g5 (fun k hk=>absurd hk (Nat.not_lt_zero _)) (by omega) hone' (fun k hk=>by
    have hk' : k < vals.length:=by omega
    refine ⟨vals[k],?_,hvals.2 k hk' hk⟩
    rw [ga k (by omega),List.getElem?_eq_getElem hk'])
   have:=place_aft (xs:=L.map f) (cap:=cap) (es:=es) (P:=P) (w:=w) (B:=B) hw (List.getElem?_eq_some_iff.1 hi).1 hbk (by rw [hLl];exact hroom) (by omega) (cellsM_map f L).symm hxs h0' (Bel.write g6 g7 g8 hlv.heap g1 g2 g4 g5 hlv.own)
   rwa [hLl] at this
  have GR:∀ (w' : World) (arr' : Array Value) (E' : TypeId) (cap' : Nat),l.length + 1≤cap'→Below w.heap.size w w'→w'.heap[w.heap.size]?=some (.cells arr' E' (0,0))→q + es≤arr'.size→(∀ k,k < q + es→arr'[k]?=vals[k]?) →
    Aft B m0 m bk w (st.set id .dead) (.sl (L.map f) false) (.slice (some ⟨w.heap.size,0,none⟩) (l.length + 1) cap') w':=by
   intro w' arr' E' cap' hroom hbel hh hsz' ga
   have hd:=hsim.dead id (by rw [hi];simp)
   have:=row_aft (xs:=L.map f) (full:=false) (cap:=cap') (es:=es) hd hbel hh (by rw [hLl];exact hroom) (fun e=>by cases e) hxs (by rw [cellsM_map];exact hone') (by rw [cellsM_map,hML];exact hsz') (fun k hk=>by
    rw [cellsM_map] at hk
    have hk' : k < vals.length:=by omega
    refine ⟨vals[k],by rw [ga k (by omega),List.getElem?_eq_getElem hk'],?_⟩
    simp only [cellsM_map]
    exact (hvals.2 k hk' hk).zero (belowL_get h0' k hk))
   rwa [hLl] at this
  have hshb:w.shape? b=some (t,arr.size):=by simp [World.shape?,hlv.heap]
  obtain ⟨tA,kA,hsa,hkA⟩ : ∃ tA kA,w.shape? vb=some (tA,kA)∧kA≠0:=by
   have h:=hsim.mem _ _ (hvm 0 hes0)
   simp only [World.cell?] at h
   split at h
   ·rename_i c e fr hc
    refine ⟨e,c.size,by simp [World.shape?,hc],?_⟩
    have h' : c[vo + 0]?=some (us 0):=h
    obtain ⟨hl,_⟩:=Array.getElem?_eq_some_iff.1 h'
    omega
   ·cases h
  have fr_of:∀ (k:Nat) (a:Array Value),arr.size≤a.size→True:=fun _ _ _=>trivial
  by_cases hend:i=l.length
  ·subst hend
   have hpq' : p=q:=by rw [hp,hq]
   by_cases hroom:l.length + 1≤cap
   ·have hmul:(l.length + 1) * es≤cap * es:=Nat.mul_le_mul_right _ hroom
    have h:=hR.end_room b l.length cap vb vo vc vs w hroom hb2 hvl (fun j hj=>by rw [hq,hcell];have:q + j < arr.size:=(by omega);simp [this]) (fun j hj=>hfz _) hvs h1v
    refine h.mono ?_
    rintro e w' ⟨rfl,rfl⟩
    rw [hq]
    obtain ⟨⟨arr',g1,g2,g3⟩,g4,g5,g6,g7,g8⟩:=setCells_heap b t (lo,hi') vs q w arr hlv.heap (by omega)
    refine ⟨_,rfl,PL _ arr' hroom g1 g2 g4 g5 g6 g7 g8 fun k hk=>?_⟩
    rw [g3,hget]
    by_cases h1:k < p
    ·rw [if_neg (by omega),if_pos h1,hca k (by omega)]
    ·rw [if_neg h1,if_pos (by omega),if_pos (by omega),hpq']
   ·have h:=hR.end_grow (some ⟨b,0,none⟩) l.length cap vb vo vc cs vs w hcap (by omega) hb2 (by rw [hcl,hq]) hvl (fun e=>by cases e) (fun a ha j v hj=>by
     simp only [Option.some.injEq] at ha
     subst ha
     rw [Addr.add_lit,Nat.zero_add]
     exact hcs j v hj) hvs h1v
    refine h.mono ?_
    rintro e w' ⟨zs,rfl,rfl⟩
    refine ⟨_,rfl,GR _ _ E _ (grownCap_ge w _ _ _) (((Below.refl w.heap.size w).drew).alloc (Nat.le_refl _) _) (by show (w.heap.push _)[w.heap.size]?=_;rw [Array.getElem?_push_size]) (by simp;omega) fun k hk=>?_⟩
    rw [hget,Array.getElem?_append_left (by simp;omega),List.getElem?_toArray,List.getElem?_append,hcl]
    by_cases h1:k < q
    ·rw [if_pos h1,if_pos (by omega)]
    ·rw [if_neg h1,if_neg (by omega),if_pos (by omega),hpq']
  ·have hlt:i < l.length:=by omega
   have hdl:(cs.drop p).length=q - p:=by rw [List.length_drop,hcl]
   have hpq2:p + es≤q:=by
    have:(i + 1) * es≤l.length * es:=Nat.mul_le_mul_right _ (by omega)
    omega
   by_cases hroom:l.length + 1≤cap
   ·have hmul:(l.length + 1) * es≤cap * es:=Nat.mul_le_mul_right _ hroom
    have h:=hR.shift b l.length cap i vb vo vc cs vs w tA t kA arr.size hlt hroom hb2 hvb (by rw [hcl,hq]) hvl hcs (fun j hj=>by
     rw [hcell]
     have:j < arr.size:=by omega
     simp [this]) (fun j hj=>hfz _) hvs h1c h1v hsa hshb hkA (by omega) (hfz _)
    refine h.mono ?_
    rintro e w' ⟨rfl,rfl⟩
    rw [hi1,← hp]
    obtain ⟨⟨arr1,a1,a2,a3⟩,a4,a5,a6,a7,a8⟩:=setCells_heap b t (lo,hi') (cs.drop p) (p + es) w.drew arr hlv.heap (by omega)
    obtain ⟨⟨arr',g1,g2,g3⟩,g4,g5,g6,g7,g8⟩:=setCells_heap b t (lo,hi') vs p _ arr1 a1 (by omega)
    refine ⟨_,rfl,PL _ arr' hroom g1 (g2.trans a2) (g4.trans a4) (fun k hk=>(g5 k hk).trans (a5 k hk)) (g6.trans a6) (g7.trans a7) (g8.trans a8) fun k hk=>?_⟩
    rw [g3,a3,hget]
    by_cases h1:k < p
    ·rw [if_neg (by omega),if_neg (by omega),if_pos h1,hca k (by omega)]
    ·rw [if_neg h1]
     by_cases h2:k < p + vs.length
     ·rw [if_pos (by omega),if_pos h2]
     ·rw [if_neg (by omega),if_neg h2,if_pos (by omega)]
      congr 1
      omega
   ·have h:=hR.grow b l.length cap i vb vo vc cs vs w hlt hcap (by omega) hb2 (by rw [hcl,hq]) hvl hcs hvs h1c h1v
    refine h.mono ?_
    rintro e w' ⟨ROW,r1,r2,rfl,rfl⟩
    rw [hi1,← hp]
    rw [hn1] at r1
    rw [← hp] at r2
    have hh0:(w.alloc (.cells ROW E)).drew.heap[w.heap.size]?=some (.cells ROW E (0,0)):=by show (w.heap.push _)[w.heap.size]?=_;rw [Array.getElem?_push_size]
    obtain ⟨⟨arr1,a1,a2,a3⟩,a4,a5,a6,a7,a8⟩:=setCells_heap w.heap.size E (0,0) vs p _ ROW hh0 (by omega)
    obtain ⟨⟨arr',g1,g2,g3⟩,g4,g5,g6,g7,g8⟩:=setCells_heap w.heap.size E (0,0) (cs.drop p) (p + es) (((w.alloc (.cells ROW E)).drew.setCells w.heap.size p vs).drew) arr1 a1 (by omega)
    have hs0:(w.alloc (.cells ROW E)).drew.heap.size=w.heap.size + 1:=by show (w.heap.push _).size=_;simp
    refine ⟨_,rfl,GR _ arr' E _ (grownCap_ge w _ _ _) ⟨(g6.trans a6),(g7.trans a7),(g8.trans a8),?_,fun k hk=>?_⟩ g1 (by rw [g2,a2];exact r1) fun k hk=>?_⟩
    ·rw [g4]
     show w.heap.size≤((w.alloc (.cells ROW E)).drew.setCells w.heap.size p vs).heap.size
     rw [a4,hs0];omega
    ·rw [g5 k (by omega)]
     show ((w.alloc (.cells ROW E)).drew.setCells w.heap.size p vs).heap[k]?=_
     rw [a5 k (by omega)]
     show (w.heap.push _)[k]?=_
     rw [Array.getElem?_push,if_neg (by omega)]
    ·rw [g3,a3,hget]
     by_cases h1:k < p
     ·rw [if_neg (by omega),if_neg (by omega),if_pos h1]
      have hk' : k < cs.length:=(by omega);rw [List.getElem?_eq_getElem hk']
      exact r2 k _ (by rw [List.getElem?_take,if_pos h1,List.getElem?_eq_getElem hk'])
     ·rw [if_neg h1]
      by_cases h2:k < p + vs.length
      ·rw [if_neg (by omega),if_pos (by omega),if_pos h2]
      ·rw [if_pos (by omega),if_neg h2]
       congr 1
       omega
 ·cases hL
theorem ins_nil {P:Program} {k:FuncId} {es:Nat} {E:TypeId} (hR:InsRoads P k es E) (hes0:0 < es) {α:Type} {f:α→V} (hes:∀ a,(f a).cells.length=es) (hone:∀ a,∀ u ∈ (f a).cells,u.one=true) (h0:∀ a,V.idlt.belowL 0 (f a).cells=true)
  (fv:Bool) (at_:Int) (x:α):CallsO P k [.sl (List.map f []) true,.i at_,.sl [f x] fv] (fun L:List α=>V.sl (L.map f) false) (insAt? [] at_ x):=by
 intro L hL
 unfold insAt? at hL
 split at hL
 ·rename_i hb
  obtain ⟨hb0,hb1,hb2⟩:=hb
  have ha:at_=0:=by simp at hb1;omega
  subst ha
  simp only [Option.some.injEq] at hL
  simp at hL
  subst hL
  intro m w cargs hg hm hargs
  obtain ⟨hsz,hrp⟩:=hargs
  obtain ⟨c0,c1,c2,rfl⟩:=cargs3 hsz
  have hr0:Rep m noBk c0 (.sl [] true):=hrp 0 (by simp) (by simp)
  have hr1:Rep m noBk c1 (.i 0):=hrp 1 (by simp) (by simp)
  have hr2:Rep m noBk c2 (.sl [f x] fv):=hrp 2 (by simp) (by simp)
  have e1:=rep_lit1 hr1
  subst e1
  obtain ⟨vb,vo,vc,us,rfl,hvm,hvr⟩ : ∃ (vb vo vc:Nat) (us:Nat→Value),c2=.slice (some ⟨vb,vo,none⟩) 1 vc∧(∀ j,j < es→m ⟨vb,vo + j,none⟩=some (us j))∧(∀ j (hj:j < (f x).cells.length),Rep m noBk (us j) (f x).cells[j]):=by
   cases hr2 with
   | @sl _ b o n cap es' _ _ us hn hcc hf hes' h1 hm hr =>
    have e:[f x].flatMap V.cells=(f x).cells:=by simp
    refine ⟨b,o,cap,us,by rw [hn];rfl,fun j hj=>hm j (by rw [e,hes];exact hj),fun j hj=>?_⟩
    have:=hr j (by rw [e];exact hj)
    simpa only [e] using this
  obtain ⟨a,n,cap,rfl,hn,hca⟩ : ∃ a n cap,c0=.slice a n cap∧n=0∧cap=0:=by
   cases hr0 with
   | sl hn _ hf=>exact ⟨_,_,_,rfl,by simpa using hn,by rw [hf rfl];simpa using hn⟩
   | slnil hf=>exact ⟨_,_,_,rfl,rfl,hf rfl⟩
  subst hn hca
  obtain ⟨vs,hvsd⟩ : ∃ vs,vs=(List.range es).map us:=⟨_,rfl⟩
  have hvl:vs.length=es:=by rw [hvsd];simp
  have hvs:∀ j v,vs[j]?=some v→w.cell? ⟨vb,vo + j,none⟩=some v:=fun j v h=>by
   have hj:j < es:=by have:=(List.getElem?_eq_some_iff.1 h).1;omega
   rw [hvsd,List.getElem?_map,List.getElem?_range hj] at h
   rw [← h]
   exact hm _ _ (hvm j hj)
  have hrv:RepL m noBk vs (f x).cells:=⟨by rw [hvl,hes],fun j g1 g2=>by
   have:=hvr j g2
   simpa only [hvsd,List.getElem_map,List.getElem_range] using this⟩
  have h1v:∀ v ∈ vs,v.oneCell'=true:=rep_one_cells hrv (hone x)
  have h:=hR.end_grow a 0 0 vb vo vc [] vs w (Nat.le_refl _) (by omega) (by omega) (by simp) hvl (fun _=>rfl) (fun _ _ j v hj=>by simp at hj) hvs h1v
  refine h.mono ?_
  rintro e w' ⟨zs,rfl,rfl⟩
  have hsim:Sim w.heap.size m m noBk w []:=⟨Nat.le_refl _,hm,fun _ _ h=>h,fun _ _ h=>.inl h,fun _ _ _ h=>by simp at h,fun _ _ _ _ _ _ _ _ h=>by simp at h,fun _ _=>rfl⟩
  have hcx:[f x].flatMap V.cells=(f x).cells:=by simp
  obtain ⟨m',bk',g1,g2,g3,g4,g5⟩:=row_aft (xs:=[f x]) (full:=false) (cap:=grownCap w 1 0 E) (es:=es) hsim (w':=w.drew.alloc (.cells (([]++vs).toArray++zs) E)) (((Below.refl w.heap.size w).drew).alloc (Nat.le_refl _) _) (by show (w.heap.push _)[w.heap.size]?=_;rw [Array.getElem?_push_size]) (grownCap_ge w 1 0 E) (fun e=>by cases e)
   (fun y hy=>by rw [List.mem_singleton.1 hy];exact hes x) (by rw [hcx];exact hone x) (by rw [hcx,hes];simp;omega) (fun k hk=>by
    rw [hcx] at hk
    have hk' : k < vs.length:=by rw [hvl,← hes x];exact hk
    refine ⟨vs[k],by rw [Array.getElem?_append_left (by simpa using hk')];simp [hk'],?_⟩
    simp only [hcx]
    exact hrv.2 k hk' hk)
  exact ⟨_,m',rfl,g5.toBelow,g1.mem,g3,fun a u h=>(g1.old a u h),(g2.zero (by rfl)),⟩
 ·cases hL
end Go.Proofs.YthnihifblmnkdaaGreat

namespace Go.Proofs.YthnihifblmnkdaaGreat
open Go.RowKit
structure CloRoads (P:Program) (k:FuncId) (es:Nat) (E:TypeId):Prop where
 some_:∀ (A:Addr) (n c:Nat) (cs:List Value) (w:World),0 < n→n≤1000000→cs.length=n * es→(∀ j v,cs[j]?=some v→w.cell? (A.add j)=some v)→(∀ v ∈ cs,v.oneCell'=true) →
  Calls P k #[.slice (some A) n c] w fun e w'=>∃ ZS:Array Value,e=.returned (.slice (some ⟨w.heap.size + 1,0,none⟩) n (grownCap (w.alloc (.cells #[] E)) n 0 E))∧w'=(w.alloc (.cells #[] E)).drew.alloc (.cells (cs.toArray++ZS) E)∧grownCap (w.alloc (.cells #[] E)) n 0 E * es≤(cs.toArray++ZS).size
 zero_:∀ (A:Addr) (c:Nat) (w:World),Calls P k #[.slice (some A) 0 c] w fun e w'=>e=.returned (.slice (some ⟨w.heap.size,0,none⟩) 0 0)∧∃ q,w'=(w.alloc (.cells #[] E)).drewN q
 nil_:∀ (n c:Nat) (w:World),Calls P k #[.slice none n c] w fun e w'=>e=.returned (.slice none 0 0)∧w'=w
def clone? {α:Type} (l:List α):Option (List α):=if l.length≤1000000 then some l else none
theorem cargs1 {cargs:Array Value} (h:cargs.size=1):∃ a,cargs=#[a] :=
 ⟨cargs[0],by apply Array.ext;simp [h];intro i a b;simp at b;subst b;rfl⟩
theorem clo_ne {P:Program} {k:FuncId} {es:Nat} {E:TypeId} (hR:CloRoads P k es E) {α:Type} {f:α→V} (hes:∀ a,(f a).cells.length=es) (hone:∀ a,∀ u ∈ (f a).cells,u.one=true)
  {id:Nat} {st:List Slot} (l:List α) (fu:Bool) (hne:l≠[]) (hl:l.length≤1000000) (hi:st[id]?=some .fresh):CallsS P k [.sl (l.map f) fu] st (.osl id 0 l.length es false) (st.set id (.live (cellsM f l) 0)):=by
 intro B m0 m bk w cargs hg hsim hargs
 obtain ⟨hsz,hrp⟩:=hargs
 obtain ⟨c0,rfl⟩:=cargs1 hsz
 have hr0:Rep m bk c0 (.sl (l.map f) fu):=hrp 0 (by simp) (by simp)
 have hpos:0 < l.length:=List.length_pos_iff.2 hne
 obtain ⟨b,o,cap,us,rfl,hvm,hvr⟩ : ∃ (b o cap:Nat) (us:Nat→Value),c0=.slice (some ⟨b,o,none⟩) l.length cap∧(∀ j,j < (cellsM f l).length→m ⟨b,o + j,none⟩=some (us j))∧(∀ j (hj:j < (cellsM f l).length),Rep m noBk (us j) (cellsM f l)[j]):=by
  generalize hxs:l.map f=xs at hr0
  cases hr0 with
  | @sl _ b o n cap es' _ _ us hn hcc hf hes' h1 hm hr =>
   subst hxs
   rw [cellsM_map] at hm
   refine ⟨b,o,cap,us,by rw [hn];simp,hm,fun j hj=>?_⟩
   have:=hr j (by rw [cellsM_map];exact hj)
   simpa only [cellsM_map] using this
  | slnil=>simp at hxs;exact absurd hxs hne
 have hM:=cellsM_len hes l
 obtain ⟨cs,hcsd⟩ : ∃ cs,cs=(List.range (cellsM f l).length).map us:=⟨_,rfl⟩
 have hcl:cs.length=(cellsM f l).length:=by rw [hcsd];simp
 have hone' : ∀ u ∈ cellsM f l,u.one=true:=fun u hu=>by
  unfold cellsM at hu
  obtain ⟨a,_,ha⟩:=List.mem_flatMap.1 hu
  exact hone a u ha
 have hrc:RepL m noBk cs (cellsM f l):=⟨hcl,fun j g1 g2=>by
  have:=hvr j g2
  simpa only [hcsd,List.getElem_map,List.getElem_range] using this⟩
 have h:=hR.some_ ⟨b,o,none⟩ l.length cap cs w hpos hl (by rw [hcl,hM]) (fun j v hj=>by
  have hj' : j < (cellsM f l).length:=by have:=(List.getElem?_eq_some_iff.1 hj).1;omega
  rw [hcsd,List.getElem?_map,List.getElem?_range hj'] at hj
  rw [Addr.add_lit,← hj]
  exact hsim.mem _ _ (hvm j hj')) (rep_one_cells hrc hone')
 refine h.mono ?_
 rintro e w' ⟨ZS,rfl,rfl,hcap⟩
 have hb1:Bel B w (w.alloc (.cells #[] E)):=(Bel.refl B w).alloc hsim.base _
 have hsim1:Sim B m0 m bk (w.alloc (.cells #[] E)) st:=hsim.world (by simp) (fun k hk=>by show (w.heap.push _)[k]?=_;rw [Array.getElem?_push,if_neg (by omega)])
 obtain ⟨m',bk',g1,g2,g3,g4,g5⟩:=make_aft (w':=(w.alloc (.cells #[] E)).drew.alloc (.cells (cs.toArray++ZS) E)) (lo:=0) (hi:=0) (t:=E) (arr:=cs.toArray++ZS) (c:=.slice (some ⟨w.heap.size + 1,0,none⟩) l.length (grownCap (w.alloc (.cells #[] E)) l.length 0 E)) (v:=.osl id 0 l.length es false) (cs:=cellsM f l) hsim1 hi (.inr rfl) (Nat.le_refl _)
  (by
   rw [← hcl]
   simp only [Array.toList_append,List.take_left]
   exact ⟨hrc.1,fun j a b=>(hrc.2 j a b).mono (fun _ _ h=>h) fun _ _ h=>by cases h⟩) hone'
  (.osl (b:=w.heap.size + 1) (sz:=(cs.toArray++ZS).size) (by simp [newBk]) (grownCap_ge _ _ _ _) (fun e=>by cases e) (by rw [Nat.zero_add];exact hcap))
 exact ⟨_,rfl,m',bk',g1,g2,g3,g4,hb1.trans g5⟩
theorem clo_nil {P:Program} {k:FuncId} {es:Nat} {E:TypeId} (hR:CloRoads P k es E) {α:Type} {f:α→V} (fu:Bool):CallsV P k [.sl (List.map f ([]:List α)) fu] (.sl (List.map f ([]:List α)) true):=by
 intro m w cargs hg hm hargs
 obtain ⟨hsz,hrp⟩:=hargs
 obtain ⟨c0,rfl⟩:=cargs1 hsz
 have hr0:Rep m noBk c0 (.sl [] fu):=hrp 0 (by simp) (by simp)
 obtain ⟨a,cap,rfl⟩ : ∃ a cap,c0=.slice a 0 cap:=by
  cases hr0 with
  | sl hn=>exact ⟨_,_,by rw [hn];rfl⟩
  | slnil=>exact ⟨_,_,rfl⟩
 cases a with
 | none =>
  refine (hR.nil_ 0 cap w).mono ?_
  rintro e w' ⟨rfl,rfl⟩
  exact ⟨_,m,rfl,Below.refl _ _,hm,fun _ _ h=>h,fun a u h=>.inl h,.slnil fun _=>rfl⟩
 | some A =>
  refine (hR.zero_ A cap w).mono ?_
  rintro e w' ⟨rfl,q,rfl⟩
  have hb:Below w.heap.size w ((w.alloc (.cells #[] E)).drewN q):=by
   have h:=(Below.refl w.heap.size w).alloc (Nat.le_refl _) (.cells #[] E)
   exact ⟨h.1,h.2,h.3,h.4,h.5⟩
  refine ⟨_,m,rfl,hb,fun a u h=>?_,fun _ _ h=>h,fun a u h=>.inl h,.slnil fun _=>rfl⟩
  have g:=hm a u h
  rw [← g]
  exact World.cell?_of_block (w:=w) (hb.block _ (cell_lt g))
section
variable {β : Type} {r : β} {P : Program} {st : List Slot}
theorem clone_c {k:FuncId} {es:Nat} {E:TypeId} (hR:CloRoads P k es E) {α:Type} {f:α→V} {l:List α} {X:List α→Option β} {K:V→List Nat→List Nat→List Slot→Prop} {id:Nat} {fu:Bool} (H:(clone? l).bind X=some r) (hes:∀ a,(f a).cells.length=es) (hone:∀ a,(f a).cells.all V.one=true)
  (hf:st[id]?=some .fresh) (hA:X []=some r→K (.sl (List.map f []) true) [] [] st) (hB:∀ L,X L=some r→ssetK st id (.live (cellsM f L) 0) fun st'=>K (.osl id 0 L.length es false) [] [id] st'):Ask P k [.sl (l.map f) fu] st K:=by
 obtain ⟨L,hL,H⟩:=bind_c H
 unfold clone? at hL
 split at hL
 ·rename_i hl
  simp only [Option.some.injEq] at hL
  subst hL
  by_cases hne:l=[]
  ·subst hne
   exact Ask_V0 (clo_nil hR fu) rfl rfl (hA H)
  ·have:=hB l H
   rw [ssetK_eq] at this
   exact Ask_L (rd:=[]) (ef:=[(id,.live (cellsM f l) 0)]) (fun st2 hl2 h2=>clo_ne hR hes (fun a u hu=>List.all_eq_true.1 (hone a) u hu) l fu hne hl ((h2 id (.inr (by simp))).trans hf)) this
 ·cases hL
theorem callsS_fz3 {f:FuncId} {a0 a1 a2 a2' v:V} {st' : List Slot} {rd:List Nat} (hf:FzC st a2 a2' rd) (h:CallsS P f [a0,a1,a2'] st v st'):CallsS P f [a0,a1,a2] st v st':=by
 intro B m0 m bk w cargs hg hsim hargs
 refine h B m0 m bk w cargs hg hsim ⟨hargs.1,fun j h1 h2=>?_⟩
 rcases j with _ | _ | _ | j
 ·exact hargs.2 0 h1 (by simp)
 ·exact hargs.2 1 h1 (by simp)
 ·exact (hf.rep hsim (hargs.2 2 h1 (by simp))).mono (fun _ _ h=>h) fun _ _ h=>by cases h
 ·exact absurd h2 (by simp)
theorem insO_c {k:FuncId} {es:Nat} {E:TypeId} (hR:InsRoads P k es E) {α:Type} {f:α→V} {l:List α} {x:α} {at_:Int} {X:List α→Option β} {K:V→List Nat→List Nat→List Slot→Prop} {i j fz:Nat} {fu fv:Bool} (H:(insAt? l at_ x).bind X=some r) (hes0:0 < es) (hes:∀ a,(f a).cells.length=es) (hone:∀ a,(f a).cells.all V.one=true) (h0:∀ a,V.idlt.belowL 0 (f a).cells=true)
  (hi:st[i]?=some (.live (cellsM f l) 0)) (hj:st[j]?=some (.live (cellsM f [x]) fz)) (hz:fz=(cellsM f [x]).length) (h:∀ L,X L=some r→ssetK st i .dead fun st'=>K (.sl (L.map f) false) [j] [i] st'):Ask P k [.osl i 0 l.length es fu,.i at_,.osl j 0 1 es fv] st K:=by
 obtain ⟨L,hL,H⟩:=bind_c H
 have:=h L H
 rw [ssetK_eq] at this
 exact Ask_L (rd:=[j]) (ef:=[(i,.dead)]) (fun st2 hl2 h2=>by
  have hf:FzC st2 (.osl j 0 1 es fv) (.sl [f x] false) [j]:=fzown (l:=[x]) ((h2 j (.inl (by simp))).trans hj) hz hes h0
  exact callsS_fz3 hf (ins_of hR hes0 hes (fun a u hu=>List.all_eq_true.1 (hone a) u hu) h0 l fu false at_ x ((h2 i (.inr (by simp))).trans hi) L hL)) this
end
theorem insN_v {P:Program} {k:FuncId} {es:Nat} {E:TypeId} (hR:InsRoads P k es E) (hes0:0 < es) {α:Type} {f:α→V} (hes:∀ a,(f a).cells.length=es) (hone:∀ a,(f a).cells.all V.one=true) (h0:∀ a,V.idlt.belowL 0 (f a).cells=true)
  (fv:Bool) (at_:Int) (x:α):CallsO P k [.sl (List.map f []) true,.i at_,.sl (List.map f [x]) fv] (fun L:List α=>V.sl (L.map f) false) (insAt? [] at_ x):=ins_nil hR hes0 hes (fun a u hu=>List.all_eq_true.1 (hone a) u hu) h0 fv at_ x
theorem nil_at {α β:Type} {A:Prop} {j:Int} {X:α→Option β} {r:β} (H:(at? ([]:List α) j).bind X=some r):A:=by
 have e:at? ([]:List α) j=none:=by unfold at?;split <;> simp
 rw [e] at H;cases H
def frzAt:List Slot→Nat→List Slot
 | [],_=>[]
 | .live cs 0 :: l,0=>.live cs cs.length :: l
 | .live cs (f + 1) :: l,0=>.live cs (max (f + 1) cs.length) :: l
 | .fresh :: l,0=>.fresh :: l
 | .dead :: l,0=>.dead :: l
 | s :: l,i + 1=>s :: frzAt l i
def frzAll:List Slot→List Nat→List Slot
 | st,[]=>st
 | st,i :: is=>frzAll (frzAt st i) is
theorem frzAt_frz:∀ (l:List Slot) (i:Nat),frzAt l i=l∨∃ cs f,l[i]?=some (.live cs f)∧f≤cs.length∧frzAt l i=l.set i (.live cs cs.length)
 | [],i=>.inl rfl
 | .live cs 0 :: l,0=>.inr ⟨cs,0,rfl,Nat.zero_le _,rfl⟩
 | .live cs (f + 1) :: l,0=>by
  by_cases h:f + 1≤cs.length
  ·exact .inr ⟨cs,f + 1,rfl,h,by rw [frzAt,Nat.max_eq_right h];rfl⟩
  ·exact .inl (by rw [frzAt,Nat.max_eq_left (by omega)])
 | .fresh :: l,0=>.inl rfl
 | .dead :: l,0=>.inl rfl
 | s :: l,i + 1=>by
  have e:frzAt (s :: l) (i + 1)=s :: frzAt l i:=by
   cases s with
   | live cs f=>cases f <;> rfl
   | _=>rfl
  rcases frzAt_frz l i with h | ⟨cs,f,h1,h2,h3⟩
  ·exact .inl (by rw [e,h])
  ·exact .inr ⟨cs,f,by simpa using h1,h2,by rw [e,h3];rfl⟩
theorem Sim.frzAll {B:Nat} {m0:Mem} {bk:Bks} {w:World}:∀ (is:List Nat) {st:List Slot} {m:Mem},Sim B m0 m bk w st→∃ m',Sim B m0 m' bk w (frzAll st is)∧∀ a u,m a=some u→m' a=some u
 | [],st,m,h=>⟨m,h,fun _ _ h=>h⟩
 | i :: is,st,m,h=>by
  rw [Proofs.YthnihifblmnkdaaGreat.frzAll]
  rcases frzAt_frz st i with e | ⟨cs,f,h1,h2,e⟩
  ·rw [e];exact Sim.frzAll is h
  ·obtain ⟨m1,g1,g2⟩:=h.freeze h1 h2 (Nat.le_refl _)
   rw [e]
   obtain ⟨m2,g3,g4⟩:=Sim.frzAll is g1
   exact ⟨m2,g3,fun a u h=>g4 _ _ (g2 _ _ h)⟩
def V.litD:V→Bool
 | .lit _=>true
 | .agg cs | .tup cs=>litL cs
 | .sl [] _=>true
 | _=>false
where litL:List V→Bool
 | []=>true
 | v :: vs=>v.litD && litL vs
theorem litL_get:∀ {l:List V},V.litD.litL l=true→∀ j (h:j < l.length),l[j].litD=true
 | v :: l,h,0,_=>by simp [V.litD.litL] at h;simpa using h.1
 | v :: l,h,j + 1,hj=>by simp [V.litD.litL] at h;simpa using litL_get h.2 j (by simpa using hj)
theorem Rep.litD {m:Mem} {bk:Bks} {c:Value} {v:V} (h:Rep m bk c v):v.litD=true→∀ (m' : Mem) (bk' : Bks),Rep m' bk' c v:=by
 induction h with
 | lit h=>intro _ _ _;exact .lit h
 | agg hl h1 _ ih=>intro hv m' bk';exact .agg hl h1 fun j a b=>ih j a b (litL_get (by simpa [V.litD] using hv) j b) m' bk'
 | tup hl _ ih=>intro hv m' bk';exact .tup hl fun j a b=>ih j a b (litL_get (by simpa [V.litD] using hv) j b) m' bk'
 | @sl bk b o n cap es full xs us hn hc hf hes h1 hm h _ =>
  intro hv m' bk'
  cases xs with
  | nil=>exact .sl (us:=us) hn hc hf hes h1 (fun k hk=>absurd hk (by simp)) (fun k hk=>absurd hk (by simp))
  | cons x xs=>simp [V.litD] at hv
 | slnil hf=>intro _ _ _;exact .slnil hf
 | _=>intro hv;simp [V.litD] at hv
theorem callsS_tmp {P:Program} {f:FuncId} {vs vs' : List V} {v:V} {st:List Slot} {rd:List Nat} (is:List Nat) (ha:FzA (frzAll st is) vs vs' rd) (h:CallsV P f vs' v) (hv:v.litD=true):CallsS P f vs st v st:=by
 intro B m0 m bk w cargs hg hsim hargs
 obtain ⟨m1,g1,g2⟩:=hsim.frzAll is
 have hr:RepL m1 bk cargs.toList vs:=⟨by simpa using hargs.1,fun j a b=>by
  have:=(hargs.2 j (by simpa using a) b).mono g2 (fun _ _ h=>h)
  simpa using this⟩
 have hg1:GM m1:=by obtain ⟨n,hn⟩:=hg;exact ⟨n,g2 _ _ hn⟩
 have ht:=(ha.rep g1 hr).toA
 rw [Array.toArray_toList] at ht
 refine (h m1 w cargs hg1 g1.mem ht).mono ?_
 rintro e w' ⟨c,m',rfl,hb,_,_,_,hrc⟩
 exact ⟨c,rfl,m,bk,hsim.world hb.size (fun k hk=>hb.block k hk),hrc.litD hv m bk,fun _ _ h=>h,fun _ _ h=>h,Bel.of hb hsim.base⟩
theorem frzAt_get:∀ (l l2:List Slot) (i k:Nat),l2[k]?=l[k]?→(frzAt l2 i)[k]?=(frzAt l i)[k]?:=by
 have one:∀ (l:List Slot) (i k:Nat),(frzAt l i)[k]?=if i=k then (l[k]?).map fun s=>(frzAt [s] 0).headD .dead else l[k]?:=by
  intro l
  induction l with
  | nil=>intro i k;simp [frzAt]
  | cons s l ih =>
   intro i k
   cases i with
   | zero =>
    have e:frzAt (s :: l) 0=(frzAt [s] 0).headD .dead :: l:=by
     cases s with
     | live cs f=>cases f <;> rfl
     | _=>rfl
    rw [e]
    cases k with
    | zero=>simp
    | succ k=>simp
   | succ i =>
    have e:frzAt (s :: l) (i + 1)=s :: frzAt l i:=by
     cases s with
     | live cs f=>cases f <;> rfl
     | _=>rfl
    rw [e]
    cases k with
    | zero=>simp
    | succ k=>simp only [List.getElem?_cons_succ,ih,Nat.add_right_cancel_iff]
 intro l l2 i k h
 rw [one,one,h]
theorem frzAll_get:∀ (is:List Nat) (l l2:List Slot) (k:Nat),l2[k]?=l[k]?→(frzAll l2 is)[k]?=(frzAll l is)[k]?
 | [],_,_,_,h=>h
 | i :: is,l,l2,k,h=>frzAll_get is _ _ k (frzAt_get l l2 i k h)
theorem askT_c {β:Type} {r:β} {P:Program} {st:List Slot} {α:Type} {enc:α→V} {m:Option α} {X:α→Option β} {f:Nat} {vs vs' : List V} {rd:List Nat} {k:V→List Nat→List Nat→List Slot→Prop} (is:List Nat) (hc:CallsO P f vs' enc m) (H:m.bind X=some r) (ha:FzA (frzAll st is) vs vs' rd) (hv:∀ x,(enc x).litD=true)
  (h:∀ x,X x=some r→k (enc x) rd [] st):Ask P f vs st k:=by
 obtain ⟨x,hx,H⟩:=bind_c H
 exact Ask_L (rd:=rd) (ef:=[]) (fun st2 _ h2=>callsS_tmp is (ha.congr fun k hk=>frzAll_get is _ _ k (h2 k (.inl hk))) (hc x hx) (hv x)) (h x H)
end Go.Proofs.YthnihifblmnkdaaGreat

namespace Go.Proofs.YthnihifblmnkdaaGreat
open Go.RowKit
def ArgsAt (st:List Slot) (id:Nat) (args args0:List V):Prop :=
 ∀ (B:Nat) (m0 m mb:Mem) (bk:Bks) (w:World) (cargs:Array Value),Sim B m0 m bk w st→RepA m bk cargs args→(∀ a u,m a=some u→mb a=some u) →
  (∀ (j:Nat) (c:List V) (g:Nat) (x:Nat × Nat),j≠id→st[j]?=some (.live c g)→bk j=some x→∀ a:Addr,a.block=x.1→mb a=w.cell? a)→RepA mb (cutBk 1 fun i=>bk (sgm [id] i)) cargs args0
open Classical in
theorem callsS_frameG {P:Program} {f:FuncId} {args args0:List V} {v0 v:V} {cs cs' : List V} {fz fz' : Nat} {st:List Slot} {id:Nat} (h:CallsS P f args0 [.live cs fz] v0 [.live cs' fz']) (ha:ArgsAt st id args args0) (hi:st[id]?=some (.live cs fz)) (h0:V.idlt.belowL 0 cs=true) (h0' : V.litD.litL cs'=true)
  (hv:(∃ off n es fu,v0=.osl 0 off n es fu∧v=.osl id off n es fu)∨v0.litD=true∧v=v0):CallsS P f args st v (st.set id (.live cs' fz')):=by
 intro B m0 m bk w cargs hg hsim hargs
 have hidl:=(List.getElem?_eq_some_iff.1 hi).1
 obtain ⟨b,sz,arr,t,lo,hi',hl⟩:=hsim.blk id cs fz hi
 let oth:Nat→Prop:=fun k=>∃ (j:Nat) (c:List V) (g:Nat) (x:Nat × Nat),j≠id∧st[j]?=some (.live c g)∧bk j=some x∧x.1=k
 let mb:Mem:=fun a=>if oth a.block then w.cell? a else m a
 have nob:¬ oth b:=by
  rintro ⟨j,c,g,x,h1,h2,h3,h4⟩
  exact h1 (hsim.inj j id c g cs fz x (b,sz) h2 hi h3 hl.at_ h4)
 have mbo:∀ a,oth a.block→mb a=w.cell? a:=fun a h=>if_pos h
 have mbn:∀ a,¬ oth a.block→mb a=m a:=fun a h=>if_neg h
 have mle:∀ a u,m a=some u→mb a=some u:=fun a u hu=>by
  by_cases ho:oth a.block
  ·rw [mbo a ho];exact hsim.mem a u hu
  ·rw [mbn a ho];exact hu
 have hb1:(cutBk 1 fun i=>bk (sgm [id] i)) 0=some (b,sz):=by
  have:sgm [id] 0=id:=rfl
  simp only [cutBk,this,hl.at_];rfl
 have sim1:Sim B mb mb (cutBk 1 fun i=>bk (sgm [id] i)) w [.live cs fz]:=by
  refine ⟨hsim.base,fun a u hu=>?_,fun _ _ h=>h,fun _ _ h=>.inl h,fun k c g hk=>?_,fun i j ci fi cj fj x y h1 h2 _ _ _=>?_,fun k hk=>?_⟩
  ·by_cases ho:oth a.block
   ·rw [mbo a ho] at hu;exact hu
   ·rw [mbn a ho] at hu;exact hsim.mem a u hu
  ·have hk0:k=0:=by have:=(List.getElem?_eq_some_iff.1 hk).1;simpa using this
   subst hk0
   simp only [List.getElem?_cons_zero,Option.some.injEq,Slot.live.injEq] at hk
   obtain ⟨rfl,rfl⟩:=hk
   refine ⟨b,sz,arr,t,lo,hi',⟨hb1,hl.own,hl.heap,hl.size,hl.free,hl.fit,hl.one,fun k hk=>?_,fun k hk=>?_,fun k hk=>?_⟩⟩
   ·obtain ⟨u,q1,q2⟩:=hl.rep k hk
    exact ⟨u,q1,(q2.zero (belowL_get h0 k hk)).mono mle fun _ _ h=>h⟩
   ·rw [mbn _ nob];exact hl.mu k hk
   ·rw [mbn _ nob];exact hl.fz k hk
  ·have e1:i=0:=by have:=(List.getElem?_eq_some_iff.1 h1).1;simpa using this
   have e2:j=0:=by have:=(List.getElem?_eq_some_iff.1 h2).1;simpa using this
   rw [e1,e2]
  ·unfold cutBk
   rw [if_neg]
   intro hlt
   have:k=0:=by omega
   subst this
   rcases hk with hk | hk <;> simp at hk
 have args1:RepA mb (cutBk 1 fun i=>bk (sgm [id] i)) cargs args0 :=
  ha B m0 m mb bk w cargs hsim hargs mle fun j c g x h1 h2 h3 a h4=>mbo a ⟨j,c,g,x,h1,h2,h3,h4.symm⟩
 have hg1:GM mb:=by obtain ⟨n,hn⟩:=hg;exact ⟨n,mle _ _ hn⟩
 refine (h B mb mb _ w cargs hg1 sim1 args1).mono ?_
 rintro e w' ⟨c,rfl,m',bk',g1,g2,g3,g4,g5⟩
 let m2:Mem:=fun a=>if oth a.block then m a else m' a
 have m2o:∀ a,oth a.block→m2 a=m a:=fun a h=>if_pos h
 have m2n:∀ a,¬ oth a.block→m2 a=m' a:=fun a h=>if_neg h
 have m_2:∀ a u,m a=some u→m2 a=some u:=fun a u hu=>by
  by_cases ho:oth a.block
  ·rw [m2o a ho];exact hu
  ·rw [m2n a ho];exact g3 _ _ (mle _ _ hu)
 have m2_:∀ a u,m2 a=some u→m' a=some u:=fun a u hu=>by
  by_cases ho:oth a.block
  ·rw [m2o a ho] at hu;exact g3 _ _ (mle _ _ hu)
  ·rw [m2n a ho] at hu;exact hu
 obtain ⟨b',sz',arr',t',lo',hi2,hl'⟩:=g1.blk 0 cs' fz' rfl
 have hbe:some (b',sz')=some (b,sz):=by rw [← hl'.at_,g4 0 _ hb1]
 simp only [Option.some.injEq,Prod.mk.injEq] at hbe
 obtain ⟨rfl,rfl⟩:=hbe
 have back:∀ (k:Nat) (c:List V) (g:Nat),k≠id→(st.set id (.live cs' fz'))[k]?=some (.live c g)→st[k]?=some (.live c g):=fun k c g hk h=>by
  rwa [List.getElem?_set,if_neg (fun e=>hk e.symm)] at h
 refine ⟨c,rfl,m2,bk,⟨Nat.le_trans hsim.base g5.size,fun a u hu=>g1.mem a u (m2_ a u hu),fun a u hu=>m_2 _ _ (hsim.ext a u hu),fun a u hu=>?_,fun k c g hk=>?_,fun i j ci fi cj fj x y h1 h2 hx hy he=>?_,fun k hk=>?_⟩,?_,m_2,fun _ _ h=>h,g5⟩
 ·by_cases ho:oth a.block
  ·rw [m2o a ho] at hu;exact hsim.old a u hu
  ·rw [m2n a ho] at hu
   rcases g1.old a u hu with q | q
   ·rw [mbn a ho] at q;exact hsim.old a u q
   ·exact .inr q
 ·by_cases hk0:k=id
  ·subst hk0
   rw [List.getElem?_set,if_pos rfl,if_pos hidl] at hk
   simp only [Option.some.injEq,Slot.live.injEq] at hk
   obtain ⟨rfl,rfl⟩:=hk
   refine ⟨b',sz',arr',t',lo',hi2,⟨hl.at_,hl.own,hl'.heap,hl'.size,hl'.free,hl'.fit,hl'.one,fun j hj=>?_,fun j hj=>?_,fun j hj=>?_⟩⟩
   ·obtain ⟨u,q1,q2⟩:=hl'.rep j hj
    exact ⟨u,q1,q2.litD (litL_get h0' j hj) m2 bk⟩
   ·rw [m2n _ nob];exact hl'.mu j hj
   ·rw [m2n _ nob];exact hl'.fz j hj
  ·have hks:=back k c g hk0 hk
   obtain ⟨b2,sz2,arr2,t2,lo2,hi3,h2⟩:=hsim.blk k c g hks
   have ho:oth b2:=⟨k,c,g,(b2,sz2),hk0,hks,h2.at_,rfl⟩
   obtain ⟨arr3,q1,q2⟩:=g5.shp b2 arr2 t2 lo2 hi3 h2.heap
   have e3:arr3=arr2:=by
    apply Array.ext q2
    intro i i1 i2
    have c1:w.cell? ⟨b2,i,none⟩=some arr2[i]:=by simp [World.cell?,h2.heap,i2]
    have c2:mb ⟨b2,i,none⟩=some arr2[i]:=by rw [mbo _ ho];exact c1
    have c3:=g1.mem _ _ (g3 _ _ c2)
    simp only [World.cell?,q1] at c3
    simpa [i1] using c3
   subst e3
   refine ⟨b2,sz2,arr3,t2,lo2,hi3,⟨h2.at_,h2.own,q1,h2.size,h2.free,h2.fit,h2.one,fun j hj=>?_,fun j hj=>?_,fun j hj=>?_⟩⟩
   ·obtain ⟨u,r1,r2⟩:=h2.rep j hj
    exact ⟨u,r1,r2.mono m_2 fun _ _ h=>h⟩
   ·rw [m2o _ ho];exact h2.mu j hj
   ·rw [m2o _ ho];exact h2.fz j hj
 ·have aux:∀ (a:Nat) (ci:List V) (fi:Nat),(st.set id (.live cs' fz'))[a]?=some (.live ci fi)→∃ ci fi,st[a]?=some (.live ci fi):=fun a ci fi ha=>by
   by_cases hae:a=id
   ·subst hae;exact ⟨_,_,hi⟩
   ·exact ⟨_,_,back a ci fi hae ha⟩
  obtain ⟨_,_,p1⟩:=aux _ _ _ h1
  obtain ⟨_,_,p2⟩:=aux _ _ _ h2
  exact hsim.inj i j _ _ _ _ x y p1 p2 hx hy he
 ·refine hsim.nb k ?_
  by_cases hk0:k=id
  ·subst hk0
   rw [List.getElem?_set,if_pos rfl,if_pos hidl] at hk
   rcases hk with hk | hk <;> cases hk
  ·rwa [List.getElem?_set,if_neg (fun e=>hk0 e.symm)] at hk
 ·rcases hv with ⟨off,n,es,fu,rfl,rfl⟩ | ⟨hv,rfl⟩
  ·cases g2 with
   | @osl _ _ b3 sz3 _ _ cap _ _ hb hc hf hs =>
    have:some (b3,sz3)=some (b',sz'):=by rw [← hb,g4 0 _ hb1]
    simp only [Option.some.injEq,Prod.mk.injEq] at this
    obtain ⟨rfl,rfl⟩:=this
    exact .osl hl.at_ hc hf hs
  ·exact g2.litD hv m2 bk
theorem callsS_frame {P:Program} {f:FuncId} {args0:List V} {v0 v:V} {cs cs' : List V} {fz fz' : Nat} {st:List Slot} {id:Nat} (h:CallsS P f args0 [.live cs fz] v0 [.live cs' fz']) (ha:V.idlt.belowL 1 args0=true) (hi:st[id]?=some (.live cs fz)) (h0:V.idlt.belowL 0 cs=true) (h0' : V.litD.litL cs'=true)
  (hv:(∃ off n es fu,v0=.osl 0 off n es fu∧v=.osl id off n es fu)∨v0.litD=true∧v=v0):CallsS P f (V.ren.renL [id] args0) st v (st.set id (.live cs' fz')) :=
 callsS_frameG h (fun B m0 m mb bk w cargs hsim hargs mle _=>⟨by rw [hargs.1,renL_len],fun j h1 h2=>by
  have hr:=hargs.2 j h1 (by rw [renL_len];exact h2)
  have hr2:=Rep.ren hr _ (renL_at (sg:=[id]) args0 j h2).symm
  exact (hr2.cut (belowL_get ha j h2)).mono mle fun _ _ h=>h⟩) hi h0 h0' hv
inductive FzT (st:List Slot) (i:Nat):List V→List V→List Nat→Prop
 | nil:FzT st i [] [] []
 | id {v l l' r} (h:v.idlt 0=true) (t:FzT st i l l' r):FzT st i (v :: l) (v :: l') r
 | ptr {j cs us frz l l' r} (hj:st[j]?=some (.live cs frz)) (hne:j≠i) (h:SlWL cs us) (t:FzT st i l l' r):FzT st i (.ptr j 0 :: l) (.eptr us :: l') (j :: r)
theorem FzT.congr {st st2:List Slot} {i:Nat} {l l' : List V} {r:List Nat} (h:FzT st i l l' r):(∀ k,k ∈ r→st2[k]?=st[k]?)→FzT st2 i l l' r:=by
 induction h with
 | nil=>exact fun _=>.nil
 | id h _ ih=>exact fun hst=>.id h (ih hst)
 | ptr hj hne h _ ih=>exact fun hst=>.ptr ((hst _ (by simp)).trans hj) hne h (ih fun k hk=>hst k (by simp [hk]))
theorem FzT.rep {B:Nat} {m0 m mb:Mem} {bk bk' : Bks} {w:World} {st:List Slot} {i:Nat} {l l' : List V} {r:List Nat} (h:FzT st i l l' r) (hsim:Sim B m0 m bk w st) (mle:∀ a u,m a=some u→mb a=some u)
  (hmb:∀ (j:Nat) (c:List V) (g:Nat) (x:Nat × Nat),j≠i→st[j]?=some (.live c g)→bk j=some x→∀ a:Addr,a.block=x.1→mb a=w.cell? a):∀ {cs:List Value},RepL m bk cs l→RepL mb bk' cs l':=by
 induction h with
 | nil=>intro cs h;exact ⟨h.1,fun j _ h2=>absurd h2 (by simp)⟩
 | @id v l l' r h0 t ih =>
  intro cs hr
  cases cs with
  | nil=>have:=hr.1;simp at this
  | cons c cs =>
   have g0:=hr.2 0 (by simp) (by simp)
   have ih':=@ih cs ⟨by simpa using hr.1,fun j h1 h2=>hr.2 (j + 1) (Nat.succ_lt_succ h1) (Nat.succ_lt_succ h2)⟩
   refine ⟨by simpa using ih'.1,fun j h1 h2=>?_⟩
   cases j with
   | zero=>exact (Rep.zero g0 h0).mono mle fun _ _ h=>h
   | succ j=>exact ih'.2 j (Nat.lt_of_succ_lt_succ h1) (Nat.lt_of_succ_lt_succ h2)
 | @ptr j csj us frz l l' r hj hne hw t ih =>
  intro cs hr
  cases cs with
  | nil=>have:=hr.1;simp at this
  | cons c cs =>
   have g0:=hr.2 0 (by simp) (by simp)
   have ih':=@ih cs ⟨by simpa using hr.1,fun j h1 h2=>hr.2 (j + 1) (Nat.succ_lt_succ h1) (Nat.succ_lt_succ h2)⟩
   refine ⟨by simpa using ih'.1,fun k h1 h2=>?_⟩
   cases k with
   | succ k=>exact ih'.2 k (Nat.lt_of_succ_lt_succ h1) (Nat.lt_of_succ_lt_succ h2)
   | zero =>
    have gg:∀ c,Rep m bk c (.ptr j 0)→Rep mb bk' c (.eptr us):=fun c g0=>by
     cases g0 with
     | @ptr _ _ b sz _ hb =>
     obtain ⟨arr,t,lo,hi',hlv,hrep⟩:=sim_live hsim hj hb
     obtain ⟨hl,hat⟩:=hw.at
     refine .eptr (us:=fun k=>arr.getD k undef) (fun u hu=>?_) (fun k hk=>?_) (fun k hk=>?_)
     ·obtain ⟨k,hk,rfl⟩:=List.getElem_of_mem hu
      exact (hat k (by omega) hk).one (hlv.one _ (List.getElem_mem _))
     ·obtain ⟨u,g1,g2⟩:=hlv.rep k (by omega)
      rw [hmb j _ _ _ hne hj hb _ rfl,Nat.zero_add]
      simp only [World.cell?,hlv.heap,Array.getD_eq_getD_getElem?,g1];rfl
     ·obtain ⟨u,g1,g2⟩:=hlv.rep k (by omega)
      have e:arr.getD k undef=u:=by simp [Array.getD_eq_getD_getElem?,g1]
      rw [e]
      exact ((hat k (by omega) hk).rep g2).mono mle fun _ _ h=>h
    exact gg _ g0
end Go.Proofs.YthnihifblmnkdaaGreat

namespace Go.Proofs.YthnihifblmnkdaaGreat
open Go.RowKit
def infB2 (P:Program) (e:TypeId) (es:Nat):Bool:=match P.info? e with
 | some i=>i.size == es && (match i.zero with | some z=>z.cells.size == es && z.cells.toList.all (·.oneCell') | none=>false) && decide (i.bytes≤1000)
 | none=>false
theorem infB2_ok {P:Program} {e:TypeId} {es:Nat} (h:infB2 P e es=true):∃ i z,P.info? e=some i∧i.size=es∧i.zero=some z∧z.cells.size=es∧i.bytes≤1000∧∀ v ∈ z.cells.toList,v.oneCell'=true:=by
 unfold infB2 at h
 split at h
 ·rename_i i hi
  simp only [Bool.and_eq_true,beq_iff_eq,decide_eq_true_eq] at h
  obtain ⟨⟨h1,h2⟩,h3⟩:=h
  split at h2
  ·rename_i z hz
   simp only [Bool.and_eq_true,beq_iff_eq,List.all_eq_true] at h2
   exact ⟨i,z,hi,h1,hz,h2.1,h3,h2.2⟩
  ·cases h2
 ·cases h
structure DelRoads (P:Program) (k:FuncId) (es:Nat):Prop where
 main:∀ (b n c i j:Nat) (cs:List Value) (w:World),i < j→j≤n→n≤c→n≤1000000→cs.length=n * es→(∀ t v,cs[t]?=some v→w.cell? ⟨b,t,none⟩=some v)→(∀ t,t < n * es→w.frozen? ⟨b,t,none⟩=false)→(∀ v ∈ cs,v.oneCell'=true) →
  Calls P k #[.slice (some ⟨b,0,none⟩) n c,.int .i64 i,.int .i64 j] w fun e w'=>∃ zs:List Value,zs.length=(j - i) * es∧(∀ v ∈ zs,v.oneCell'=true)∧e=.returned (.slice (some ⟨b,0,none⟩) (n - (j - i)) c)∧w'=(w.drew.setCells b (i * es) (cs.drop (j * es))).setCells b ((n - (j - i)) * es) zs
def del? {α:Type} (l:List α) (i j:Int):Option (List α):=if 0≤i∧i < j∧j≤l.length∧l.length≤1000000 then some (l.take i.toNat++l.drop j.toNat) else none
theorem del_of {P:Program} {k:FuncId} {es:Nat} (hR:DelRoads P k es) {α:Type} {f:α→V} (hes:∀ a,(f a).cells.length=es) (hone:∀ a,∀ u ∈ (f a).cells,u.one=true)
  {id:Nat} {st:List Slot} (l:List α) (fu:Bool) (i_ j_:Int) (hi:st[id]?=some (.live (cellsM f l) 0)):∀ L,del? l i_ j_=some L→CallsS P k [.osl id 0 l.length es fu,.i i_,.i j_] st (.osl id 0 L.length es false) (st.set id (.live (cellsM f L) 0)):=by
 intro L hL
 unfold del? at hL
 split at hL
 ·rename_i hb
  obtain ⟨hb0,hb1,hb2,hb3⟩:=hb
  obtain ⟨i,rfl⟩:=Int.eq_ofNat_of_zero_le hb0
  obtain ⟨j,rfl⟩:=Int.eq_ofNat_of_zero_le (show 0≤j_ by omega)
  simp only [Option.some.injEq,Int.toNat_natCast] at hL
  intro B m0 m bk w cargs hg hsim hargs
  obtain ⟨hsz,hrp⟩:=hargs
  obtain ⟨c0,c1,c2,rfl⟩:=cargs3 hsz
  have hr0:Rep m bk c0 (.osl id 0 l.length es fu):=hrp 0 (by simp) (by simp)
  have e1:=rep_lit1 (show Rep m bk c1 (.i i) from hrp 1 (by simp) (by simp))
  have e2:=rep_lit1 (show Rep m bk c2 (.i j) from hrp 2 (by simp) (by simp))
  subst e1 e2
  cases hr0 with
  | @osl _ _ b sz _ n cap _ _ hbk hcap hful hszc =>
  obtain ⟨arr,t,lo,hi',hlv,hrep⟩:=sim_live hsim hi hbk
  have hM:=cellsM_len hes l
  have hfit:=hlv.fit
  have hsize:=hlv.size
  have hfree:=hlv.free
  rw [hM] at hfit hrep
  obtain ⟨q,hq⟩ : ∃ q,q=l.length * es:=⟨_,rfl⟩
  obtain ⟨p,hp⟩ : ∃ p,p=i * es:=⟨_,rfl⟩
  obtain ⟨r,hr⟩ : ∃ r,r=j * es:=⟨_,rfl⟩
  have hpr:p≤r:=by rw [hp,hr];exact Nat.mul_le_mul_right _ (by omega)
  have hrq:r≤q:=by rw [hr,hq];exact Nat.mul_le_mul_right _ (by omega)
  have hN:(l.length - (j - i)) * es=p + (q - r):=by rw [Nat.sub_mul,Nat.sub_mul,← hp,← hr,← hq];omega
  have hji:(j - i) * es=r - p:=by rw [Nat.sub_mul,← hp,← hr]
  rw [← hq] at hfit hrep
  obtain ⟨cs,hcsd⟩ : ∃ cs,cs=arr.toList.take q:=⟨_,rfl⟩
  rw [← hcsd] at hrep
  have hcl:cs.length=q:=by rw [hcsd];simp;omega
  have hca:∀ t,t < q→cs[t]?=arr[t]?:=fun t ht=>by rw [hcsd,List.getElem?_take,if_pos ht,Array.getElem?_toList]
  have hcell:∀ t,w.cell? ⟨b,t,none⟩=arr[t]?:=fun t=>by simp [World.cell?,hlv.heap]
  have h:=hR.main b l.length cap i j cs w (by omega) (by omega) hcap hb3 (by rw [hcl,hq]) (fun t v ht=>by
   have ht' : t < q:=by have:=(List.getElem?_eq_some_iff.1 ht).1;omega
   rw [hcell,← hca t ht',ht]) (fun t _=>by
   simp only [World.frozen?,hlv.heap,Bool.and_eq_false_iff,decide_eq_false_iff_not]
   omega) (rep_one_cells hrep hlv.one)
  refine h.mono ?_
  rintro e w' ⟨zs,hz1,hz2,rfl,rfl⟩
  rw [hji] at hz1
  rw [hN,← hp,← hr]
  have hdl:(cs.drop r).length=q - r:=by rw [List.length_drop,hcl]
  obtain ⟨⟨arr1,a1,a2,a3⟩,a4,a5,a6,a7,a8⟩:=setCells_heap b t (lo,hi') (cs.drop r) p w.drew arr hlv.heap (by omega)
  obtain ⟨⟨arr',g1,g2,g3⟩,g4,g5,g6,g7,g8⟩:=setCells_heap b t (lo,hi') zs (p + (q - r)) _ arr1 a1 (by omega)
  have hLl:L.length=l.length - (j - i):=by rw [← hL];simp;omega
  have hct1:=cellsM_take hes l i (by omega)
  have hct2:=cellsM_take hes l j (by omega)
  have hcM:cellsM f L=(cellsM f l).take p++(cellsM f l).drop r:=by rw [← hL,cellsM_app',hct1.1,hct2.2,← hp,← hr]
  have hvals:RepL m bk (cs.take p++cs.drop r) (cellsM f L):=by rw [hcM];exact (hrep.take p).append (hrep.drop r)
  have hML:(cellsM f L).length=p + (q - r):=by rw [cellsM_len hes,hLl,hN]
  have hone' : ∀ u ∈ cellsM f L,u.one=true:=fun u hu=>by
   unfold cellsM at hu
   obtain ⟨a,_,ha⟩:=List.mem_flatMap.1 hu
   exact hone a u ha
  have hw:=hsim.write (cs':=cellsM f L) hi hlv g1 (g2.trans a2) (g4.trans a4) (fun k hk=>(g5 k hk).trans (a5 k hk)) (fun k hk=>absurd hk (Nat.not_lt_zero _)) (by omega) hone' (fun k hk=>by
   have hk' : k < (cs.take p++cs.drop r).length:=by rw [hvals.1];exact hk
   refine ⟨(cs.take p++cs.drop r)[k],?_,hvals.2 k hk' hk⟩
   rw [← List.getElem?_eq_getElem hk',g3,if_neg (by omega),a3,List.getElem?_append,List.length_take]
   by_cases h1:k < p
   ·rw [if_neg (by omega),if_pos (by omega),List.getElem?_take,if_pos h1,hca k (by omega)]
   ·rw [if_pos (by omega),if_neg (by omega),show min p cs.length=p by omega])
  refine ⟨_,rfl,m,bk,hw,?_,fun _ _ h=>h,fun _ _ h=>h,Bel.write (g6.trans a6) (g7.trans a7) (g8.trans a8) hlv.heap g1 (g2.trans a2) (g4.trans a4) (fun k hk=>(g5 k hk).trans (a5 k hk)) hlv.own⟩
  rw [hLl]
  exact .osl hbk (by omega) (fun e=>by cases e) hszc
 ·cases hL
theorem del_nil {α:Type} {i j:Int}:del? ([]:List α) i j=none:=by
 unfold del?
 rw [if_neg]
 simp only [List.length_nil]
 omega
theorem delO_c {β:Type} {r:β} {P:Program} {st:List Slot} {k:FuncId} {es:Nat} (hR:DelRoads P k es) {α:Type} {f:α→V} {l:List α} {i_ j_:Int} {X:List α→Option β} {K:V→List Nat→List Nat→List Slot→Prop} {i n:Nat} {fu:Bool} (H:(del? l i_ j_).bind X=some r) (hes:∀ a,(f a).cells.length=es) (hone:∀ a,(f a).cells.all V.one=true)
  (hi:st[i]?=some (.live (cellsM f l) 0)) (hn:n=l.length) (h:∀ L,X L=some r→ssetK st i (.live (cellsM f L) 0) fun st'=>K (.osl i 0 L.length es false) [] [i] st'):Ask P k [.osl i 0 n es fu,.i i_,.i j_] st K:=by
 subst hn
 obtain ⟨L,hL,H⟩:=bind_c H
 have:=h L H
 rw [ssetK_eq] at this
 exact Ask_L (rd:=[]) (ef:=[(i,.live (cellsM f L) 0)]) (fun st2 _ h2=>del_of hR hes (fun a u hu=>List.all_eq_true.1 (hone a) u hu) l fu i_ j_ ((h2 i (.inr (by simp))).trans hi) L hL) this
theorem delN_c {α β:Type} {A:Prop} {i j:Int} {X:List α→Option β} {r:β} (H:(del? ([]:List α) i j).bind X=some r):A:=by
 rw [del_nil] at H;cases H
end Go.Proofs.YthnihifblmnkdaaGreat

namespace Go.Proofs.YthnihifblmnkdaaGreat
open Go.RowKit
def delF? {α:Type} (fn:α→Option Bool) (l:List α):Option (List α):=if l.length≤1000000∧(l.all fun x=>(fn x).isSome)=true then some (l.filter fun x=>!((fn x).getD false)) else none
theorem callsR_c {P:Program} {f:FuncId} {fn:Func} {ac:BCode} {n n0:Nat} {rs:List ARes} {args:List V} {v:V} {st st' : List Slot} (hmix:P.follows .mixedOrders=true) (hf:P.funcs[f]?=some fn) (hc:compF P fn=some (ac.er,n,rs)) (hn0:st.length=n0)
  (h:initK args n fun fr=>wpC P n0 ac (FinQ (FinR st rs v st')) fr st):CallsS P f args st v st' :=
 callsR_comp hmix hf hc hn0 (wpC_ok (fun _ _ _ h=>h.out) (initK_ok h))
theorem sloT_c {i off n es:Nat} {lo:Int} {k:V→Prop} (a:Nat) (ha:lo=a) (h1:a < n) (h:k (.osl i (off + a * es) (n - a) es false)):SlO i off n es (some lo) none k:=by
 subst ha
 exact ⟨by simp,by simp;omega,by simp,.inl ⟨.inl (by simp;omega),by simpa using h⟩⟩
theorem sloP_c {i off n es:Nat} {hi:Int} {k:V→Prop} (a:Nat) (ha:hi=a) (h1:a≤n) (h:k (.osl i off a es false)):SlO i off n es none (some hi) k:=by
 subst ha
 exact ⟨by simp,by simp,by simp;omega,.inl ⟨.inr rfl,by simpa using h⟩⟩
theorem clr_c {cs cs' : List V} {off n frz:Nat} {k:List V→Prop} (h1:frz≤off) (h2:off≤cs.length) (h3:0 < n) (h4:cs.take off=cs') (h:k cs'):ClrQ cs off n frz k:=⟨h1,h2,h3,h4 ▸ h⟩
theorem df_start {α:Type} {p:α→Bool} {l:List α} (h:l.findIdx p < l.length):l.take (l.findIdx p)=(l.take (l.findIdx p + 1)).filter fun x=>!p x:=by
 rw [List.take_succ_eq_append_getElem h,List.filter_append]
 have h1:p l[l.findIdx p]=true:=List.findIdx_getElem (w:=h)
 have h2:[l[l.findIdx p]].filter (fun x=>!p x)=[]:=by rw [List.filter_cons,h1];rfl
 rw [h2,List.append_nil]
 refine (List.filter_eq_self.2 fun x hx=>?_).symm
 obtain ⟨i,hi,rfl⟩:=List.getElem_of_mem hx
 rw [List.length_take] at hi
 rw [List.getElem_take]
 have:=List.not_of_lt_findIdx (show i < l.findIdx p by omega)
 simpa using this
theorem df_keep {α:Type} {p:α→Bool} {l y:List α} {i j:Nat} (hy:y.length=l.length) (hij:i < j) (hj:j < l.length) (hd:y.drop j=l.drop j) (ht:y.take i=(l.take j).filter fun x=>!p x) (hp:p l[j]=false) :
  (y.set i l[j]).drop (j + 1)=l.drop (j + 1)∧(y.set i l[j]).take (i + 1)=(l.take (j + 1)).filter fun x=>!p x:=by
 constructor
 ·rw [List.drop_set_of_lt (by omega)]
  have h1:(y.drop j).drop 1=(l.drop j).drop 1:=by rw [hd]
  simpa [List.drop_drop] using h1
 ·rw [List.take_succ_eq_append_getElem (show i < (y.set i l[j]).length by simp;omega),List.take_set_of_le (Nat.le_refl i),ht,List.take_succ_eq_append_getElem hj,List.filter_append]
  congr 1
  rw [List.filter_cons,hp]
  simp
theorem df_skip {α:Type} {p:α→Bool} {l y:List α} {i j:Nat} (hj:j < l.length) (hd:y.drop j=l.drop j) (ht:y.take i=(l.take j).filter fun x=>!p x) (hp:p l[j]=true) :
  y.drop (j + 1)=l.drop (j + 1)∧y.take i=(l.take (j + 1)).filter fun x=>!p x:=by
 constructor
 ·have h1:(y.drop j).drop 1=(l.drop j).drop 1:=by rw [hd]
  simpa [List.drop_drop] using h1
 ·rw [ht,List.take_succ_eq_append_getElem hj,List.filter_append,List.filter_cons,hp]
  simp
theorem callsS_fz2 {P:Program} {st:List Slot} {f:FuncId} {a0 a1 a1' v:V} {st' : List Slot} {rd:List Nat} (hf:FzC st a1 a1' rd) (h:CallsS P f [a0,a1'] st v st'):CallsS P f [a0,a1] st v st':=by
 intro B m0 m bk w cargs hg hsim hargs
 refine h B m0 m bk w cargs hg hsim ⟨hargs.1,fun j h1 h2=>?_⟩
 rcases j with _ | _ | j
 ·exact hargs.2 0 h1 (by simp)
 ·exact (hf.rep hsim (hargs.2 1 h1 (by simp))).mono (fun _ _ h=>h) fun _ _ h=>by cases h
 ·exact absurd h2 (by simp)
theorem callsS_fu {P:Program} {st:List Slot} {f:FuncId} {i off n es:Nat} {fu:Bool} {a1 v:V} {st' : List Slot} (h:CallsS P f [.osl i off n es false,a1] st v st'):CallsS P f [.osl i off n es fu,a1] st v st':=by
 intro B m0 m bk w cargs hg hsim hargs
 refine h B m0 m bk w cargs hg hsim ⟨hargs.1,fun j h1 h2=>?_⟩
 rcases j with _ | _ | j
 ·have hr:Rep m bk cargs[0] (.osl i off n es fu):=hargs.2 0 h1 (by simp)
  have go:∀ c,Rep m bk c (.osl i off n es fu)→Rep m bk c (.osl i off n es false):=fun c hr=>by
   cases hr with
   | osl hb hc hf hs=>exact .osl hb hc (fun e=>by cases e) hs
  exact go _ hr
 ·exact hargs.2 1 h1 (by simp)
 ·exact absurd h2 (by simp)
def DelFSaid (P:Program) (k:FuncId) {α:Type} (f:α→V) (es:Nat):Prop :=
 ∀ (l:List α) {g:Nat} {caps:List V} {fn:α→Option Bool},Clo1 P g caps f V.b fn→∀ p:α→Bool,l.length≤1000000→(∀ x ∈ l,fn x=some (p x)) →
  CallsS P k [.osl 0 0 l.length es false,.clo (.func g) caps] [.live (cellsM f l) 0] (.osl 0 0 (l.filter fun x=>!p x).length es false) [.live (cellsM f (l.filter fun x=>!p x)) 0]
def DelFNil (P:Program) (k:FuncId) {α:Type} (f:α→V):Prop :=
 ∀ {g:Nat} {caps:List V} {fn:α→Option Bool},Clo1 P g caps f V.b fn→CallsO P k [.sl [] true,.clo (.func g) caps] (fun _:Unit=>V.sl [] true) (some ())
theorem litL_mem:∀ {l:List V},(∀ v ∈ l,v.litD=true)→V.litD.litL l=true
 | [],_=>rfl
 | v :: l,h=>by
  simp only [V.litD.litL,Bool.and_eq_true]
  exact ⟨h v (by simp),litL_mem fun u hu=>h u (by simp [hu])⟩
theorem mem_litL:∀ {l:List V},V.litD.litL l=true→∀ v ∈ l,v.litD=true
 | u :: l,h,v,hv=>by
  simp only [V.litD.litL,Bool.and_eq_true] at h
  rcases List.mem_cons.1 hv with rfl | hv
  ·exact h.1
  ·exact mem_litL h.2 v hv
section
variable {β : Type} {r : β} {P : Program} {st : List Slot}
theorem delF_of {α:Type} {fn:α→Option Bool} {l L:List α} (h:delF? fn l=some L):∃ p:α→Bool,l.length≤1000000∧(∀ x ∈ l,fn x=some (p x))∧L=l.filter fun x=>!p x:=by
 unfold delF? at h
 split at h
 ·rename_i hb
  refine ⟨fun x=>(fn x).getD false,hb.1,fun x hx=>?_,(Option.some.inj h).symm⟩
  have:=List.all_eq_true.1 hb.2 x hx
  obtain ⟨b,hb⟩:=Option.isSome_iff_exists.1 this
  show fn x=some ((fn x).getD false)
  rw [hb];rfl
 ·cases h
theorem dfO_c {k:FuncId} {es:Nat} {α:Type} {f:α→V} (hS:DelFSaid P k f es) {l:List α} {fn:α→Option Bool} {X:List α→Option β} {K:V→List Nat→List Nat→List Slot→Prop} {i n g:Nat} {fu:Bool} {caps caps' : List V} {rd:List Nat} (H:(delF? fn l).bind X=some r) (hc:Clo1 P g caps' f V.b fn)
  (hz:FzC st (.clo (.func g) caps) (.clo (.func g) caps') rd) (hlit:∀ a,V.litD.litL (f a).cells=true) (h0:∀ a,V.idlt.belowL 0 (f a).cells=true)
  (hi:st[i]?=some (.live (cellsM f l) 0)) (hn:n=l.length) (h:∀ L,X L=some r→ssetK st i (.live (cellsM f L) 0) fun st'=>K (.osl i 0 L.length es false) rd [i] st'):Ask P k [.osl i 0 n es fu,.clo (.func g) caps] st K:=by
 subst hn
 obtain ⟨L,hL,H⟩:=bind_c H
 have:=h L H
 rw [ssetK_eq] at this
 obtain ⟨p,h1,h2,rfl⟩:=delF_of hL
 refine Ask_L (rd:=rd) (ef:=[(i,.live (cellsM f (l.filter fun x=>!p x)) 0)]) (fun st2 _ hk=>?_) this
 refine callsS_fz2 (hz.congr fun t ht=>hk t (.inl ht)) (callsS_fu ?_)
 have hfr:=callsS_frame (st:=st2) (id:=i) (v:=.osl i 0 (l.filter fun x=>!p x).length es false) (hS l hc p h1 h2) (by simp [V.idlt.belowL,V.idlt,idltL_up _ hc.own]) ((hk i (.inr (by simp))).trans hi) (cellsM_idlt h0 _) (litL_mem fun v hv=>by
  obtain ⟨a,_,ha⟩:=List.mem_flatMap.1 hv
  exact mem_litL (hlit a) v ha) (.inl ⟨_,_,_,_,rfl,rfl⟩)
 have hfr2:CallsS P k [.osl i 0 l.length es false,.clo (.func g) caps'] st2 (.osl i 0 (l.filter fun x=>!p x).length es false) (st2.set i (.live (cellsM f (l.filter fun x=>!p x)) 0)):=by simpa [V.ren.renL,V.ren,renL_id _ hc.own,sgm] using hfr
 exact hfr2
theorem dfN_c {k:FuncId} {α:Type} {f:α→V} (hS:DelFNil P k f) {fn:α→Option Bool} {X:List α→Option β} {K:V→List Nat→List Nat→List Slot→Prop} {g:Nat} {caps caps' : List V} {rd:List Nat} (H:(delF? fn ([]:List α)).bind X=some r) (hc:Clo1 P g caps' f V.b fn) (hz:FzC st (.clo (.func g) caps) (.clo (.func g) caps') rd) (h:X []=some r→K (.sl [] true) rd [] st):Ask P k [.sl [] true,.clo (.func g) caps] st K:=by
 have:delF? fn ([]:List α)=some []:=rfl
 rw [this] at H
 exact askF_c (X:=some) (r:=()) (hS hc) rfl (.cons (.c (.id rfl)) (.cons (.c hz) .nil)) fun _ _=>by rw [List.nil_append,List.append_nil];exact h H
end
end Go.Proofs.YthnihifblmnkdaaGreat

namespace Go.Proofs.YthnihifblmnkdaaGreat
open Go.RowKit
def dc65:BCode:=(.seq (.reg 3 [⟨(some 3),.bx (.tmp 0),none,0⟩,⟨(some 4),.bx (.tmp 1),none,1⟩,⟨(some 5),.bx (.tmp 2),none,2⟩,⟨(some 6),.mv (.const .nilFunc),none,3⟩] none 0 []) (.seq (.reg 0 [⟨(some 7),.mf (.func 120) [(.tmp 4),(.tmp 5),(.tmp 3)],none,0⟩,⟨(some 6),.mv (.tmp 7),none,0⟩] none 0 [3,4]) .ret))
theorem dc65_ok:compF Tryz.prog Tryz.f106=some (dc65.er,8,[.tmp 6]):=by unfold dc65;kernel_rfl
theorem rowsS {cs0 cs1 cs2:List V} {f0 f1 f2:Nat} (h0:V.idlt.belowL 0 cs0=true) (h1:V.idlt.belowL 0 cs1=true) (h2:V.idlt.belowL 0 cs2=true) (e:SnapEyes) (b:BookState) (s:ByteArray) :
  CallsS Tryz.prog 106 [e.v,b.v,.s s] [.live cs0 f0,.live cs1 f1,.live cs2 f2,.fresh,.fresh,.fresh] (.clo (.func 120) [.ptr 3 0,.ptr 4 0,.ptr 5 0])
   [.live cs0 f0,.live cs1 f1,.live cs2 f2,.live [.i b.Seq,.sl (List.map BookRow.v b.Rows) false] 2,.live [.s s] 0,.live [.sl (List.map V.s e.Users) false,.sl (List.map V.s e.Keys) false] 2]:=by
 refine callsR_c (n0:=6) mix Tryz.func106 dc65_ok rfl ?_
 conv=>whnf
 refine ⟨Nat.zero_le _,?_⟩;conv=>whnf
 refine ⟨Nat.zero_le _,?_⟩;conv=>whnf
 have hl:∀ {sg:List Nat} {cs:List V} {f:Nat},V.idlt.belowL 0 cs=true→Slot.live cs f=Slot.live (V.ren.renL sg cs) f:=fun h=>by rw [renL_id _ h]
 refine ⟨f_R [0,1,2,7,8,6] (.inr rfl) (.cons (.tmp rfl) .nil) rfl rfl rfl (fun i hi hne=>?_) ?_⟩
 ·have:i=0∨i=1∨i=2∨i=3∨i=4∨i=5:=by simp at hi;omega
  rcases this with rfl | rfl | rfl | rfl | rfl | rfl <;> first | rfl | exact absurd rfl hne
 ·refine ⟨⟨congrArg some (hl h0),idltL_up _ h0,rfl⟩,⟨congrArg some (hl h1),idltL_up _ h1,rfl⟩,⟨congrArg some (hl h2),idltL_up _ h2,rfl⟩,⟨rfl,rfl,rfl⟩,⟨rfl,rfl,rfl⟩,⟨rfl,rfl,rfl⟩,trivial⟩
theorem rowsS6 {cs0 cs1 cs2 cs3 cs4 cs5:List V} {f0 f1 f2 f3 f4 f5:Nat} (h0:V.idlt.belowL 0 cs0=true) (h1:V.idlt.belowL 0 cs1=true) (h2:V.idlt.belowL 0 cs2=true) (h3:V.idlt.belowL 0 cs3=true) (h4:V.idlt.belowL 0 cs4=true) (h5:V.idlt.belowL 0 cs5=true) (e:SnapEyes) (b:BookState) (s:ByteArray) :
  CallsS Tryz.prog 106 [e.v,b.v,.s s] [.live cs0 f0,.live cs1 f1,.live cs2 f2,.live cs3 f3,.live cs4 f4,.live cs5 f5,.fresh,.fresh,.fresh] (.clo (.func 120) [.ptr 6 0,.ptr 7 0,.ptr 8 0])
   [.live cs0 f0,.live cs1 f1,.live cs2 f2,.live cs3 f3,.live cs4 f4,.live cs5 f5,.live [.i b.Seq,.sl (List.map BookRow.v b.Rows) false] 2,.live [.s s] 0,.live [.sl (List.map V.s e.Users) false,.sl (List.map V.s e.Keys) false] 2]:=by
 refine callsR_c (n0:=9) mix Tryz.func106 dc65_ok rfl ?_
 conv=>whnf
 refine ⟨Nat.zero_le _,?_⟩;conv=>whnf
 refine ⟨Nat.zero_le _,?_⟩;conv=>whnf
 have hl:∀ {sg:List Nat} {cs:List V} {f:Nat},V.idlt.belowL 0 cs=true→Slot.live cs f=Slot.live (V.ren.renL sg cs) f:=fun h=>by rw [renL_id _ h]
 refine ⟨f_R [0,1,2,3,4,5,10,11,9] (.inr rfl) (.cons (.tmp rfl) .nil) rfl rfl rfl (fun i hi hne=>?_) ?_⟩
 ·have:i=0∨i=1∨i=2∨i=3∨i=4∨i=5∨i=6∨i=7∨i=8:=by simp at hi;omega
  rcases this with rfl | rfl | rfl | rfl | rfl | rfl | rfl | rfl | rfl <;> first | rfl | exact absurd rfl hne
 ·refine ⟨⟨congrArg some (hl h0),idltL_up _ h0,rfl⟩,⟨congrArg some (hl h1),idltL_up _ h1,rfl⟩,⟨congrArg some (hl h2),idltL_up _ h2,rfl⟩,⟨congrArg some (hl h3),idltL_up _ h3,rfl⟩,⟨congrArg some (hl h4),idltL_up _ h4,rfl⟩,⟨congrArg some (hl h5),idltL_up _ h5,rfl⟩,⟨rfl,rfl,rfl⟩,⟨rfl,rfl,rfl⟩,⟨rfl,rfl,rfl⟩,trivial⟩
end Go.Proofs.YthnihifblmnkdaaGreat

namespace Go.Proofs.YthnihifblmnkdaaGreat
open Go.RowKit
def V.conc:V→Value
 | .lit v=>v
 | .agg cs=>.agg (concL cs).toArray
 | .tup cs=>.tuple (concL cs).toArray
 | _=>undef
where concL:List V→List Value
 | []=>[]
 | v :: vs=>v.conc :: concL vs
def V.litE:V→Bool
 | .lit _=>true
 | .agg cs | .tup cs=>litEL cs
 | _=>false
where litEL:List V→Bool
 | []=>true
 | v :: vs=>v.litE && litEL vs
theorem concL_len:∀ l:List V,(V.conc.concL l).length=l.length
 | []=>rfl
 | v :: l=>by simp [V.conc.concL,concL_len l]
theorem concL_get:∀ (l:List V) (j:Nat) (h:j < l.length) (h2:j < (V.conc.concL l).length),(V.conc.concL l)[j]=l[j].conc
 | v :: l,0,_,_=>rfl
 | v :: l,j + 1,h,h2=>by simpa [V.conc.concL] using concL_get l j (by simpa using h) (by simpa [V.conc.concL] using h2)
theorem litEL_get:∀ {l:List V},V.litE.litEL l=true→∀ j (h:j < l.length),l[j].litE=true
 | v :: l,h,0,_=>by simp [V.litE.litEL] at h;simpa using h.1
 | v :: l,h,j + 1,hj=>by simp [V.litE.litEL] at h;simpa using litEL_get h.2 j (by simpa using hj)
theorem Rep.conc {m:Mem} {bk:Bks} {c:Value} {v:V} (h:Rep m bk c v):v.litE=true→c=v.conc:=by
 have lists:∀ {cs:Array Value} {vs:List V},cs.size=vs.length→(∀ j (h1:j < cs.size) (h2:j < vs.length),vs[j].litE=true→cs[j]=vs[j].conc)→V.litE.litEL vs=true→cs=(V.conc.concL vs).toArray:=by
  intro cs vs hl ih hv
  apply Array.ext
  ·simp [concL_len,hl]
  ·intro i h1 h2
   have h3:i < vs.length:=by omega
   rw [ih i h1 h3 (litEL_get hv i h3),List.getElem_toArray,concL_get vs i h3 (by rw [concL_len];exact h3)]
 induction h with
 | lit h=>intro _;rfl
 | agg hl h1 _ ih=>intro hv;exact congrArg Value.agg (lists hl ih hv)
 | tup hl _ ih=>intro hv;exact congrArg Value.tuple (lists hl ih hv)
 | _=>intro hv;simp [V.litE] at hv
def FastIn (m:Mem) (w:World):Prop:=∀ a u,m a=some u→w.cell? a=some u
theorem FastIn.below {m:Mem} {w w' : World} (h:FastIn m w) (hb:Below w.heap.size w w'):FastIn m w':=fun a u hm=>cell_keep (hb.block _ (World.block_lt_of_cell? w a (h a u hm))) (h a u hm)
theorem fast2 {B:Nat} {m0 m:Mem} {bk:Bks} {w:World} {st:List Slot} {i:Nat} {v u:V} {c:Value} (hsim:Sim B m0 m bk w st) (hi:st[i]?=some (.live [v,u] 2)) (hv:v.idlt 0=true) (hu:u.idlt 0=true) (hr:Rep m bk c (.ptr i 0)) :
  ∃ b x y,c=.pointer (some ⟨b,0,none⟩)∧m ⟨b,0,none⟩=some x∧m ⟨b,1,none⟩=some y∧Rep m noBk x v∧Rep m noBk y u:=by
 have go:∀ c,Rep m bk c (.ptr i 0)→∃ b x y,c=.pointer (some ⟨b,0,none⟩)∧m ⟨b,0,none⟩=some x∧m ⟨b,1,none⟩=some y∧Rep m noBk x v∧Rep m noBk y u:=fun c hr=>by
  cases hr with
  | @ptr _ _ b sz _ hb =>
  obtain ⟨arr,t,lo,hi',hlv,hrep⟩:=sim_live hsim hi hb
  obtain ⟨x,g1,g2⟩:=hlv.rep 0 (by simp)
  obtain ⟨y,g3,g4⟩:=hlv.rep 1 (by simp)
  exact ⟨b,x,y,rfl,(hlv.fz 0 (by omega)).trans g1,(hlv.fz 1 (by omega)).trans g3,g2.zero hv,g4.zero hu⟩
 exact go _ hr
end Go.Proofs.YthnihifblmnkdaaGreat

