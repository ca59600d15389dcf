/- A part of the proof: 4 texts joined. -/
import Derived.Test.YtdoakplhalonfaaGreatOaA10
import Derived.Test.YtdoakplhalonfaaGreatOaA5
import Derived.TacticsIn
set_option linter.all false
namespace Go.Proofs.YtdoakplhalonfaaGreat
open Go.RowKit
def kindsOf (P:Program):Nat→TypeId→Option (List Nat)
 | 0,_=>none
 | d + 1,t=>match P.underlying t with
  | some .bool=>some [0]
  | some (.int _)=>some [1]
  | some .string=>some [2]
  | some (.struct fs)=>(fs.toList.mapM fun f=>kindsOf P d f.type).map List.flatten
  | some (.array n e)=>(kindsOf P d e).map fun ks=>(List.replicate n ks).flatten
  | _=>none
def placesOf (P:Program) (t:TypeId):Option (Nat→Option (Nat × Nat)) :=
 match P.underlying t with
 | some (.array _ e)=>(P.info? e).map fun ie=>fun i=>some (i * ie.size,ie.size)
 | some (.struct fields)=>(fields.toList.mapM fun f=>(P.info? f.type).map fun i=>(f.offset,i.size)).map fun places=>(places.toArray[·]?)
 | _=>none
def strOrSl (P:Program) (t:TypeId):Bool:=match P.underlying t with
 | some (.slice _)=>true
 | some .string=>true
 | _=>false
theorem strOrSl_ok {P:Program} {t:TypeId} (h:strOrSl P t=true):(∃ e',P.underlying t=some (.slice e'))∨P.underlying t=some .string:=by
 unfold strOrSl at h
 split at h
 ·exact .inl ⟨_,‹_›⟩
 ·exact .inr ‹_›
 ·cases h
def compOp (P:Program):Op→Option AOp
 | .move x | .assign x=>some (.mv x)
 | .pick c a b=>some (.pick c a b)
 | .load t x=>match P.underlying t,P.info? t with
  | some d,some i=>some (.ld i.size (isAggD d) x)
  | _,_=>none
 | .store t a x=>match P.info? t with
  | some i=>some (.st i.size a x)
  | none=>none
 | .alloc t=>match P.info? t with
  | some i=>match i.zero with
   | some z=>some (.al (V.ofValue z))
   | none=>none
  | none=>none
 | .box _ x=>some (.bx x)
 | .nilCheck x=>some (.nc x)
 | .binOp .eql t x y _=>match P.underlying t with
  | some .bool=>some (.binb false x y)
  | some (.pointer e)=>if e=P.pointee t then some (.eqp false x y) else none
  | some (.struct _)=>match kindsOf P 10 t with
   | some ks=>if eqTy P 10 t ks=true∧isAggT P t=true∧P.eqGuardType P.depth t=false∧P.cellsOf t=ks.length then some (.eqa false ks x y) else none
   | none=>none
  | some (.array _ _)=>match kindsOf P 10 t with
   | some ks=>if eqTy P 10 t ks=true∧isAggT P t=true∧P.eqGuardType P.depth t=false∧P.cellsOf t=ks.length then some (.eqa false ks x y) else none
   | none=>none
  | _=>some (.bin .eql x y)
 | .binOp .neq t x y _=>match P.underlying t with
  | some .bool=>some (.binb true x y)
  | some (.pointer e)=>if e=P.pointee t then some (.eqp true x y) else none
  | some (.struct _)=>match kindsOf P 10 t with
   | some ks=>if eqTy P 10 t ks=true∧isAggT P t=true∧P.eqGuardType P.depth t=false∧P.cellsOf t=ks.length then some (.eqa true ks x y) else none
   | none=>none
  | some (.array _ _)=>match kindsOf P 10 t with
   | some ks=>if eqTy P 10 t ks=true∧isAggT P t=true∧P.eqGuardType P.depth t=false∧P.cellsOf t=ks.length then some (.eqa true ks x y) else none
   | none=>none
  | _=>some (.bin .neq x y)
 | .binOp op _ x y _=>some (.bin op x y)
 | .unOp op _ x=>some (.un op x)
 | .convert s d x=>match P.underlying s,P.underlying d with
  | some (.int _),some (.int k)=>some (.cvi k x)
  | some .string,some .string=>some (.cvs x)
  | some .string,some (.slice e)=>match P.underlying e with
   | some (.int .u8)=>some (.s2b x)
   | _=>none
  | some (.slice e),some .string=>match P.underlying e with
   | some (.int .u8)=>some (.b2s x)
   | _=>none
  | _,_=>none
 | .fieldAddr t x n=>match P.underlying t with
  | some (.struct fs)=>match fs[n]? with
   | some f=>match P.info? f.type with
    | some i=>if i.size≠0 then some (.fa f.offset x) else none
    | none=>none
   | none=>none
  | _=>none
 | .field t x n=>match P.underlying t with
  | some (.struct fs)=>match fs[n]? with
   | some f=>match P.info? f.type,P.underlying f.type with
    | some i,some d=>some (.fd f.offset i.size (isAggD d) x)
    | _,_=>none
   | none=>none
  | _=>none
 | .indexAddr t x ix=>match P.underlying t with
  | some (.slice e)=>match P.info? e with
   | some i=>some (.ixs i.size x ix)
   | none=>none
  | some (.array len e)=>match P.info? e with
   | some i=>some (.ixa len i.size x ix)
   | none=>none
  | _=>none
 | .index t x ix=>match P.underlying t with
  | some .string=>some (.ixt x ix)
  | some (.array len e)=>match P.info? e,P.underlying e with
   | some i,some d=>some (.ixg len i.size (isAggD d) x ix)
   | _,_=>none
  | _=>none
 | .slice t x lo hi mx=>match P.underlying t with
  | some .string=>match mx with
   | none=>some (.slt x lo hi)
   | some _=>none
  | some (.slice e)=>match P.info? e with
   | some i=>some (.sls i.size x lo hi mx)
   | none=>none
  | _=>none
 | .extract x i=>some (.ex x i)
 | .build t parts=>match placesOf P t,P.info? t with
  | some pl,some i=>match i.zero with
   | some z=>match V.ofValue z,parts.toList.mapM (fun p=>(pl p.1).map fun q=>(q.1,q.2,p.2)) with
    | .agg zs,some ps=>some (.bd zs ps)
    | _,_=>none
   | none=>none
  | _,_=>none
 | .buildSlice t len parts=>match P.underlying t with
  | some (.slice e)=>match P.info? e with
   | some i=>match i.zero with
    | some z=>if len * i.size≠0∧z.cells.size=i.size∧len * i.size≤1000∧(V.ofValue z).stb=true then some (.bs i.size len ((List.range (len * i.size)).map fun k=>(V.ofValue z).cells.getD (k % i.size) .any) parts.toList) else if len=0∧parts.size=0 then some (.mv (.const (.slice none 0 0))) else none
    | none=>none
   | none=>none
  | _=>none
 | .makeSlice t n c=>match P.underlying t with
  | some (.slice e)=>match P.info? e with
   | some i=>match i.zero with
    | some z=>if i.size≠0∧z.cells.size=i.size∧(V.ofValue z).stb=true then some (.mks i.size i.bytes (V.ofValue z).cells n c) else none
    | none=>none
   | none=>none
  | _=>none
 | .makeFunc fn first caps=>match first.toList with
  | []=>if yldF fn=false then some (.mf fn caps.toList) else none
  | _=>match fn with
   | .func g=>match caps.toList with
    | []=>some (.mf (.yield g) first.toList)
    | _=>none
   | _=>none
 | .call c=>match c.callee with
  | .value (.func f)=>match P.funcs[f]? with
   | some fn=>if fn.body.isSome=true∧(fn.name == "runtime.NumGoroutine")=false then some (.cl f c.args.toList) else none
   | none=>none
  | .value f=>some (.cv f c.args.toList)
  | .builtin .len=>match c.args.toList,c.argTypes.toList with
   | [x],[t]=>match P.underlying t with
    | some .string=>some (.lent x)
    | some (.slice _)=>some (.lens x)
    | _=>none
   | _,_=>none
  | .builtin .clear=>match c.args.toList,c.argTypes.toList with
   | [x],[t]=>match P.underlying t with
    | some (.slice e)=>match P.info? e with
     | some i=>match i.zero with
      | some z=>if z.cells.size=i.size∧z.cells.toList.all (·.oneCell')=true then some (.clr i.size x) else none
      | none=>none
     | none=>none
    | _=>none
   | _,_=>none
  | .builtin .min=>match c.args.toList with
   | [x,y]=>some (.mn false x y)
   | _=>none
  | .builtin .max=>match c.args.toList with
   | [x,y]=>some (.mn true x y)
   | _=>none
  | .builtin .append=>match c.args.toList,c.argTypes.toList with
   | [s,x],[t,t']=>if strOrSl P t'=true then match P.underlying t with
    | some (.slice e)=>match P.info? e with
     | some i=>match i.zero with
      | some z=>if z.cells.size=i.size∧i.size≠0 then some (.ap i.size i.bytes s x) else none
      | none=>none
     | none=>none
    | _=>none
    else none
   | _,_=>none
  | _=>none
 | _=>none
theorem toList_nil {α:Type} {a:Array α} (h:a.toList=[]):a=#[]:=by apply Array.ext';rw [h]
theorem toList_one {α:Type} {a:Array α} {x:α} (h:a.toList=[x]):a=#[x]:=by apply Array.ext';rw [h]
theorem toList_two {α:Type} {a:Array α} {x y:α} (h:a.toList=[x,y]):a=#[x,y]:=by apply Array.ext';rw [h]
theorem placesOf_ok {P:Program} {t:TypeId} {pl:Nat→Option (Nat × Nat)} {i:TypeInfo} {z:Value} (h:placesOf P t=some pl) (hi:P.info? t=some i) (hz:i.zero=some z) (l:List (Nat × Value)):P.built t l=Instr.fill pl z.cells l:=by
 unfold placesOf at h
 unfold Program.built
 rw [hi]
 split at h
 ·rename_i n e hu
  simp only [Option.map_eq_some_iff] at h
  obtain ⟨ie,h1,rfl⟩:=h
  simp only [hu,hz,h1]
 ·rename_i fields hu
  simp only [Option.map_eq_some_iff] at h
  obtain ⟨ps,h1,rfl⟩:=h
  simp only [hu,hz,h1]
 ·cases h
theorem compOp_ok {P:Program} {op:Op} {ao:AOp} (ty:TypeId) (h:compOp P op=some ao):Cop P op ty ao:=by
 unfold compOp at h
 split at h <;> (try simp only [reduceCtorEq] at h)
 all_goals (repeat' (split at h)) <;> (try simp only [reduceCtorEq,Option.some.injEq] at h) <;> (try subst h)
 all_goals first
  | exact .mv _
  | exact .as _
  | exact .pick _ _ _
  | exact .ld ‹_› ‹_›
  | exact .st ‹_›
  | exact .al ‹_› ‹_›
  | exact .bx
  | exact .nc
  | exact .binb (neg:=false) ‹_›
  | exact .binb (neg:=true) ‹_›
  | (rename_i hd hh;subst hh;exact .eqp (neg:=false) hd)
  | (rename_i hd hh;subst hh;exact .eqp (neg:=true) hd)
  | (rename_i hh;exact .eqa (neg:=false) hh.1 (by decide) hh.2.1 hh.2.2.1 hh.2.2.2)
  | (rename_i hh;exact .eqa (neg:=true) hh.1 (by decide) hh.2.1 hh.2.2.1 hh.2.2.2)
  | exact .bin
  | exact .un
  | exact .cvi ‹_› ‹_›
  | exact .cvs ‹_› ‹_›
  | exact .s2b ‹_› ‹_› ‹_›
  | exact .b2s ‹_› ‹_› ‹_›
  | exact .fa ‹_› ‹_› ‹_› ‹_›
  | exact .fd ‹_› ‹_› ‹_› ‹_›
  | exact .ixs ‹_› ‹_›
  | exact .ixa ‹_› ‹_›
  | exact .ixg ‹_› ‹_› ‹_›
  | exact .ixt ‹_›
  | exact .slt ‹_›
  | exact .sls ‹_› ‹_›
  | exact .ex
  | exact .bd _ (placesOf_ok ‹_› ‹_› ‹_›) ‹_› ‹_› ‹_› ‹_›
  | (rename_i hh;exact .bs ‹_› ‹_› ‹_› hh.1 hh.2.1 hh.2.2.1 hh.2.2.2)
  | (rename_i hh;obtain ⟨h1,h2⟩:=hh;subst h1;rw [Array.eq_empty_of_size_eq_zero h2];exact .bs0 ‹_› ‹_›)
  | (rename_i hh hv;rw [toList_nil hh];exact .mf hv)
  | (rename_i hh;rw [toList_nil hh];exact .mfb)
  | (rename_i c _ f hc _ fn hfn hh;obtain ⟨cal,args,tys⟩:=c;simp only at hc;subst hc;exact .cl hfn hh.1 hh.2)
  | (rename_i c _ f _ hc;obtain ⟨cal,args,tys⟩:=c;simp only at hc;subst hc;exact .cv)
  | (rename_i c _ hc _ _ x t h1 h2 _ hd;obtain ⟨cal,args,tys⟩:=c;simp only at hc h1 h2;subst hc;rw [toList_one h1,toList_one h2];exact .lenT hd)
  | (rename_i c _ hc _ _ x t h1 h2 _ e hd;obtain ⟨cal,args,tys⟩:=c;simp only at hc h1 h2;subst hc;rw [toList_one h1,toList_one h2];exact .lenS hd)
  | (rename_i c _ hc _ _ x t h1 h2 _ e hd _ i hi _ z hz hh;obtain ⟨cal,args,tys⟩:=c;simp only at hc h1 h2;subst hc;rw [toList_one h1,toList_one h2];exact .clr hd hi hz hh.1 hh.2)
  | (rename_i hh;exact .mks ‹_› ‹_› ‹_› hh.1 hh.2.1 hh.2.2)
  | (rename_i c _ hc _ x y h1;obtain ⟨cal,args,tys⟩:=c;simp only at hc h1;subst hc;rw [toList_two h1];exact .mn (mx:=false))
  | (rename_i c _ hc _ x y h1;obtain ⟨cal,args,tys⟩:=c;simp only at hc h1;subst hc;rw [toList_two h1];exact .mn (mx:=true))
  | (rename_i c _ hc _ _ s x t t' h1 h2 htt _ e hd _ i hi _ z hz hh;obtain ⟨cal,args,tys⟩:=c;simp only at hc h1 h2;subst hc;rw [toList_two h1,toList_two h2];exact .ap hd hi hz hh.1 hh.2 (strOrSl_ok htt))
def compG (ops:Array Oper):Option (Nat × Bool)→Option (Option (Nat × Bool))
 | none=>some none
 | some (j,w)=>match (ops[j]?).bind (·.dst) with
  | some d=>some (some (d,w))
  | none=>none
def AOp.makes:AOp→Bool
 | .al .. | .bx .. | .bs .. | .s2b .. | .ap .. | .mks ..=>true
 | _=>false
def compOps (P:Program) (ops:Array Oper):List Oper→Nat→Option (List AOper × Nat)
 | [],c=>some ([],c)
 | o :: os,c=>match compOp P o.op,compG ops o.guard with
  | some ao,some g=>match compOps P ops os (if ao.makes then c + 1 else c) with
   | some (l,n)=>some (⟨o.dst,ao,g,c⟩ :: l,n)
   | none=>none
  | _,_=>none
theorem compOps_ok {P:Program} {ops:Array Oper}:∀ {os:List Oper} {c n:Nat} {l:List AOper},compOps P ops os c=some (l,n)→os.length=l.length∧∀ j (h:j < l.length) (o:Oper),os[j]?=some o→MatchOp P ops o l[j]
 | [],c,n,l,h=>by
  simp only [compOps,Option.some.injEq,Prod.mk.injEq] at h
  obtain ⟨rfl,_⟩:=h
  exact ⟨rfl,fun j h=>absurd h (Nat.not_lt_zero _)⟩
 | o :: os,c,n,l,h=>by
  simp only [compOps] at h
  split at h
  ·rename_i ao g h1 h2
   split at h
   ·rename_i l' n' h3
    simp only [Option.some.injEq,Prod.mk.injEq] at h
    obtain ⟨rfl,rfl⟩:=h
    obtain ⟨g1,g2⟩:=compOps_ok h3
    refine ⟨by simp [g1],fun j hj o' ho'=>?_⟩
    cases j with
    | zero =>
     simp only [List.getElem?_cons_zero,Option.some.injEq] at ho'
     subst ho'
     refine ⟨compOp_ok _ h1,rfl,?_⟩
     simp only [List.getElem_cons_zero]
     unfold compG at h2
     split at h2
     ·simp only [Option.some.injEq] at h2
      subst h2
      rename_i e
      rw [e];trivial
     ·rename_i j w e
      split at h2
      ·rename_i d hd
       simp only [Option.some.injEq] at h2
       subst h2
       rw [e]
       exact ⟨rfl,hd⟩
      ·cases h2
    | succ j=>exact g2 j (by simpa using hj) o' (by simpa using ho')
   ·cases h
  ·cases h
def uni (a b:List Nat):List Nat:=b.foldl (fun r x=>if r.contains x then r else x :: r) a
def befOf:List Oper→List (List Nat)→List (List Nat)
 | [],acc=>acc
 | o :: os,acc=>befOf os (acc++[o.after.toList.foldl (fun s e=>if Region.binds .any e then uni s (e.on :: acc.getD e.on []) else s) []])
def apartB (x y:AOper):Bool :=
 (match x.dst with | some d=>!y.names.contains d && y.dst != some d | none=>true) && (match y.dst with | some d=>!x.names.contains d | none=>true)
def dstB (x y:AOper):Bool:=match x.dst with | some d=>y.dst != some d | none=>true
def regB (ops:List Oper) (aos:List AOper) (bef:List (List Nat)):Bool :=
 (ops.zipIdx.all fun x=>x.1.after.toList.all fun e=>!Region.binds .any e || decide (e.on < x.2)) &&
 (ops.zipIdx.all fun x=>(bef.getD x.2 []).all fun i=>x.1.after.toList.any fun e=>Region.binds .any e && (e.on == i || (bef.getD e.on []).contains i)) &&
 (aos.zipIdx.all fun y=>aos.zipIdx.all fun x=>!decide (x.2 < y.2) || ((bef.getD y.2 []).contains x.2 || apartB x.1 y.1)) &&
 (aos.zipIdx.all fun y=>aos.zipIdx.all fun x=>x.2 == y.2 || dstB x.1 y.1)
theorem mem_zip {α:Type} {l:List α} {i:Nat} (h:i < l.length):(l[i],i) ∈ l.zipIdx:=by
 rw [List.mem_zipIdx_iff_getElem?];simp [h]
theorem regB_ok {ops:Array Oper} {aos:List AOper} {bef:List (List Nat)} (h:regB ops.toList aos bef=true):RegOK ops aos bef:=by
 simp only [regB,Bool.and_eq_true,List.all_eq_true] at h
 obtain ⟨⟨⟨h1,h2⟩,h3⟩,h4⟩:=h
 have hmem:∀ j o,ops[j]?=some o→(o,j) ∈ ops.toList.zipIdx:=by
  intro j o ho
  rw [List.mem_zipIdx_iff_getElem?]
  simpa using ho
 refine ⟨fun j o ho e he hb=>?_,fun j o ho i hi=>?_,fun i j hi hj hij=>?_,fun i j hi hj hij d hd=>?_⟩
 ·have:=h1 _ (hmem j o ho) e (Array.mem_toList_iff.2 he)
  simpa [hb] using this
 ·have:=h2 _ (hmem j o ho) i hi
  simp only [List.any_eq_true,Bool.and_eq_true,Bool.or_eq_true,beq_iff_eq,List.contains_eq_mem,decide_eq_true_eq] at this
  obtain ⟨e,he,hb,hc⟩:=this
  exact ⟨e,Array.mem_toList_iff.1 he,hb,hc⟩
 ·have:=h3 _ (mem_zip hj) _ (mem_zip hi)
  simp only [hij,decide_true,Bool.not_true,Bool.false_or,Bool.or_eq_true,List.contains_eq_mem,decide_eq_true_eq] at this
  rcases this with g | g
  ·exact .inl g
  ·refine .inr ⟨fun d hd=>?_,fun d hd=>?_⟩
   ·simp only [apartB,hd,Bool.and_eq_true,Bool.not_eq_true',List.contains_eq_mem,decide_eq_false_iff_not] at g
    exact g.1.1
   ·simp only [apartB,hd,Bool.and_eq_true,Bool.not_eq_true',List.contains_eq_mem,decide_eq_false_iff_not] at g
    exact g.2
 ·have:=h4 _ (mem_zip hj) _ (mem_zip hi)
  simp only [Bool.or_eq_true,beq_iff_eq] at this
  rcases this with g | g
  ·exact absurd g hij
  ·simp only [dstB,hd,bne_iff_ne,ne_eq] at g
   exact g
def comp (P:Program):Code→Option ACode
 | .skip | .label _=>some .skip
 | .region id ops draw=>match compOps P ops ops.toList 0 with
  | some (aos,nc)=>if draw=true then (let bef:=befOf ops.toList [];if regB ops.toList aos bef=true then some (.reg nc aos (some bef)) else some (.raw (.region id ops draw))) else some (.reg nc aos none)
  | none=>some (.raw (.region id ops draw))
 | .seq a b=>match comp P a,comp P b with
  | some x,some y=>some (.seq x y)
  | _,_=>none
 | .cond c a b=>match comp P a,comp P b with
  | some x,some y=>some (.cond c x y)
  | _,_=>none
 | .block id a=>match comp P a with
  | some x=>some (.block id x)
  | none=>none
 | .loop a=>match comp P a with
  | some x=>some (.loop x)
  | none=>none
 | .scope a=>comp P a
 | .exit id=>some (.exit id)
 | .ret=>some .ret
 | .rangeFunc f ps a b=>some (.raw (.rangeFunc f ps a b))
 | _=>none
theorem comp_ok {P:Program}:∀ {c:Code} {ac:ACode},comp P c=some ac→MatchC P c ac:=by
 intro c
 induction c with
 | skip=>intro ac h;simp only [comp,Option.some.injEq] at h;subst h;exact .skip
 | label=>intro ac h;simp only [comp,Option.some.injEq] at h;subst h;exact .label
 | region id ops draw =>
  intro ac h
  simp only [comp] at h
  split at h
  ·rename_i aos nc h1
   obtain ⟨g1,g2⟩:=compOps_ok h1
   have g2' : ∀ j (h:j < aos.length) (o:Oper),ops[j]?=some o→MatchOp P ops o aos[j]:=fun j h o ho=>g2 j h o (by simpa using ho)
   have g1' : ops.size=aos.length:=by simpa using g1
   cases draw with
   | true =>
    simp only [if_true] at h
    split at h
    ·rename_i hr
     simp only [Option.some.injEq] at h
     subst h
     exact .regD g1' g2' (regB_ok hr)
    ·simp only [Option.some.injEq] at h
     subst h
     exact .raw
   | false =>
    simp only [Bool.false_eq_true,if_false,Option.some.injEq] at h
    subst h
    exact .regT g1' g2'
  ·simp only [Option.some.injEq] at h
   subst h
   exact .raw
 | seq a b ih1 ih2 =>
  intro ac h
  simp only [comp] at h
  split at h
  ·simp only [Option.some.injEq] at h;subst h;exact .seq (ih1 ‹_›) (ih2 ‹_›)
  ·cases h
 | cond c a b ih1 ih2 =>
  intro ac h
  simp only [comp] at h
  split at h
  ·simp only [Option.some.injEq] at h;subst h;exact .cond (ih1 ‹_›) (ih2 ‹_›)
  ·cases h
 | block id a ih =>
  intro ac h
  simp only [comp] at h
  split at h
  ·simp only [Option.some.injEq] at h;subst h;exact .block (ih ‹_›)
  ·cases h
 | loop a ih =>
  intro ac h
  simp only [comp] at h
  split at h
  ·simp only [Option.some.injEq] at h;subst h;exact .loop (ih ‹_›)
  ·cases h
 | scope a ih=>intro ac h;exact .scope (ih h)
 | exit=>intro ac h;simp only [comp,Option.some.injEq] at h;subst h;exact .exit
 | ret=>intro ac h;simp only [comp,Option.some.injEq] at h;subst h;exact .ret
 | rangeFunc=>intro ac h;simp only [comp,Option.some.injEq] at h;subst h;exact .raw
 | _=>intro ac h;simp [comp] at h
def compR (P:Program):List ResultVar→Option (List ARes)
 | []=>some []
 | .tmp t :: rs=>match compR P rs with
  | some l=>some (.tmp t :: l)
  | none=>none
 | .cell a t :: rs=>match compR P rs,P.underlying t,P.info? t with
  | some l,some d,some i=>some (.cell a i.size (isAggD d) :: l)
  | _,_,_=>none
theorem compR_ok {P:Program}:∀ {rs:List ResultVar} {l:List ARes},compR P rs=some l→MatchRL P rs l
 | [],l,h=>by simp only [compR,Option.some.injEq] at h;subst h;exact .nil
 | .tmp t :: rs,l,h=>by
  simp only [compR] at h
  split at h
  ·simp only [Option.some.injEq] at h;subst h;exact .cons .tmp (compR_ok ‹_›)
  ·cases h
 | .cell a t :: rs,l,h=>by
  simp only [compR] at h
  split at h
  ·simp only [Option.some.injEq] at h;subst h;exact .cons (.cell ‹_› ‹_›) (compR_ok ‹_›)
  ·cases h
def compF (P:Program) (fn:Func):Option (ACode × Nat × List ARes) :=
 match fn.body with
 | some c=>match comp P c,compR P fn.results.toList with
  | some ac,some rs=>some (ac,fn.ntmps,rs)
  | _,_=>none
 | none=>none
theorem callsV_comp {P:Program} {f:FuncId} {fn:Func} {ac:ACode} {n:Nat} {rs:List ARes} {args:List V} {v:V} (hmix:P.follows .mixedOrders=true) (hf:P.funcs[f]?=some fn) (hc:compF P fn=some (ac,n,rs))
  (h:AW P 0 ac (Fin rs v) (args++List.replicate (n - args.length) (.tup [])) []):CallsV P f args v:=by
 unfold compF at hc
 split at hc
 ·rename_i c hb
  split at hc
  ·simp only [Option.some.injEq,Prod.mk.injEq] at hc
   obtain ⟨rfl,rfl,rfl⟩:=hc
   exact callsV_of hmix hf hb (comp_ok ‹_›) rfl (compR_ok ‹_›) h
  ·cases hc
 ·cases hc
end Go.Proofs.YtdoakplhalonfaaGreat

namespace Go.Proofs.YtdoakplhalonfaaGreat
open Go.RowKit
section
variable {P : Program} {n0 : Nat} {base c : Nat} {os : List AOper} {fp : List (List Nat × List Nat)} {fr : List V} {st : List Slot} {K : List (List Nat × List Nat) → List V → List Slot → Prop} {Q : AExit → List V → List Slot → Prop} {d : Option Nat} {g : Option (Nat × Bool)} {x y z : Operand}
theorem set_getD {fr:List V} {t:Nat} {v:V} (h:fr.getD t .any=v):fr.set t v=fr:=by
 apply List.ext_getElem?
 intro i
 rw [List.getElem?_set]
 split
 ·rename_i e
  subst e
  split
  ·rename_i hl
   have:fr.getD t .any=fr[t]:=by simp [List.getD,hl]
   rw [List.getElem?_eq_getElem hl,← h,this]
  ·rename_i hl;rw [List.getElem?_eq_none (by omega)]
 ·rfl
theorem wrap_ok {a:Int} (h:-9223372036854775808≤a∧a≤9223372036854775807):IntKind.i64.wrap a=a:=IntWalk.i64_in _ (by omega)
theorem fza_id {st:List Slot}:∀ {vs:List V},V.idlt.belowL 0 vs=true→FzA st vs vs []
 | [],_=>.nil
 | v :: vs,h=>by
  simp only [V.idlt.belowL,Bool.and_eq_true] at h
  exact .cons (r:=[]) (.c (.id h.1)) (fza_id h.2)
def cellsM {α:Type} (f:α→V) (l:List α):List V:=l.flatMap fun a=>(f a).cells
theorem cellsM_len {α:Type} {f:α→V} {es:Nat} (h:∀ a,(f a).cells.length=es) (l:List α):(cellsM f l).length=l.length * es:=by
 unfold cellsM
 rw [List.length_flatMap]
 simp only [h,List.map_const']
 simp
theorem cellsM_map {α:Type} (f:α→V) (l:List α):(l.map f).flatMap V.cells=cellsM f l:=by
 unfold cellsM;rw [List.flatMap_map]
theorem belowL_mem {n:Nat}:∀ {l:List V},(∀ v ∈ l,v.idlt n=true)→V.idlt.belowL n l=true
 | [],_=>rfl
 | v :: l,h=>by simp only [V.idlt.belowL,Bool.and_eq_true];exact ⟨h v (by simp),belowL_mem fun u hu=>h u (by simp [hu])⟩
theorem mem_belowL {n:Nat}:∀ {l:List V},V.idlt.belowL n l=true→∀ v ∈ l,v.idlt n=true
 | v :: l,h,u,hu=>by
  simp only [V.idlt.belowL,Bool.and_eq_true] at h
  rcases List.mem_cons.1 hu with rfl | hu
  ·exact h.1
  ·exact mem_belowL h.2 u hu
theorem cellsM_idlt {α:Type} {f:α→V} {n:Nat} (h:∀ a,V.idlt.belowL n (f a).cells=true) (l:List α):V.idlt.belowL n (cellsM f l)=true :=
 belowL_mem fun v hv=>by
  obtain ⟨a,_,ha⟩:=List.mem_flatMap.1 hv
  exact mem_belowL (h a) v ha
theorem fzc_made {α:Type} {f:α→V} {l:List α} {i n es frz:Nat} {full:Bool} {cs:List V} (hi:st[i]?=some (.live cs frz)) (hc:cs=cellsM f l) (hf:frz=cs.length) (hn:n=l.length) (hes:∀ a,(f a).cells.length=es) (h0:∀ a,V.idlt.belowL 0 (f a).cells=true):FzC st (.osl i 0 n es full) (.sl (l.map f) false) [i]:=by
 subst hc hf hn
 have hl:=cellsM_len hes l
 refine .osl (fun e=>by cases e) hi (by omega) (by omega) (by simp) (fun x hx=>?_) ?_ ?_
 ·obtain ⟨a,_,rfl⟩:=List.mem_map.1 hx;exact hes a
 ·rw [List.drop_zero,← hl,List.take_length,cellsM_map]
 ·rw [cellsM_map];exact cellsM_idlt h0 l
def loopQ (n0:Nat) (I:Nat→List V→List Slot→Prop) (n:Nat) (Q:AExit→List V→List Slot→Prop):AExit→List V→List Slot→Prop :=
 fun e fr' st'=>match e with | .normal=>∃ n' k sg fr'' st'',n' < n∧Wk n0 k sg fr' fr'' st' st''∧I n' fr'' st'' | e=>Q e fr' st'
def maskF:List Nat→List V→List V
 | [],fr=>fr
 | t :: ts,fr=>maskF ts (fr.set t .any)
def setF:List V→List Nat→List V→List V
 | fr,t :: ts,v :: vs=>setF (fr.set t v) ts vs
 | fr,_,_=>fr
def wkS (n:Nat):List Slot→Prop
 | []=>True
 | .live cs _ :: r=>V.idlt.belowL n cs=true∧wkS n r
 | _ :: r=>wkS n r
def wkB (n:Nat) (sg:List Nat) (st:List Slot):Nat→List Slot→Prop
 | _,[]=>True
 | i,.live cs f :: r=>(st[sgm sg i]?=some (Slot.live (V.ren.renL sg cs) f)∧V.idlt.belowL n cs=true∧((List.range r.length).all fun k=>sgm sg i != sgm sg (i + 1 + k))=true)∧wkB n sg st (i + 1) r
 | i,.fresh :: r=>st[sgm sg i]?=some Slot.fresh∧wkB n sg st (i + 1) r
 | i,.dead :: r=>wkB n sg st (i + 1) r
theorem wkS_ok {n:Nat}:∀ {l:List Slot},wkS n l→∀ (i:Nat) (cs:List V) (frz:Nat),l[i]?=some (Slot.live cs frz)→V.idlt.belowL n cs=true
 | [],_,i,cs,f,h=>by simp at h
 | .live c g :: r,⟨h0,h1⟩,0,cs,f,h=>by simp at h;rw [← h.1];exact h0
 | .live c g :: r,⟨h0,h1⟩,i + 1,cs,f,h=>wkS_ok h1 i cs f (by simpa using h)
 | .fresh :: r,h1,0,cs,f,h=>by simp at h
 | .fresh :: r,h1,i + 1,cs,f,h=>wkS_ok (l:=r) h1 i cs f (by simpa using h)
 | .dead :: r,h1,0,cs,f,h=>by simp at h
 | .dead :: r,h1,i + 1,cs,f,h=>wkS_ok (l:=r) h1 i cs f (by simpa using h)
theorem wkB_ok {n:Nat} {sg:List Nat} {st:List Slot}:∀ {l:List Slot} {i:Nat},wkB n sg st i l →
  (∀ (j:Nat) (cs:List V) (f:Nat),l[j]?=some (Slot.live cs f)→st[sgm sg (i + j)]?=some (Slot.live (V.ren.renL sg cs) f)∧V.idlt.belowL n cs=true∧∀ k,j < k→k < l.length→sgm sg (i + j)≠sgm sg (i + k))∧(∀ j:Nat,l[j]?=some Slot.fresh→st[sgm sg (i + j)]?=some Slot.fresh)
 | [],i,_=>⟨fun j cs f h=>by simp at h,fun j h=>by simp at h⟩
 | .live c g :: r,i,⟨⟨h0,h1,h2⟩,h3⟩=>by
  obtain ⟨g1,g2⟩:=wkB_ok h3
  refine ⟨fun j cs f h=>?_,fun j h=>?_⟩
  ·cases j with
   | zero =>
    simp only [List.getElem?_cons_zero,Option.some.injEq,Slot.live.injEq] at h
    obtain ⟨rfl,rfl⟩:=h
    refine ⟨h0,h1,fun k hk hkl e=>?_⟩
    simp only [List.all_eq_true,List.mem_range,bne_iff_ne,ne_eq] at h2
    refine h2 (k - 1) (by simp at hkl;omega) ?_
    rw [show i + 1 + (k - 1)=i + k by omega];exact e
   | succ j =>
    obtain ⟨q1,q2,q3⟩:=g1 j cs f (by simpa using h)
    refine ⟨by rw [show i + (j + 1)=i + 1 + j by omega];exact q1,q2,fun k hk hkl e=>?_⟩
    refine q3 (k - 1) (by omega) (by simp at hkl;omega) ?_
    rw [show i + 1 + j=i + (j + 1) by omega,show i + 1 + (k - 1)=i + k by omega];exact e
  ·cases j with
   | zero=>simp at h
   | succ j=>rw [show i + (j + 1)=i + 1 + j by omega];exact g2 j (by simpa using h)
 | .fresh :: r,i,⟨h0,h3⟩=>by
  obtain ⟨g1,g2⟩:=wkB_ok h3
  refine ⟨fun j cs f h=>?_,fun j h=>?_⟩
  ·cases j with
   | zero=>simp at h
   | succ j =>
    obtain ⟨q1,q2,q3⟩:=g1 j cs f (by simpa using h)
    refine ⟨by rw [show i + (j + 1)=i + 1 + j by omega];exact q1,q2,fun k hk hkl e=>?_⟩
    refine q3 (k - 1) (by omega) (by simp at hkl;omega) ?_
    rw [show i + 1 + j=i + (j + 1) by omega,show i + 1 + (k - 1)=i + k by omega];exact e
  ·cases j with
   | zero=>exact h0
   | succ j=>rw [show i + (j + 1)=i + 1 + j by omega];exact g2 j (by simpa using h)
 | .dead :: r,i,h3=>by
  obtain ⟨g1,g2⟩:=wkB_ok (l:=r) h3
  refine ⟨fun j cs f h=>?_,fun j h=>?_⟩
  ·cases j with
   | zero=>simp at h
   | succ j =>
    obtain ⟨q1,q2,q3⟩:=g1 j cs f (by simpa using h)
    refine ⟨by rw [show i + (j + 1)=i + 1 + j by omega];exact q1,q2,fun k hk hkl e=>?_⟩
    refine q3 (k - 1) (by omega) (by simp at hkl;omega) ?_
    rw [show i + 1 + j=i + (j + 1) by omega,show i + 1 + (k - 1)=i + k by omega];exact e
  ·cases j with
   | zero=>simp at h
   | succ j=>rw [show i + (j + 1)=i + 1 + j by omega];exact g2 j (by simpa using h)
mutual
theorem idlt_up {n:Nat}:∀ v:V,v.idlt 0=true→v.idlt n=true
 | .lit _,_=>rfl
 | .agg cs,h=>idltL_up cs h
 | .tup cs,h=>idltL_up cs h
 | .sl _ _,_=>rfl
 | .osl _ _ _ _ _,h=>by simp [V.idlt] at h
 | .ptr _ _,h=>by simp [V.idlt] at h
 | .eptr _,_=>rfl
 | .clo _ cs,h=>idltL_up cs h
 | .any,_=>rfl
theorem idltL_up {n:Nat}:∀ l:List V,V.idlt.belowL 0 l=true→V.idlt.belowL n l=true
 | [],_=>rfl
 | v :: l,h=>by
  simp only [V.idlt.belowL,Bool.and_eq_true] at h ⊢
  exact ⟨idlt_up v h.1,idltL_up l h.2⟩
end
mutual
theorem ren_id {sg:List Nat}:∀ v:V,v.idlt 0=true→v.ren sg=v
 | .lit _,_=>rfl
 | .agg cs,h=>by rw [V.ren,renL_id cs h]
 | .tup cs,h=>by rw [V.ren,renL_id cs h]
 | .sl _ _,_=>rfl
 | .osl _ _ _ _ _,h=>by simp [V.idlt] at h
 | .ptr _ _,h=>by simp [V.idlt] at h
 | .eptr _,_=>rfl
 | .clo _ cs,h=>by rw [V.ren,renL_id cs h]
 | .any,_=>rfl
theorem renL_id {sg:List Nat}:∀ l:List V,V.idlt.belowL 0 l=true→V.ren.renL sg l=l
 | [],_=>rfl
 | v :: l,h=>by
  simp only [V.idlt.belowL,Bool.and_eq_true] at h
  rw [V.ren.renL,ren_id v h.1,renL_id l h.2]
end
theorem wkB_live0 {n i f:Nat} {sg:List Nat} {st r:List Slot} {cs:List V} (h0:st[sgm sg i]?=some (Slot.live cs f)) (h:V.idlt.belowL 0 cs=true) (hd:((List.range r.length).all fun k=>sgm sg i != sgm sg (i + 1 + k))=true) (t:wkB n sg st (i + 1) r):wkB n sg st i (.live cs f :: r) :=
 ⟨⟨by rw [renL_id _ h];exact h0,idltL_up _ h,hd⟩,t⟩
mutual
theorem ren_nil:∀ v:V,v.ren []=v
 | .lit _=>rfl
 | .agg cs=>by rw [V.ren,renL_nil cs]
 | .tup cs=>by rw [V.ren,renL_nil cs]
 | .sl _ _=>rfl
 | .osl _ _ _ _ _=>rfl
 | .ptr _ _=>rfl
 | .eptr _=>rfl
 | .clo _ cs=>by rw [V.ren,renL_nil cs]
 | .any=>rfl
theorem renL_nil:∀ l:List V,V.ren.renL [] l=l
 | []=>rfl
 | v :: l=>by rw [V.ren.renL,ren_nil v,renL_nil l]
end
theorem w_loop {a:ACode} (car junk:List Nat) (J:Nat→List V→List Slot→Prop) (n1 k0:Nat) (sg0:List Nat) (vals0:List V) {st0:List Slot} (hwk:Wk n0 k0 sg0 fr (setF (maskF junk fr) car vals0) st st0) (h0:J n1 vals0 st0)
  (hr:∀ n vals st,J n vals st→AW P n0 a (loopQ n0 (fun n fr' st=>∃ vals,J n vals st∧fr'=setF (maskF junk fr) car vals) n Q) (setF (maskF junk fr) car vals) st):AW P n0 (.loop a) Q fr st :=
 ⟨0,fun n fr' st=>∃ vals,J n vals st∧fr'=setF (maskF junk fr) car vals,n1,k0,sg0,_,st0,hwk,⟨vals0,h0,rfl⟩,fun n fr' st ⟨vals,hJ,e⟩=>e ▸ hr n vals st hJ⟩
end
end Go.Proofs.YtdoakplhalonfaaGreat

namespace Go.Proofs.YtdoakplhalonfaaGreat
open Go.RowKit
inductive WC (st:List Slot) (sg:List Nat) (n:Nat):V→V→Prop
 | any {u}:WC st sg n u .any
 | ren {u v} (h:v.ren sg=u) (h0:v.idlt n=true):WC st sg n u v
 | fz {u v rd} (h:FzC st u v rd):WC st sg n u v
inductive WCL (st:List Slot) (sg:List Nat) (n:Nat):List V→List V→Prop
 | nil:WCL st sg n [] []
 | cons {u v l m} (h:WC st sg n u v) (t:WCL st sg n l m):WCL st sg n (u :: l) (v :: m)
inductive WV (st:List Slot) (sg:List Nat) (n:Nat):V→V→Prop
 | c {u v} (h:WC st sg n u v):WV st sg n u v
 | agg {l m} (h:WCL st sg n l m) (h1:∀ v ∈ m,v.one=true):WV st sg n (.agg l) (.agg m)
inductive WVL (st:List Slot) (sg:List Nat) (n:Nat):List V→List V→Prop
 | nil:WVL st sg n [] []
 | cons {u v l m} (h:WV st sg n u v) (t:WVL st sg n l m):WVL st sg n (u :: l) (v :: m)
inductive WR (st:List Slot) (sg:List Nat) (n:Nat):V→V→Prop
 | v {u v} (h:WV st sg n u v):WR st sg n u v
 | tup {l m} (h:WVL st sg n l m):WR st sg n (.tup l) (.tup m)
section
variable {B : Nat} {m0 m : Mem} {bk : Bks} {w : World} {st : List Slot} {sg : List Nat} {n : Nat}
theorem WC.rep (hsim:Sim B m0 m bk w st) {c:Value} {u v:V} (h:Rep m bk c u) (hw:WC st sg n u v):Rep m (cutBk n (fun i=>bk (sgm sg i))) c v:=by
 cases hw with
 | any=>exact .any
 | ren e h0=>exact (Rep.ren h _ e).cut h0
 | fz hf=>exact (hf.rep hsim h).mono (fun _ _ h=>h) fun _ _ h=>by cases h
theorem WCL.rep (hsim:Sim B m0 m bk w st) {l l' : List V} (hf:WCL st sg n l l'):∀ {cs:List Value},RepL m bk cs l→RepL m (cutBk n (fun i=>bk (sgm sg i))) cs l':=by
 induction hf with
 | nil=>intro cs h;exact ⟨h.1,fun j _ h2=>absurd h2 (by simp)⟩
 | @cons v v' l l' h t ih =>
  intro cs hr
  cases cs with
  | nil=>have:=hr.1;simp at this
  | cons c cs =>
   have h0:=hr.2 0 (by simp) (by simp)
   have ih':=@ih cs ⟨by simpa using hr.1,fun j h1 h2=>hr.2 (j + 1) (Nat.succ_lt_succ h1) (Nat.succ_lt_succ h2)⟩
   refine ⟨by simpa using ih'.1,fun j h1 h2=>?_⟩
   cases j with
   | zero=>exact h.rep hsim h0
   | succ j=>exact ih'.2 j (Nat.lt_of_succ_lt_succ h1) (Nat.lt_of_succ_lt_succ h2)
theorem WV.rep (hsim:Sim B m0 m bk w st) {c:Value} {u v:V} (h:Rep m bk c u) (hf:WV st sg n u v):Rep m (cutBk n (fun i=>bk (sgm sg i))) c v:=by
 cases hf with
 | c h'=>exact h'.rep hsim h
 | agg hl h1 =>
  obtain ⟨ds,rfl,g1,g2,g3⟩:=agg_inv h
  exact rep_agg (WCL.rep hsim hl ⟨by simpa using g1,fun j a b=>by simpa using g3 j (by simpa using a) b⟩) h1
theorem WVL.rep (hsim:Sim B m0 m bk w st) {l l' : List V} (hf:WVL st sg n l l'):∀ {cs:List Value},RepL m bk cs l→RepL m (cutBk n (fun i=>bk (sgm sg i))) cs l':=by
 induction hf with
 | nil=>intro cs h;exact ⟨h.1,fun j _ h2=>absurd h2 (by simp)⟩
 | @cons v v' l l' h t ih =>
  intro cs hr
  cases cs with
  | nil=>have:=hr.1;simp at this
  | cons c cs =>
   have h0:=hr.2 0 (by simp) (by simp)
   have ih':=@ih cs ⟨by simpa using hr.1,fun j h1 h2=>hr.2 (j + 1) (Nat.succ_lt_succ h1) (Nat.succ_lt_succ h2)⟩
   refine ⟨by simpa using ih'.1,fun j h1 h2=>?_⟩
   cases j with
   | zero=>exact h.rep hsim h0
   | succ j=>exact ih'.2 j (Nat.lt_of_succ_lt_succ h1) (Nat.lt_of_succ_lt_succ h2)
theorem WR.rep (hsim:Sim B m0 m bk w st) {c:Value} {u v:V} (h:Rep m bk c u) (hf:WR st sg n u v):Rep m (cutBk n (fun i=>bk (sgm sg i))) c v:=by
 cases hf with
 | v h'=>exact h'.rep hsim h
 | @tup l l' ha =>
  cases h with
  | @tup _ cs _ hl hr =>
   have g:=WVL.rep hsim ha (cs:=cs.toList) ⟨by simpa using hl,fun j a b=>by simpa using hr j (by simpa using a) b⟩
   exact .tup (by simpa using g.1) fun j a b=>by have:=g.2 j (by rw [Array.length_toList];exact a) b;rw [Array.getElem_toList] at this;exact this
theorem WCL.len {l l' : List V} (h:WCL st sg n l l'):l'.length=l.length:=by
 induction h with
 | nil=>rfl
 | cons _ _ ih=>simp [ih]
end
structure WS (n0:Nat) (sg:List Nat) (st1 st' : List Slot):Prop where
 size:st'.length=n0
 live:∀ (i:Nat) (cs:List V) (frz:Nat),st'[i]?=some (Slot.live cs frz)→∃ cs0,st1[sgm sg i]?=some (Slot.live cs0 frz)∧WCL st1 sg n0 cs0 cs∧((∀ u ∈ cs,u.one=true)∨cs0=V.ren.renL sg cs)
 fresh:∀ i:Nat,st'[i]?=some Slot.fresh→st1[sgm sg i]?=some Slot.fresh
 inj:∀ (i j:Nat) (ci:List V) (fi:Nat) (cj:List V) (fj:Nat),st'[i]?=some (Slot.live ci fi)→st'[j]?=some (Slot.live cj fj)→sgm sg i=sgm sg j→i=j
def FinR (st0:List Slot) (rs:List ARes) (v:V) (st' : List Slot):AExit→List V→List Slot→Prop:=fun e fr st =>
 (e=.normal∨e=.ret)∧∃ sg st1 vs,Frz st st1∧ResL fr st1 rs vs∧WR st1 sg st0.length (mkR vs) v∧(∀ i,i < st0.length→st0[i]?≠some .fresh→sgm sg i=i)∧WS st0.length sg st1 st'
theorem callsR_of {P:Program} {f:FuncId} {fn:Func} {c:Code} {ac:ACode} {n:Nat} {rs:List ARes} {args:List V} {v:V} {st st' : List Slot} {n0:Nat} (hmix:P.follows .mixedOrders=true) (hf:P.funcs[f]?=some fn) (hb:fn.body=some c) (hm:MatchC P c ac) (hnt:fn.ntmps=n) (hres:MatchRL P fn.results.toList rs) (hn0:∀ i,n0≤i→st[i]?=none∨st[i]?=some .fresh)
  (h:AW P n0 ac (FinR st rs v st') (args++List.replicate (n - args.length) (.tup [])) st):CallsS P f args st v st':=by
 intro B m0 m bk w cargs hg hsim hargs
 subst hnt
 have hk0:∀ id x,bk id=some x→id < st.length:=by
  intro id x hx
  rcases Nat.lt_or_ge id st.length with g | g
  ·exact g
  ·rw [hsim.nb id (.inl (List.getElem?_eq_none g))] at hx;cases hx
 have hk1:∀ id x,bk id=some x→id < n0:=by
  intro id x hx
  rcases Nat.lt_or_ge id n0 with g | g
  ·exact g
  ·rw [hsim.nb id (hn0 id g)] at hx;cases hx
 refine calls_of_wpD (B:=B) hf hb (wp_mono (aw_sound (B:=B) (w0:=⟨w,true⟩) (m0:=m) (bk0:=bk) hk1 hmix hg rfl hm _ _ st _ w ?_ h) ?_)
 ·refine ⟨m,bk,⟨hsim.base,hsim.mem,fun _ _ h=>h,fun _ _ h=>.inl h,hsim.blk,hsim.inj,hsim.nb⟩,⟨?_,fun j h1 h2=>?_⟩,.nil,Bel.refl _ _,fun _ _ h=>h⟩
  ·simp only [Array.size_append,Array.size_replicate,List.length_append,List.length_replicate,hargs.1]
  ·have hsz:=hargs.1
   by_cases hj:j < cargs.size
   ·rw [Array.getElem_append_left hj,List.getElem_append_left (by omega)]
    exact hargs.2 j hj _
   ·rw [Array.getElem_append_right (by omega),List.getElem_append_right (by omega),Array.getElem_replicate,List.getElem_replicate]
    exact .tup rfl fun j h1 _=>absurd h1 (Nat.not_lt_zero _)
 ·rintro e a w' ⟨ae,fr,st2,h1,h2,h3,sg,st1,vs,hfz,hrl,hwr,hfix,hws⟩
  refine ⟨exit_of h1 h3,h2.defers,fun w' hsh=>?_⟩
  obtain ⟨m',bk',hsim',hfrr,hd,hbl,hbk⟩:=(h2.shut hsh).frz hfz
  obtain ⟨cs,c1,c2⟩:=res_run hsim' hfrr hres hrl
  have hrun:=results_run c1
  have hrep:Rep m' bk' (mkC cs) (mkR vs):=by
   have hl:=c2.1
   match cs,vs,hl with
   | [],[],_=>exact .tup rfl fun j h1 _=>absurd h1 (Nat.not_lt_zero _)
   | [c],[v],_=>exact c2.2 0 (by simp) (by simp)
   | c :: d :: cs,v :: u :: vs,hl=>exact .tup (by simpa using hl) fun j g1 g2=>by have:=c2.2 j (by simpa using g1) g2;rw [List.getElem_toArray];exact this
  have hpost:∃ v',(results fn a.tmps).run P w'=.ok v' w'∧(∃ c,Ending.returned v'=.returned c∧Aft B m0 m bk w st' v c w'):=by
   refine ⟨_,hrun,_,rfl,?_⟩
   have lt:∀ (k:Nat) (s:Slot),st'[k]?=some s→k < st.length:=by
    intro k s hk;have:=(List.getElem?_eq_some_iff.1 hk).1;rw [hws.size] at this;exact this
   refine ⟨m',cutBk st.length (fun i=>bk' (sgm sg i)),⟨hsim'.base,hsim'.mem,fun a u h=>hsim'.ext a u (hsim.ext a u h),fun a u h=>?_,fun id cs f hid=>?_,fun i j ci fi cj fj x y hi hj hx hy e=>?_,fun id hid=>?_⟩,hwr.rep hsim' hrep,hsim'.ext,fun id x h=>?_,hbl⟩
   ·rcases hsim'.old a u h with g | g
    ·exact hsim.old a u g
    ·exact .inr g
   ·have hlt:=lt _ _ hid
    obtain ⟨cs0,h0,hcl,hone⟩:=hws.live id cs f hid
    obtain ⟨b,sz,arr,t,lo,hi,hl⟩:=hsim'.blk _ _ f h0
    have hone' : ∀ u ∈ cs,u.one=true:=by
     rcases hone with h | h
     ·exact h
     ·intro u hu
      have:=hl.one _ (h ▸ renL_mem (sg:=sg) hu)
      rwa [ren_one] at this
    refine ⟨b,sz,arr,t,lo,hi,⟨by unfold cutBk;rw [if_pos hlt];exact hl.at_,hl.own,hl.heap,hl.size,hl.free,by rw [hcl.len];exact hl.fit,hone',fun k hk=>?_,hl.mu,hl.fz⟩⟩
    have hlen:=hcl.len
    have hget:∀ j,j < cs0.length→arr[j]?=some (arr.getD j undef):=fun j hj=>by
     obtain ⟨u,g1,_⟩:=hl.rep j hj
     rw [g1,Array.getD_eq_getD_getElem?,g1];rfl
    have hR:RepL m' bk' ((List.range cs0.length).map fun j=>arr.getD j undef) cs0:=⟨by simp,fun j a b=>by
     obtain ⟨u,g1,g2⟩:=hl.rep j b
     simp only [List.getElem_map,List.getElem_range]
     rw [Array.getD_eq_getD_getElem?,g1]
     exact g2⟩
    have hR2:=hcl.rep hsim' hR
    have:=hR2.2 k (by simp;omega) hk
    simp only [List.getElem_map,List.getElem_range] at this
    exact ⟨_,hget k (by omega),this⟩
   ·unfold cutBk at hx hy
    rw [if_pos (lt _ _ hi)] at hx
    rw [if_pos (lt _ _ hj)] at hy
    obtain ⟨c1,g1,_⟩:=hws.live i ci fi hi
    obtain ⟨c2,g2,_⟩:=hws.live j cj fj hj
    exact hws.inj i j ci fi cj fj hi hj (hsim'.inj _ _ _ _ _ _ x y g1 g2 hx hy e)
   ·unfold cutBk
    by_cases hlt:id < st.length
    ·rw [if_pos hlt]
     rcases hid with h | h
     ·rw [List.getElem?_eq_none_iff,hws.size] at h;omega
     ·exact hsim'.nb _ (.inr (hws.fresh id h))
    ·rw [if_neg hlt]
   ·have hlt:=hk0 _ _ h
    unfold cutBk
    rw [if_pos hlt]
    show bk' (sgm sg id)=some x
    rw [hfix id hlt (fun e=>by rw [hsim.nb id (.inr e)] at h;cases h)]
    exact hbk _ _ h
  exact hpost
theorem callsR_compN {P:Program} {f:FuncId} {fn:Func} {ac:ACode} {n n0:Nat} {rs:List ARes} {args:List V} {v:V} {st st' : List Slot} (hmix:P.follows .mixedOrders=true) (hf:P.funcs[f]?=some fn) (hc:compF P fn=some (ac,n,rs)) (hn0:∀ i,n0≤i→st[i]?=none∨st[i]?=some .fresh)
  (h:AW P n0 ac (FinR st rs v st') (args++List.replicate (n - args.length) (.tup [])) st):CallsS P f args st v st':=by
 unfold compF at hc
 split at hc
 ·rename_i c hb
  split at hc
  ·simp only [Option.some.injEq,Prod.mk.injEq] at hc
   obtain ⟨rfl,rfl,rfl⟩:=hc
   exact callsR_of hmix hf hb (comp_ok ‹_›) rfl (compR_ok ‹_›) hn0 h
  ·cases hc
 ·cases hc
theorem callsR_comp {P:Program} {f:FuncId} {fn:Func} {ac:ACode} {n n0:Nat} {rs:List ARes} {args:List V} {v:V} {st st' : List Slot} (hmix:P.follows .mixedOrders=true) (hf:P.funcs[f]?=some fn) (hc:compF P fn=some (ac,n,rs)) (hn0:st.length=n0)
  (h:AW P n0 ac (FinR st rs v st') (args++List.replicate (n - args.length) (.tup [])) st):CallsS P f args st v st' :=
 callsR_compN hmix hf hc (fun i hi=>.inl (List.getElem?_eq_none (by omega))) h
theorem wcl_nil {st:List Slot} {n:Nat}:∀ {l:List V},V.idlt.belowL n l=true→WCL st [] n l l
 | [],_=>.nil
 | v :: l,h=>by
  simp only [V.idlt.belowL,Bool.and_eq_true] at h
  exact .cons (.ren (ren_nil v) h.1) (wcl_nil h.2)
theorem f_R0 {fr:List V} {st st0 st' : List Slot} {rs:List ARes} {e:AExit} {vs:List V} {v:V} (he:e=.normal∨e=.ret) (hr:ResL fr st rs vs) (hv:mkR vs=v) (h0:v.idlt st0.length=true) (hl:st'.length=st0.length) (hs:st.take st0.length=st') (hc:wkS st0.length st'):FinR st0 rs v st' e fr st:=by
 have get:∀ (i:Nat) (s:Slot),st'[i]?=some s→st[i]?=some s:=by
  intro i s h
  rw [← hs,List.getElem?_take] at h
  split at h
  ·exact h
  ·cases h
 exact ⟨he,[],st,vs,.refl,hr,.v (.c (.ren (by rw [ren_nil,hv]) h0)),fun i _ _=>rfl,⟨hl,fun i cs f h=>⟨cs,get _ _ h,wcl_nil (wkS_ok hc i cs f h),.inr (renL_nil cs).symm⟩,fun i h=>get _ _ h,fun i j _ _ _ _ _ _ h=>h⟩⟩
theorem f_R {fr:List V} {st st0 st' : List Slot} {rs:List ARes} {e:AExit} {vs:List V} {v:V} (sg:List Nat) (he:e=.normal∨e=.ret) (hr:ResL fr st rs vs) (hv:mkR vs=v.ren sg) (h0:v.idlt st0.length=true) (hl:st'.length=st0.length)
  (hfx:∀ i,i < st0.length→st0[i]?≠some .fresh→sgm sg i=i) (hc:wkB st0.length sg st 0 st'):FinR st0 rs v st' e fr st:=by
 obtain ⟨g1,g2⟩:=wkB_ok hc
 simp only [Nat.zero_add] at g1 g2
 have wcl:∀ {n:Nat} {l:List V},V.idlt.belowL n l=true→WCL st sg n (V.ren.renL sg l) l:=by
  intro n l
  induction l with
  | nil=>intro _;exact .nil
  | cons v l ih =>
   intro h
   simp only [V.idlt.belowL,Bool.and_eq_true] at h
   exact .cons (.ren rfl h.1) (ih h.2)
 refine ⟨he,sg,st,vs,.refl,hr,.v (.c (.ren hv.symm h0)),hfx,⟨hl,fun i cs f h=>⟨_,(g1 i cs f h).1,wcl (g1 i cs f h).2.1,.inr rfl⟩,g2,fun i j ci fi cj fj hi hj e=>?_⟩⟩
 have li:=(List.getElem?_eq_some_iff.1 hi).1
 have lj:=(List.getElem?_eq_some_iff.1 hj).1
 rcases Nat.lt_trichotomy i j with h | h | h
 ·exact absurd e ((g1 i ci fi hi).2.2 j h lj)
 ·exact h
 ·exact absurd e.symm ((g1 j cj fj hj).2.2 i h li)
end Go.Proofs.YtdoakplhalonfaaGreat

namespace Go.Proofs.YtdoakplhalonfaaGreat
open Go.RowKit
def _root_.Go.Code.scopes:Code→Bool
 | .scope _=>true
 | .seq a b=>a.scopes || b.scopes
 | .cond _ a b=>a.scopes || b.scopes
 | .block _ a=>a.scopes
 | _=>false
section
variable {P : Program}
theorem callsIn_round {l n:Nat} {f:FuncId} {args:Array Value} {w:World} {R:Ending→World→Prop} (h:Calls P f args w R):CallsIn (Fence.wide.inRound l) n P f args w R:=by
 have:=(callsIn_wide (n:=n)).2 h
 exact ⟨trivial,fun cs hr=>this.2 cs hr⟩
theorem rowsIn_round {l n:Nat} {row:String} {args:Array Value} {w:World} {R:Value→World→Prop} (h:Rows P row args w R):RowsIn (Fence.wide.inRound l) n P row args w R :=
 fun c cs _=>let ⟨v,w',r,s⟩:=h c cs;⟨v,w',r,stepsIn_wide.2 s⟩
theorem cop_defer {o:Op} {t:TypeId} {ao:AOp} (h:Cop P o t ao):∀ c,o≠.defer c:=by
 intro c e
 subst e
 cases h
theorem upon_in {l n:Nat} {o:Oper} {a:Act} {w:World} {next next' : Act→World→Prop} {Q:Exit→Act→World→Prop} (hd:∀ c,o.op≠.defer c) (hn:∀ a w,next a w→next' a w) (h:o.wp P a w next Q):o.wpIn (Fence.wide.inRound l) n P a w next' Q:=by
 refine ⟨fun _ _=>trivial,?_⟩
 rw [Fence.inRound_round,Oper.semAt_some l _ _ hd]
 unfold Oper.wp at h
 generalize (execOp a.eval o).run P w=r at h
 cases r with
 | ok x w' =>
  cases x with
  | enter f args =>
   refine ⟨fun hh=>by simp [Fence.wide] at hh,callsIn_round (Calls.mono h fun e w'' he=>?_)⟩
   cases e <;> first | exact hn _ _ he | exact he
  | row row args=>exact ⟨fun hh=>by simp [Fence.wide] at hh,rowsIn_round (Rows.mono h fun _ _ he=>hn _ _ he)⟩
  | _=>first | exact hn _ _ h | exact h.elim
 | halt x w'=>cases x <;> exact h
theorem wpOps_in {l n:Nat} {ops:Array Oper} {Q:Exit→Act→World→Prop} (hQ:¬ LetsOut Q) (hd:∀ (i:Nat) (o:Oper),ops[i]?=some o→∀ c,o.op≠.defer c):∀ (L:List Nat) (a:Act) (w:World),Go.wpOps P ops Q L a w→wpOpsIn (Fence.wide.inRound l) n P ops Q L a w
 | [],a,w,h=>h
 | i :: rest,a,w,h=>by
  unfold Go.wpOps at h
  unfold wpOpsIn
  cases ho:ops[i]? with
  | none=>rw [ho] at h;exact wpOps_in hQ hd rest a w h
  | some o =>
   rw [ho] at h
   simp only at h ⊢
   split at h
   ·rename_i hw
    rw [if_pos hw]
    rcases h with h | ⟨_,h⟩
    ·exact upon_in (hd i o ho) (fun a w=>wpOps_in hQ hd rest a w) h
    ·exact absurd h hQ
   ·rename_i hw
    rw [if_neg hw]
    exact ⟨fun _ _=>trivial,wpOps_in hQ hd rest _ w h⟩
end
section
variable {P : Program} {w0 : Org} {B : Nat} {m0 : Mem} {bk0 : Bks} {l n : Nat}
theorem postC_out {Q:AExit→List V→List Slot→Prop}:¬ LetsOut (PostC B m0 bk0 w0 Q):=by
 rintro ⟨a,w,ae,fr,st,h,_⟩
 cases h
theorem match_defer {ops:Array Oper} {aos:List AOper} (hn:ops.size=aos.length) (hm:∀ j (h:j < aos.length) (o:Oper),ops[j]?=some o→MatchOp P ops o aos[j]):∀ (i:Nat) (o:Oper),ops[i]?=some o→∀ c,o.op≠.defer c:=fun i o ho =>
 cop_defer (hm i (by have:=(Array.getElem?_eq_some_iff.1 ho).1;omega) o ho).1
theorem reg_drawIn {ops:Array Oper} {aos:List AOper} {bef:List (List Nat)} {fps:List (List Nat × List Nat)} {base id:Nat} {Q:AExit→List V→List Slot→Prop} (hmix:P.follows .mixedOrders=true) (hreg:RegOK ops aos bef) (hfoot:FootOK bef fps) (hg:GM m0) (hn:ops.size=aos.length) (hmatch:∀ j (h:j < aos.length) (o:Oper),ops[j]?=some o→MatchOp P ops o aos[j])
  {fr fr' : List V} {st st' : List Slot} (hrun:Run P base aos fr st fps fr' st') {a:Act} {w:World} (hcn:Cn B m0 bk0 w0 a w fr st) (hQ:Q .normal fr' st'):(Code.region id ops true).wpIn (Fence.wide.inRound l) n P (PostC B m0 bk0 w0 Q) a w:=by
 obtain ⟨F,S,ht,h1,h2,h3,h4⟩:=run_trace hrun
 refine wpIn_region_draw fun t=>wpOps_in postC_out (match_defer hn hmatch) _ _ _ ?_
 simp only [Region.schedule,hmix,Bool.true_or,if_true]
 refine wpAny_sound ops.size t _ a _ (reg_any hreg hfoot ht hg hn hmatch (by rw [h3,h4];exact fun a w hc=>⟨.normal,fr',st',rfl,hc,hQ⟩) ops.size _ a _ ?_ ⟨fun j hj=>?_,by simp,fr,st,hcn.drew,by rw [h1],by rw [h2],fun t _=>by rw [h1],fun t i _ hl=>?_,fun k=>⟨0,Nat.zero_le _,by rw [h2],fun i hi _=>?_⟩⟩)
 ·exact Nat.le_trans (List.countP_le_length) (by simp)
 ·have:=listed_lt hj
  rw [Array.getD,dif_pos this] at hj
  simp at hj
 ·have:=listed_lt hl
  rw [Array.getD,dif_pos this] at hl
  simp at hl
 ·constructor
  ·intro hl
   have:=listed_lt hl
   rw [Array.getD,dif_pos this] at hl
   simp at hl
  ·omega
def ACode.flat:ACode→Bool
 | .loop _=>false
 | .seq a b=>a.flat && b.flat
 | .cond _ a b=>a.flat && b.flat
 | .block _ a=>a.flat
 | .raw _=>false
 | _=>true
theorem aw_soundIn {n0:Nat} (hk0:∀ id x,bk0 id=some x→id < n0) (hmix:P.follows .mixedOrders=true) (hg:GM m0) {c:Code} {ac:ACode} (hm:MatchC P c ac):ac.flat=true→c.scopes=false→∀ (Q:AExit→List V→List Slot→Prop) (fr:List V) (st:List Slot) (a:Act) (w:World),Cn B m0 bk0 w0 a w fr st→AW P n0 ac Q fr st→c.wpIn (Fence.wide.inRound l) n P (PostC B m0 bk0 w0 Q) a w:=by
 induction hm with
 | skip=>intro _ _ Q fr st a w hc h;exact wpIn_skip ⟨.normal,fr,st,rfl,hc,h⟩
 | label=>intro _ _ Q fr st a w hc h;exact wpIn_label ⟨.normal,fr,st,rfl,hc,h⟩
 | @regT id ops aos nc hn hm =>
  intro _ _ Q fr st a w hc h
  obtain ⟨st0,xr,hf,h⟩:=h
  obtain ⟨fps,fr',st',hr,hk⟩:=aops_run h
  refine wpIn_region (wpOps_in postC_out (match_defer hn hm) _ _ _ ?_)
  have:=run_text (ops:=ops) (Q:=PostC B m0 bk0 w0 Q) hg aos 0 _ _ _ _ _ a w hr (by omega) (fun j h o ho=>hm j h o (by simpa using ho)) ((hc.frz hf).room (nc + xr)) fun a w hc'=>⟨.normal,fr',st',rfl,hc',hk⟩
  rw [← hn] at this
  rw [List.range_eq_range']
  exact this
 | @regD id ops aos nc bef hn hm hr =>
  intro _ _ Q fr st a w hc h
  obtain ⟨st0,xr,hf,h⟩:=h
  obtain ⟨fps,fr',st',hrun,hk1,hk⟩:=aops_run h
  simp only [List.append_nil,List.reverse_reverse] at hk1
  exact reg_drawIn hmix hr (footB_ok hk1) hg hn hm hrun ((hc.frz hf).room (nc + xr)) hk
 | seq _ _ ih1 ih2 =>
  intro hfl hsc Q fr st a w hc h
  simp only [ACode.flat,Bool.and_eq_true] at hfl
  simp only [Code.scopes,Bool.or_eq_false_iff] at hsc
  refine wpIn_seq (Go.wpIn_mono (ih1 hfl.1 hsc.1 _ fr st a w hc h) ?_)
  rintro e a w ⟨ae,fr,st,h1,h2,h3⟩
  cases e <;> simp only [exitOf,Option.some.injEq,reduceCtorEq] at h1 <;> subst h1
  ·rcases h3 with h3 | ⟨k,sg,fr',st',hw,h3⟩
   ·exact ih2 hfl.2 hsc.2 Q fr st a w h2 h3
   ·exact ih2 hfl.2 hsc.2 Q fr' st' a w (Cn.wk hk0 h2 hw) h3
  ·exact ⟨_,fr,st,rfl,h2,h3⟩
  ·exact ⟨_,fr,st,rfl,h2,h3⟩
 | @cond c x y _ _ _ _ ih1 ih2 =>
  intro hfl hsc Q fr st a w hc h
  simp only [ACode.flat,Bool.and_eq_true] at hfl
  simp only [Code.scopes,Bool.or_eq_false_iff] at hsc
  obtain ⟨t,he,h1,h2⟩:=h
  have hv:a.eval c=.bool t:=by
   obtain ⟨m,bk,_,hfr,_,_⟩:=hc
   exact (he ▸ hfr.ev c).int
  exact wpIn_cond_split hv (fun e=>ih1 hfl.1 hsc.1 Q fr st a w hc (h1 e)) (fun e=>ih2 hfl.2 hsc.2 Q fr st a w hc (h2 e))
 | @block id x y _ ih =>
  intro hfl hsc Q fr st a w hc h
  refine wpIn_block (Go.wpIn_mono (ih hfl hsc _ fr st a w hc h) ?_)
  rintro e a w ⟨ae,fr,st,h1,h2,h3⟩
  cases e <;> simp only [exitOf,Option.some.injEq,reduceCtorEq] at h1 <;> subst h1
  ·exact ⟨_,fr,st,rfl,h2,h3⟩
  ·rename_i j
   by_cases e:j=id
   ·simp only [e,if_true,Exit.inBlock] at h3 ⊢
    exact ⟨_,fr,st,rfl,h2,h3⟩
   ·simp only [e,if_false,Exit.inBlock] at h3 ⊢
    exact ⟨_,fr,st,rfl,h2,h3⟩
  ·exact ⟨_,fr,st,rfl,h2,h3⟩
 | loop=>intro hfl;cases hfl
 | raw=>intro hfl;cases hfl
 | scope=>intro _ hsc;cases hsc
 | exit=>intro _ _ Q fr st a w hc h;exact wpIn_exit ⟨_,fr,st,rfl,hc,h⟩
 | ret=>intro _ _ Q fr st a w hc h;exact wpIn_ret ⟨_,fr,st,rfl,hc,h⟩
end
section
variable {P : Program} {w0 : Org} {w W W' : World} {B bs id sz : Nat} {m0 m : Mem} {bk bk0 : Bks} {a : Act} {fr : List V} {st : List Slot} {s : ByteArray}
theorem rep_lit1' {m:Mem} {bk:Bks} {c v:Value} (h:Rep m bk c (.lit v)):c=v:=by cases h;rfl
theorem text_block (hsim:Sim B m0 m bk w st) (hid:st[id]?=some (.live [.s s] 0)) (hbk:bk id=some (bs,sz)):B≤bs∧(∀ k,m ⟨bs,k,none⟩=none)∧∃ arr T lo hi,w.heap[bs]?=some (.cells arr T (lo,hi))∧arr.size=sz∧arr[0]?=some (.string s)∧hi≤lo:=by
 obtain ⟨b,sz',arr,t,lo,hi,hl⟩:=hsim.blk id _ _ hid
 have e:some (b,sz')=some (bs,sz):=by rw [← hl.at_,hbk]
 simp only [Option.some.injEq,Prod.mk.injEq] at e
 obtain ⟨rfl,rfl⟩:=e
 obtain ⟨u,h1,h2⟩:=hl.rep 0 (by simp)
 have h3:u=.string s:=rep_lit1' h2
 exact ⟨hl.own,fun k=>hl.mu k (Nat.zero_le _),arr,t,lo,hi,hl.heap,hl.size,by rw [h1,h3],hl.free⟩
theorem Sim.keepC {N:Nat} (hsim:Sim B m0 m bk W st) (hk:KeepC N B bs W W') (hid:st[id]?=some (.live [.s s] 0)) (hbk:bk id=some (bs,sz)):∃ s',Sim B m0 m bk W' (st.set id (.live [.s s'] 0)):=by
 obtain ⟨hB,hmu,arr,T,lo,hi,hb,hsz,h0,hfree⟩:=text_block hsim hid hbk
 obtain ⟨arr',s',hb',hsz',h0'⟩:=hk.self.self arr s T (lo,hi) hb h0
 have hlt:=(List.getElem?_eq_some_iff.1 hid).1
 have old:∀ (k:Nat) (cs:List V) (f:Nat),(st.set id (.live [.s s'] 0))[k]?=some (.live cs f)→∃ cs f,st[k]?=some (.live cs f):=fun k cs f h=>by
  by_cases e:k=id
  ·subst e;exact ⟨_,_,hid⟩
  ·rw [List.getElem?_set,if_neg (fun e2=>e e2.symm)] at h;exact ⟨_,_,h⟩
 refine ⟨s',⟨Nat.le_trans hsim.base hk.size,fun a u hu=>?_,hsim.ext,hsim.old,fun k cs f h=>?_,fun i j ci fi cj fj x y h1 h2 hx hy he=>?_,fun k h=>?_⟩⟩
 ·have hc:=hsim.mem a u hu
  by_cases e:a.block=bs
  ·exfalso
   unfold World.cell? at hc
   rw [e,hb] at hc
   simp only at hc
   split at hc
   ·cases hc
   ·rename_i hsp
    have:a=⟨bs,a.off,none⟩:=by
     obtain ⟨b,o,sp⟩:=a
     simp only at e hsp
     subst e
     cases sp <;> simp at hsp ⊢
    rw [this,hmu] at hu;cases hu
  ·cases ho:W.heap[a.block]? with
   | none=>unfold World.cell? at hc;rw [ho] at hc;cases hc
   | some o =>
    cases o with
    | cells c t f =>
     rw [← hc]
     unfold World.cell?
     rw [ho,hk.cells _ _ _ _ e ho]
    | _=>unfold World.cell? at hc;rw [ho] at hc;cases hc
 ·by_cases e:k=id
  ·subst e
   rw [List.getElem?_set,if_pos rfl,if_pos hlt] at h
   simp only [Option.some.injEq,Slot.live.injEq] at h
   obtain ⟨rfl,rfl⟩:=h
   have hp:0 < sz:=by rw [← hsz];exact (Array.getElem?_eq_some_iff.1 h0).1
   exact ⟨bs,sz,arr',T,lo,hi,⟨hbk,hB,hb',hsz'.trans hsz,hfree,Nat.succ_le_of_lt hp,(fun u hu=>by simp at hu;subst hu;rfl),fun j hj=>by
    have:j=0:=by simp at hj;exact hj
    subst this;exact ⟨.string s',h0',.lit rfl⟩,fun j _=>hmu j,fun j hj=>absurd hj (Nat.not_lt_zero _)⟩⟩
  ·rw [List.getElem?_set,if_neg (fun e2=>e e2.symm)] at h
   obtain ⟨b,sz,arr,t,lo',hi',hl⟩:=hsim.blk k cs f h
   have hne:b≠bs:=fun e2=>e (hsim.inj k id _ _ _ _ _ _ h hid hl.at_ hbk e2)
   exact ⟨b,sz,arr,t,lo',hi',⟨hl.at_,hl.own,hk.cells _ _ _ _ hne hl.heap,hl.size,hl.free,hl.fit,hl.one,hl.rep,hl.mu,hl.fz⟩⟩
 ·obtain ⟨_,_,g1⟩:=old _ _ _ h1
  obtain ⟨_,_,g2⟩:=old _ _ _ h2
  exact hsim.inj i j _ _ _ _ x y g1 g2 hx hy he
 ·refine hsim.nb k ?_
  by_cases e:k=id
  ·subst e
   rw [List.getElem?_set,if_pos rfl,if_pos hlt] at h
   rcases h with h | h <;> cases h
  ·rwa [List.getElem?_set,if_neg (fun e2=>e e2.symm)] at h
theorem Cn.keepC (h:Cn B m0 bk0 w0 a W fr st) (hk:KeepC w0.world.heap.size B bs W W') (hid:st[id]?=some (.live [.s s] 0)) (hbk:bk0 id=some (bs,sz)) (hd:a.defers=[]):∃ s',Cn B m0 bk0 w0 a W' fr (st.set id (.live [.s s'] 0)):=by
 obtain ⟨m,bk,hsim,hfr,_,hb,hbkm⟩:=h
 have hbk':=hbkm _ _ hbk
 obtain ⟨hB,hmu,arr,T,lo,hi,hbb,hsz,ht0,_⟩:=text_block hsim hid hbk'
 obtain ⟨arr',s2,hs2,hsz2,_⟩:=hk.self.self arr s T (lo,hi) hbb ht0
 obtain ⟨s',hs⟩:=hsim.keepC hk hid hbk'
 refine ⟨s',m,bk,hs,hfr,by rw [hd];exact .nil,⟨hk.below (Nat.le_refl _) hb.toBelow,fun k c t lo' hi' h0=>?_,fun k o h0 h1=>?_⟩,hbkm⟩
 ·obtain ⟨c',g1,g2⟩:=hb.shp k c t lo' hi' h0
  by_cases e:k=bs
  ·subst e
   rw [hbb] at g1
   injection g1 with g1
   injection g1 with e1 e2 e3
   subst e1 e2
   injection e3 with e3 e4
   subst e3 e4
   exact ⟨_,hs2,by rw [← g2];exact hsz2⟩
  ·exact ⟨c',hk.cells _ _ _ _ e g1,g2⟩
 ·exact hk.oth k o (Array.getElem?_eq_some_iff.1 h0).1 (hb.oth k o h0 h1) h1
end
section
variable {P : Program} {w0 : Org} {w W W' : World} {B bs id sz : Nat} {m0 m : Mem} {bk bk0 : Bks} {a : Act} {fr : List V} {st : List Slot} {s : ByteArray}
theorem FrRep.set1 {tmps:Array Value} (h:FrRep m bk tmps fr) {c:Value} {v:V} (hv:Rep m bk c v) (d:Nat):FrRep m bk (tmps.setIfInBounds d c) (fr.set d v) :=
 FrRep.put (a:={ tmps:=tmps,defers:=[] }) h hv (some d)
theorem FrRep.params:∀ (ps:List Nat) (cs:List Value) (vs:List V) {tmps:Array Value} {fr:List V},FrRep m bk tmps fr→RepL m bk cs vs→FrRep m bk ((ps.zip cs).foldl (fun t x=>t.setIfInBounds x.1 x.2) tmps) ((ps.zip vs).foldl (fun t x=>t.set x.1 x.2) fr)
 | [],_,_,_,_,h,_=>h
 | p :: ps,[],[],_,_,h,_=>h
 | p :: ps,c :: cs,v :: vs,_,_,h,hr=>by
  have h0:=hr.2 0 (by simp) (by simp)
  exact FrRep.params ps cs vs (h.set1 h0 p) ⟨by have:=hr.1;simpa using this,fun j h1 h2=>hr.2 (j + 1) (by simpa using h1) (by simpa using h2)⟩
 | p :: ps,[],v :: vs,_,_,h,hr=>by have:=hr.1;simp at this
 | p :: ps,c :: cs,[],_,_,h,hr=>by have:=hr.1;simp at this
theorem Cn.rebase (h:Cn B m0 bk0 w0 a W fr st):∃ m1 bk1,Sim B m1 m1 bk1 W st∧FrRep m1 bk1 a.tmps fr∧(∀ u v,m0 u=some v→m1 u=some v)∧(∀ i x,bk0 i=some x→bk1 i=some x)∧(∀ i x,bk1 i=some x→i < st.length) ∧
  (∀ a2 W2 fr2 st2,Cn B m1 bk1 ⟨W,false⟩ a2 W2 fr2 st2→Cn B m0 bk0 w0 a2 W2 fr2 st2):=by
 obtain ⟨m,bk,hsim,hfr,hd,hb,hbk⟩:=h
 refine ⟨m,bk,⟨hsim.base,hsim.mem,fun _ _ h=>h,fun _ _ h=>.inl h,hsim.blk,hsim.inj,hsim.nb⟩,hfr,hsim.ext,hbk,fun i x hx=>?_,?_⟩
 ·rcases Nat.lt_or_ge i st.length with g | g
  ·exact g
  ·rw [hsim.nb i (.inl (List.getElem?_eq_none g))] at hx;cases hx
 ·rintro a2 W2 fr2 st2 ⟨m2,bk2,q1,q2,q3,q4,q5⟩
  have hd2:a2.defers=[]:=q3.none
  refine ⟨m2,bk2,⟨q1.base,q1.mem,fun u v h=>q1.ext u v (hsim.ext u v h),fun u v h=>?_,q1.blk,q1.inj,q1.nb⟩,q2,by rw [hd2];exact .nil,hb.trans q4,fun i x h=>q5 i x (hbk i x h)⟩
  rcases q1.old u v h with g | g
  ·exact hsim.old u v g
  ·exact .inr g
theorem Cn.start {m1:Mem} {bk1:Bks} {tmps:Array Value} (hs:Sim B m1 m1 bk1 W st) (hf:FrRep m1 bk1 tmps fr)  : Cn B m1 bk1 ⟨W,false⟩ { tmps:=tmps,defers:=[] } W fr st:=⟨m1,bk1,hs,hf,.nil,Bel.refl _ _,fun _ _ h=>h⟩
theorem Cn.frame {m1:Mem} {bk1:Bks} {a2:Act} {fr2:List V} {tmps:Array Value} (h:Cn B m1 bk1 ⟨W,false⟩ a2 W' fr2 st) (hf:FrRep m1 bk1 tmps fr):Cn B m1 bk1 ⟨W,false⟩ { tmps:=tmps,defers:=[] } W' fr st:=by
 obtain ⟨m2,bk2,q1,q2,q3,q4,q5⟩:=h
 exact ⟨m2,bk2,q1,hf.mono q1.ext q5,.nil,q4,q5⟩
theorem Cn.bel (h:Cn B m0 bk0 w0 a W fr st):Bel B w0.world W:=by
 obtain ⟨m,bk,hsim,hfr,hd,hb,hbk⟩:=h
 exact hb
theorem Cn.base (h:Cn B m0 bk0 w0 a W fr st):B≤W.heap.size:=by
 obtain ⟨m,bk,hsim,hfr,hd,hb,hbk⟩:=h
 exact hsim.base
theorem keepsOthers_bel (h:Bel B W W'):KeepsOthers W W':=⟨h.size,h.oth⟩
theorem Cn.fast (h:Cn B m0 bk0 w0 a W fr st) {k:Nat} {arr:Array Value} {T:TypeId} {f:Nat × Nat} (hk:w0.world.heap[k]?=some (.cells arr T f)) (hm:∀ t,t < arr.size→m0 ⟨k,t,none⟩=arr[t]?):W.heap[k]?=some (.cells arr T f):=by
 obtain ⟨m,bk,hsim,hfr,hd,hb,hbk⟩:=h
 obtain ⟨c',g1,g2⟩:=hb.shp k arr T f.1 f.2 hk
 have:c'=arr:=by
  apply Array.ext g2
  intro i h1 h2
  have e:=hsim.mem ⟨k,i,none⟩ arr[i] (hsim.ext _ _ (by rw [hm i h2,Array.getElem?_eq_getElem h2]))
  simp only [World.cell?,g1] at e
  simpa [h1] using e
 rw [g1,this]
theorem Cn.text (h:Cn B m0 bk0 w0 a W fr st) (hid:st[id]?=some (.live [.s s] 0)) (hbk:bk0 id=some (bs,sz)):∃ arr T lo hi,W.heap[bs]?=some (.cells arr T (lo,hi))∧arr.size=sz∧arr[0]?=some (.string s):=by
 obtain ⟨m,bk,hsim,hfr,hd,hb,hbkm⟩:=h
 obtain ⟨_,_,arr,T,lo,hi,g,g1,g2,_⟩:=text_block hsim hid (hbkm _ _ hbk)
 exact ⟨arr,T,lo,hi,g,g1,g2⟩
end
section
variable {P : Program} {w0 : Org} {w W W' : World} {B bs id sz : Nat} {m0 m : Mem} {bk bk0 : Bks} {a : Act} {fr : List V} {st : List Slot} {s : ByteArray}
theorem Cn.keepP {W0:World} (h:Cn B m0 bk0 w0 a W0 fr st) (hgr:W0.grownBy W (some bs)) (hse:SelfS bs W0 W) (hbB:B≤bs) (hid:st[id]?=some (.live [.s s] 0)) (hbk:bk0 id=some (bs,sz)) (hd:a.defers=[]) :
  ∃ (s' : ByteArray) (m1:Mem) (bk1:Bks),Sim B m1 m1 bk1 W (st.set id (.live [.s s'] 0))∧FrRep m1 bk1 a.tmps fr∧(∀ u v,m0 u=some v→m1 u=some v)∧(∀ i x,bk0 i=some x→bk1 i=some x)∧(∀ i x,bk1 i=some x→i < (st.set id (.live [.s s'] 0)).length) ∧
   (∀ a2 W2 fr2 st2,Cn B m1 bk1 ⟨W,false⟩ a2 W2 fr2 st2→Cn B m0 bk0 w0 a2 W2 fr2 st2)∧(∀ k,W0.heap.size≤k→∀ t u,W.cell? ⟨k,t,none⟩=some u→m1 ⟨k,t,none⟩=some u)∧(∀ u v,m1 u=some v→m0 u=some v∨B≤u.block):=by
 obtain ⟨s1,hc1⟩:=h.keepC (KeepC.of_grown hgr hse h.base hbB) hid hbk hd
 have hbel:=hc1.bel
 obtain ⟨m,bk,hsim,hfr,hdf,hb,hbkm⟩:=h
 have hkc:KeepC w0.world.heap.size B bs W0 W:=KeepC.of_grown hgr hse hsim.base hbB
 obtain ⟨s',hs⟩:=hsim.keepC hkc hid (hbkm _ _ hbk)
 let m1:Mem:=fun x=>if W0.heap.size≤x.block then W.cell? x else m x
 have mge:∀ x,W0.heap.size≤x.block→m1 x=W.cell? x:=fun x h=>if_pos h
 have mlt:∀ x,¬ W0.heap.size≤x.block→m1 x=m x:=fun x h=>if_neg h
 have mle:∀ x u,m x=some u→m1 x=some u:=fun x u hu=>by
  by_cases ho:W0.heap.size≤x.block
  ·rw [mge x ho];exact hs.mem x u hu
  ·rw [mlt x ho];exact hu
 have lows:∀ k c g,(st.set id (.live [.s s'] 0))[k]?=some (.live c g)→∀ x,bk k=some x→x.1 < W0.heap.size:=fun k c g hk x hx=>by
  have:∃ c g,st[k]?=some (.live c g):=by
   by_cases e:k=id
   ·subst e;exact ⟨_,_,hid⟩
   ·rw [List.getElem?_set,if_neg (fun e2=>e e2.symm)] at hk;exact ⟨_,_,hk⟩
  obtain ⟨c2,g2,h2⟩:=this
  obtain ⟨b,sz,arr,t,lo,hi,hl⟩:=hsim.blk k c2 g2 h2
  rw [hl.at_] at hx
  injection hx with hx
  subst hx
  exact lt_of_some hl.heap
 have hnb:∀ i x,bk i=some x→i < (st.set id (.live [.s s'] 0)).length:=fun i x hx=>by
  rcases Nat.lt_or_ge i (st.set id (.live [.s s'] 0)).length with g | g
  ·exact g
  ·rw [hs.nb i (.inl (List.getElem?_eq_none g))] at hx;cases hx
 have hold:∀ u v,m1 u=some v→m0 u=some v∨B≤u.block:=fun u v g=>by
  by_cases ho:W0.heap.size≤u.block
  ·exact .inr (Nat.le_trans hsim.base ho)
  ·rw [mlt u ho] at g
   exact hs.old u v g
 refine ⟨s',m1,bk,⟨hs.base,fun x u hu=>?_,fun _ _ h=>h,fun _ _ h=>.inl h,fun k c g hk=>?_,hs.inj,hs.nb⟩,hfr.mono mle fun _ _ h=>h,fun u v h=>mle _ _ (hs.ext u v h),hbkm,hnb,?_,fun k hk t u hu=>by rw [mge _ hk];exact hu,hold⟩
 ·by_cases ho:W0.heap.size≤x.block
  ·rw [mge x ho] at hu;exact hu
  ·rw [mlt x ho] at hu;exact hs.mem x u hu
 ·obtain ⟨b,sz,arr,t,lo,hi,hl⟩:=hs.blk k c g hk
  have hlt:=lows k c g hk _ hl.at_
  simp only at hlt
  exact ⟨b,sz,arr,t,lo,hi,⟨hl.at_,hl.own,hl.heap,hl.size,hl.free,hl.fit,hl.one,fun j hj=>by
   obtain ⟨u,q1,q2⟩:=hl.rep j hj
   exact ⟨u,q1,q2.mono mle fun _ _ h=>h⟩,fun j hj=>by rw [mlt _ (by simp only;omega)];exact hl.mu j hj,fun j hj=>by rw [mlt _ (by simp only;omega)];exact hl.fz j hj⟩⟩
 ·rintro a2 W2 fr2 st2 ⟨m2,bk2,q1,q2,q3,q4,q5⟩
  have hd2:a2.defers=[]:=q3.none
  refine ⟨m2,bk2,⟨q1.base,q1.mem,fun u v h=>q1.ext u v (mle _ _ (hs.ext u v h)),fun u v h=>?_,q1.blk,q1.inj,q1.nb⟩,q2,by rw [hd2];exact .nil,hbel.trans q4,fun i x h=>q5 i x (hbkm i x h)⟩
  rcases q1.old u v h with g | g
  ·exact hold u v g
  ·exact .inr g
theorem Cn.keepR {m1:Mem} {bk1:Bks} {w1:Org} (h:Cn B m1 bk1 w1 a W fr st) (hk:KeepC w0.world.heap.size B bs W W') (hid:st[id]?=some (.live [.s s] 0)) (hbk:bk1 id=some (bs,sz)) (hb:Bel B w0.world W') (hm:∀ u v,m0 u=some v→m1 u=some v) (hb2:∀ i x,bk0 i=some x→bk1 i=some x) (hold:∀ u v,m1 u=some v→m0 u=some v∨B≤u.block) :
  ∃ (s' : ByteArray) (m3:Mem) (bk3:Bks),Sim B m3 m3 bk3 W' (st.set id (.live [.s s'] 0))∧FrRep m3 bk3 a.tmps fr∧(∀ u v,m1 u=some v→m3 u=some v)∧(∀ i x,bk1 i=some x→bk3 i=some x)∧(∀ i x,bk3 i=some x→i < st.length) ∧
   (∀ a2 W2 fr2 st2,Cn B m3 bk3 ⟨W',false⟩ a2 W2 fr2 st2→Cn B m0 bk0 w0 a2 W2 fr2 st2):=by
 obtain ⟨m,bk,hsim,hfr,hdf,_,hbkm⟩:=h
 obtain ⟨s',hs⟩:=hsim.keepC hk hid (hbkm _ _ hbk)
 refine ⟨s',m,bk,⟨hs.base,hs.mem,fun _ _ h=>h,fun _ _ h=>.inl h,hs.blk,hs.inj,hs.nb⟩,hfr,hs.ext,hbkm,fun i x hx=>?_,?_⟩
 ·rcases Nat.lt_or_ge i st.length with g | g
  ·exact g
  ·rw [hsim.nb i (.inl (List.getElem?_eq_none g))] at hx;cases hx
 ·rintro a2 W2 fr2 st2 ⟨m2,bk2,q1,q2,q3,q4,q5⟩
  have hd2:a2.defers=[]:=q3.none
  refine ⟨m2,bk2,⟨q1.base,q1.mem,fun u v h=>q1.ext u v (hs.ext u v (hm u v h)),fun u v h=>?_,q1.blk,q1.inj,q1.nb⟩,q2,by rw [hd2];exact .nil,hb.trans q4,fun i x h=>q5 i x (hbkm i x (hb2 i x h))⟩
  rcases q1.old u v h with g | g
  ·rcases hs.old u v g with g | g
   ·exact hold u v g
   ·exact .inr g
  ·exact .inr g
end
def ItS {α:Type} (P:Program) (gf:Nat) (caps:List V) (st:List Slot) (id:Nat) (encs:α→List Value) (xs:List α):Prop :=
 ∀ (B:Nat) (m0 m:Mem) (bk:Bks) (w:World) (lb:Array Value),GM m→Sim B m0 m bk w st→RepA m bk lb caps →
  ∃ (bs sz:Nat),bk id=some (bs,sz)∧bs < w.heap.size ∧
   IterC P gf lb bs m B (fun x=>(encs x).toArray) xs (fun W=>W.heap[bs]?=w.heap[bs]?∧∀ a u,m a=some u→W.cell? a=some u)
theorem set_self {l:List Slot} {i:Nat} {x:Slot} (h:l[i]?=some x):l.set i x=l:=by
 obtain ⟨h1,h2⟩:=List.getElem?_eq_some_iff.1 h
 rw [← h2,List.set_getElem_self]
theorem params_eq (ps:Array Nat) (cs:Array Value) (tmps:Array Value):(ps.zip cs).foldl (fun t (x:Nat × Value)=>t.setIfInBounds x.1 x.2) tmps=(ps.toList.zip cs.toList).foldl (fun t x=>t.setIfInBounds x.1 x.2) tmps:=by
 rw [← Array.foldl_toList,Array.toList_zip]
theorem range_sound {P:Program} {B:Nat} {m0:Mem} {bk0:Bks} {w0:Org} {α:Type} (hmix:P.follows .mixedOrders=true) (hg:GM m0) {g:Operand} {ps:Array Tmp} {assign body:Code} {x y:ACode} (h1:MatchC P assign x) (h2:MatchC P body y) (f1:x.flat=true) (f2:y.flat=true) (s1:assign.scopes=false) (s2' : body.scopes=false)
  {gf id:Nat} {caps:List V} {encs:α→List Value} {aen:α→List V} {xs:List α} {fr:List V} {st:List Slot} {a:Act} {w:World} {Q:AExit→List V→List Slot→Prop}
  (eg:∀ args w,(callFunc gf args).run P w=.ok (.enter gf args) w) (hf:evO fr g=.clo (.func gf) caps) (hit:ItS P gf caps st id encs xs) (haen:∀ z (m:Mem) (bk:Bks),RepL m bk (encs z) (aen z)) (hps:∀ z,(encs z).length=ps.size)
  (J:List α→List Slot→Prop) (hJ:∀ pre st1 (s:ByteArray),J pre st1→J pre (st1.set id (.live [.s s] 0))) (hJt:∀ pre st1,J pre st1→∃ s:ByteArray,st1[id]?=some (.live [.s s] 0)) (h0:J [] st)
  (hround:∀ pre z post st1,xs=pre++z :: post→J pre st1→AW P st1.length x (fun e fr1 st2=>e=.normal∧st2[id]?=st1[id]?∧∀ s:ByteArray,AW P st2.length y (fun e _ st3=>st3[id]?=some (.live [.s s] 0)∧(e=.normal→∃ n sg st4,Wk st.length n sg fr fr st3 st4∧J (pre++[z]) st4)∧(e≠.normal→∀ s' : ByteArray,Q e fr (st3.set id (.live [.s s'] 0)))) fr1 (st2.set id (.live [.s s] 0))) ((ps.toList.zip (aen z)).foldl (fun t x=>t.set x.1 x.2) fr) st1)
  (hdone:∀ st1,J xs st1→Q .normal fr st1)
  (hcn:Cn B m0 bk0 w0 a w fr st) (hmk:w0.mark=true):(Code.rangeFunc g ps assign body).wp P (PostC B m0 bk0 w0 Q) a w:=by
 obtain ⟨m,bk,hsim,hfr,hm,hbk,hlen,hback⟩:=hcn.rebase
 have hgm:GM m:=by obtain ⟨n,hn⟩:=hg;exact ⟨n,hm _ _ hn⟩
 obtain ⟨lb,hge,hlb⟩ : ∃ lb,a.eval g=.func (.func gf) #[] lb∧RepA m bk lb caps:=by
  have:=hfr.ev g
  rw [hf] at this
  generalize a.eval g=c at this
  cases this with
  | clo _ hl h=>exact ⟨_,rfl,hl,h⟩
 obtain ⟨bs,sz,hbs,hlt,hI⟩:=hit B m m bk w lb hgm hsim hlb
 obtain ⟨sA,hsA⟩:=hJt _ _ h0
 have hB:=(text_block hsim hsA hbs).1
 -- what a piece of the walk leaves,told from where it began
 have keepK:∀ {W W1:World} {a1 a2:Act} {fr1 fr2:List V} {sta stb:List Slot} {s:ByteArray},Cn B m bk ⟨w,false⟩ a1 W fr1 sta→Cn B m bk ⟨w,false⟩ a2 W1 fr2 stb→Bel B W W1→sta[id]?=some (.live [.s s] 0)→stb[id]?=some (.live [.s s] 0)→(∀ (arr:Array Value) (s:ByteArray) (t:TypeId) (f:Nat × Nat),W.heap[bs]?=some (.cells arr t f)→arr[0]?=some (.string s)→∃ arr' : Array Value,W1.heap[bs]?=some (.cells arr' t f)∧arr'.size=arr.size∧arr'[0]?=some (.string s))∧(∀ u v,m u=some v→W.cell? u=some v→W1.cell? u=some v):=by
  intro W W1 a1 a2 fr1 fr2 sta stb s hc1 hc2 hb hs1 hs2
  refine ⟨fun arr s' t f h1 h2=>?_,fun a u hm _=>by obtain ⟨m2,bk2,q1,_,_,_,_⟩:=hc2;exact q1.mem a u (q1.ext a u hm)⟩
  obtain ⟨a1,T,lo,hi,g1,g2,g3⟩:=hc1.text hs1 hbs
  obtain ⟨a2,T',lo',hi',k1,k2,k3⟩:=hc2.text hs2 hbs
  rw [g1] at h1
  injection h1 with h1
  injection h1 with e1 e2 e3
  subst e1 e2 e3
  obtain ⟨c',x1,x2⟩:=hb.shp _ _ _ _ _ g1
  rw [k1] at x1
  injection x1 with x1
  injection x1 with y1 y2 y3
  subst y2
  rw [y3] at k1
  rw [g3] at h2
  simp only [Option.some.injEq,Value.string.injEq] at h2
  subst h2
  exact ⟨a2,k1,by rw [k2,g2],k3⟩
 have fin:∀ (D:Nat) (W:World) (st1:List Slot),Cn B m bk ⟨w,false⟩ { tmps:=a.tmps,defers:=[] } W fr st1→W.heap[D]?=some (.deferred (some []))→w.heap.size≤D→w0.mark=true→Cn B m0 bk0 w0 { a with defers:={ target:=.collected D,args:=#[] } :: a.defers } W fr st1:=by
  intro D W st1 hc hD hDs hmk
  have h1:=hcn.bel.size
  obtain ⟨m2,bk2,q1,q2,q3,q4,q5⟩:=hback _ _ _ _ hc
  exact ⟨m2,bk2,q1,q2,hcn.defers.cons hc.bel hmk hD hDs (Nat.le_trans h1 hDs) (Nat.le_trans hsim.base hDs),q4,q5⟩
 refine (wpIn_wide (n:=3)).1 (rangeIter (gf:=gf) (lb:=lb) hge eg (bs:=bs) (B:=B) hI (fun z=>by simpa using hps z) hsim.base hB hlt (fun W' hbW=>⟨hbW.block _ hlt,fun a u hm=>cell_keep (hbW.block _ (World.block_lt_of_cell? w a (hsim.mem a u hm))) (hsim.mem a u hm)⟩)
  (fun pre W=>∃ st1,Cn B m bk ⟨w,false⟩ { tmps:=a.tmps,defers:=[] } W fr st1∧J pre st1)
  (fun c _ W=>∃ e st1,Cn B m bk ⟨w,false⟩ { tmps:=a.tmps,defers:=[] } W fr st1∧(∀ s' : ByteArray,Q e fr (st1.set id (.live [.s s'] 0)))∧((c=.ret∧e=.ret)∨∃ j,c=.exit j∧e=.exit j)∧∃ s:ByteArray,st1[id]?=some (.live [.s s] 0))
  ?stI ?stIx ⟨st,Cn.start hsim hfr,h0⟩ ?round ?done ?stop)
 case stI =>
  rintro pre W W' ⟨st1,hc,hj⟩ hk
  obtain ⟨s,hs⟩:=hJt _ _ hj
  obtain ⟨s',hc'⟩:=hc.keepC hk hs hbs rfl
  exact ⟨_,hc',hJ _ _ _ hj⟩
 case stIx =>
  rintro c pre W W' ⟨e,st1,hc,hq,hce,s,hs⟩ hk
  obtain ⟨s',hc'⟩:=hc.keepC hk hs hbs rfl
  refine ⟨e,_,hc',fun s2=>?_,hce,s',?_⟩
  ·rw [List.set_set];exact hq s2
  ·rw [List.getElem?_set,if_pos rfl,if_pos (List.getElem?_eq_some_iff.1 hs).1]
 case done =>
  rintro D W ⟨st1,hc,hj⟩ hD hDs
  exact ⟨.normal,fr,st1,rfl,fin D W st1 hc hD hDs hmk,hdone _ hj⟩
 case stop =>
  rintro D c pre post W hx ⟨e,st1,hc,hq,hce,s,hs⟩ hD hDs
  have hq':=hq s
  rw [set_self hs] at hq'
  rcases hce with ⟨rfl,rfl⟩ | ⟨j,rfl,rfl⟩
  ·exact wpIn_ret ⟨.ret,fr,st1,rfl,fin D W st1 hc hD hDs hmk,hq'⟩
  ·exact wpIn_exit ⟨.exit j,fr,st1,rfl,fin D W st1 hc hD hDs hmk,hq'⟩
 case round =>
  rintro l pre z post W0 W hx ⟨st0,hc0,hj0⟩ hgr hse hBW hsz
  obtain ⟨s0,hs0⟩:=hJt _ _ hj0
  obtain ⟨sx,m1,bk1,r1,r2,r3,r4,r5,r6,r7,r8⟩:=hc0.keepP hgr hse hB hs0 hbs rfl
  have hj:=hJ _ _ sx hj0
  generalize hst1:st0.set id (.live [.s sx] 0)=st1 at hj r1 r5
  obtain ⟨s,hs⟩:=hJt _ _ hj
  have hr:=hround pre z post st1 hx hj
  have hc:=r6 _ _ _ _ (Cn.start r1 r2)
  have hg1:GM m1:=by obtain ⟨n,hn⟩:=hgm;exact ⟨n,r3 _ _ hn⟩
  have prv:∀ k c t f,W0.heap.size≤k→W.heap[k]?=some (.cells c t f)→∀ i,i < c.size→m1 ⟨k,i,none⟩=c[i]?:=fun k c t f h1 h2 i hi=>by
   have:W.cell? ⟨k,i,none⟩=some c[i]:=by simp [World.cell?,h2,hi]
   rw [r7 k h1 i _ this,Array.getElem?_eq_getElem hi]
  have hcp:=Cn.start r1 (FrRep.params ps.toList (encs z) (aen z) r2 (haen z m1 bk1))
  have ha:=aw_soundIn (l:=l) (n:=3 - 1 - 1) r5 hmix hg1 h1 f1 s1 _ _ st1 _ W hcp hr
  have e:=params_eq ps (encs z).toArray a.tmps
  simp only at e
  rw [← e] at ha
  refine Go.wpIn_mono ha ?_
  rintro e a1 W1 ⟨ae,fr1,st2,q1,q2,q3,q4,q5⟩
  subst q3
  have he:e=.normal:=by cases e <;> simp only [exitOf,Option.some.injEq,reduceCtorEq] at q1 <;> rfl
  subst he
  have hb1:Bel B W W1:=q2.bel
  have hc1:=r6 _ _ _ _ (q2.frame r2)
  have hs2:st2[id]?=some (.live [.s s] 0):=q4.trans hs
  have pS:∀ k c t f,Since W0 W k→W.heap[k]?=some (.cells c t f)→W1.heap[k]?=some (.cells c t f):=fun k c t f hs h=>q2.fast (w0:=⟨W,false⟩) h (prv k c t f hs.1 h)
  have kk1:=keepK hc hc1 hb1 hs hs2
  refine ⟨keepsOthers_bel hb1,⟨hb1.toBelow,kk1.1,kk1.2,pS⟩,fun W2 hk hsz2=>?_⟩
  -- the body
  have hc1a:=r6 _ _ _ _ q2
  have hd1:a1.defers=[]:=by
   obtain ⟨_,_,_,_,hd,_,_⟩:=q2
   exact hd.none
  obtain ⟨s2a,hc2a⟩:=hc1a.keepC hk hs2 hbs hd1
  obtain ⟨s2,m3,bk3,t1,t2,t3,t4,t5,t6⟩:=q2.keepR (w0:=⟨w,false⟩) (m0:=m) (bk0:=bk) hk hs2 (r4 _ _ hbs) hc2a.bel r3 r4 r8
  have hs22:(st2.set id (.live [.s s2] 0))[id]?=some (.live [.s s2] 0):=by rw [List.getElem?_set,if_pos rfl,if_pos (List.getElem?_eq_some_iff.1 hs2).1]
  have hc2:=t6 _ _ _ _ (Cn.start t1 t2)
  have hg3:GM m3:=by obtain ⟨n,hn⟩:=hgm;exact ⟨n,t3 _ _ (r3 _ _ hn)⟩
  have hb:=aw_soundIn (l:=l) (n:=3 - 1 - 1) t5 hmix hg3 h2 f2 s2' _ _ _ _ W2 (Cn.start t1 t2) (q5 s2)
  have ea:a1={ tmps:=a1.tmps,defers:=[] }:=by
   cases a1;simp only at hd1;rw [hd1]
  rw [ea]
  refine Go.wpIn_mono hb ?_
  rintro e3 a3 W3 ⟨ae3,fr3,st3,p1,p2,p3,p4,p5⟩
  have hc3:=t6 _ _ _ _ (p2.frame (hfr.mono (fun u v h=>t3 u v (r3 u v h)) (fun i x h=>t4 i x (r4 i x h))))
  have hb3:Bel B W2 W3:=p2.bel
  have hko:=keepsOthers_bel hb3
  have kk3:=keepK hc2 hc3 hb3 hs22 p3
  have hkk:KeepK B bs m (Since W0 W) W2 W3:=⟨hb3.toBelow,kk3.1,kk3.2,fun k c t f hs h=>by
   obtain ⟨h0,c0,t0,f0,hw⟩:=hs
   have e1:=pS k c0 t0 f0 ⟨h0,_,_,_,hw⟩ hw
   have hkb:k≠bs:=by
    rintro rfl
    obtain ⟨a0,T,lo,hi,g,_⟩:=hc0.text hs0 hbs
    have:=lt_of_some g
    omega
   have e2:=hk.cells _ _ _ _ hkb e1
   rw [h] at e2
   injection e2 with e2
   injection e2 with x1 x2 x3
   subst x1 x2 x3
   exact p2.fast (w0:=⟨W2,false⟩) h fun i hi=>by
    have:=prv k c t f h0 hw i hi
    have hc3' : m1 ⟨k,i,none⟩=some c[i]:=by rw [this,Array.getElem?_eq_getElem hi]
    rw [t3 _ _ hc3',Array.getElem?_eq_getElem hi]⟩
  cases e3 <;> simp only [exitOf,Option.some.injEq,reduceCtorEq] at p1 <;> subst p1
  ·obtain ⟨nn,sg,st4,hw,hj4⟩:=p4 rfl
   exact ⟨hko,hkk,st4,Cn.wk hlen hc3 hw,hj4⟩
  ·exact ⟨hko,_,st3,hc3,p5 (by simp),.inr ⟨_,rfl,rfl⟩,s2,p3⟩
  ·exact ⟨hko,_,st3,hc3,p5 (by simp),.inl ⟨rfl,rfl⟩,s2,p3⟩
end Go.Proofs.YtdoakplhalonfaaGreat

