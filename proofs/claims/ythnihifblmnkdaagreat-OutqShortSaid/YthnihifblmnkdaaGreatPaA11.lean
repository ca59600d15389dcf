/- A part of the proof: 2 texts joined. -/
import Derived.Test.YthnihifblmnkdaaGreatPaA10
set_option linter.all false
namespace Go.Proofs.YthnihifblmnkdaaGreat
open Go.RowKit
def kindsOf (P:Program):Nat→TypeId→Option (List Nat)
 | 0,_=>none
 | d + 1,t=>match P.underlying t with
  | some .bool=>some [0]
  | some (.int _)=>some [1]
  | some .string=>some [2]
  | some (.struct fs)=>(fs.toList.mapM fun f=>kindsOf P d f.type).map List.flatten
  | some (.array n e)=>(kindsOf P d e).map fun ks=>(List.replicate n ks).flatten
  | _=>none
def placesOf (P:Program) (t:TypeId):Option (Nat→Option (Nat × Nat)) :=
 match P.underlying t with
 | some (.array _ e)=>(P.info? e).map fun ie=>fun i=>some (i * ie.size,ie.size)
 | some (.struct fields)=>(fields.toList.mapM fun f=>(P.info? f.type).map fun i=>(f.offset,i.size)).map fun places=>(places.toArray[·]?)
 | _=>none
def strOrSl (P:Program) (t:TypeId):Bool:=match P.underlying t with
 | some (.slice _)=>true
 | some .string=>true
 | _=>false
theorem strOrSl_ok {P:Program} {t:TypeId} (h:strOrSl P t=true):(∃ e',P.underlying t=some (.slice e'))∨P.underlying t=some .string:=by
 unfold strOrSl at h
 split at h
 ·exact .inl ⟨_,‹_›⟩
 ·exact .inr ‹_›
 ·cases h
def compOp (P:Program):Op→Option AOp
 | .move x | .assign x=>some (.mv x)
 | .pick c a b=>some (.pick c a b)
 | .load t x=>match P.underlying t,P.info? t with
  | some d,some i=>some (.ld i.size (isAggD d) x)
  | _,_=>none
 | .store t a x=>match P.info? t with
  | some i=>some (.st i.size a x)
  | none=>none
 | .alloc t=>match P.info? t with
  | some i=>match i.zero with
   | some z=>some (.al (V.ofValue z))
   | none=>none
  | none=>none
 | .box _ x=>some (.bx x)
 | .nilCheck x=>some (.nc x)
 | .binOp .eql t x y _=>match P.underlying t with
  | some .bool=>some (.binb false x y)
  | some (.pointer e)=>if e=P.pointee t then some (.eqp false x y) else none
  | some (.struct _)=>match kindsOf P 10 t with
   | some ks=>if eqTy P 10 t ks=true∧isAggT P t=true∧P.eqGuardType P.depth t=false∧P.cellsOf t=ks.length then some (.eqa false ks x y) else none
   | none=>none
  | some (.array _ _)=>match kindsOf P 10 t with
   | some ks=>if eqTy P 10 t ks=true∧isAggT P t=true∧P.eqGuardType P.depth t=false∧P.cellsOf t=ks.length then some (.eqa false ks x y) else none
   | none=>none
  | _=>some (.bin .eql x y)
 | .binOp .neq t x y _=>match P.underlying t with
  | some .bool=>some (.binb true x y)
  | some (.pointer e)=>if e=P.pointee t then some (.eqp true x y) else none
  | some (.struct _)=>match kindsOf P 10 t with
   | some ks=>if eqTy P 10 t ks=true∧isAggT P t=true∧P.eqGuardType P.depth t=false∧P.cellsOf t=ks.length then some (.eqa true ks x y) else none
   | none=>none
  | some (.array _ _)=>match kindsOf P 10 t with
   | some ks=>if eqTy P 10 t ks=true∧isAggT P t=true∧P.eqGuardType P.depth t=false∧P.cellsOf t=ks.length then some (.eqa true ks x y) else none
   | none=>none
  | _=>some (.bin .neq x y)
 | .binOp op _ x y _=>some (.bin op x y)
 | .unOp op _ x=>some (.un op x)
 | .convert s d x=>match P.underlying s,P.underlying d with
  | some (.int _),some (.int k)=>some (.cvi k x)
  | some .string,some .string=>some (.cvs x)
  | some .string,some (.slice e)=>match P.underlying e with
   | some (.int .u8)=>some (.s2b x)
   | _=>none
  | some (.slice e),some .string=>match P.underlying e with
   | some (.int .u8)=>some (.b2s x)
   | _=>none
  | _,_=>none
 | .fieldAddr t x n=>match P.underlying t with
  | some (.struct fs)=>match fs[n]? with
   | some f=>match P.info? f.type with
    | some i=>if i.size≠0 then some (.fa f.offset x) else none
    | none=>none
   | none=>none
  | _=>none
 | .field t x n=>match P.underlying t with
  | some (.struct fs)=>match fs[n]? with
   | some f=>match P.info? f.type,P.underlying f.type with
    | some i,some d=>some (.fd f.offset i.size (isAggD d) x)
    | _,_=>none
   | none=>none
  | _=>none
 | .indexAddr t x ix=>match P.underlying t with
  | some (.slice e)=>match P.info? e with
   | some i=>some (.ixs i.size x ix)
   | none=>none
  | some (.array len e)=>match P.info? e with
   | some i=>some (.ixa len i.size x ix)
   | none=>none
  | _=>none
 | .index t x ix=>match P.underlying t with
  | some .string=>some (.ixt x ix)
  | some (.array len e)=>match P.info? e,P.underlying e with
   | some i,some d=>some (.ixg len i.size (isAggD d) x ix)
   | _,_=>none
  | _=>none
 | .slice t x lo hi mx=>match P.underlying t with
  | some .string=>match mx with
   | none=>some (.slt x lo hi)
   | some _=>none
  | some (.slice e)=>match P.info? e with
   | some i=>some (.sls i.size x lo hi mx)
   | none=>none
  | _=>none
 | .extract x i=>some (.ex x i)
 | .build t parts=>match placesOf P t,P.info? t with
  | some pl,some i=>match i.zero with
   | some z=>match V.ofValue z,parts.toList.mapM (fun p=>(pl p.1).map fun q=>(q.1,q.2,p.2)) with
    | .agg zs,some ps=>some (.bd zs ps)
    | _,_=>none
   | none=>none
  | _,_=>none
 | .buildSlice t len parts=>match P.underlying t with
  | some (.slice e)=>match P.info? e with
   | some i=>match i.zero with
    | some z=>if len * i.size≠0∧z.cells.size=i.size∧len * i.size≤1000∧(V.ofValue z).stb=true then some (.bs i.size len ((List.range (len * i.size)).map fun k=>(V.ofValue z).cells.getD (k % i.size) .any) parts.toList) else if len=0∧parts.size=0 then some (.mv (.const (.slice none 0 0))) else none
    | none=>none
   | none=>none
  | _=>none
 | .makeSlice t n c=>match P.underlying t with
  | some (.slice e)=>match P.info? e with
   | some i=>match i.zero with
    | some z=>if i.size≠0∧z.cells.size=i.size∧(V.ofValue z).stb=true then some (.mks i.size i.bytes (V.ofValue z).cells n c) else none
    | none=>none
   | none=>none
  | _=>none
 | .makeFunc fn first caps=>match first.toList with
  | []=>if yldF fn=false then some (.mf fn caps.toList) else none
  | _=>match fn with
   | .func g=>match caps.toList with
    | []=>some (.mf (.yield g) first.toList)
    | _=>none
   | _=>none
 | .call c=>match c.callee with
  | .value (.func f)=>match P.funcs[f]? with
   | some fn=>if fn.body.isSome=true∧(fn.name == "runtime.NumGoroutine")=false then some (.cl f c.args.toList) else none
   | none=>none
  | .value f=>some (.cv f c.args.toList)
  | .builtin .len=>match c.args.toList,c.argTypes.toList with
   | [x],[t]=>match P.underlying t with
    | some .string=>some (.lent x)
    | some (.slice _)=>some (.lens x)
    | _=>none
   | _,_=>none
  | .builtin .clear=>match c.args.toList,c.argTypes.toList with
   | [x],[t]=>match P.underlying t with
    | some (.slice e)=>match P.info? e with
     | some i=>match i.zero with
      | some z=>if z.cells.size=i.size∧z.cells.toList.all (·.oneCell')=true then some (.clr i.size x) else none
      | none=>none
     | none=>none
    | _=>none
   | _,_=>none
  | .builtin .min=>match c.args.toList with
   | [x,y]=>some (.mn false x y)
   | _=>none
  | .builtin .max=>match c.args.toList with
   | [x,y]=>some (.mn true x y)
   | _=>none
  | .builtin .append=>match c.args.toList,c.argTypes.toList with
   | [s,x],[t,t']=>if strOrSl P t'=true then match P.underlying t with
    | some (.slice e)=>match P.info? e with
     | some i=>match i.zero with
      | some z=>if z.cells.size=i.size∧i.size≠0 then some (.ap i.size i.bytes s x) else none
      | none=>none
     | none=>none
    | _=>none
    else none
   | _,_=>none
  | _=>none
 | _=>none
theorem toList_nil {α:Type} {a:Array α} (h:a.toList=[]):a=#[]:=by apply Array.ext';rw [h]
theorem toList_one {α:Type} {a:Array α} {x:α} (h:a.toList=[x]):a=#[x]:=by apply Array.ext';rw [h]
theorem toList_two {α:Type} {a:Array α} {x y:α} (h:a.toList=[x,y]):a=#[x,y]:=by apply Array.ext';rw [h]
theorem placesOf_ok {P:Program} {t:TypeId} {pl:Nat→Option (Nat × Nat)} {i:TypeInfo} {z:Value} (h:placesOf P t=some pl) (hi:P.info? t=some i) (hz:i.zero=some z) (l:List (Nat × Value)):P.built t l=Instr.fill pl z.cells l:=by
 unfold placesOf at h
 unfold Program.built
 rw [hi]
 split at h
 ·rename_i n e hu
  simp only [Option.map_eq_some_iff] at h
  obtain ⟨ie,h1,rfl⟩:=h
  simp only [hu,hz,h1]
 ·rename_i fields hu
  simp only [Option.map_eq_some_iff] at h
  obtain ⟨ps,h1,rfl⟩:=h
  simp only [hu,hz,h1]
 ·cases h
theorem compOp_ok {P:Program} {op:Op} {ao:AOp} (ty:TypeId) (h:compOp P op=some ao):Cop P op ty ao:=by
 unfold compOp at h
 split at h <;> (try simp only [reduceCtorEq] at h)
 all_goals (repeat' (split at h)) <;> (try simp only [reduceCtorEq,Option.some.injEq] at h) <;> (try subst h)
 all_goals first
  | exact .mv _
  | exact .as _
  | exact .pick _ _ _
  | exact .ld ‹_› ‹_›
  | exact .st ‹_›
  | exact .al ‹_› ‹_›
  | exact .bx
  | exact .nc
  | exact .binb (neg:=false) ‹_›
  | exact .binb (neg:=true) ‹_›
  | (rename_i hd hh;subst hh;exact .eqp (neg:=false) hd)
  | (rename_i hd hh;subst hh;exact .eqp (neg:=true) hd)
  | (rename_i hh;exact .eqa (neg:=false) hh.1 (by decide) hh.2.1 hh.2.2.1 hh.2.2.2)
  | (rename_i hh;exact .eqa (neg:=true) hh.1 (by decide) hh.2.1 hh.2.2.1 hh.2.2.2)
  | exact .bin
  | exact .un
  | exact .cvi ‹_› ‹_›
  | exact .cvs ‹_› ‹_›
  | exact .s2b ‹_› ‹_› ‹_›
  | exact .b2s ‹_› ‹_› ‹_›
  | exact .fa ‹_› ‹_› ‹_› ‹_›
  | exact .fd ‹_› ‹_› ‹_› ‹_›
  | exact .ixs ‹_› ‹_›
  | exact .ixa ‹_› ‹_›
  | exact .ixg ‹_› ‹_› ‹_›
  | exact .ixt ‹_›
  | exact .slt ‹_›
  | exact .sls ‹_› ‹_›
  | exact .ex
  | exact .bd _ (placesOf_ok ‹_› ‹_› ‹_›) ‹_› ‹_› ‹_› ‹_›
  | (rename_i hh;exact .bs ‹_› ‹_› ‹_› hh.1 hh.2.1 hh.2.2.1 hh.2.2.2)
  | (rename_i hh;obtain ⟨h1,h2⟩:=hh;subst h1;rw [Array.eq_empty_of_size_eq_zero h2];exact .bs0 ‹_› ‹_›)
  | (rename_i hh hv;rw [toList_nil hh];exact .mf hv)
  | (rename_i hh;rw [toList_nil hh];exact .mfb)
  | (rename_i c _ f hc _ fn hfn hh;obtain ⟨cal,args,tys⟩:=c;simp only at hc;subst hc;exact .cl hfn hh.1 hh.2)
  | (rename_i c _ f _ hc;obtain ⟨cal,args,tys⟩:=c;simp only at hc;subst hc;exact .cv)
  | (rename_i c _ hc _ _ x t h1 h2 _ hd;obtain ⟨cal,args,tys⟩:=c;simp only at hc h1 h2;subst hc;rw [toList_one h1,toList_one h2];exact .lenT hd)
  | (rename_i c _ hc _ _ x t h1 h2 _ e hd;obtain ⟨cal,args,tys⟩:=c;simp only at hc h1 h2;subst hc;rw [toList_one h1,toList_one h2];exact .lenS hd)
  | (rename_i c _ hc _ _ x t h1 h2 _ e hd _ i hi _ z hz hh;obtain ⟨cal,args,tys⟩:=c;simp only at hc h1 h2;subst hc;rw [toList_one h1,toList_one h2];exact .clr hd hi hz hh.1 hh.2)
  | (rename_i hh;exact .mks ‹_› ‹_› ‹_› hh.1 hh.2.1 hh.2.2)
  | (rename_i c _ hc _ x y h1;obtain ⟨cal,args,tys⟩:=c;simp only at hc h1;subst hc;rw [toList_two h1];exact .mn (mx:=false))
  | (rename_i c _ hc _ x y h1;obtain ⟨cal,args,tys⟩:=c;simp only at hc h1;subst hc;rw [toList_two h1];exact .mn (mx:=true))
  | (rename_i c _ hc _ _ s x t t' h1 h2 htt _ e hd _ i hi _ z hz hh;obtain ⟨cal,args,tys⟩:=c;simp only at hc h1 h2;subst hc;rw [toList_two h1,toList_two h2];exact .ap hd hi hz hh.1 hh.2 (strOrSl_ok htt))
def compG (ops:Array Oper):Option (Nat × Bool)→Option (Option (Nat × Bool))
 | none=>some none
 | some (j,w)=>match (ops[j]?).bind (·.dst) with
  | some d=>some (some (d,w))
  | none=>none
def AOp.makes:AOp→Bool
 | .al .. | .bx .. | .bs .. | .s2b .. | .ap .. | .mks ..=>true
 | _=>false
def compOps (P:Program) (ops:Array Oper):List Oper→Nat→Option (List AOper × Nat)
 | [],c=>some ([],c)
 | o :: os,c=>match compOp P o.op,compG ops o.guard with
  | some ao,some g=>match compOps P ops os (if ao.makes then c + 1 else c) with
   | some (l,n)=>some (⟨o.dst,ao,g,c⟩ :: l,n)
   | none=>none
  | _,_=>none
theorem compOps_ok {P:Program} {ops:Array Oper}:∀ {os:List Oper} {c n:Nat} {l:List AOper},compOps P ops os c=some (l,n)→os.length=l.length∧∀ j (h:j < l.length) (o:Oper),os[j]?=some o→MatchOp P ops o l[j]
 | [],c,n,l,h=>by
  simp only [compOps,Option.some.injEq,Prod.mk.injEq] at h
  obtain ⟨rfl,_⟩:=h
  exact ⟨rfl,fun j h=>absurd h (Nat.not_lt_zero _)⟩
 | o :: os,c,n,l,h=>by
  simp only [compOps] at h
  split at h
  ·rename_i ao g h1 h2
   split at h
   ·rename_i l' n' h3
    simp only [Option.some.injEq,Prod.mk.injEq] at h
    obtain ⟨rfl,rfl⟩:=h
    obtain ⟨g1,g2⟩:=compOps_ok h3
    refine ⟨by simp [g1],fun j hj o' ho'=>?_⟩
    cases j with
    | zero =>
     simp only [List.getElem?_cons_zero,Option.some.injEq] at ho'
     subst ho'
     refine ⟨compOp_ok _ h1,rfl,?_⟩
     simp only [List.getElem_cons_zero]
     unfold compG at h2
     split at h2
     ·simp only [Option.some.injEq] at h2
      subst h2
      rename_i e
      rw [e];trivial
     ·rename_i j w e
      split at h2
      ·rename_i d hd
       simp only [Option.some.injEq] at h2
       subst h2
       rw [e]
       exact ⟨rfl,hd⟩
      ·cases h2
    | succ j=>exact g2 j (by simpa using hj) o' (by simpa using ho')
   ·cases h
  ·cases h
def uni (a b:List Nat):List Nat:=b.foldl (fun r x=>if r.contains x then r else x :: r) a
def befOf:List Oper→List (List Nat)→List (List Nat)
 | [],acc=>acc
 | o :: os,acc=>befOf os (acc++[o.after.toList.foldl (fun s e=>if Region.binds .any e then uni s (e.on :: acc.getD e.on []) else s) []])
def apartB (x y:AOper):Bool :=
 (match x.dst with | some d=>!y.names.contains d && y.dst != some d | none=>true) && (match y.dst with | some d=>!x.names.contains d | none=>true)
def dstB (x y:AOper):Bool:=match x.dst with | some d=>y.dst != some d | none=>true
def regB (ops:List Oper) (aos:List AOper) (bef:List (List Nat)):Bool :=
 (ops.zipIdx.all fun x=>x.1.after.toList.all fun e=>!Region.binds .any e || decide (e.on < x.2)) &&
 (ops.zipIdx.all fun x=>(bef.getD x.2 []).all fun i=>x.1.after.toList.any fun e=>Region.binds .any e && (e.on == i || (bef.getD e.on []).contains i)) &&
 (aos.zipIdx.all fun y=>aos.zipIdx.all fun x=>!decide (x.2 < y.2) || ((bef.getD y.2 []).contains x.2 || apartB x.1 y.1)) &&
 (aos.zipIdx.all fun y=>aos.zipIdx.all fun x=>x.2 == y.2 || dstB x.1 y.1)
theorem mem_zip {α:Type} {l:List α} {i:Nat} (h:i < l.length):(l[i],i) ∈ l.zipIdx:=by
 rw [List.mem_zipIdx_iff_getElem?];simp [h]
theorem regB_ok {ops:Array Oper} {aos:List AOper} {bef:List (List Nat)} (h:regB ops.toList aos bef=true):RegOK ops aos bef:=by
 simp only [regB,Bool.and_eq_true,List.all_eq_true] at h
 obtain ⟨⟨⟨h1,h2⟩,h3⟩,h4⟩:=h
 have hmem:∀ j o,ops[j]?=some o→(o,j) ∈ ops.toList.zipIdx:=by
  intro j o ho
  rw [List.mem_zipIdx_iff_getElem?]
  simpa using ho
 refine ⟨fun j o ho e he hb=>?_,fun j o ho i hi=>?_,fun i j hi hj hij=>?_,fun i j hi hj hij d hd=>?_⟩
 ·have:=h1 _ (hmem j o ho) e (Array.mem_toList_iff.2 he)
  simpa [hb] using this
 ·have:=h2 _ (hmem j o ho) i hi
  simp only [List.any_eq_true,Bool.and_eq_true,Bool.or_eq_true,beq_iff_eq,List.contains_eq_mem,decide_eq_true_eq] at this
  obtain ⟨e,he,hb,hc⟩:=this
  exact ⟨e,Array.mem_toList_iff.1 he,hb,hc⟩
 ·have:=h3 _ (mem_zip hj) _ (mem_zip hi)
  simp only [hij,decide_true,Bool.not_true,Bool.false_or,Bool.or_eq_true,List.contains_eq_mem,decide_eq_true_eq] at this
  rcases this with g | g
  ·exact .inl g
  ·refine .inr ⟨fun d hd=>?_,fun d hd=>?_⟩
   ·simp only [apartB,hd,Bool.and_eq_true,Bool.not_eq_true',List.contains_eq_mem,decide_eq_false_iff_not] at g
    exact g.1.1
   ·simp only [apartB,hd,Bool.and_eq_true,Bool.not_eq_true',List.contains_eq_mem,decide_eq_false_iff_not] at g
    exact g.2
 ·have:=h4 _ (mem_zip hj) _ (mem_zip hi)
  simp only [Bool.or_eq_true,beq_iff_eq] at this
  rcases this with g | g
  ·exact absurd g hij
  ·simp only [dstB,hd,bne_iff_ne,ne_eq] at g
   exact g
def comp (P:Program):Code→Option ACode
 | .skip | .label _=>some .skip
 | .region id ops draw=>match compOps P ops ops.toList 0 with
  | some (aos,nc)=>if draw=true then (let bef:=befOf ops.toList [];if regB ops.toList aos bef=true then some (.reg nc aos (some bef)) else some (.raw (.region id ops draw))) else some (.reg nc aos none)
  | none=>some (.raw (.region id ops draw))
 | .seq a b=>match comp P a,comp P b with
  | some x,some y=>some (.seq x y)
  | _,_=>none
 | .cond c a b=>match comp P a,comp P b with
  | some x,some y=>some (.cond c x y)
  | _,_=>none
 | .block id a=>match comp P a with
  | some x=>some (.block id x)
  | none=>none
 | .loop a=>match comp P a with
  | some x=>some (.loop x)
  | none=>none
 | .scope a=>comp P a
 | .exit id=>some (.exit id)
 | .ret=>some .ret
 | .rangeFunc f ps a b=>some (.raw (.rangeFunc f ps a b))
 | _=>none
theorem comp_ok {P:Program}:∀ {c:Code} {ac:ACode},comp P c=some ac→MatchC P c ac:=by
 intro c
 induction c with
 | skip=>intro ac h;simp only [comp,Option.some.injEq] at h;subst h;exact .skip
 | label=>intro ac h;simp only [comp,Option.some.injEq] at h;subst h;exact .label
 | region id ops draw =>
  intro ac h
  simp only [comp] at h
  split at h
  ·rename_i aos nc h1
   obtain ⟨g1,g2⟩:=compOps_ok h1
   have g2' : ∀ j (h:j < aos.length) (o:Oper),ops[j]?=some o→MatchOp P ops o aos[j]:=fun j h o ho=>g2 j h o (by simpa using ho)
   have g1' : ops.size=aos.length:=by simpa using g1
   cases draw with
   | true =>
    simp only [if_true] at h
    split at h
    ·rename_i hr
     simp only [Option.some.injEq] at h
     subst h
     exact .regD g1' g2' (regB_ok hr)
    ·simp only [Option.some.injEq] at h
     subst h
     exact .raw
   | false =>
    simp only [Bool.false_eq_true,if_false,Option.some.injEq] at h
    subst h
    exact .regT g1' g2'
  ·simp only [Option.some.injEq] at h
   subst h
   exact .raw
 | seq a b ih1 ih2 =>
  intro ac h
  simp only [comp] at h
  split at h
  ·simp only [Option.some.injEq] at h;subst h;exact .seq (ih1 ‹_›) (ih2 ‹_›)
  ·cases h
 | cond c a b ih1 ih2 =>
  intro ac h
  simp only [comp] at h
  split at h
  ·simp only [Option.some.injEq] at h;subst h;exact .cond (ih1 ‹_›) (ih2 ‹_›)
  ·cases h
 | block id a ih =>
  intro ac h
  simp only [comp] at h
  split at h
  ·simp only [Option.some.injEq] at h;subst h;exact .block (ih ‹_›)
  ·cases h
 | loop a ih =>
  intro ac h
  simp only [comp] at h
  split at h
  ·simp only [Option.some.injEq] at h;subst h;exact .loop (ih ‹_›)
  ·cases h
 | scope a ih=>intro ac h;exact .scope (ih h)
 | exit=>intro ac h;simp only [comp,Option.some.injEq] at h;subst h;exact .exit
 | ret=>intro ac h;simp only [comp,Option.some.injEq] at h;subst h;exact .ret
 | rangeFunc=>intro ac h;simp only [comp,Option.some.injEq] at h;subst h;exact .raw
 | _=>intro ac h;simp [comp] at h
def compR (P:Program):List ResultVar→Option (List ARes)
 | []=>some []
 | .tmp t :: rs=>match compR P rs with
  | some l=>some (.tmp t :: l)
  | none=>none
 | .cell a t :: rs=>match compR P rs,P.underlying t,P.info? t with
  | some l,some d,some i=>some (.cell a i.size (isAggD d) :: l)
  | _,_,_=>none
theorem compR_ok {P:Program}:∀ {rs:List ResultVar} {l:List ARes},compR P rs=some l→MatchRL P rs l
 | [],l,h=>by simp only [compR,Option.some.injEq] at h;subst h;exact .nil
 | .tmp t :: rs,l,h=>by
  simp only [compR] at h
  split at h
  ·simp only [Option.some.injEq] at h;subst h;exact .cons .tmp (compR_ok ‹_›)
  ·cases h
 | .cell a t :: rs,l,h=>by
  simp only [compR] at h
  split at h
  ·simp only [Option.some.injEq] at h;subst h;exact .cons (.cell ‹_› ‹_›) (compR_ok ‹_›)
  ·cases h
def compF (P:Program) (fn:Func):Option (ACode × Nat × List ARes) :=
 match fn.body with
 | some c=>match comp P c,compR P fn.results.toList with
  | some ac,some rs=>some (ac,fn.ntmps,rs)
  | _,_=>none
 | none=>none
theorem callsV_comp {P:Program} {f:FuncId} {fn:Func} {ac:ACode} {n:Nat} {rs:List ARes} {args:List V} {v:V} (hmix:P.follows .mixedOrders=true) (hf:P.funcs[f]?=some fn) (hc:compF P fn=some (ac,n,rs))
  (h:AW P 0 ac (Fin rs v) (args++List.replicate (n - args.length) (.tup [])) []):CallsV P f args v:=by
 unfold compF at hc
 split at hc
 ·rename_i c hb
  split at hc
  ·simp only [Option.some.injEq,Prod.mk.injEq] at hc
   obtain ⟨rfl,rfl,rfl⟩:=hc
   exact callsV_of hmix hf hb (comp_ok ‹_›) rfl (compR_ok ‹_›) h
  ·cases hc
 ·cases hc
end Go.Proofs.YthnihifblmnkdaaGreat

namespace Go.Proofs.YthnihifblmnkdaaGreat
open Go.RowKit
section
variable {P : Program} {n0 : Nat} {base c : Nat} {os : List AOper} {fp : List (List Nat × List Nat)} {fr : List V} {st : List Slot} {K : List (List Nat × List Nat) → List V → List Slot → Prop} {Q : AExit → List V → List Slot → Prop} {d : Option Nat} {g : Option (Nat × Bool)} {x y z : Operand}
theorem set_getD {fr:List V} {t:Nat} {v:V} (h:fr.getD t .any=v):fr.set t v=fr:=by
 apply List.ext_getElem?
 intro i
 rw [List.getElem?_set]
 split
 ·rename_i e
  subst e
  split
  ·rename_i hl
   have:fr.getD t .any=fr[t]:=by simp [List.getD,hl]
   rw [List.getElem?_eq_getElem hl,← h,this]
  ·rename_i hl;rw [List.getElem?_eq_none (by omega)]
 ·rfl
theorem wrap_ok {a:Int} (h:-9223372036854775808≤a∧a≤9223372036854775807):IntKind.i64.wrap a=a:=IntWalk.i64_in _ (by omega)
theorem fza_id {st:List Slot}:∀ {vs:List V},V.idlt.belowL 0 vs=true→FzA st vs vs []
 | [],_=>.nil
 | v :: vs,h=>by
  simp only [V.idlt.belowL,Bool.and_eq_true] at h
  exact .cons (r:=[]) (.c (.id h.1)) (fza_id h.2)
def cellsM {α:Type} (f:α→V) (l:List α):List V:=l.flatMap fun a=>(f a).cells
theorem cellsM_len {α:Type} {f:α→V} {es:Nat} (h:∀ a,(f a).cells.length=es) (l:List α):(cellsM f l).length=l.length * es:=by
 unfold cellsM
 rw [List.length_flatMap]
 simp only [h,List.map_const']
 simp
theorem cellsM_map {α:Type} (f:α→V) (l:List α):(l.map f).flatMap V.cells=cellsM f l:=by
 unfold cellsM;rw [List.flatMap_map]
theorem belowL_mem {n:Nat}:∀ {l:List V},(∀ v ∈ l,v.idlt n=true)→V.idlt.belowL n l=true
 | [],_=>rfl
 | v :: l,h=>by simp only [V.idlt.belowL,Bool.and_eq_true];exact ⟨h v (by simp),belowL_mem fun u hu=>h u (by simp [hu])⟩
theorem mem_belowL {n:Nat}:∀ {l:List V},V.idlt.belowL n l=true→∀ v ∈ l,v.idlt n=true
 | v :: l,h,u,hu=>by
  simp only [V.idlt.belowL,Bool.and_eq_true] at h
  rcases List.mem_cons.1 hu with rfl | hu
  ·exact h.1
  ·exact mem_belowL h.2 u hu
theorem cellsM_idlt {α:Type} {f:α→V} {n:Nat} (h:∀ a,V.idlt.belowL n (f a).cells=true) (l:List α):V.idlt.belowL n (cellsM f l)=true :=
 belowL_mem fun v hv=>by
  obtain ⟨a,_,ha⟩:=List.mem_flatMap.1 hv
  exact mem_belowL (h a) v ha
theorem fzc_made {α:Type} {f:α→V} {l:List α} {i n es frz:Nat} {full:Bool} {cs:List V} (hi:st[i]?=some (.live cs frz)) (hc:cs=cellsM f l) (hf:frz=cs.length) (hn:n=l.length) (hes:∀ a,(f a).cells.length=es) (h0:∀ a,V.idlt.belowL 0 (f a).cells=true):FzC st (.osl i 0 n es full) (.sl (l.map f) false) [i]:=by
 subst hc hf hn
 have hl:=cellsM_len hes l
 refine .osl (fun e=>by cases e) hi (by omega) (by omega) (by simp) (fun x hx=>?_) ?_ ?_
 ·obtain ⟨a,_,rfl⟩:=List.mem_map.1 hx;exact hes a
 ·rw [List.drop_zero,← hl,List.take_length,cellsM_map]
 ·rw [cellsM_map];exact cellsM_idlt h0 l
def loopQ (n0:Nat) (I:Nat→List V→List Slot→Prop) (n:Nat) (Q:AExit→List V→List Slot→Prop):AExit→List V→List Slot→Prop :=
 fun e fr' st'=>match e with | .normal=>∃ n' k sg fr'' st'',n' < n∧Wk n0 k sg fr' fr'' st' st''∧I n' fr'' st'' | e=>Q e fr' st'
def maskF:List Nat→List V→List V
 | [],fr=>fr
 | t :: ts,fr=>maskF ts (fr.set t .any)
def setF:List V→List Nat→List V→List V
 | fr,t :: ts,v :: vs=>setF (fr.set t v) ts vs
 | fr,_,_=>fr
def wkS (n:Nat):List Slot→Prop
 | []=>True
 | .live cs _ :: r=>V.idlt.belowL n cs=true∧wkS n r
 | _ :: r=>wkS n r
def wkB (n:Nat) (sg:List Nat) (st:List Slot):Nat→List Slot→Prop
 | _,[]=>True
 | i,.live cs f :: r=>(st[sgm sg i]?=some (Slot.live (V.ren.renL sg cs) f)∧V.idlt.belowL n cs=true∧((List.range r.length).all fun k=>sgm sg i != sgm sg (i + 1 + k))=true)∧wkB n sg st (i + 1) r
 | i,.fresh :: r=>st[sgm sg i]?=some Slot.fresh∧wkB n sg st (i + 1) r
 | i,.dead :: r=>wkB n sg st (i + 1) r
theorem wkS_ok {n:Nat}:∀ {l:List Slot},wkS n l→∀ (i:Nat) (cs:List V) (frz:Nat),l[i]?=some (Slot.live cs frz)→V.idlt.belowL n cs=true
 | [],_,i,cs,f,h=>by simp at h
 | .live c g :: r,⟨h0,h1⟩,0,cs,f,h=>by simp at h;rw [← h.1];exact h0
 | .live c g :: r,⟨h0,h1⟩,i + 1,cs,f,h=>wkS_ok h1 i cs f (by simpa using h)
 | .fresh :: r,h1,0,cs,f,h=>by simp at h
 | .fresh :: r,h1,i + 1,cs,f,h=>wkS_ok (l:=r) h1 i cs f (by simpa using h)
 | .dead :: r,h1,0,cs,f,h=>by simp at h
 | .dead :: r,h1,i + 1,cs,f,h=>wkS_ok (l:=r) h1 i cs f (by simpa using h)
theorem wkB_ok {n:Nat} {sg:List Nat} {st:List Slot}:∀ {l:List Slot} {i:Nat},wkB n sg st i l →
  (∀ (j:Nat) (cs:List V) (f:Nat),l[j]?=some (Slot.live cs f)→st[sgm sg (i + j)]?=some (Slot.live (V.ren.renL sg cs) f)∧V.idlt.belowL n cs=true∧∀ k,j < k→k < l.length→sgm sg (i + j)≠sgm sg (i + k))∧(∀ j:Nat,l[j]?=some Slot.fresh→st[sgm sg (i + j)]?=some Slot.fresh)
 | [],i,_=>⟨fun j cs f h=>by simp at h,fun j h=>by simp at h⟩
 | .live c g :: r,i,⟨⟨h0,h1,h2⟩,h3⟩=>by
  obtain ⟨g1,g2⟩:=wkB_ok h3
  refine ⟨fun j cs f h=>?_,fun j h=>?_⟩
  ·cases j with
   | zero =>
    simp only [List.getElem?_cons_zero,Option.some.injEq,Slot.live.injEq] at h
    obtain ⟨rfl,rfl⟩:=h
    refine ⟨h0,h1,fun k hk hkl e=>?_⟩
    simp only [List.all_eq_true,List.mem_range,bne_iff_ne,ne_eq] at h2
    refine h2 (k - 1) (by simp at hkl;omega) ?_
    rw [show i + 1 + (k - 1)=i + k by omega];exact e
   | succ j =>
    obtain ⟨q1,q2,q3⟩:=g1 j cs f (by simpa using h)
    refine ⟨by rw [show i + (j + 1)=i + 1 + j by omega];exact q1,q2,fun k hk hkl e=>?_⟩
    refine q3 (k - 1) (by omega) (by simp at hkl;omega) ?_
    rw [show i + 1 + j=i + (j + 1) by omega,show i + 1 + (k - 1)=i + k by omega];exact e
  ·cases j with
   | zero=>simp at h
   | succ j=>rw [show i + (j + 1)=i + 1 + j by omega];exact g2 j (by simpa using h)
 | .fresh :: r,i,⟨h0,h3⟩=>by
  obtain ⟨g1,g2⟩:=wkB_ok h3
  refine ⟨fun j cs f h=>?_,fun j h=>?_⟩
  ·cases j with
   | zero=>simp at h
   | succ j =>
    obtain ⟨q1,q2,q3⟩:=g1 j cs f (by simpa using h)
    refine ⟨by rw [show i + (j + 1)=i + 1 + j by omega];exact q1,q2,fun k hk hkl e=>?_⟩
    refine q3 (k - 1) (by omega) (by simp at hkl;omega) ?_
    rw [show i + 1 + j=i + (j + 1) by omega,show i + 1 + (k - 1)=i + k by omega];exact e
  ·cases j with
   | zero=>exact h0
   | succ j=>rw [show i + (j + 1)=i + 1 + j by omega];exact g2 j (by simpa using h)
 | .dead :: r,i,h3=>by
  obtain ⟨g1,g2⟩:=wkB_ok (l:=r) h3
  refine ⟨fun j cs f h=>?_,fun j h=>?_⟩
  ·cases j with
   | zero=>simp at h
   | succ j =>
    obtain ⟨q1,q2,q3⟩:=g1 j cs f (by simpa using h)
    refine ⟨by rw [show i + (j + 1)=i + 1 + j by omega];exact q1,q2,fun k hk hkl e=>?_⟩
    refine q3 (k - 1) (by omega) (by simp at hkl;omega) ?_
    rw [show i + 1 + j=i + (j + 1) by omega,show i + 1 + (k - 1)=i + k by omega];exact e
  ·cases j with
   | zero=>simp at h
   | succ j=>rw [show i + (j + 1)=i + 1 + j by omega];exact g2 j (by simpa using h)
mutual
theorem idlt_up {n:Nat}:∀ v:V,v.idlt 0=true→v.idlt n=true
 | .lit _,_=>rfl
 | .agg cs,h=>idltL_up cs h
 | .tup cs,h=>idltL_up cs h
 | .sl _ _,_=>rfl
 | .osl _ _ _ _ _,h=>by simp [V.idlt] at h
 | .ptr _ _,h=>by simp [V.idlt] at h
 | .eptr _,_=>rfl
 | .clo _ cs,h=>idltL_up cs h
 | .any,_=>rfl
theorem idltL_up {n:Nat}:∀ l:List V,V.idlt.belowL 0 l=true→V.idlt.belowL n l=true
 | [],_=>rfl
 | v :: l,h=>by
  simp only [V.idlt.belowL,Bool.and_eq_true] at h ⊢
  exact ⟨idlt_up v h.1,idltL_up l h.2⟩
end
mutual
theorem ren_id {sg:List Nat}:∀ v:V,v.idlt 0=true→v.ren sg=v
 | .lit _,_=>rfl
 | .agg cs,h=>by rw [V.ren,renL_id cs h]
 | .tup cs,h=>by rw [V.ren,renL_id cs h]
 | .sl _ _,_=>rfl
 | .osl _ _ _ _ _,h=>by simp [V.idlt] at h
 | .ptr _ _,h=>by simp [V.idlt] at h
 | .eptr _,_=>rfl
 | .clo _ cs,h=>by rw [V.ren,renL_id cs h]
 | .any,_=>rfl
theorem renL_id {sg:List Nat}:∀ l:List V,V.idlt.belowL 0 l=true→V.ren.renL sg l=l
 | [],_=>rfl
 | v :: l,h=>by
  simp only [V.idlt.belowL,Bool.and_eq_true] at h
  rw [V.ren.renL,ren_id v h.1,renL_id l h.2]
end
theorem wkB_live0 {n i f:Nat} {sg:List Nat} {st r:List Slot} {cs:List V} (h0:st[sgm sg i]?=some (Slot.live cs f)) (h:V.idlt.belowL 0 cs=true) (hd:((List.range r.length).all fun k=>sgm sg i != sgm sg (i + 1 + k))=true) (t:wkB n sg st (i + 1) r):wkB n sg st i (.live cs f :: r) :=
 ⟨⟨by rw [renL_id _ h];exact h0,idltL_up _ h,hd⟩,t⟩
mutual
theorem ren_nil:∀ v:V,v.ren []=v
 | .lit _=>rfl
 | .agg cs=>by rw [V.ren,renL_nil cs]
 | .tup cs=>by rw [V.ren,renL_nil cs]
 | .sl _ _=>rfl
 | .osl _ _ _ _ _=>rfl
 | .ptr _ _=>rfl
 | .eptr _=>rfl
 | .clo _ cs=>by rw [V.ren,renL_nil cs]
 | .any=>rfl
theorem renL_nil:∀ l:List V,V.ren.renL [] l=l
 | []=>rfl
 | v :: l=>by rw [V.ren.renL,ren_nil v,renL_nil l]
end
theorem w_loop {a:ACode} (car junk:List Nat) (J:Nat→List V→List Slot→Prop) (n1 k0:Nat) (sg0:List Nat) (vals0:List V) {st0:List Slot} (hwk:Wk n0 k0 sg0 fr (setF (maskF junk fr) car vals0) st st0) (h0:J n1 vals0 st0)
  (hr:∀ n vals st,J n vals st→AW P n0 a (loopQ n0 (fun n fr' st=>∃ vals,J n vals st∧fr'=setF (maskF junk fr) car vals) n Q) (setF (maskF junk fr) car vals) st):AW P n0 (.loop a) Q fr st :=
 ⟨0,fun n fr' st=>∃ vals,J n vals st∧fr'=setF (maskF junk fr) car vals,n1,k0,sg0,_,st0,hwk,⟨vals0,h0,rfl⟩,fun n fr' st ⟨vals,hJ,e⟩=>e ▸ hr n vals st hJ⟩
end
end Go.Proofs.YthnihifblmnkdaaGreat

