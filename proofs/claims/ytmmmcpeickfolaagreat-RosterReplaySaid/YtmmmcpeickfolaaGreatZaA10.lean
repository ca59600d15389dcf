/- A part of the proof: 6 texts joined. -/
import Derived.Test.YtmmmcpeickfolaaGreatZaA9
import Derived.Test.YtmmmcpeickfolaaGreatZaA4
import Derived.Test.YtmmmcpeickfolaaGreatZaA1
import Derived.KernelRfl
import Derived.HandedShaped
import Derived.Shelf.Vars
import Derived.Lib.SmallJoins
import Derived.Deep.Slices
import Derived.ProofKit
import Derived.Test.YtmmmcpeickfolaaGreatChecked
set_option linter.all false
namespace Go.Proofs.YtmmmcpeickfolaaGreat
open Go.RowKit
def kindsOf (P:Program):Nat→TypeId→Option (List Nat)
 | 0,_=>none
 | d + 1,t=>match P.underlying t with
  | some .bool=>some [0]
  | some (.int _)=>some [1]
  | some .string=>some [2]
  | some (.struct fs)=>(fs.toList.mapM fun f=>kindsOf P d f.type).map List.flatten
  | some (.array n e)=>(kindsOf P d e).map fun ks=>(List.replicate n ks).flatten
  | _=>none
def placesOf (P:Program) (t:TypeId):Option (Nat→Option (Nat × Nat)) :=
 match P.underlying t with
 | some (.array _ e)=>(P.info? e).map fun ie=>fun i=>some (i * ie.size,ie.size)
 | some (.struct fields)=>(fields.toList.mapM fun f=>(P.info? f.type).map fun i=>(f.offset,i.size)).map fun places=>(places.toArray[·]?)
 | _=>none
def strOrSl (P:Program) (t:TypeId):Bool:=match P.underlying t with
 | some (.slice _)=>true
 | some .string=>true
 | _=>false
theorem strOrSl_ok {P:Program} {t:TypeId} (h:strOrSl P t=true):(∃ e',P.underlying t=some (.slice e'))∨P.underlying t=some .string:=by
 unfold strOrSl at h
 split at h
 ·exact .inl ⟨_,‹_›⟩
 ·exact .inr ‹_›
 ·cases h
def compOp (P:Program):Op→Option AOp
 | .move x | .assign x=>some (.mv x)
 | .pick c a b=>some (.pick c a b)
 | .load t x=>match P.underlying t,P.info? t with
  | some d,some i=>some (.ld i.size (isAggD d) x)
  | _,_=>none
 | .store t a x=>match P.info? t with
  | some i=>some (.st i.size a x)
  | none=>none
 | .alloc t=>match P.info? t with
  | some i=>match i.zero with
   | some z=>some (.al (V.ofValue z))
   | none=>none
  | none=>none
 | .box _ x=>some (.bx x)
 | .nilCheck x=>some (.nc x)
 | .binOp .eql t x y _=>match P.underlying t with
  | some .bool=>some (.binb false x y)
  | some (.pointer e)=>if e=P.pointee t then some (.eqp false x y) else none
  | some (.struct _)=>match kindsOf P 10 t with
   | some ks=>if eqTy P 10 t ks=true∧isAggT P t=true∧P.eqGuardType P.depth t=false∧P.cellsOf t=ks.length then some (.eqa false ks x y) else none
   | none=>none
  | some (.array _ _)=>match kindsOf P 10 t with
   | some ks=>if eqTy P 10 t ks=true∧isAggT P t=true∧P.eqGuardType P.depth t=false∧P.cellsOf t=ks.length then some (.eqa false ks x y) else none
   | none=>none
  | _=>some (.bin .eql x y)
 | .binOp .neq t x y _=>match P.underlying t with
  | some .bool=>some (.binb true x y)
  | some (.pointer e)=>if e=P.pointee t then some (.eqp true x y) else none
  | some (.struct _)=>match kindsOf P 10 t with
   | some ks=>if eqTy P 10 t ks=true∧isAggT P t=true∧P.eqGuardType P.depth t=false∧P.cellsOf t=ks.length then some (.eqa true ks x y) else none
   | none=>none
  | some (.array _ _)=>match kindsOf P 10 t with
   | some ks=>if eqTy P 10 t ks=true∧isAggT P t=true∧P.eqGuardType P.depth t=false∧P.cellsOf t=ks.length then some (.eqa true ks x y) else none
   | none=>none
  | _=>some (.bin .neq x y)
 | .binOp op _ x y _=>some (.bin op x y)
 | .unOp op _ x=>some (.un op x)
 | .convert s d x=>match P.underlying s,P.underlying d with
  | some (.int _),some (.int k)=>some (.cvi k x)
  | some .string,some .string=>some (.cvs x)
  | some .string,some (.slice e)=>match P.underlying e with
   | some (.int .u8)=>some (.s2b x)
   | _=>none
  | some (.slice e),some .string=>match P.underlying e with
   | some (.int .u8)=>some (.b2s x)
   | _=>none
  | _,_=>none
 | .fieldAddr t x n=>match P.underlying t with
  | some (.struct fs)=>match fs[n]? with
   | some f=>match P.info? f.type with
    | some i=>if i.size≠0 then some (.fa f.offset x) else none
    | none=>none
   | none=>none
  | _=>none
 | .field t x n=>match P.underlying t with
  | some (.struct fs)=>match fs[n]? with
   | some f=>match P.info? f.type,P.underlying f.type with
    | some i,some d=>some (.fd f.offset i.size (isAggD d) x)
    | _,_=>none
   | none=>none
  | _=>none
 | .indexAddr t x ix=>match P.underlying t with
  | some (.slice e)=>match P.info? e with
   | some i=>some (.ixs i.size x ix)
   | none=>none
  | some (.array len e)=>match P.info? e with
   | some i=>some (.ixa len i.size x ix)
   | none=>none
  | _=>none
 | .index t x ix=>match P.underlying t with
  | some .string=>some (.ixt x ix)
  | some (.array len e)=>match P.info? e,P.underlying e with
   | some i,some d=>some (.ixg len i.size (isAggD d) x ix)
   | _,_=>none
  | _=>none
 | .slice t x lo hi mx=>match P.underlying t with
  | some .string=>match mx with
   | none=>some (.slt x lo hi)
   | some _=>none
  | some (.slice e)=>match P.info? e with
   | some i=>some (.sls i.size x lo hi mx)
   | none=>none
  | _=>none
 | .extract x i=>some (.ex x i)
 | .build t parts=>match placesOf P t,P.info? t with
  | some pl,some i=>match i.zero with
   | some z=>match V.ofValue z,parts.toList.mapM (fun p=>(pl p.1).map fun q=>(q.1,q.2,p.2)) with
    | .agg zs,some ps=>some (.bd zs ps)
    | _,_=>none
   | none=>none
  | _,_=>none
 | .buildSlice t len parts=>match P.underlying t with
  | some (.slice e)=>match P.info? e with
   | some i=>match i.zero with
    | some z=>if len * i.size≠0∧z.cells.size=i.size∧len * i.size≤1000∧(V.ofValue z).stb=true then some (.bs i.size len ((List.range (len * i.size)).map fun k=>(V.ofValue z).cells.getD (k % i.size) .any) parts.toList) else none
    | none=>none
   | none=>none
  | _=>none
 | .makeSlice t n c=>match P.underlying t with
  | some (.slice e)=>match P.info? e with
   | some i=>match i.zero with
    | some z=>if i.size≠0∧z.cells.size=i.size∧(V.ofValue z).stb=true then some (.mks i.size i.bytes (V.ofValue z).cells n c) else none
    | none=>none
   | none=>none
  | _=>none
 | .makeFunc fn first caps=>match first.toList with
  | []=>if yldF fn=false then some (.mf fn caps.toList) else none
  | _=>match fn with
   | .func g=>match caps.toList with
    | []=>some (.mf (.yield g) first.toList)
    | _=>none
   | _=>none
 | .call c=>match c.callee with
  | .value (.func f)=>match P.funcs[f]? with
   | some fn=>if fn.body.isSome=true∧(fn.name == "runtime.NumGoroutine")=false then some (.cl f c.args.toList) else none
   | none=>none
  | .value f=>some (.cv f c.args.toList)
  | .builtin .len=>match c.args.toList,c.argTypes.toList with
   | [x],[t]=>match P.underlying t with
    | some .string=>some (.lent x)
    | some (.slice _)=>some (.lens x)
    | _=>none
   | _,_=>none
  | .builtin .clear=>match c.args.toList,c.argTypes.toList with
   | [x],[t]=>match P.underlying t with
    | some (.slice e)=>match P.info? e with
     | some i=>match i.zero with
      | some z=>if z.cells.size=i.size∧z.cells.toList.all (·.oneCell')=true then some (.clr i.size x) else none
      | none=>none
     | none=>none
    | _=>none
   | _,_=>none
  | .builtin .min=>match c.args.toList with
   | [x,y]=>some (.mn false x y)
   | _=>none
  | .builtin .max=>match c.args.toList with
   | [x,y]=>some (.mn true x y)
   | _=>none
  | .builtin .append=>match c.args.toList,c.argTypes.toList with
   | [s,x],[t,t']=>if strOrSl P t'=true then match P.underlying t with
    | some (.slice e)=>match P.info? e with
     | some i=>match i.zero with
      | some z=>if z.cells.size=i.size∧i.size≠0 then some (.ap i.size i.bytes s x) else none
      | none=>none
     | none=>none
    | _=>none
    else none
   | _,_=>none
  | _=>none
 | _=>none
theorem toList_nil {α:Type} {a:Array α} (h:a.toList=[]):a=#[]:=by apply Array.ext';rw [h]
theorem toList_one {α:Type} {a:Array α} {x:α} (h:a.toList=[x]):a=#[x]:=by apply Array.ext';rw [h]
theorem toList_two {α:Type} {a:Array α} {x y:α} (h:a.toList=[x,y]):a=#[x,y]:=by apply Array.ext';rw [h]
theorem placesOf_ok {P:Program} {t:TypeId} {pl:Nat→Option (Nat × Nat)} {i:TypeInfo} {z:Value} (h:placesOf P t=some pl) (hi:P.info? t=some i) (hz:i.zero=some z) (l:List (Nat × Value)):P.built t l=Instr.fill pl z.cells l:=by
 unfold placesOf at h
 unfold Program.built
 rw [hi]
 split at h
 ·rename_i n e hu
  simp only [Option.map_eq_some_iff] at h
  obtain ⟨ie,h1,rfl⟩:=h
  simp only [hu,hz,h1]
 ·rename_i fields hu
  simp only [Option.map_eq_some_iff] at h
  obtain ⟨ps,h1,rfl⟩:=h
  simp only [hu,hz,h1]
 ·cases h
theorem compOp_ok {P:Program} {op:Op} {ao:AOp} (ty:TypeId) (h:compOp P op=some ao):Cop P op ty ao:=by
 unfold compOp at h
 split at h <;> (try simp only [reduceCtorEq] at h)
 all_goals (repeat' (split at h)) <;> (try simp only [reduceCtorEq,Option.some.injEq] at h) <;> (try subst h)
 all_goals first
  | exact .mv _
  | exact .as _
  | exact .pick _ _ _
  | exact .ld ‹_› ‹_›
  | exact .st ‹_›
  | exact .al ‹_› ‹_›
  | exact .bx
  | exact .nc
  | exact .binb (neg:=false) ‹_›
  | exact .binb (neg:=true) ‹_›
  | (rename_i hd hh;subst hh;exact .eqp (neg:=false) hd)
  | (rename_i hd hh;subst hh;exact .eqp (neg:=true) hd)
  | (rename_i hh;exact .eqa (neg:=false) hh.1 (by decide) hh.2.1 hh.2.2.1 hh.2.2.2)
  | (rename_i hh;exact .eqa (neg:=true) hh.1 (by decide) hh.2.1 hh.2.2.1 hh.2.2.2)
  | exact .bin
  | exact .un
  | exact .cvi ‹_› ‹_›
  | exact .cvs ‹_› ‹_›
  | exact .s2b ‹_› ‹_› ‹_›
  | exact .b2s ‹_› ‹_› ‹_›
  | exact .fa ‹_› ‹_› ‹_› ‹_›
  | exact .fd ‹_› ‹_› ‹_› ‹_›
  | exact .ixs ‹_› ‹_›
  | exact .ixa ‹_› ‹_›
  | exact .ixg ‹_› ‹_› ‹_›
  | exact .ixt ‹_›
  | exact .slt ‹_›
  | exact .sls ‹_› ‹_›
  | exact .ex
  | exact .bd _ (placesOf_ok ‹_› ‹_› ‹_›) ‹_› ‹_› ‹_› ‹_›
  | (rename_i hh;exact .bs ‹_› ‹_› ‹_› hh.1 hh.2.1 hh.2.2.1 hh.2.2.2)
  | (rename_i hh hv;rw [toList_nil hh];exact .mf hv)
  | (rename_i hh;rw [toList_nil hh];exact .mfb)
  | (rename_i c _ f hc _ fn hfn hh;obtain ⟨cal,args,tys⟩:=c;simp only at hc;subst hc;exact .cl hfn hh.1 hh.2)
  | (rename_i c _ f _ hc;obtain ⟨cal,args,tys⟩:=c;simp only at hc;subst hc;exact .cv)
  | (rename_i c _ hc _ _ x t h1 h2 _ hd;obtain ⟨cal,args,tys⟩:=c;simp only at hc h1 h2;subst hc;rw [toList_one h1,toList_one h2];exact .lenT hd)
  | (rename_i c _ hc _ _ x t h1 h2 _ e hd;obtain ⟨cal,args,tys⟩:=c;simp only at hc h1 h2;subst hc;rw [toList_one h1,toList_one h2];exact .lenS hd)
  | (rename_i c _ hc _ _ x t h1 h2 _ e hd _ i hi _ z hz hh;obtain ⟨cal,args,tys⟩:=c;simp only at hc h1 h2;subst hc;rw [toList_one h1,toList_one h2];exact .clr hd hi hz hh.1 hh.2)
  | (rename_i hh;exact .mks ‹_› ‹_› ‹_› hh.1 hh.2.1 hh.2.2)
  | (rename_i c _ hc _ x y h1;obtain ⟨cal,args,tys⟩:=c;simp only at hc h1;subst hc;rw [toList_two h1];exact .mn (mx:=false))
  | (rename_i c _ hc _ x y h1;obtain ⟨cal,args,tys⟩:=c;simp only at hc h1;subst hc;rw [toList_two h1];exact .mn (mx:=true))
  | (rename_i c _ hc _ _ s x t t' h1 h2 htt _ e hd _ i hi _ z hz hh;obtain ⟨cal,args,tys⟩:=c;simp only at hc h1 h2;subst hc;rw [toList_two h1,toList_two h2];exact .ap hd hi hz hh.1 hh.2 (strOrSl_ok htt))
def compG (ops:Array Oper):Option (Nat × Bool)→Option (Option (Nat × Bool))
 | none=>some none
 | some (j,w)=>match (ops[j]?).bind (·.dst) with
  | some d=>some (some (d,w))
  | none=>none
def AOp.makes:AOp→Bool
 | .al .. | .bx .. | .bs .. | .s2b .. | .ap .. | .mks ..=>true
 | _=>false
def compOps (P:Program) (ops:Array Oper):List Oper→Nat→Option (List AOper × Nat)
 | [],c=>some ([],c)
 | o :: os,c=>match compOp P o.op,compG ops o.guard with
  | some ao,some g=>match compOps P ops os (if ao.makes then c + 1 else c) with
   | some (l,n)=>some (⟨o.dst,ao,g,c⟩ :: l,n)
   | none=>none
  | _,_=>none
theorem compOps_ok {P:Program} {ops:Array Oper}:∀ {os:List Oper} {c n:Nat} {l:List AOper},compOps P ops os c=some (l,n)→os.length=l.length∧∀ j (h:j < l.length) (o:Oper),os[j]?=some o→MatchOp P ops o l[j]
 | [],c,n,l,h=>by
  simp only [compOps,Option.some.injEq,Prod.mk.injEq] at h
  obtain ⟨rfl,_⟩:=h
  exact ⟨rfl,fun j h=>absurd h (Nat.not_lt_zero _)⟩
 | o :: os,c,n,l,h=>by
  simp only [compOps] at h
  split at h
  ·rename_i ao g h1 h2
   split at h
   ·rename_i l' n' h3
    simp only [Option.some.injEq,Prod.mk.injEq] at h
    obtain ⟨rfl,rfl⟩:=h
    obtain ⟨g1,g2⟩:=compOps_ok h3
    refine ⟨by simp [g1],fun j hj o' ho'=>?_⟩
    cases j with
    | zero =>
     simp only [List.getElem?_cons_zero,Option.some.injEq] at ho'
     subst ho'
     refine ⟨compOp_ok _ h1,rfl,?_⟩
     simp only [List.getElem_cons_zero]
     unfold compG at h2
     split at h2
     ·simp only [Option.some.injEq] at h2
      subst h2
      rename_i e
      rw [e];trivial
     ·rename_i j w e
      split at h2
      ·rename_i d hd
       simp only [Option.some.injEq] at h2
       subst h2
       rw [e]
       exact ⟨rfl,hd⟩
      ·cases h2
    | succ j=>exact g2 j (by simpa using hj) o' (by simpa using ho')
   ·cases h
  ·cases h
def uni (a b:List Nat):List Nat:=b.foldl (fun r x=>if r.contains x then r else x :: r) a
def befOf:List Oper→List (List Nat)→List (List Nat)
 | [],acc=>acc
 | o :: os,acc=>befOf os (acc++[o.after.toList.foldl (fun s e=>if Region.binds .any e then uni s (e.on :: acc.getD e.on []) else s) []])
def apartB (x y:AOper):Bool :=
 (match x.dst with | some d=>!y.names.contains d && y.dst != some d | none=>true) && (match y.dst with | some d=>!x.names.contains d | none=>true)
def dstB (x y:AOper):Bool:=match x.dst with | some d=>y.dst != some d | none=>true
def regB (ops:List Oper) (aos:List AOper) (bef:List (List Nat)):Bool :=
 (ops.zipIdx.all fun x=>x.1.after.toList.all fun e=>!Region.binds .any e || decide (e.on < x.2)) &&
 (ops.zipIdx.all fun x=>(bef.getD x.2 []).all fun i=>x.1.after.toList.any fun e=>Region.binds .any e && (e.on == i || (bef.getD e.on []).contains i)) &&
 (aos.zipIdx.all fun y=>aos.zipIdx.all fun x=>!decide (x.2 < y.2) || ((bef.getD y.2 []).contains x.2 || apartB x.1 y.1)) &&
 (aos.zipIdx.all fun y=>aos.zipIdx.all fun x=>x.2 == y.2 || dstB x.1 y.1)
theorem mem_zip {α:Type} {l:List α} {i:Nat} (h:i < l.length):(l[i],i) ∈ l.zipIdx:=by
 rw [List.mem_zipIdx_iff_getElem?];simp [h]
theorem regB_ok {ops:Array Oper} {aos:List AOper} {bef:List (List Nat)} (h:regB ops.toList aos bef=true):RegOK ops aos bef:=by
 simp only [regB,Bool.and_eq_true,List.all_eq_true] at h
 obtain ⟨⟨⟨h1,h2⟩,h3⟩,h4⟩:=h
 have hmem:∀ j o,ops[j]?=some o→(o,j) ∈ ops.toList.zipIdx:=by
  intro j o ho
  rw [List.mem_zipIdx_iff_getElem?]
  simpa using ho
 refine ⟨fun j o ho e he hb=>?_,fun j o ho i hi=>?_,fun i j hi hj hij=>?_,fun i j hi hj hij d hd=>?_⟩
 ·have:=h1 _ (hmem j o ho) e (Array.mem_toList_iff.2 he)
  simpa [hb] using this
 ·have:=h2 _ (hmem j o ho) i hi
  simp only [List.any_eq_true,Bool.and_eq_true,Bool.or_eq_true,beq_iff_eq,List.contains_eq_mem,decide_eq_true_eq] at this
  obtain ⟨e,he,hb,hc⟩:=this
  exact ⟨e,Array.mem_toList_iff.1 he,hb,hc⟩
 ·have:=h3 _ (mem_zip hj) _ (mem_zip hi)
  simp only [hij,decide_true,Bool.not_true,Bool.false_or,Bool.or_eq_true,List.contains_eq_mem,decide_eq_true_eq] at this
  rcases this with g | g
  ·exact .inl g
  ·refine .inr ⟨fun d hd=>?_,fun d hd=>?_⟩
   ·simp only [apartB,hd,Bool.and_eq_true,Bool.not_eq_true',List.contains_eq_mem,decide_eq_false_iff_not] at g
    exact g.1.1
   ·simp only [apartB,hd,Bool.and_eq_true,Bool.not_eq_true',List.contains_eq_mem,decide_eq_false_iff_not] at g
    exact g.2
 ·have:=h4 _ (mem_zip hj) _ (mem_zip hi)
  simp only [Bool.or_eq_true,beq_iff_eq] at this
  rcases this with g | g
  ·exact absurd g hij
  ·simp only [dstB,hd,bne_iff_ne,ne_eq] at g
   exact g
def comp (P:Program):Code→Option ACode
 | .skip | .label _=>some .skip
 | .region id ops draw=>match compOps P ops ops.toList 0 with
  | some (aos,nc)=>if draw=true then (let bef:=befOf ops.toList [];if regB ops.toList aos bef=true then some (.reg nc aos (some bef)) else some (.raw (.region id ops draw))) else some (.reg nc aos none)
  | none=>some (.raw (.region id ops draw))
 | .seq a b=>match comp P a,comp P b with
  | some x,some y=>some (.seq x y)
  | _,_=>none
 | .cond c a b=>match comp P a,comp P b with
  | some x,some y=>some (.cond c x y)
  | _,_=>none
 | .block id a=>match comp P a with
  | some x=>some (.block id x)
  | none=>none
 | .loop a=>match comp P a with
  | some x=>some (.loop x)
  | none=>none
 | .scope a=>comp P a
 | .exit id=>some (.exit id)
 | .ret=>some .ret
 | .rangeFunc f ps a b=>some (.raw (.rangeFunc f ps a b))
 | _=>none
theorem comp_ok {P:Program}:∀ {c:Code} {ac:ACode},comp P c=some ac→MatchC P c ac:=by
 intro c
 induction c with
 | skip=>intro ac h;simp only [comp,Option.some.injEq] at h;subst h;exact .skip
 | label=>intro ac h;simp only [comp,Option.some.injEq] at h;subst h;exact .label
 | region id ops draw =>
  intro ac h
  simp only [comp] at h
  split at h
  ·rename_i aos nc h1
   obtain ⟨g1,g2⟩:=compOps_ok h1
   have g2' : ∀ j (h:j < aos.length) (o:Oper),ops[j]?=some o→MatchOp P ops o aos[j]:=fun j h o ho=>g2 j h o (by simpa using ho)
   have g1' : ops.size=aos.length:=by simpa using g1
   cases draw with
   | true =>
    simp only [if_true] at h
    split at h
    ·rename_i hr
     simp only [Option.some.injEq] at h
     subst h
     exact .regD g1' g2' (regB_ok hr)
    ·simp only [Option.some.injEq] at h
     subst h
     exact .raw
   | false =>
    simp only [Bool.false_eq_true,if_false,Option.some.injEq] at h
    subst h
    exact .regT g1' g2'
  ·simp only [Option.some.injEq] at h
   subst h
   exact .raw
 | seq a b ih1 ih2 =>
  intro ac h
  simp only [comp] at h
  split at h
  ·simp only [Option.some.injEq] at h;subst h;exact .seq (ih1 ‹_›) (ih2 ‹_›)
  ·cases h
 | cond c a b ih1 ih2 =>
  intro ac h
  simp only [comp] at h
  split at h
  ·simp only [Option.some.injEq] at h;subst h;exact .cond (ih1 ‹_›) (ih2 ‹_›)
  ·cases h
 | block id a ih =>
  intro ac h
  simp only [comp] at h
  split at h
  ·simp only [Option.some.injEq] at h;subst h;exact .block (ih ‹_›)
  ·cases h
 | loop a ih =>
  intro ac h
  simp only [comp] at h
  split at h
  ·simp only [Option.some.injEq] at h;subst h;exact .loop (ih ‹_›)
  ·cases h
 | scope a ih=>intro ac h;exact .scope (ih h)
 | exit=>intro ac h;simp only [comp,Option.some.injEq] at h;subst h;exact .exit
 | ret=>intro ac h;simp only [comp,Option.some.injEq] at h;subst h;exact .ret
 | rangeFunc=>intro ac h;simp only [comp,Option.some.injEq] at h;subst h;exact .raw
 | _=>intro ac h;simp [comp] at h
def compR (P:Program):List ResultVar→Option (List ARes)
 | []=>some []
 | .tmp t :: rs=>match compR P rs with
  | some l=>some (.tmp t :: l)
  | none=>none
 | .cell a t :: rs=>match compR P rs,P.underlying t,P.info? t with
  | some l,some d,some i=>some (.cell a i.size (isAggD d) :: l)
  | _,_,_=>none
theorem compR_ok {P:Program}:∀ {rs:List ResultVar} {l:List ARes},compR P rs=some l→MatchRL P rs l
 | [],l,h=>by simp only [compR,Option.some.injEq] at h;subst h;exact .nil
 | .tmp t :: rs,l,h=>by
  simp only [compR] at h
  split at h
  ·simp only [Option.some.injEq] at h;subst h;exact .cons .tmp (compR_ok ‹_›)
  ·cases h
 | .cell a t :: rs,l,h=>by
  simp only [compR] at h
  split at h
  ·simp only [Option.some.injEq] at h;subst h;exact .cons (.cell ‹_› ‹_›) (compR_ok ‹_›)
  ·cases h
def compF (P:Program) (fn:Func):Option (ACode × Nat × List ARes) :=
 match fn.body with
 | some c=>match comp P c,compR P fn.results.toList with
  | some ac,some rs=>some (ac,fn.ntmps,rs)
  | _,_=>none
 | none=>none
theorem callsV_comp {P:Program} {f:FuncId} {fn:Func} {ac:ACode} {n:Nat} {rs:List ARes} {args:List V} {v:V} (hmix:P.follows .mixedOrders=true) (hf:P.funcs[f]?=some fn) (hc:compF P fn=some (ac,n,rs))
  (h:AW P 0 ac (Fin rs v) (args++List.replicate (n - args.length) (.tup [])) []):CallsV P f args v:=by
 unfold compF at hc
 split at hc
 ·rename_i c hb
  split at hc
  ·simp only [Option.some.injEq,Prod.mk.injEq] at hc
   obtain ⟨rfl,rfl,rfl⟩:=hc
   exact callsV_of hmix hf hb (comp_ok ‹_›) rfl (compR_ok ‹_›) h
  ·cases hc
 ·cases hc
end Go.Proofs.YtmmmcpeickfolaaGreat

namespace Go.Proofs.YtmmmcpeickfolaaGreat
open Go.RowKit
section
variable {P : Program} {n0 : Nat} {base c : Nat} {os : List AOper} {fp : List (List Nat × List Nat)} {fr : List V} {st : List Slot} {K : List (List Nat × List Nat) → List V → List Slot → Prop} {Q : AExit → List V → List Slot → Prop} {d : Option Nat} {g : Option (Nat × Bool)} {x y z : Operand}
theorem set_getD {fr:List V} {t:Nat} {v:V} (h:fr.getD t .any=v):fr.set t v=fr:=by
 apply List.ext_getElem?
 intro i
 rw [List.getElem?_set]
 split
 ·rename_i e
  subst e
  split
  ·rename_i hl
   have:fr.getD t .any=fr[t]:=by simp [List.getD,hl]
   rw [List.getElem?_eq_getElem hl,← h,this]
  ·rename_i hl;rw [List.getElem?_eq_none (by omega)]
 ·rfl
theorem wrap_ok {a:Int} (h:-9223372036854775808≤a∧a≤9223372036854775807):IntKind.i64.wrap a=a:=IntWalk.i64_in _ (by omega)
theorem fza_id {st:List Slot}:∀ {vs:List V},V.idlt.belowL 0 vs=true→FzA st vs vs []
 | [],_=>.nil
 | v :: vs,h=>by
  simp only [V.idlt.belowL,Bool.and_eq_true] at h
  exact .cons (r:=[]) (.c (.id h.1)) (fza_id h.2)
def cellsM {α:Type} (f:α→V) (l:List α):List V:=l.flatMap fun a=>(f a).cells
theorem cellsM_len {α:Type} {f:α→V} {es:Nat} (h:∀ a,(f a).cells.length=es) (l:List α):(cellsM f l).length=l.length * es:=by
 unfold cellsM
 rw [List.length_flatMap]
 simp only [h,List.map_const']
 simp
theorem cellsM_map {α:Type} (f:α→V) (l:List α):(l.map f).flatMap V.cells=cellsM f l:=by
 unfold cellsM;rw [List.flatMap_map]
theorem belowL_mem {n:Nat}:∀ {l:List V},(∀ v ∈ l,v.idlt n=true)→V.idlt.belowL n l=true
 | [],_=>rfl
 | v :: l,h=>by simp only [V.idlt.belowL,Bool.and_eq_true];exact ⟨h v (by simp),belowL_mem fun u hu=>h u (by simp [hu])⟩
theorem mem_belowL {n:Nat}:∀ {l:List V},V.idlt.belowL n l=true→∀ v ∈ l,v.idlt n=true
 | v :: l,h,u,hu=>by
  simp only [V.idlt.belowL,Bool.and_eq_true] at h
  rcases List.mem_cons.1 hu with rfl | hu
  ·exact h.1
  ·exact mem_belowL h.2 u hu
theorem cellsM_idlt {α:Type} {f:α→V} {n:Nat} (h:∀ a,V.idlt.belowL n (f a).cells=true) (l:List α):V.idlt.belowL n (cellsM f l)=true :=
 belowL_mem fun v hv=>by
  obtain ⟨a,_,ha⟩:=List.mem_flatMap.1 hv
  exact mem_belowL (h a) v ha
theorem fzc_made {α:Type} {f:α→V} {l:List α} {i n es frz:Nat} {full:Bool} {cs:List V} (hi:st[i]?=some (.live cs frz)) (hc:cs=cellsM f l) (hf:frz=cs.length) (hn:n=l.length) (hes:∀ a,(f a).cells.length=es) (h0:∀ a,V.idlt.belowL 0 (f a).cells=true):FzC st (.osl i 0 n es full) (.sl (l.map f) false) [i]:=by
 subst hc hf hn
 have hl:=cellsM_len hes l
 refine .osl (fun e=>by cases e) hi (by omega) (by omega) (by simp) (fun x hx=>?_) ?_ ?_
 ·obtain ⟨a,_,rfl⟩:=List.mem_map.1 hx;exact hes a
 ·rw [List.drop_zero,← hl,List.take_length,cellsM_map]
 ·rw [cellsM_map];exact cellsM_idlt h0 l
def loopQ (n0:Nat) (I:Nat→List V→List Slot→Prop) (n:Nat) (Q:AExit→List V→List Slot→Prop):AExit→List V→List Slot→Prop :=
 fun e fr' st'=>match e with | .normal=>∃ n' k sg fr'' st'',n' < n∧Wk n0 k sg fr' fr'' st' st''∧I n' fr'' st'' | e=>Q e fr' st'
def maskF:List Nat→List V→List V
 | [],fr=>fr
 | t :: ts,fr=>maskF ts (fr.set t .any)
def setF:List V→List Nat→List V→List V
 | fr,t :: ts,v :: vs=>setF (fr.set t v) ts vs
 | fr,_,_=>fr
def wkS (n:Nat):List Slot→Prop
 | []=>True
 | .live cs _ :: r=>V.idlt.belowL n cs=true∧wkS n r
 | _ :: r=>wkS n r
def wkB (n:Nat) (sg:List Nat) (st:List Slot):Nat→List Slot→Prop
 | _,[]=>True
 | i,.live cs f :: r=>(st[sgm sg i]?=some (Slot.live (V.ren.renL sg cs) f)∧V.idlt.belowL n cs=true∧((List.range r.length).all fun k=>sgm sg i != sgm sg (i + 1 + k))=true)∧wkB n sg st (i + 1) r
 | i,.fresh :: r=>st[sgm sg i]?=some Slot.fresh∧wkB n sg st (i + 1) r
 | i,.dead :: r=>wkB n sg st (i + 1) r
theorem wkS_ok {n:Nat}:∀ {l:List Slot},wkS n l→∀ (i:Nat) (cs:List V) (frz:Nat),l[i]?=some (Slot.live cs frz)→V.idlt.belowL n cs=true
 | [],_,i,cs,f,h=>by simp at h
 | .live c g :: r,⟨h0,h1⟩,0,cs,f,h=>by simp at h;rw [← h.1];exact h0
 | .live c g :: r,⟨h0,h1⟩,i + 1,cs,f,h=>wkS_ok h1 i cs f (by simpa using h)
 | .fresh :: r,h1,0,cs,f,h=>by simp at h
 | .fresh :: r,h1,i + 1,cs,f,h=>wkS_ok (l:=r) h1 i cs f (by simpa using h)
 | .dead :: r,h1,0,cs,f,h=>by simp at h
 | .dead :: r,h1,i + 1,cs,f,h=>wkS_ok (l:=r) h1 i cs f (by simpa using h)
theorem wkB_ok {n:Nat} {sg:List Nat} {st:List Slot}:∀ {l:List Slot} {i:Nat},wkB n sg st i l →
  (∀ (j:Nat) (cs:List V) (f:Nat),l[j]?=some (Slot.live cs f)→st[sgm sg (i + j)]?=some (Slot.live (V.ren.renL sg cs) f)∧V.idlt.belowL n cs=true∧∀ k,j < k→k < l.length→sgm sg (i + j)≠sgm sg (i + k))∧(∀ j:Nat,l[j]?=some Slot.fresh→st[sgm sg (i + j)]?=some Slot.fresh)
 | [],i,_=>⟨fun j cs f h=>by simp at h,fun j h=>by simp at h⟩
 | .live c g :: r,i,⟨⟨h0,h1,h2⟩,h3⟩=>by
  obtain ⟨g1,g2⟩:=wkB_ok h3
  refine ⟨fun j cs f h=>?_,fun j h=>?_⟩
  ·cases j with
   | zero =>
    simp only [List.getElem?_cons_zero,Option.some.injEq,Slot.live.injEq] at h
    obtain ⟨rfl,rfl⟩:=h
    refine ⟨h0,h1,fun k hk hkl e=>?_⟩
    simp only [List.all_eq_true,List.mem_range,bne_iff_ne,ne_eq] at h2
    refine h2 (k - 1) (by simp at hkl;omega) ?_
    rw [show i + 1 + (k - 1)=i + k by omega];exact e
   | succ j =>
    obtain ⟨q1,q2,q3⟩:=g1 j cs f (by simpa using h)
    refine ⟨by rw [show i + (j + 1)=i + 1 + j by omega];exact q1,q2,fun k hk hkl e=>?_⟩
    refine q3 (k - 1) (by omega) (by simp at hkl;omega) ?_
    rw [show i + 1 + j=i + (j + 1) by omega,show i + 1 + (k - 1)=i + k by omega];exact e
  ·cases j with
   | zero=>simp at h
   | succ j=>rw [show i + (j + 1)=i + 1 + j by omega];exact g2 j (by simpa using h)
 | .fresh :: r,i,⟨h0,h3⟩=>by
  obtain ⟨g1,g2⟩:=wkB_ok h3
  refine ⟨fun j cs f h=>?_,fun j h=>?_⟩
  ·cases j with
   | zero=>simp at h
   | succ j =>
    obtain ⟨q1,q2,q3⟩:=g1 j cs f (by simpa using h)
    refine ⟨by rw [show i + (j + 1)=i + 1 + j by omega];exact q1,q2,fun k hk hkl e=>?_⟩
    refine q3 (k - 1) (by omega) (by simp at hkl;omega) ?_
    rw [show i + 1 + j=i + (j + 1) by omega,show i + 1 + (k - 1)=i + k by omega];exact e
  ·cases j with
   | zero=>exact h0
   | succ j=>rw [show i + (j + 1)=i + 1 + j by omega];exact g2 j (by simpa using h)
 | .dead :: r,i,h3=>by
  obtain ⟨g1,g2⟩:=wkB_ok (l:=r) h3
  refine ⟨fun j cs f h=>?_,fun j h=>?_⟩
  ·cases j with
   | zero=>simp at h
   | succ j =>
    obtain ⟨q1,q2,q3⟩:=g1 j cs f (by simpa using h)
    refine ⟨by rw [show i + (j + 1)=i + 1 + j by omega];exact q1,q2,fun k hk hkl e=>?_⟩
    refine q3 (k - 1) (by omega) (by simp at hkl;omega) ?_
    rw [show i + 1 + j=i + (j + 1) by omega,show i + 1 + (k - 1)=i + k by omega];exact e
  ·cases j with
   | zero=>simp at h
   | succ j=>rw [show i + (j + 1)=i + 1 + j by omega];exact g2 j (by simpa using h)
mutual
theorem idlt_up {n:Nat}:∀ v:V,v.idlt 0=true→v.idlt n=true
 | .lit _,_=>rfl
 | .agg cs,h=>idltL_up cs h
 | .tup cs,h=>idltL_up cs h
 | .sl _ _,_=>rfl
 | .osl _ _ _ _ _,h=>by simp [V.idlt] at h
 | .ptr _ _,h=>by simp [V.idlt] at h
 | .eptr _,_=>rfl
 | .clo _ cs,h=>idltL_up cs h
 | .any,_=>rfl
theorem idltL_up {n:Nat}:∀ l:List V,V.idlt.belowL 0 l=true→V.idlt.belowL n l=true
 | [],_=>rfl
 | v :: l,h=>by
  simp only [V.idlt.belowL,Bool.and_eq_true] at h ⊢
  exact ⟨idlt_up v h.1,idltL_up l h.2⟩
end
mutual
theorem ren_id {sg:List Nat}:∀ v:V,v.idlt 0=true→v.ren sg=v
 | .lit _,_=>rfl
 | .agg cs,h=>by rw [V.ren,renL_id cs h]
 | .tup cs,h=>by rw [V.ren,renL_id cs h]
 | .sl _ _,_=>rfl
 | .osl _ _ _ _ _,h=>by simp [V.idlt] at h
 | .ptr _ _,h=>by simp [V.idlt] at h
 | .eptr _,_=>rfl
 | .clo _ cs,h=>by rw [V.ren,renL_id cs h]
 | .any,_=>rfl
theorem renL_id {sg:List Nat}:∀ l:List V,V.idlt.belowL 0 l=true→V.ren.renL sg l=l
 | [],_=>rfl
 | v :: l,h=>by
  simp only [V.idlt.belowL,Bool.and_eq_true] at h
  rw [V.ren.renL,ren_id v h.1,renL_id l h.2]
end
theorem wkB_live0 {n i f:Nat} {sg:List Nat} {st r:List Slot} {cs:List V} (h0:st[sgm sg i]?=some (Slot.live cs f)) (h:V.idlt.belowL 0 cs=true) (hd:((List.range r.length).all fun k=>sgm sg i != sgm sg (i + 1 + k))=true) (t:wkB n sg st (i + 1) r):wkB n sg st i (.live cs f :: r) :=
 ⟨⟨by rw [renL_id _ h];exact h0,idltL_up _ h,hd⟩,t⟩
mutual
theorem ren_nil:∀ v:V,v.ren []=v
 | .lit _=>rfl
 | .agg cs=>by rw [V.ren,renL_nil cs]
 | .tup cs=>by rw [V.ren,renL_nil cs]
 | .sl _ _=>rfl
 | .osl _ _ _ _ _=>rfl
 | .ptr _ _=>rfl
 | .eptr _=>rfl
 | .clo _ cs=>by rw [V.ren,renL_nil cs]
 | .any=>rfl
theorem renL_nil:∀ l:List V,V.ren.renL [] l=l
 | []=>rfl
 | v :: l=>by rw [V.ren.renL,ren_nil v,renL_nil l]
end
theorem w_loop {a:ACode} (car junk:List Nat) (J:Nat→List V→List Slot→Prop) (n1 k0:Nat) (sg0:List Nat) (vals0:List V) {st0:List Slot} (hwk:Wk n0 k0 sg0 fr (setF (maskF junk fr) car vals0) st st0) (h0:J n1 vals0 st0)
  (hr:∀ n vals st,J n vals st→AW P n0 a (loopQ n0 (fun n fr' st=>∃ vals,J n vals st∧fr'=setF (maskF junk fr) car vals) n Q) (setF (maskF junk fr) car vals) st):AW P n0 (.loop a) Q fr st :=
 ⟨0,fun n fr' st=>∃ vals,J n vals st∧fr'=setF (maskF junk fr) car vals,n1,k0,sg0,_,st0,hwk,⟨vals0,h0,rfl⟩,fun n fr' st ⟨vals,hJ,e⟩=>e ▸ hr n vals st hJ⟩
end
end Go.Proofs.YtmmmcpeickfolaaGreat

namespace Go.Proofs.YtmmmcpeickfolaaGreat
open Go.RowKit
theorem callsV_old {P:Program} {f:FuncId} {args:List V} {rv:V} {v:Value} (cs:Array Value) (ha:∀ (m:Mem) (cargs:Array Value),RepA m noBk cargs args→cargs=cs) (hc:∀ w,ML w→Calls P f cs w (Ret w v)) (hr:∀ m,Rep m noBk v rv):CallsV P f args rv:=by
 intro m w cargs hg hmem hargs
 obtain rfl:=ha m cargs hargs
 obtain ⟨n,hn⟩:=hg
 have hml:=hmem _ _ hn
 refine (hc w ⟨by have:=cell_lt hml;omega,n,hml⟩).mono ?_
 rintro e w' ⟨rfl,hb⟩
 exact ⟨v,m,rfl,hb,fun a u h=>(hb.cell (cell_lt (hmem a u h))).trans (hmem a u h),fun _ _ h=>h,fun _ _ h=>.inl h,hr m⟩
theorem lits_eq {m:Mem} {cargs:Array Value}:∀ {vs:List Value},RepA m noBk cargs (vs.map V.lit)→cargs=vs.toArray:=by
 intro vs h
 apply Array.ext
 ·have:=h.1;simpa using this
 ·intro i h1 h2
  have hl:i < (vs.map V.lit).length:=by simpa using h2
  have:=h.2 i h1 hl
  simp only [List.getElem_map] at this
  rw [this.int];simp
theorem ret_of {w:World} {v:Value} {P:Program} {f:FuncId} {cs:Array Value} (h:Calls P f cs w fun e w'=>e=.returned v∧w=w'):Calls P f cs w (Ret w v):=h.mono fun e w' ⟨h1,h2⟩=>⟨h1,h2 ▸ Below.refl _ _⟩
theorem isBare_v (s:ByteArray) (hs:s.size≤100000):CallsV Tryz.prog 70 [.s s] (.b (isBareL s.data.toList)) :=
 callsV_old #[.string s] (fun _ _ h=>lits_eq (vs:=[.string s]) h) (fun w hm=>isBare_c s w hm hs) fun _=>.lit rfl
theorem plain_v (s:ByteArray) (hs:s.size≤100000):CallsV Tryz.prog 69 [.s s] (.b (plainL s.data.toList)) :=
 callsV_old #[.string s] (fun _ _ h=>lits_eq (vs:=[.string s]) h) (fun w _=>plain_c s w (by omega)) fun _=>.lit rfl
end Go.Proofs.YtmmmcpeickfolaaGreat

namespace Go.Proofs.YtmmmcpeickfolaaGreat
theorem mix:Tryz.prog.follows .mixedOrders=true:=by kernel_rfl
end Go.Proofs.YtmmmcpeickfolaaGreat

namespace Go.Proofs.YtmmmcpeickfolaaGreat
open Go.ChangeShapes Go.WideShapes Go.ChangeAt Go.RowKit
theorem own0:ownKnob Tryz.prog.godebug=none:=by kernel_rfl
theorem laid0:laidOutB Tryz.prog=true:=by kernel_rfl
theorem maxLen_cell (W:World) (h:W.ShapedOpen Tryz.prog):∃ n,W.cell? ⟨0,0,none⟩=some (.int .i64 n) :=
 cell_of_shapedOpen_int (zero:=#[.int .i64 0]) (t:=3) h (of_decide_eq_true (by kernel_rfl)) (by kernel_rfl) (by kernel_rfl) (by kernel_rfl) (by kernel_rfl) (by kernel_rfl)
theorem trodAll_below {H:Type} {enc:TypeId × Value→H} {P:Program} (hl:laidOutB P=true) {W W' : World} (hb:Below W.heap.size W W') :
  ∀ {ts:List TypeId} {vs:List Value} {ds:List (DataW H)} {ps:List MemPlace},(∀ t ∈ ts,P.readableRec t=true∧t < P.types.size)→DataW.TrodAll enc P W 0 (fun _=>true) true ts vs ds ps →
   DataW.TrodAll enc P W' 0 (fun b=>decide (b < W.heap.size)) true ts vs ds ps
 | [],[],[],_,_,h=>h
 | t :: ts,v :: vs,d :: ds,ps,ht,h=>by
  have hlt:=h.lt
  obtain ⟨p,q,h1,h2,rfl⟩:=h
  exact ⟨p,q,Below.trod hl (ht t (by simp)).1 (ht t (by simp)).2 h1 hb (fun x hx=>hlt x (by simp [hx])),trodAll_below hl hb (fun t' h'=>ht t' (by simp [h'])) h2,rfl⟩
theorem flat_ok {α:Type} (f:α→V) (es:Nat) (hes:∀ a,(f a).cells.length=es):∀ (l:List α) (Q:Nat→V→Prop),(∀ i (hi:i < l.length) j (hj:j < (f l[i]).cells.length),Q (i * es + j) (f l[i]).cells[j])→∀ k (hk:k < (cellsM f l).length),Q k (cellsM f l)[k]
 | [],_,_,k,hk=>by simp [cellsM] at hk
 | a :: l,Q,h,k,hk=>by
  have e:cellsM f (a :: l)=(f a).cells++cellsM f l:=rfl
  have hea:=hes a
  by_cases hlt:k < es
  ·have h0:=h 0 (by simp) k (by simpa [hea] using hlt)
   simp only [e]
   rw [List.getElem_append_left (by omega)]
   simpa using h0
  ·have h1:=flat_ok f es hes l (fun n v=>Q (es + n) v) (fun i hi j hj=>by
    have:=h (i + 1) (by simp;omega) j (by simpa using hj)
    have e2:(i + 1) * es + j=es + (i * es + j):=by rw [Nat.add_mul];omega
    rw [e2] at this
    simpa using this) (k - es) (by rw [e,List.length_append] at hk;omega)
   have e3:es + (k - es)=k:=by omega
   rw [e3] at h1
   simp only [e]
   rw [List.getElem_append_right (by omega)]
   simpa [hea] using h1
theorem rep_slice {α:Type} [Inhabited α] {f:α→V} {es:Nat} {W:World} {a:Addr} {len cap:Nat} (hes:∀ a,(f a).cells.length=es) (h1:∀ a,∀ v ∈ (f a).cells,v.one=true) (hp:0 < es) (hc:len≤cap)
  (h:∀ i,i < len→∃ (x:α) (cs:List Value),W.cells? 0 (a.add (i * es)) es=some cs∧∀ j (hj:j < (f x).cells.length) (hj' : j < cs.length),Rep (fun p=>W.cell? p) noBk cs[j] (f x).cells[j]) :
  ∃ l:List α,l.length=len∧Rep (fun p=>W.cell? p) noBk (.slice (some a) len cap) (.sl (l.map f) false):=by
 classical
 rcases Nat.eq_zero_or_pos len with rfl | hlen
 ·exact ⟨[],rfl,.slnil (fun e=>by cases e)⟩
 ·have hx:∀ i,∃ x:α,i < len→∃ cs:List Value,W.cells? 0 (a.add (i * es)) es=some cs∧∀ j (hj:j < (f x).cells.length) (hj' : j < cs.length),Rep (fun p=>W.cell? p) noBk cs[j] (f x).cells[j]:=by
   intro i
   by_cases hi:i < len
   ·obtain ⟨x,hx⟩:=h i hi;exact ⟨x,fun _=>hx⟩
   ·exact ⟨default,fun g=>absurd g hi⟩
  obtain ⟨g,hg⟩:=Classical.axiomOfChoice hx
  have cell:∀ i (hi:i < len) j (hj:j < es),∃ u,W.cell? ((a.add (i * es)).add j)=some u∧Rep (fun p=>W.cell? p) noBk u ((f (g i)).cells[j]'(by rw [hes];exact hj)):=by
   intro i hi j hj
   obtain ⟨cs,h2,h3⟩:=hg i hi
   obtain ⟨_,hl,hcell⟩:=World.cells?_some h2
   exact ⟨cs[j]'(by omega),by rw [hcell j hj];simp [hl,hj],h3 j (by rw [hes];exact hj) (by omega)⟩
  have hspot:a.spot=none:=by
   obtain ⟨u,hu,_⟩:=cell 0 hlen 0 hp
   rw [Nat.zero_mul,show a.add 0=a from rfl,show a.add 0=a from rfl] at hu
   unfold World.cell? at hu
   cases hs:a.spot with
   | none=>rfl
   | some s =>
    rw [hs] at hu
    split at hu <;> simp at hu
  obtain ⟨b,o,sp⟩:=a
  simp only at hspot
  subst hspot
  have add1:∀ i j,((⟨b,o,none⟩ : Addr).add i).add j=⟨b,o + (i + j),none⟩:=by
   intro i j
   unfold Addr.add
   by_cases hi:i=0 <;> by_cases hj:j=0 <;> simp [hi,hj,Nat.add_assoc]
  refine ⟨(List.range len).map g,by simp,?_⟩
  have key:∀ k (hk:k < (cellsM f ((List.range len).map g)).length),∃ u,W.cell? ⟨b,o + k,none⟩=some u∧Rep (fun p=>W.cell? p) noBk u (cellsM f ((List.range len).map g))[k] :=
   flat_ok f es hes _ (fun k v=>∃ u,W.cell? ⟨b,o + k,none⟩=some u∧Rep (fun p=>W.cell? p) noBk u v) (fun i hi j hj=>by
    have hi' : i < len:=by simpa using hi
    simp only [List.getElem_map,List.getElem_range] at hj ⊢
    have:=cell i hi' j (by rw [hes] at hj;exact hj)
    rw [add1] at this
    exact this)
  have hfl:(((List.range len).map g).map f).flatMap V.cells=cellsM f ((List.range len).map g):=cellsM_map f _
  refine .sl (us:=fun k=>(W.cell? ⟨b,o + k,none⟩).getD undef) (es:=es) (by simp) hc (fun e=>by cases e) ?_ ?_ ?_ ?_
  ·intro x hx
   obtain ⟨y,_,rfl⟩:=List.mem_map.1 hx
   exact hes y
  ·rw [hfl]
   intro u hu
   obtain ⟨y,_,hy⟩:=List.mem_flatMap.1 hu
   exact h1 y u hy
  ·rw [hfl]
   intro k hk
   obtain ⟨u,hu,_⟩:=key k hk
   show W.cell? _=_
   rw [hu];rfl
  ·intro k hk
   have hk' : k < (cellsM f ((List.range len).map g)).length:=by rw [← hfl];exact hk
   obtain ⟨u,hu,hr⟩:=key k hk'
   simp only [hu,Option.getD_some]
   have:((((List.range len).map g).map f).flatMap V.cells)[k]=(cellsM f ((List.range len).map g))[k]:=by simp only [hfl]
   rw [this];exact hr
theorem rep_one {P:Program} {f:FuncId} {vs:List V} {W:World} {args:Array Value} (hc:CallsV P f vs (.b true)) (hg:∃ n,W.cell? ⟨0,0,none⟩=some (.int .i64 n)) (ha:RepA (fun a=>W.cell? a) noBk args vs) :
  Calls P f args W fun e W'=>e=.returned (.bool true)∧Below W.heap.size W W':=by
 refine (hc (fun a=>W.cell? a) W args hg (fun _ _ h=>h) ha).mono ?_
 rintro e W' ⟨c,m',rfl,hb,_,_,_,hr⟩
 exact ⟨by rw [hr.int],hb⟩
end Go.Proofs.YtmmmcpeickfolaaGreat

namespace Go.Proofs.YtmmmcpeickfolaaGreat
open Go.RowKit
inductive WC (st:List Slot) (sg:List Nat) (n:Nat):V→V→Prop
 | any {u}:WC st sg n u .any
 | ren {u v} (h:v.ren sg=u) (h0:v.idlt n=true):WC st sg n u v
 | fz {u v rd} (h:FzC st u v rd):WC st sg n u v
inductive WCL (st:List Slot) (sg:List Nat) (n:Nat):List V→List V→Prop
 | nil:WCL st sg n [] []
 | cons {u v l m} (h:WC st sg n u v) (t:WCL st sg n l m):WCL st sg n (u :: l) (v :: m)
inductive WV (st:List Slot) (sg:List Nat) (n:Nat):V→V→Prop
 | c {u v} (h:WC st sg n u v):WV st sg n u v
 | agg {l m} (h:WCL st sg n l m) (h1:∀ v ∈ m,v.one=true):WV st sg n (.agg l) (.agg m)
inductive WVL (st:List Slot) (sg:List Nat) (n:Nat):List V→List V→Prop
 | nil:WVL st sg n [] []
 | cons {u v l m} (h:WV st sg n u v) (t:WVL st sg n l m):WVL st sg n (u :: l) (v :: m)
inductive WR (st:List Slot) (sg:List Nat) (n:Nat):V→V→Prop
 | v {u v} (h:WV st sg n u v):WR st sg n u v
 | tup {l m} (h:WVL st sg n l m):WR st sg n (.tup l) (.tup m)
section
variable {B : Nat} {m0 m : Mem} {bk : Bks} {w : World} {st : List Slot} {sg : List Nat} {n : Nat}
theorem WC.rep (hsim:Sim B m0 m bk w st) {c:Value} {u v:V} (h:Rep m bk c u) (hw:WC st sg n u v):Rep m (cutBk n (fun i=>bk (sgm sg i))) c v:=by
 cases hw with
 | any=>exact .any
 | ren e h0=>exact (Rep.ren h _ e).cut h0
 | fz hf=>exact (hf.rep hsim h).mono (fun _ _ h=>h) fun _ _ h=>by cases h
theorem WCL.rep (hsim:Sim B m0 m bk w st) {l l' : List V} (hf:WCL st sg n l l'):∀ {cs:List Value},RepL m bk cs l→RepL m (cutBk n (fun i=>bk (sgm sg i))) cs l':=by
 induction hf with
 | nil=>intro cs h;exact ⟨h.1,fun j _ h2=>absurd h2 (by simp)⟩
 | @cons v v' l l' h t ih =>
  intro cs hr
  cases cs with
  | nil=>have:=hr.1;simp at this
  | cons c cs =>
   have h0:=hr.2 0 (by simp) (by simp)
   have ih':=@ih cs ⟨by simpa using hr.1,fun j h1 h2=>hr.2 (j + 1) (Nat.succ_lt_succ h1) (Nat.succ_lt_succ h2)⟩
   refine ⟨by simpa using ih'.1,fun j h1 h2=>?_⟩
   cases j with
   | zero=>exact h.rep hsim h0
   | succ j=>exact ih'.2 j (Nat.lt_of_succ_lt_succ h1) (Nat.lt_of_succ_lt_succ h2)
theorem WV.rep (hsim:Sim B m0 m bk w st) {c:Value} {u v:V} (h:Rep m bk c u) (hf:WV st sg n u v):Rep m (cutBk n (fun i=>bk (sgm sg i))) c v:=by
 cases hf with
 | c h'=>exact h'.rep hsim h
 | agg hl h1 =>
  obtain ⟨ds,rfl,g1,g2,g3⟩:=agg_inv h
  exact rep_agg (WCL.rep hsim hl ⟨by simpa using g1,fun j a b=>by simpa using g3 j (by simpa using a) b⟩) h1
theorem WVL.rep (hsim:Sim B m0 m bk w st) {l l' : List V} (hf:WVL st sg n l l'):∀ {cs:List Value},RepL m bk cs l→RepL m (cutBk n (fun i=>bk (sgm sg i))) cs l':=by
 induction hf with
 | nil=>intro cs h;exact ⟨h.1,fun j _ h2=>absurd h2 (by simp)⟩
 | @cons v v' l l' h t ih =>
  intro cs hr
  cases cs with
  | nil=>have:=hr.1;simp at this
  | cons c cs =>
   have h0:=hr.2 0 (by simp) (by simp)
   have ih':=@ih cs ⟨by simpa using hr.1,fun j h1 h2=>hr.2 (j + 1) (Nat.succ_lt_succ h1) (Nat.succ_lt_succ h2)⟩
   refine ⟨by simpa using ih'.1,fun j h1 h2=>?_⟩
   cases j with
   | zero=>exact h.rep hsim h0
   | succ j=>exact ih'.2 j (Nat.lt_of_succ_lt_succ h1) (Nat.lt_of_succ_lt_succ h2)
theorem WR.rep (hsim:Sim B m0 m bk w st) {c:Value} {u v:V} (h:Rep m bk c u) (hf:WR st sg n u v):Rep m (cutBk n (fun i=>bk (sgm sg i))) c v:=by
 cases hf with
 | v h'=>exact h'.rep hsim h
 | @tup l l' ha =>
  cases h with
  | @tup _ cs _ hl hr =>
   have g:=WVL.rep hsim ha (cs:=cs.toList) ⟨by simpa using hl,fun j a b=>by simpa using hr j (by simpa using a) b⟩
   exact .tup (by simpa using g.1) fun j a b=>by have:=g.2 j (by rw [Array.length_toList];exact a) b;rw [Array.getElem_toList] at this;exact this
theorem WCL.len {l l' : List V} (h:WCL st sg n l l'):l'.length=l.length:=by
 induction h with
 | nil=>rfl
 | cons _ _ ih=>simp [ih]
end
structure WS (n0:Nat) (sg:List Nat) (st1 st' : List Slot):Prop where
 size:st'.length=n0
 live:∀ (i:Nat) (cs:List V) (frz:Nat),st'[i]?=some (Slot.live cs frz)→∃ cs0,st1[sgm sg i]?=some (Slot.live cs0 frz)∧WCL st1 sg n0 cs0 cs∧((∀ u ∈ cs,u.one=true)∨cs0=V.ren.renL sg cs)
 fresh:∀ i:Nat,st'[i]?=some Slot.fresh→st1[sgm sg i]?=some Slot.fresh
 inj:∀ (i j:Nat) (ci:List V) (fi:Nat) (cj:List V) (fj:Nat),st'[i]?=some (Slot.live ci fi)→st'[j]?=some (Slot.live cj fj)→sgm sg i=sgm sg j→i=j
def FinR (st0:List Slot) (rs:List ARes) (v:V) (st' : List Slot):AExit→List V→List Slot→Prop:=fun e fr st =>
 (e=.normal∨e=.ret)∧∃ sg st1 vs,Frz st st1∧ResL fr st1 rs vs∧WR st1 sg st0.length (mkR vs) v∧(∀ i,i < st0.length→st0[i]?≠some .fresh→sgm sg i=i)∧WS st0.length sg st1 st'
theorem callsR_of {P:Program} {f:FuncId} {fn:Func} {c:Code} {ac:ACode} {n:Nat} {rs:List ARes} {args:List V} {v:V} {st st' : List Slot} {n0:Nat} (hmix:P.follows .mixedOrders=true) (hf:P.funcs[f]?=some fn) (hb:fn.body=some c) (hm:MatchC P c ac) (hnt:fn.ntmps=n) (hres:MatchRL P fn.results.toList rs) (hn0:∀ i,n0≤i→st[i]?=none∨st[i]?=some .fresh)
  (h:AW P n0 ac (FinR st rs v st') (args++List.replicate (n - args.length) (.tup [])) st):CallsS P f args st v st':=by
 intro B m0 m bk w cargs hg hsim hargs
 subst hnt
 have hk0:∀ id x,bk id=some x→id < st.length:=by
  intro id x hx
  rcases Nat.lt_or_ge id st.length with g | g
  ·exact g
  ·rw [hsim.nb id (.inl (List.getElem?_eq_none g))] at hx;cases hx
 have hk1:∀ id x,bk id=some x→id < n0:=by
  intro id x hx
  rcases Nat.lt_or_ge id n0 with g | g
  ·exact g
  ·rw [hsim.nb id (hn0 id g)] at hx;cases hx
 refine calls_of_wpD (B:=B) hf hb (wp_mono (aw_sound (B:=B) (w0:=⟨w,true⟩) (m0:=m) (bk0:=bk) hk1 hmix hg rfl hm _ _ st _ w ?_ h) ?_)
 ·refine ⟨m,bk,⟨hsim.base,hsim.mem,fun _ _ h=>h,fun _ _ h=>.inl h,hsim.blk,hsim.inj,hsim.nb⟩,⟨?_,fun j h1 h2=>?_⟩,.nil,Bel.refl _ _,fun _ _ h=>h⟩
  ·simp only [Array.size_append,Array.size_replicate,List.length_append,List.length_replicate,hargs.1]
  ·have hsz:=hargs.1
   by_cases hj:j < cargs.size
   ·rw [Array.getElem_append_left hj,List.getElem_append_left (by omega)]
    exact hargs.2 j hj _
   ·rw [Array.getElem_append_right (by omega),List.getElem_append_right (by omega),Array.getElem_replicate,List.getElem_replicate]
    exact .tup rfl fun j h1 _=>absurd h1 (Nat.not_lt_zero _)
 ·rintro e a w' ⟨ae,fr,st2,h1,h2,h3,sg,st1,vs,hfz,hrl,hwr,hfix,hws⟩
  refine ⟨exit_of h1 h3,h2.defers,fun w' hsh=>?_⟩
  obtain ⟨m',bk',hsim',hfrr,hd,hbl,hbk⟩:=(h2.shut hsh).frz hfz
  obtain ⟨cs,c1,c2⟩:=res_run hsim' hfrr hres hrl
  have hrun:=results_run c1
  have hrep:Rep m' bk' (mkC cs) (mkR vs):=by
   have hl:=c2.1
   match cs,vs,hl with
   | [],[],_=>exact .tup rfl fun j h1 _=>absurd h1 (Nat.not_lt_zero _)
   | [c],[v],_=>exact c2.2 0 (by simp) (by simp)
   | c :: d :: cs,v :: u :: vs,hl=>exact .tup (by simpa using hl) fun j g1 g2=>by have:=c2.2 j (by simpa using g1) g2;rw [List.getElem_toArray];exact this
  have hpost:∃ v',(results fn a.tmps).run P w'=.ok v' w'∧(∃ c,Ending.returned v'=.returned c∧Aft B m0 m bk w st' v c w'):=by
   refine ⟨_,hrun,_,rfl,?_⟩
   have lt:∀ (k:Nat) (s:Slot),st'[k]?=some s→k < st.length:=by
    intro k s hk;have:=(List.getElem?_eq_some_iff.1 hk).1;rw [hws.size] at this;exact this
   refine ⟨m',cutBk st.length (fun i=>bk' (sgm sg i)),⟨hsim'.base,hsim'.mem,fun a u h=>hsim'.ext a u (hsim.ext a u h),fun a u h=>?_,fun id cs f hid=>?_,fun i j ci fi cj fj x y hi hj hx hy e=>?_,fun id hid=>?_⟩,hwr.rep hsim' hrep,hsim'.ext,fun id x h=>?_,hbl⟩
   ·rcases hsim'.old a u h with g | g
    ·exact hsim.old a u g
    ·exact .inr g
   ·have hlt:=lt _ _ hid
    obtain ⟨cs0,h0,hcl,hone⟩:=hws.live id cs f hid
    obtain ⟨b,sz,arr,t,lo,hi,hl⟩:=hsim'.blk _ _ f h0
    have hone' : ∀ u ∈ cs,u.one=true:=by
     rcases hone with h | h
     ·exact h
     ·intro u hu
      have:=hl.one _ (h ▸ renL_mem (sg:=sg) hu)
      rwa [ren_one] at this
    refine ⟨b,sz,arr,t,lo,hi,⟨by unfold cutBk;rw [if_pos hlt];exact hl.at_,hl.own,hl.heap,hl.size,hl.free,by rw [hcl.len];exact hl.fit,hone',fun k hk=>?_,hl.mu,hl.fz⟩⟩
    have hlen:=hcl.len
    have hget:∀ j,j < cs0.length→arr[j]?=some (arr.getD j undef):=fun j hj=>by
     obtain ⟨u,g1,_⟩:=hl.rep j hj
     rw [g1,Array.getD_eq_getD_getElem?,g1];rfl
    have hR:RepL m' bk' ((List.range cs0.length).map fun j=>arr.getD j undef) cs0:=⟨by simp,fun j a b=>by
     obtain ⟨u,g1,g2⟩:=hl.rep j b
     simp only [List.getElem_map,List.getElem_range]
     rw [Array.getD_eq_getD_getElem?,g1]
     exact g2⟩
    have hR2:=hcl.rep hsim' hR
    have:=hR2.2 k (by simp;omega) hk
    simp only [List.getElem_map,List.getElem_range] at this
    exact ⟨_,hget k (by omega),this⟩
   ·unfold cutBk at hx hy
    rw [if_pos (lt _ _ hi)] at hx
    rw [if_pos (lt _ _ hj)] at hy
    obtain ⟨c1,g1,_⟩:=hws.live i ci fi hi
    obtain ⟨c2,g2,_⟩:=hws.live j cj fj hj
    exact hws.inj i j ci fi cj fj hi hj (hsim'.inj _ _ _ _ _ _ x y g1 g2 hx hy e)
   ·unfold cutBk
    by_cases hlt:id < st.length
    ·rw [if_pos hlt]
     rcases hid with h | h
     ·rw [List.getElem?_eq_none_iff,hws.size] at h;omega
     ·exact hsim'.nb _ (.inr (hws.fresh id h))
    ·rw [if_neg hlt]
   ·have hlt:=hk0 _ _ h
    unfold cutBk
    rw [if_pos hlt]
    show bk' (sgm sg id)=some x
    rw [hfix id hlt (fun e=>by rw [hsim.nb id (.inr e)] at h;cases h)]
    exact hbk _ _ h
  exact hpost
theorem callsR_compN {P:Program} {f:FuncId} {fn:Func} {ac:ACode} {n n0:Nat} {rs:List ARes} {args:List V} {v:V} {st st' : List Slot} (hmix:P.follows .mixedOrders=true) (hf:P.funcs[f]?=some fn) (hc:compF P fn=some (ac,n,rs)) (hn0:∀ i,n0≤i→st[i]?=none∨st[i]?=some .fresh)
  (h:AW P n0 ac (FinR st rs v st') (args++List.replicate (n - args.length) (.tup [])) st):CallsS P f args st v st':=by
 unfold compF at hc
 split at hc
 ·rename_i c hb
  split at hc
  ·simp only [Option.some.injEq,Prod.mk.injEq] at hc
   obtain ⟨rfl,rfl,rfl⟩:=hc
   exact callsR_of hmix hf hb (comp_ok ‹_›) rfl (compR_ok ‹_›) hn0 h
  ·cases hc
 ·cases hc
theorem callsR_comp {P:Program} {f:FuncId} {fn:Func} {ac:ACode} {n n0:Nat} {rs:List ARes} {args:List V} {v:V} {st st' : List Slot} (hmix:P.follows .mixedOrders=true) (hf:P.funcs[f]?=some fn) (hc:compF P fn=some (ac,n,rs)) (hn0:st.length=n0)
  (h:AW P n0 ac (FinR st rs v st') (args++List.replicate (n - args.length) (.tup [])) st):CallsS P f args st v st' :=
 callsR_compN hmix hf hc (fun i hi=>.inl (List.getElem?_eq_none (by omega))) h
theorem wcl_nil {st:List Slot} {n:Nat}:∀ {l:List V},V.idlt.belowL n l=true→WCL st [] n l l
 | [],_=>.nil
 | v :: l,h=>by
  simp only [V.idlt.belowL,Bool.and_eq_true] at h
  exact .cons (.ren (ren_nil v) h.1) (wcl_nil h.2)
theorem f_R0 {fr:List V} {st st0 st' : List Slot} {rs:List ARes} {e:AExit} {vs:List V} {v:V} (he:e=.normal∨e=.ret) (hr:ResL fr st rs vs) (hv:mkR vs=v) (h0:v.idlt st0.length=true) (hl:st'.length=st0.length) (hs:st.take st0.length=st') (hc:wkS st0.length st'):FinR st0 rs v st' e fr st:=by
 have get:∀ (i:Nat) (s:Slot),st'[i]?=some s→st[i]?=some s:=by
  intro i s h
  rw [← hs,List.getElem?_take] at h
  split at h
  ·exact h
  ·cases h
 exact ⟨he,[],st,vs,.refl,hr,.v (.c (.ren (by rw [ren_nil,hv]) h0)),fun i _ _=>rfl,⟨hl,fun i cs f h=>⟨cs,get _ _ h,wcl_nil (wkS_ok hc i cs f h),.inr (renL_nil cs).symm⟩,fun i h=>get _ _ h,fun i j _ _ _ _ _ _ h=>h⟩⟩
theorem f_R {fr:List V} {st st0 st' : List Slot} {rs:List ARes} {e:AExit} {vs:List V} {v:V} (sg:List Nat) (he:e=.normal∨e=.ret) (hr:ResL fr st rs vs) (hv:mkR vs=v.ren sg) (h0:v.idlt st0.length=true) (hl:st'.length=st0.length)
  (hfx:∀ i,i < st0.length→st0[i]?≠some .fresh→sgm sg i=i) (hc:wkB st0.length sg st 0 st'):FinR st0 rs v st' e fr st:=by
 obtain ⟨g1,g2⟩:=wkB_ok hc
 simp only [Nat.zero_add] at g1 g2
 have wcl:∀ {n:Nat} {l:List V},V.idlt.belowL n l=true→WCL st sg n (V.ren.renL sg l) l:=by
  intro n l
  induction l with
  | nil=>intro _;exact .nil
  | cons v l ih =>
   intro h
   simp only [V.idlt.belowL,Bool.and_eq_true] at h
   exact .cons (.ren rfl h.1) (ih h.2)
 refine ⟨he,sg,st,vs,.refl,hr,.v (.c (.ren hv.symm h0)),hfx,⟨hl,fun i cs f h=>⟨_,(g1 i cs f h).1,wcl (g1 i cs f h).2.1,.inr rfl⟩,g2,fun i j ci fi cj fj hi hj e=>?_⟩⟩
 have li:=(List.getElem?_eq_some_iff.1 hi).1
 have lj:=(List.getElem?_eq_some_iff.1 hj).1
 rcases Nat.lt_trichotomy i j with h | h | h
 ·exact absurd e ((g1 i ci fi hi).2.2 j h lj)
 ·exact h
 ·exact absurd e.symm ((g1 j cj fj hj).2.2 i h li)
end Go.Proofs.YtmmmcpeickfolaaGreat

