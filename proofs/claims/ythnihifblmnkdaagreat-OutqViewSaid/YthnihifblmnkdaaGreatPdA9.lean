/- A part of the proof: 5 texts joined. -/
import Derived.Test.YthnihifblmnkdaaGreatPdA8
import Derived.Orders
import Derived.Scope
import Derived.RangeFuncLeaves
import Derived.RangeFuncRecord
set_option linter.all false
namespace Go.Proofs.YthnihifblmnkdaaGreat
open Go.RowKit
section
variable {P : Program} {o : Oper} {a : Act} {w : World} {K : Act → World → Prop} {Q : Exit → Act → World → Prop} {B : Nat} {m0 m : Mem} {bk : Bks} {st : List Slot} {fr : List V}
theorem op_sound {v:V} {rd:List Nat} {ef:List (Nat × Slot)} {id:Nat} {ao:AOp} (hc:Cop P o.op o.type ao) (hs:AStep P (evO fr) st id ao v rd ef) (hsim:Sim B m0 m bk w st) (hg:GM m) (hfr:FrRep m bk a.tmps fr)
  (hK:∀ c w',Aft B m0 m bk w (AStep.eff st ef) v c w'→K (a.put o.dst c) w'):o.wp P a w K Q:=by
 by_cases hap:∃ es bytes s x,ao=.ap es bytes s x
 ·obtain ⟨es,bytes,s,x,rfl⟩:=hap
  cases hs with
  | apN h1 h2 h3 h4 h5 h6 h7 hfz=>exact apN_sound rfl hc h1 h2 h3 h4 h5 h6 h7 hsim hfr fun c w' hA=>hK _ _ (by have:=hA.freeze (set_freeze (List.getElem?_eq_some_iff.1 h7).1) (Nat.zero_le _) hfz;rw [List.set_set] at this;exact this)
  | apO h1 h2 h3 h4 h5 h6 h7 h8 h9 hfz0 hfz=>exact apO_sound rfl hc h1 h2 h3 h4 h5 h6 h7 h8 h9 hsim hfr fun c w' hA=>hK _ _ (by have:=hA.freeze (set_freeze (by simpa using (List.getElem?_eq_some_iff.1 h9).1)) hfz0 hfz;rw [List.set_set] at this;exact this)
  | apZ h1 h2 =>
   obtain ⟨A,cap,olds,hce,hcap,_,_,_,_,_⟩:=src_of (P:=P) hsim (hfr.ev s) h1
   have hkk:∃ t t2 e i,es=i.size∧o.op=.call ⟨.builtin .append,#[s,x],#[t,t2]⟩∧P.underlying t=some (.slice e)∧P.info? e=some i∧((∃ e',P.underlying t2=some (.slice e'))∨P.underlying t2=some .string):=by
    generalize hop:o.op=op at hc
    cases hc with
    | @ap _ _ _ t t2 e i z hd hi hz hzs h0 hk=>exact ⟨t,t2,e,i,rfl,rfl,hd,hi,hk⟩
   obtain ⟨t,t2,e,i,hes,hop,hd,hi,hk⟩:=hkk
   subst hes
   obtain ⟨news,hsrc,hrn,_,_⟩:=srcX_of (P:=P) hsim (hfr.ev x) h2 hk
   have hn:news=[]:=List.eq_nil_of_length_eq_zero (by simpa using hrn.1)
   subst hn
   have hv:=hfr.ev s
   rw [hce] at hv
   refine wp_of_run (S:=Builtin.append_ #[t,t2] o.type #[a.eval s,a.eval x]) (c:=.slice A _ cap) (w':=w) (by simp [execOp,hop,resolve,invoke,builtin]) ?_ (hK _ _ (Aft.same hsim hv))
   rw [hce]
   have hln:=hsrc.len
   have hcl:=hsrc.cells
   generalize a.eval x=xv at hln hcl
   cases A with
   | none=>rcases hsrc.kind with ⟨e',hk'⟩ | hk' <;> simp [Builtin.append_,run_underlying hd,run_underlying hk',run_sizeOf hi,hln,hcap,hcl]
   | some A=>rcases hsrc.kind with ⟨e',hk'⟩ | hk' <;> simp [Builtin.append_,run_underlying hd,run_underlying hk',run_sizeOf hi,hln,hcap,hcl,storeCells]
 ·cases ao with
  | st sz x y=>exact stP_sound rfl hc hs ⟨_,_,_,rfl⟩ hsim hg hfr hK
  | al z=>exact al_sound rfl hc hs ⟨_,rfl⟩ hsim hg hfr hK
  | bx x=>exact bx_sound rfl hc hs ⟨_,rfl⟩ hsim hg hfr hK
  | bs es len z ps=>exact bs_sound rfl hc hs ⟨_,_,_,_,rfl⟩ hsim hg hfr hK
  | mks es bytes z n c=>exact mks_sound rfl hc hs ⟨_,_,_,_,_,rfl⟩ hsim hg hfr hK
  | clr es x=>exact clr_sound rfl hc hs ⟨_,_,rfl⟩ hsim hg hfr hK
  | s2b x=>exact s2b_sound rfl hc hs ⟨_,rfl⟩ hsim hg hfr hK
  | ap es bytes s x=>exact absurd ⟨_,_,_,_,rfl⟩ hap
  | cl f args=>exact call_sound rfl hc hs hsim hg hfr rfl hK
  | cv f args=>exact call_sound rfl hc hs hsim hg hfr rfl hK
  | eqa | bd | mf | lent | lens | b2s | mn =>
   have:ef=[]:=by cases hs <;> rfl
   subst this
   exact late_sound rfl hc hs hsim hg hfr rfl rfl (fun _ _ _ _ h=>hap ⟨_,_,_,_,h⟩) (fun _ h=>by cases h) hK
  | _ =>
   have:ef=[]:=by cases hs <;> rfl
   subst this
   exact pure_sound rfl rfl hc hs hsim hg hfr rfl hK
end
def AOp.opers:AOp→List Operand
 | .mv x | .ld _ _ x | .bx x | .nc x | .un _ x | .cvi _ x | .cvs x | .s2b x | .b2s x | .fa _ x | .fd _ _ _ x | .ex x _ | .lent x | .lens x | .clr _ x=>[x]
 | .pick c a b=>[c,a,b]
 | .st _ a x | .bin _ a x | .binb _ a x | .eqp _ a x | .eqa _ _ a x | .ixs _ a x | .ixa _ _ a x | .ixg _ _ _ a x | .ixt a x | .ap _ _ a x | .mn _ a x | .mks _ _ _ a x=>[a,x]
 | .al _=>[]
 | .slt x lo hi=>x :: (lo.toList++hi.toList)
 | .sls _ x lo hi mx=>x :: (lo.toList++hi.toList++mx.toList)
 | .bd _ ps=>ps.map (·.2.2)
 | .bs _ _ _ ps=>ps.map (·.2)
 | .mf _ l | .cl _ l=>l
 | .cv f l=>f :: l
theorem all_same {st st2 st' : List Slot} (hlen:st2.length=st.length) (hl:st'.length=st.length) (h:∀ k,k ∈ (allEff st').map Prod.fst→st2[k]?=st[k]?):st2=st:=by
 apply List.ext_getElem?
 intro k
 by_cases hk:k < st'.length
 ·refine h k ?_
  rw [List.mem_map]
  refine ⟨(k,st'[k]),?_,rfl⟩
  unfold allEff
  rw [List.mem_map]
  exact ⟨(st'[k],k),by rw [List.mem_zipIdx_iff_getElem?];simp [hk],rfl⟩
 ·rw [List.getElem?_eq_none (by omega),List.getElem?_eq_none (by omega)]
theorem SrcV.congr {st st2:List Slot} {es n:Nat} {v:V} {ds:List V} {rd:List Nat} (h:SrcV st es v n ds rd) (hst:∀ k,k ∈ rd→st2[k]?=st[k]?):SrcV st2 es v n ds rd:=by
 cases h with
 | sl h=>exact .sl h
 | osl hi hl=>exact .osl (by rw [hst _ (by simp)];exact hi) hl
theorem SrcX.congr {st st2:List Slot} {es n:Nat} {v:V} {ds:List V} {rd:List Nat} (h:SrcX st es v n ds rd) (hst:∀ k,k ∈ rd→st2[k]?=st[k]?):SrcX st2 es v n ds rd:=by
 cases h with
 | v h=>exact .v (h.congr hst)
 | str he=>exact .str he
theorem AStep.congr {P:Program} {ρ ρ' : Operand→V} {st st2:List Slot} {id:Nat} {ao:AOp} {v:V} {rd:List Nat} {ef:List (Nat × Slot)} (h:AStep P ρ st id ao v rd ef) (hρ:∀ x ∈ ao.opers,ρ' x=ρ x) (hlen:st2.length=st.length) (hst:∀ k,k ∈ rd∨k ∈ ef.map Prod.fst→st2[k]?=st[k]?) :
  AStep P ρ' st2 id ao v rd ef:=by
 cases h with
 | mv x=>rw [← hρ x (by simp [AOp.opers])];exact .mv x
 | pick c a b h =>
  rename_i t
  have e:(if t then ρ a else ρ b)=(if t then ρ' a else ρ' b):=by rw [hρ a (by simp [AOp.opers]),hρ b (by simp [AOp.opers])]
  rw [e]
  exact .pick c a b (by rw [hρ c (by simp [AOp.opers])];exact h)
 | ldE h hs=>exact .ldE (by rw [hρ _ (by simp [AOp.opers])];exact h) hs
 | ldP h hi hs=>exact .ldP (by rw [hρ _ (by simp [AOp.opers])];exact h) (by rw [hst _ (by simp)];exact hi) hs
 | stP h hv h1 hl hi hf hs=>exact .stP (by rw [hρ _ (by simp [AOp.opers])];exact h) (by rw [hρ _ (by simp [AOp.opers])];exact hv) h1 hl (by rw [hst _ (by simp)];exact hi) hf hs
 | al h1 hf=>exact .al h1 (by rw [hst _ (by simp)];exact hf)
 | bx hv h1 hf=>exact .bx (by rw [hρ _ (by simp [AOp.opers])];exact hv) h1 (by rw [hst _ (by simp)];exact hf)
 | ncP h=>exact .ncP (by rw [hρ _ (by simp [AOp.opers])];exact h)
 | ncE h=>exact .ncE (by rw [hρ _ (by simp [AOp.opers])];exact h)
 | ncC h=>exact .ncC (by rw [hρ _ (by simp [AOp.opers])];exact h)
 | binI hx hy hr=>exact .binI (by rw [hρ _ (by simp [AOp.opers])];exact hx) (by rw [hρ _ (by simp [AOp.opers])];exact hy) hr
 | binSh hx hy hr=>exact .binSh (by rw [hρ _ (by simp [AOp.opers])];exact hx) (by rw [hρ _ (by simp [AOp.opers])];exact hy) hr
 | binS hx hy hr=>exact .binS (by rw [hρ _ (by simp [AOp.opers])];exact hx) (by rw [hρ _ (by simp [AOp.opers])];exact hy) hr
 | binb hx hy=>exact .binb (by rw [hρ _ (by simp [AOp.opers])];exact hx) (by rw [hρ _ (by simp [AOp.opers])];exact hy)
 | eqpP hx hy=>exact .eqpP (by rw [hρ _ (by simp [AOp.opers])];exact hx) (by rw [hρ _ (by simp [AOp.opers])];exact hy)
 | eqpN hx hy=>exact .eqpN (by rw [hρ _ (by simp [AOp.opers])];exact hx) (by rw [hρ _ (by simp [AOp.opers])];exact hy)
 | eqa hx hy hr hl hm=>exact .eqa (by rw [hρ _ (by simp [AOp.opers])];exact hx) (by rw [hρ _ (by simp [AOp.opers])];exact hy) hr hl hm
 | un hx hr=>exact .un (by rw [hρ _ (by simp [AOp.opers])];exact hx) hr
 | cvi hx=>exact .cvi (by rw [hρ _ (by simp [AOp.opers])];exact hx)
 | cvs hx=>exact .cvs (by rw [hρ _ (by simp [AOp.opers])];exact hx)
 | faP h=>exact .faP (by rw [hρ _ (by simp [AOp.opers])];exact h)
 | faE h hs=>exact .faE (by rw [hρ _ (by simp [AOp.opers])];exact h) hs
 | fd h hs=>exact .fd (by rw [hρ _ (by simp [AOp.opers])];exact h) hs
 | ixs h hi hj hn hes=>exact .ixs (by rw [hρ _ (by simp [AOp.opers])];exact h) (by rw [hρ _ (by simp [AOp.opers])];exact hi) hj hn hes
 | ixo h hi hj hn=>exact .ixo (by rw [hρ _ (by simp [AOp.opers])];exact h) (by rw [hρ _ (by simp [AOp.opers])];exact hi) hj hn
 | ixa h hi hj hn=>exact .ixa (by rw [hρ _ (by simp [AOp.opers])];exact h) (by rw [hρ _ (by simp [AOp.opers])];exact hi) hj hn
 | ixae h hi hj hn hs=>exact .ixae (by rw [hρ _ (by simp [AOp.opers])];exact h) (by rw [hρ _ (by simp [AOp.opers])];exact hi) hj hn hs
 | ixg h hi hj hn hs=>exact .ixg (by rw [hρ _ (by simp [AOp.opers])];exact h) (by rw [hρ _ (by simp [AOp.opers])];exact hi) hj hn hs
 | ixt h hi hj hn=>exact .ixt (by rw [hρ _ (by simp [AOp.opers])];exact h) (by rw [hρ _ (by simp [AOp.opers])];exact hi) hj hn
 | slt hx hl hl0 hh hh0 h1 h2=>exact .slt (by rw [hρ _ (by simp [AOp.opers])];exact hx) (fun y hy=>by rw [hρ _ (by simp [AOp.opers,hy])];exact hl y hy) hl0 (fun y hy=>by rw [hρ _ (by simp [AOp.opers,hy])];exact hh y hy) hh0 h1 h2
 | slsE hx hl hl0 h1 hes=>exact .slsE (by rw [hρ _ (by simp [AOp.opers])];exact hx) (fun y hy=>by rw [hρ _ (by simp [AOp.opers,hy])];exact hl y hy) hl0 h1 hes
 | sls hx hl hl0 hh hh0 h1 h2 hes=>exact .sls (by rw [hρ _ (by simp [AOp.opers])];exact hx) (fun y hy=>by rw [hρ _ (by simp [AOp.opers,hy])];exact hl y hy) hl0 (fun y hy=>by rw [hρ _ (by simp [AOp.opers,hy])];exact hh y hy) hh0 h1 h2 hes
 | slsO hx hl hl0 hh hh0 h1 h2 h3=>exact .slsO (by rw [hρ _ (by simp [AOp.opers])];exact hx) (fun y hy=>by rw [hρ _ (by simp [AOp.opers,hy])];exact hl y hy) hl0 (fun y hy=>by rw [hρ _ (by simp [AOp.opers,hy])];exact hh y hy) hh0 h1 h2 h3
 | slsZ hx hl hl0 hh=>exact .slsZ (by rw [hρ _ (by simp [AOp.opers])];exact hx) (fun y hy=>by rw [hρ _ (by simp [AOp.opers,hy])];exact hl y hy) hl0 (fun y hy=>by rw [hρ _ (by simp [AOp.opers,hy])];exact hh y hy)
 | clr hx hi hf hc hn=>exact .clr (by rw [hρ _ (by simp [AOp.opers])];exact hx) (by rw [hst _ (by simp)];exact hi) hf hc hn
 | sls3 hx hl hl0 hh hm h1 h2 hes=>exact .sls3 (by rw [hρ _ (by simp [AOp.opers])];exact hx) (fun y hy=>by rw [hρ _ (by simp [AOp.opers,hy])];exact hl y hy) hl0 (by rw [hρ _ (by simp [AOp.opers])];exact hh) (by rw [hρ _ (by simp [AOp.opers])];exact hm) h1 h2 hes
 | ex h hv=>exact .ex (by rw [hρ _ (by simp [AOp.opers])];exact h) hv
 | @bd z ps cs h=>exact .bd (by rw [show (ps.map fun p=>(p.1,p.2.1,ρ' p.2.2))=ps.map fun p=>(p.1,p.2.1,ρ p.2.2) from List.map_congr_left fun p hp=>by rw [hρ _ (List.mem_map.2 ⟨p,hp,rfl⟩)]];exact h)
 | @bs es len z ps cs h hz hf fz hfz=>exact .bs (by rw [show (ps.map fun p=>(p.1 * es,es,ρ' p.2))=ps.map fun p=>(p.1 * es,es,ρ p.2) from List.map_congr_left fun p hp=>by rw [hρ _ (List.mem_map.2 ⟨p,hp,rfl⟩)]];exact h) hz (by rw [hst _ (by simp)];exact hf) hfz
 | @mf fn caps=>rw [show caps.map ρ=caps.map ρ' from List.map_congr_left fun x hx=>(hρ x hx).symm];exact .mf
 | @cl f args vs rd v ha h =>
  have e:args.map ρ=args.map ρ':=List.map_congr_left fun x hx=>(hρ x hx).symm
  rw [e] at ha
  exact .cl (ha.congr fun k hk=>hst k (by simp [hk])) h
 | @cv f args g caps vs rd v hf hg ha h =>
  have e:args.map ρ=args.map ρ':=List.map_congr_left fun x hx=>(hρ x (by simp [AOp.opers,hx])).symm
  exact .cv (by rw [hρ _ (by simp [AOp.opers]),← e];exact hf) hg (ha.congr fun k hk=>hst k (by simp [hk])) h
 | @clS f args v st' ef h hl hef =>
  have e:args.map ρ=args.map ρ':=List.map_congr_left fun x hx=>(hρ x hx).symm
  have e2:st2=st:=all_same hlen hl (by rw [← hef];exact fun k hk=>hst k (.inr hk))
  rw [e] at h
  rw [e2]
  exact .clS h hl hef
 | @cvS f args g caps v st' ef hf hg h hl hef =>
  have e:args.map ρ=args.map ρ':=List.map_congr_left fun x hx=>(hρ x (by simp [AOp.opers,hx])).symm
  have e2:st2=st:=all_same hlen hl (by rw [← hef];exact fun k hk=>hst k (.inr hk))
  rw [e2]
  exact .cvS (by rw [hρ _ (by simp [AOp.opers]),← e];exact hf) hg h hl hef
 | @clL f args v rd ef h =>
  have e:args.map ρ=args.map ρ':=List.map_congr_left fun x hx=>(hρ x hx).symm
  rw [e] at h
  exact .clL fun st3 hl h3=>h st3 (hl.trans hlen) fun k hk=>(h3 k hk).trans (hst k hk)
 | @cvL f args g caps v rd ef hf hg h =>
  have e:args.map ρ=args.map ρ':=List.map_congr_left fun x hx=>(hρ x (by simp [AOp.opers,hx])).symm
  exact .cvL (by rw [hρ _ (by simp [AOp.opers]),← e];exact hf) hg fun st3 hl h3=>h st3 (hl.trans hlen) fun k hk=>(h3 k hk).trans (hst k hk)
 | lenT h=>exact .lenT (by rw [hρ _ (by simp [AOp.opers])];exact h)
 | lenS h=>exact .lenS (by rw [hρ _ (by simp [AOp.opers])];exact h)
 | lenO h=>exact .lenO (by rw [hρ _ (by simp [AOp.opers])];exact h)
 | mn hx hy=>exact .mn (by rw [hρ _ (by simp [AOp.opers])];exact hx) (by rw [hρ _ (by simp [AOp.opers])];exact hy)
 | mks hx hy h1 hcb hbb hfu hf hfz=>exact .mks (by rw [hρ _ (by simp [AOp.opers])];exact hx) (by rw [hρ _ (by simp [AOp.opers])];exact hy) h1 hcb hbb hfu (by rw [hst _ (by simp)];exact hf) hfz
 | s2b h=>exact .s2b (by rw [hρ _ (by simp [AOp.opers])];exact h)
 | b2sI h=>exact .b2sI (by rw [hρ _ (by simp [AOp.opers])];exact h)
 | b2sO h hi hc=>exact .b2sO (by rw [hρ _ (by simp [AOp.opers])];exact h) (by rw [hst _ (by simp)];exact hi) hc
 | @apZ es bytes s x n ds rd rd' h1 h2 =>
  rw [← hρ s (by simp [AOp.opers])] at h1 ⊢
  rw [← hρ x (by simp [AOp.opers])] at h2
  exact .apZ (h1.congr fun k hk=>hst k (by simp [hk])) (h2.congr fun k hk=>hst k (by simp [hk]))
 | @apN es bytes s x n ds rd k ds' rd' h1 h2 h3 h4 h5 h6 h7 fz hfz =>
  rw [← hρ s (by simp [AOp.opers])] at h1 h2
  rw [← hρ x (by simp [AOp.opers])] at h3
  exact .apN (h1.congr fun k hk=>hst k (by simp [hk])) h2 (h3.congr fun k hk=>hst k (by simp [hk])) h4 h5 h6 (by rw [hst _ (by simp)];exact h7) hfz
 | @apO es bytes s x i n cs frz k ds' rd' h1 h2 h3 h4 h5 h6 h7 h8 h9 fz hfz0 hfz =>
  rw [← hρ s (by simp [AOp.opers])] at h1
  rw [← hρ x (by simp [AOp.opers])] at h5
  exact .apO h1 (by rw [hst _ (by simp)];exact h2) h3 h4 (h5.congr fun k hk=>hst k (by simp [hk])) h6 h7 h8 (by rw [hst _ (by simp)];exact h9) hfz0 hfz
end Go.Proofs.YthnihifblmnkdaaGreat

namespace Go.Proofs.YthnihifblmnkdaaGreat
open Go.RowKit
structure AOper where
 dst:Option Nat
 op:AOp
 guard:Option (Nat × Bool)
 c:Nat
 deriving Inhabited
def gval:Option (Nat × Bool)→List V→Option Bool
 | none,_=>some true
 | some (t,want),fr=>match fr.getD t .any with
  | .lit (.bool b)=>some (b == want)
  | .tup []=>some false
  | _=>none
def putF (fr:List V):Option Nat→V→List V
 | none,_=>fr
 | some d,v=>fr.set d v
def AOper.names (o:AOper):List Nat:=(o.op.opers.filterMap fun x=>match x with | .tmp t=>some t | _=>none)++(match o.guard with | some (d,_)=>[d] | none=>[])
def MatchOp (P:Program) (ops:Array Oper) (o:Oper) (ao:AOper):Prop :=
 Cop P o.op o.type ao.op∧o.dst=ao.dst∧(match o.guard,ao.guard with | none,none=>True | some (j,w),some (d,w')=>w=w'∧(ops[j]?).bind (·.dst)=some d | _,_=>False)
structure Org where
 world:World
 mark:Bool
def recD (D:Nat):Deferred:={ target:=.collected D,args:=#[] }
def DefOk (B:Nat) (w0:Org) (ds:List Deferred) (w:World):Prop:=∃ Ds:List Nat,ds=Ds.map recD∧(w0.mark=true∨Ds=[])∧Ds.Nodup∧∀ D ∈ Ds,w.heap[D]?=some (.deferred (some []))∧w0.world.heap.size≤D∧B≤D
theorem DefOk.nil {B:Nat} {w0:Org} {w:World}:DefOk B w0 [] w:=⟨[],rfl,.inr rfl,.nil,fun _ h=>by cases h⟩
theorem DefOk.none {B:Nat} {w0:World} {ds:List Deferred} {w:World} (h:DefOk B ⟨w0,false⟩ ds w):ds=[]:=by
 obtain ⟨Ds,rfl,h,_⟩:=h
 rcases h with h | rfl
 ·cases h
 ·rfl
theorem DefOk.bel {B B' : Nat} {w0:Org} {w w' : World} {ds:List Deferred} (h:DefOk B w0 ds w) (hb:Bel B' w w'):DefOk B w0 ds w':=by
 obtain ⟨Ds,h1,h2,h3,h4⟩:=h
 exact ⟨Ds,h1,h2,h3,fun D hD=>⟨hb.oth _ _ (h4 D hD).1 rfl,(h4 D hD).2⟩⟩
theorem DefOk.cons {B:Nat} {w0:Org} {w w' : World} {ds:List Deferred} {D:Nat} (h:DefOk B w0 ds w) (hb:Bel B w w') (hm:w0.mark=true) (hD:w'.heap[D]?=some (.deferred (some []))) (h1:w.heap.size≤D) (h2:w0.world.heap.size≤D) (h3:B≤D):DefOk B w0 (recD D :: ds) w':=by
 have hn:∀ Ds:List Nat,(∀ D ∈ Ds,w.heap[D]?=some (.deferred (some []))∧w0.world.heap.size≤D∧B≤D)→D ∉ Ds:=fun Ds h4 hm=>by
  have:=(Array.getElem?_eq_some_iff.1 (h4 D hm).1).1
  omega
 obtain ⟨Ds,g1,g2,g3,g4⟩:=h
 refine ⟨D :: Ds,by rw [g1];rfl,.inl hm,List.nodup_cons.2 ⟨hn Ds g4,g3⟩,fun E hE=>?_⟩
 rcases List.mem_cons.1 hE with rfl | hE
 ·exact ⟨hD,h2,h3⟩
 ·exact ⟨hb.oth _ _ (g4 E hE).1 rfl,(g4 E hE).2⟩
def Cn (B:Nat) (m0:Mem) (bk0:Bks) (w0:Org) (a:Act) (w:World) (fr:List V) (st:List Slot):Prop:=∃ m bk,Sim B m0 m bk w st∧FrRep m bk a.tmps fr∧DefOk B w0 a.defers w∧Bel B w0.world w∧∀ id x,bk0 id=some x→bk id=some x
inductive Run (P:Program) (base:Nat):List AOper→List V→List Slot→List (List Nat × List Nat)→List V→List Slot→Prop
 | nil {fr st}:Run P base [] fr st [] fr st
 | on {o os fr st v rd ef fp fr' st'} (hg:gval o.guard fr=some true) (hs:AStep P (evO fr) st (base + o.c) o.op v rd ef) (h:Run P base os (putF fr o.dst v) (AStep.eff st ef) fp fr' st'):Run P base (o :: os) fr st ((rd,ef.map Prod.fst) :: fp) fr' st'
 | off {o os fr st fp fr' st'} (hg:gval o.guard fr=some false) (h:Run P base os (putF fr o.dst (.tup [])) st fp fr' st'):Run P base (o :: os) fr st (([],[]) :: fp) fr' st'
section
variable {P : Program} {ops : Array Oper} {o : Oper} {a : Act} {w : World} {w0 : Org} {K : Act → World → Prop} {Q : Exit → Act → World → Prop} {B : Nat} {m0 : Mem} {bk0 : Bks} {st : List Slot} {fr : List V}
theorem FrRep.put {m:Mem} {bk:Bks} (h:FrRep m bk a.tmps fr) {c:Value} {v:V} (hv:Rep m bk c v) (d:Option Nat):FrRep m bk (a.put d c).tmps (putF fr d v):=by
 cases d with
 | none=>exact h
 | some d =>
  refine ⟨by simpa [Act.put,putF] using h.1,fun j h1 h2=>?_⟩
  simp only [Act.put,putF] at h1 h2 ⊢
  rw [Array.getElem_setIfInBounds (by simpa using h1),List.getElem_set]
  by_cases e:d=j
  ·subst e;simp;exact hv
  ·simp only [e,if_false];exact h.2 j (by simpa using h1) (by simpa using h2)
theorem FrRep.mono {m m' : Mem} {bk bk' : Bks} {tmps:Array Value} (h:FrRep m bk tmps fr) (hm:∀ a u,m a=some u→m' a=some u) (hb:∀ id x,bk id=some x→bk' id=some x):FrRep m' bk' tmps fr :=
 ⟨h.1,fun j h1 h2=>(h.2 j h1 h2).mono hm hb⟩
theorem gval_sound {m:Mem} {bk:Bks} {ao:AOper} {g:Bool} (hfr:FrRep m bk a.tmps fr) (hm:MatchOp P ops o ao) (hg:gval ao.guard fr=some g):Region.wanted o (yielded ops a.tmps)=g:=by
 obtain ⟨_,_,h⟩:=hm
 cases hog:o.guard with
 | none =>
  cases hag:ao.guard with
  | none=>rw [hag] at hg;simp only [gval,Option.some.injEq] at hg;simp [Region.wanted,hog,hg]
  | some x=>rw [hog,hag] at h;exact h.elim
 | some jw =>
  obtain ⟨j,want⟩:=jw
  cases hag:ao.guard with
  | none=>rw [hog,hag] at h;exact h.elim
  | some x =>
   obtain ⟨d,want'⟩:=x
   rw [hog,hag] at h
   obtain ⟨rfl,hd⟩:=h
   rw [hag] at hg
   simp only [gval] at hg
   have hy:yielded ops a.tmps j=match a.tmps[d]? with | some (.bool b)=>some b | _=>none:=by simp [yielded,hd];rfl
   simp only [Region.wanted,hog,hy]
   by_cases hlt:d < fr.length
   ·have hlt' : d < a.tmps.size:=by rw [hfr.1];exact hlt
    have hr:=hfr.2 d hlt' hlt
    have e:fr.getD d .any=fr[d]:=by simp [List.getD,hlt]
    have e2:a.tmps[d]?=some a.tmps[d]:=by simp [hlt']
    rw [e] at hg
    rw [e2]
    generalize fr[d]=v at *
    generalize a.tmps[d]=u at *
    split at hg
    ·have:=hr.int
     rw [this]
     simpa using hg
    ·simp only [Option.some.injEq] at hg
     subst hg
     cases hr with
     | tup hl _=>simp
    ·cases hg
   ·have e:fr.getD d .any=.any:=by simp [List.getD,hlt]
    rw [e] at hg
    simp at hg
theorem Cn.step (hg:GM m0) (h:Cn B m0 bk0 w0 a w fr st) {i:Nat} {ao:AOper} (hi:ops[i]?=some o) (hm:MatchOp P ops o ao) {v:V} {rd:List Nat} {ef:List (Nat × Slot)} {id:Nat} (hgv:gval ao.guard fr=some true) (hs:AStep P (evO fr) st id ao.op v rd ef)
  (hK:∀ a' w',Cn B m0 bk0 w0 a' w' (putF fr ao.dst v) (AStep.eff st ef)→K a' w'):wpOp P ops Q i K a w:=by
 obtain ⟨m,bk,hsim,hfr,hd,hb,hbk⟩:=h
 have hgm:GM m:=by obtain ⟨n,hn⟩:=hg;exact ⟨n,hsim.ext _ _ hn⟩
 have hw:=gval_sound hfr hm hgv
 unfold wpOp
 simp only [hi,hw,if_true]
 left
 refine op_sound hm.1 hs hsim hgm hfr fun c w' hA=>?_
 obtain ⟨m',bk',h1,h2,h3,h4,h5⟩:=hA
 refine hK _ _ ⟨m',bk',h1,?_,?_,hb.trans h5,fun id x h=>h4 _ _ (hbk _ _ h)⟩
 ·rw [hm.2.1];exact (hfr.mono h3 h4).put h2 _
 ·cases o.dst <;> exact hd.bel h5
theorem Cn.skip (h:Cn B m0 bk0 w0 a w fr st) {i:Nat} {ao:AOper} (hi:ops[i]?=some o) (hm:MatchOp P ops o ao) (hgv:gval ao.guard fr=some false)
  (hK:∀ a' w',Cn B m0 bk0 w0 a' w' (putF fr ao.dst (.tup [])) st→K a' w'):wpOp P ops Q i K a w:=by
 obtain ⟨m,bk,hsim,hfr,hd,hb,hbk⟩:=h
 have hw:=gval_sound hfr hm hgv
 unfold wpOp
 simp only [hi,hw,Bool.false_eq_true,if_false]
 refine hK _ _ ⟨m,bk,hsim,?_,?_,hb,hbk⟩
 ·rw [hm.2.1];exact hfr.put (.tup rfl fun j h1 _=>absurd h1 (Nat.not_lt_zero _)) _
 ·cases o.dst <;> exact hd
theorem Cn.drew (h:Cn B m0 bk0 w0 a w fr st):Cn B m0 bk0 w0 a { w with drawn:=w.drawn + 1 } fr st:=by
 obtain ⟨m,bk,hsim,hfr,hd,hb,hbk⟩:=h
 exact ⟨m,bk,hsim.world (Nat.le_refl _) fun _ _=>rfl,hfr,hd,hb.drew,hbk⟩
theorem run_text (hg:GM m0) {base:Nat}:∀ (aos:List AOper) (i:Nat) (fr fr' : List V) (st st' : List Slot) (fp:List (List Nat × List Nat)) (a:Act) (w:World),Run P base aos fr st fp fr' st'→i + aos.length=ops.size →
  (∀ j (h:j < aos.length) (o:Oper),ops[i + j]?=some o→MatchOp P ops o aos[j])→Cn B m0 bk0 w0 a w fr st→(∀ a w,Cn B m0 bk0 w0 a w fr' st'→Q .normal a w)→wpOps P ops Q (List.range' i aos.length) a w
 | [],i,fr,fr',st,st',fp,a,w,hr,hn,hm,hc,hQ=>by
  cases hr
  exact hQ _ _ hc
 | ao :: aos,i,fr,fr',st,st',fp,a,w,hr,hn,hm,hc,hQ=>by
  have hi:i < ops.size:=by simp at hn;omega
  have ho:ops[i]?=some ops[i]:=by simp [hi]
  have hm0:=hm 0 (by simp) ops[i] (by simpa using ho)
  simp only [List.getElem_cons_zero] at hm0
  have hm' : ∀ j (h:j < aos.length) (o:Oper),ops[i + 1 + j]?=some o→MatchOp P ops o aos[j]:=fun j h o hoj=>by
   have:=hm (j + 1) (by simpa using h) o (by rw [show i + (j + 1)=i + 1 + j by omega];exact hoj)
   simpa using this
  rw [List.length_cons,List.range'_succ,wpOps_cons]
  cases hr with
  | on hgv hs h=>exact hc.step hg ho hm0 hgv hs fun a' w' hc'=>run_text hg aos (i + 1) _ _ _ _ _ a' w' h (by simp at hn;omega) hm' hc' hQ
  | off hgv h=>exact hc.skip ho hm0 hgv fun a' w' hc'=>run_text hg aos (i + 1) _ _ _ _ _ a' w' h (by simp at hn;omega) hm' hc' hQ
end
structure Tr (P:Program) (base:Nat) (aos:List AOper) (fps:List (List Nat × List Nat)) (F:Nat→List V) (S:Nat→List Slot):Prop where
 len:fps.length=aos.length
 step:∀ i (h:i < aos.length) (h2:i < fps.length),(gval aos[i].guard (F i)=some true∧∃ v ef,AStep P (evO (F i)) (S i) (base + aos[i].c) aos[i].op v fps[i].1 ef∧fps[i].2=ef.map Prod.fst∧F (i + 1)=putF (F i) aos[i].dst v∧S (i + 1)=AStep.eff (S i) ef) ∨
  (gval aos[i].guard (F i)=some false∧fps[i]=([],[])∧F (i + 1)=putF (F i) aos[i].dst (.tup [])∧S (i + 1)=S i)
theorem run_trace {P:Program} {base:Nat} {aos:List AOper} {fr fr' : List V} {st st' : List Slot} {fps:List (List Nat × List Nat)} (h:Run P base aos fr st fps fr' st') :
  ∃ F S,Tr P base aos fps F S∧F 0=fr∧S 0=st∧F aos.length=fr'∧S aos.length=st':=by
 induction h with
 | @nil fr st=>exact ⟨fun _=>fr,fun _=>st,⟨rfl,fun i h _=>absurd h (by simp)⟩,rfl,rfl,rfl,rfl⟩
 | @on o os fr st v rd ef fp fr' st' hg hs h ih =>
  obtain ⟨F,S,ht,h1,h2,h3,h4⟩:=ih
  refine ⟨fun i=>match i with | 0=>fr | i + 1=>F i,fun i=>match i with | 0=>st | i + 1=>S i,⟨by simp [ht.len],fun i h h2'=>?_⟩,rfl,rfl,h3,h4⟩
  cases i with
  | zero=>exact .inl ⟨hg,v,ef,hs,rfl,h1,h2⟩
  | succ i=>simpa using ht.step i (by simpa using h) (by simpa using h2')
 | @off o os fr st fp fr' st' hg h ih =>
  obtain ⟨F,S,ht,h1,h2,h3,h4⟩:=ih
  refine ⟨fun i=>match i with | 0=>fr | i + 1=>F i,fun i=>match i with | 0=>st | i + 1=>S i,⟨by simp [ht.len],fun i h h2'=>?_⟩,rfl,rfl,h3,h4⟩
  cases i with
  | zero=>exact .inr ⟨hg,rfl,h1,h2⟩
  | succ i=>simpa using ht.step i (by simpa using h) (by simpa using h2')
theorem eff_len (st:List Slot):∀ ef:List (Nat × Slot),(AStep.eff st ef).length=st.length
 | []=>rfl
 | (i,s) :: r=>by rw [AStep.eff,eff_len _ r];simp
theorem eff_other:∀ (ef:List (Nat × Slot)) (st:List Slot) (k:Nat),k ∉ ef.map Prod.fst→(AStep.eff st ef)[k]?=st[k]?
 | [],_,_,_=>rfl
 | (i,s) :: r,st,k,h=>by
  simp only [List.map_cons,List.mem_cons,not_or] at h
  rw [AStep.eff,eff_other r _ k h.2,List.getElem?_set,if_neg (fun e=>h.1 e.symm)]
theorem eff_same:∀ (ef:List (Nat × Slot)) (st st2:List Slot) (k:Nat),st.length=st2.length→(k ∉ ef.map Prod.fst→st[k]?=st2[k]?)→(AStep.eff st ef)[k]?=(AStep.eff st2 ef)[k]?
 | [],_,_,_,_,h=>h (by simp)
 | (i,s) :: r,st,st2,k,hl,h=>by
  rw [AStep.eff,AStep.eff]
  refine eff_same r _ _ k (by simpa using hl) fun hk=>?_
  rw [List.getElem?_set,List.getElem?_set]
  by_cases e:i=k
  ·subst e;simp [hl]
  ·rw [if_neg e,if_neg e]
   exact h (by simp only [List.map_cons,List.mem_cons,not_or];exact ⟨fun q=>e q.symm,hk⟩)
end Go.Proofs.YthnihifblmnkdaaGreat

namespace Go.Proofs.YthnihifblmnkdaaGreat
open Go.RowKit
structure RegOK (ops:Array Oper) (aos:List AOper) (bef:List (List Nat)):Prop where
 edges:∀ j (o:Oper),ops[j]?=some o→∀ e ∈ o.after,Region.binds .any e=true→e.on < j
 clos:∀ j (o:Oper),ops[j]?=some o→∀ i ∈ bef.getD j [],∃ e ∈ o.after,Region.binds .any e=true∧(e.on=i∨i ∈ bef.getD e.on [])
 data:∀ i j (hi:i < aos.length) (hj:j < aos.length),i < j→i ∈ bef.getD j []∨((∀ d,aos[i].dst=some d→d ∉ aos[j].names)∧(∀ d,aos[j].dst=some d→d ∉ aos[i].names))
 uniq:∀ i j (hi:i < aos.length) (hj:j < aos.length),i≠j→∀ d,aos[i].dst=some d→aos[j].dst≠some d
def FootOK (bef:List (List Nat)) (fps:List (List Nat × List Nat)):Prop :=
 ∀ i j (hi:i < fps.length) (hj:j < fps.length),i < j→i ∈ bef.getD j []∨∀ k,¬ (k ∈ fps[i].2∧(k ∈ fps[j].1∨k ∈ fps[j].2))∧¬ (k ∈ fps[i].1∧k ∈ fps[j].2)
section
variable {P : Program} {ops : Array Oper} {w0 : Org} {Q : Exit → Act → World → Prop} {B : Nat} {m0 : Mem} {bk0 : Bks} {aos : List AOper} {bef : List (List Nat)} {fps : List (List Nat × List Nat)} {F : Nat → List V} {S : Nat → List Slot} {base : Nat}
theorem tr_len (ht:Tr P base aos fps F S):∀ i,i≤aos.length→(F i).length=(F 0).length∧(S i).length=(S 0).length
 | 0,_=>⟨rfl,rfl⟩
 | i + 1,h=>by
  obtain ⟨h1,h2⟩:=tr_len ht i (by omega)
  have put:∀ (d:Option Nat) (v:V),(putF (F i) d v).length=(F i).length:=by intro d v;cases d <;> simp [putF]
  rcases ht.step i (by omega) (by rw [ht.len];omega) with ⟨_,v,ef,_,_,e1,e2⟩ | ⟨_,_,e1,e2⟩
  ·rw [e1,e2,put,eff_len];exact ⟨h1,h2⟩
  ·rw [e1,e2,put];exact ⟨h1,h2⟩
theorem tr_F (ht:Tr P base aos fps F S) {t:Nat} (i:Nat) (hi:i < aos.length) (h:aos[i].dst≠some t):(F (i + 1))[t]?=(F i)[t]?:=by
 have put:∀ (d:Option Nat) (v:V),d≠some t→(putF (F i) d v)[t]?=(F i)[t]?:=by
  intro d v hd
  cases d with
  | none=>rfl
  | some d=>simp only [putF];rw [List.getElem?_set,if_neg (fun e=>hd (by rw [e]))]
 rcases ht.step i hi (by rw [ht.len];omega) with ⟨_,v,ef,_,_,e1,e2⟩ | ⟨_,_,e1,e2⟩
 ·rw [e1,put _ _ h]
 ·rw [e1,put _ _ h]
theorem tr_Fc (ht:Tr P base aos fps F S) {t a:Nat}:∀ b,a≤b→b≤aos.length→(∀ j (hj:j < aos.length),a≤j→j < b→aos[j].dst≠some t)→(F b)[t]?=(F a)[t]?
 | 0,h,_,_=>by have:a=0:=(by omega);subst this;rfl
 | b + 1,h,hb,hn=>by
  by_cases e:a=b + 1
  ·subst e;rfl
  ·rw [tr_F ht b (by omega) (hn b (by omega) (by omega) (by omega))]
   exact tr_Fc ht b (by omega) (by omega) fun j hj h1 h2=>hn j hj h1 (by omega)
theorem tr_S (ht:Tr P base aos fps F S) {k:Nat} (i:Nat) (hi:i < fps.length) (h:k ∉ fps[i].2):(S (i + 1))[k]?=(S i)[k]?:=by
 rcases ht.step i (by rw [← ht.len];exact hi) hi with ⟨_,v,ef,_,e0,e1,e2⟩ | ⟨_,_,e1,e2⟩
 ·rw [e2];exact eff_other _ _ _ (by rw [← e0];exact h)
 ·rw [e2]
theorem tr_Sc (ht:Tr P base aos fps F S) {k a:Nat}:∀ b,a≤b→b≤fps.length→(∀ j (hj:j < fps.length),a≤j→j < b→k ∉ fps[j].2)→(S b)[k]?=(S a)[k]?
 | 0,h,_,_=>by have:a=0:=(by omega);subst this;rfl
 | b + 1,h,hb,hn=>by
  by_cases e:a=b + 1
  ·subst e;rfl
  ·rw [tr_S ht b (by omega) (hn b (by omega) (by omega) (by omega))]
   exact tr_Sc ht b (by omega) (by omega) fun j hj h1 h2=>hn j hj h1 (by omega)
structure Inv (P:Program) (ops:Array Oper) (B:Nat) (m0:Mem) (bk0:Bks) (w0:Org) (aos:List AOper) (fps:List (List Nat × List Nat)) (F:Nat→List V) (S:Nat→List Slot) (listed:Array Bool) (a:Act) (w:World):Prop where
 down:∀ j,listed.getD j false=true→∀ o,ops[j]?=some o→∀ e ∈ o.after,Region.binds .any e=true→listed.getD e.on false=true
 size:listed.size=ops.size
 st:∃ frS stS,Cn B m0 bk0 w0 a w frS stS∧frS.length=(F 0).length∧stS.length=(S 0).length ∧
  (∀ t,(∀ i (hi:i < aos.length),listed.getD i false=true→aos[i].dst≠some t)→frS[t]?=(F 0)[t]?) ∧
  (∀ t i (hi:i < aos.length),listed.getD i false=true→aos[i].dst=some t→frS[t]?=(F aos.length)[t]?) ∧
  ∀ k,∃ p,p≤aos.length∧stS[k]?=(S p)[k]?∧∀ i (hi:i < fps.length),k ∈ fps[i].2→(listed.getD i false=true ↔ i < p)
theorem listed_lt {listed:Array Bool} {j:Nat} (h:listed.getD j false=true):j < listed.size:=by
 rcases Nat.lt_or_ge j listed.size with g | g
 ·exact g
 ·simp [Array.getD,Nat.not_lt.2 g] at h
theorem down_bef (hreg:RegOK ops aos bef) {listed:Array Bool} (hsz:listed.size=ops.size) (hdown:∀ j,listed.getD j false=true→∀ o,ops[j]?=some o→∀ e ∈ o.after,Region.binds .any e=true→listed.getD e.on false=true) :
  ∀ (j i:Nat),listed.getD j false=true→i ∈ bef.getD j []→listed.getD i false=true:=by
 intro j
 induction j using Nat.strongRecOn with
 | _ j ih =>
  intro i hj hi
  have hlt:=listed_lt hj
  have ho:ops[j]?=some (ops[j]'(by omega)):=by simp
  obtain ⟨e,he,hb,h⟩:=hreg.clos j _ ho i hi
  have hl:=hdown j hj _ ho e he hb
  rcases h with rfl | h
  ·exact hl
  ·exact ih e.on (hreg.edges j _ ho e he hb) i hl h
theorem ev_same {fr fr2:List V} {o:AOp} (h:∀ t,Operand.tmp t ∈ o.opers→fr2[t]?=fr[t]?):∀ x ∈ o.opers,evO fr2 x=evO fr x:=by
 intro x hx
 cases x with
 | tmp t=>show fr2.getD t .any=fr.getD t .any;rw [List.getD,List.getD,h t hx]
 | _=>rfl
theorem names_oper {o:AOper} {t:Nat} (h:Operand.tmp t ∈ o.op.opers):t ∈ o.names:=by
 unfold AOper.names
 rw [List.mem_append]
 left
 rw [List.mem_filterMap]
 exact ⟨_,h,rfl⟩
theorem gval_same {fr fr2:List V} {g:Option (Nat × Bool)} (h:∀ d b,g=some (d,b)→fr2[d]?=fr[d]?):gval g fr2=gval g fr:=by
 cases g with
 | none=>rfl
 | some x=>obtain ⟨d,b⟩:=x;simp only [gval,List.getD,h d b rfl]
theorem inv_step (hreg:RegOK ops aos bef) (hfoot:FootOK bef fps) (ht:Tr P base aos fps F S) (hg:GM m0) (hn:ops.size=aos.length) (hmatch:∀ j (h:j < aos.length) (o:Oper),ops[j]?=some o→MatchOp P ops o aos[j])
  {listed:Array Bool} {a:Act} {w:World} (hinv:Inv P ops B m0 bk0 w0 aos fps F S listed a w) {i:Nat} (hr:i ∈ Region.ready .any ops listed) {K:Act→World→Prop}
  (hK:∀ a w,Inv P ops B m0 bk0 w0 aos fps F S (listed.setIfInBounds i true) a w→K a w):wpOp P ops Q i K a w:=by
 obtain ⟨frS,stS,hcn,hfl,hsl,hf0,hf1,hst⟩:=hinv.st
 rw [mem_ready] at hr
 obtain ⟨hni,o,ho,hpre⟩:=hr
 have hio:i < ops.size:=(Array.getElem?_eq_some_iff.1 ho).1
 have hi:i < aos.length:=by omega
 have hif:i < fps.length:=by rw [ht.len];exact hi
 have his:i < listed.size:=by rw [hinv.size];exact hio
 have hnl:¬ listed.getD i false=true:=by
  intro h
  rw [Array.getD,dif_pos his] at h hni
  rw [h] at hni;cases hni
 have down:=down_bef hreg hinv.size hinv.down
 have hbef:∀ j,j ∈ bef.getD i []→listed.getD j false=true:=fun j hj=>by
  obtain ⟨e,he,hb,h⟩:=hreg.clos i o ho j hj
  rcases h with rfl | h
  ·exact hpre e he hb
  ·exact down _ _ (hpre e he hb) h
 have hnm:∀ t,t ∈ aos[i].names→frS[t]?=(F i)[t]?:=by
  intro t htn
  by_cases hw:∃ j,∃ hj:j < aos.length,listed.getD j false=true∧aos[j].dst=some t
  ·obtain ⟨j,hj,hlj,hdj⟩:=hw
   have hji:j < i:=by
    rcases Nat.lt_trichotomy j i with h | h | h
    ·exact h
    ·subst h;exact absurd hlj hnl
    ·rcases hreg.data i j hi hj h with g | ⟨_,g⟩
     ·exact absurd (down j i hlj g) hnl
     ·exact absurd htn (g t hdj)
   rw [hf1 t j hj hlj hdj]
   refine tr_Fc ht _ (by omega) (Nat.le_refl _) fun l hl h1 _ hdl=>?_
   exact hreg.uniq j l hj hl (by omega) t hdj hdl
  ·rw [hf0 t fun j hj hlj hdj=>hw ⟨j,hj,hlj,hdj⟩]
   refine (tr_Fc ht _ (Nat.zero_le _) (by omega) fun l hl _ h1 hdl=>?_).symm
   rcases hreg.data l i hl hi h1 with g | ⟨g,_⟩
   ·exact hw ⟨l,hl,hbef l g,hdl⟩
   ·exact g t hdl htn
 have hwr:∀ k,(k ∈ fps[i].1∨k ∈ fps[i].2)→(∀ j (hj:j < fps.length),k ∈ fps[j].2→j < i→listed.getD j false=true)∧(∀ j (hj:j < fps.length),k ∈ fps[j].2→i < j→¬ listed.getD j false=true):=by
  intro k hk
  refine ⟨fun j hj hkj hji=>?_,fun j hj hkj hij hlj=>?_⟩
  ·rcases hfoot j i hj hif hji with g | g
   ·exact hbef j g
   ·exact absurd ⟨hkj,hk⟩ (g k).1
  ·rcases hfoot i j hif hj hij with g | g
   ·exact hnl (down j i hlj g)
   ·rcases hk with hk | hk
    ·exact (g k).2 ⟨hk,hkj⟩
    ·exact (g k).1 ⟨hk,.inr hkj⟩
 have hsk:∀ k,(k ∈ fps[i].1∨k ∈ fps[i].2)→stS[k]?=(S i)[k]?:=by
  intro k hk
  obtain ⟨p,hp,hsp,hiff⟩:=hst k
  obtain ⟨hA,hB⟩:=hwr k hk
  rw [hsp]
  rcases Nat.le_total p i with h | h
  ·refine (tr_Sc ht _ h (by omega) fun j hj h1 h2 hkj=>?_).symm
   have:=(hiff j hj hkj).1 (hA j hj hkj h2)
   omega
  ·refine tr_Sc ht _ h (by rw [ht.len];exact hp) fun j hj h1 h2 hkj=>?_
   have hlj:=(hiff j hj hkj).2 h2
   rcases Nat.lt_or_ge i j with g | g
   ·exact hB j hj hkj g hlj
   ·have:j=i:=by omega
    subst this
    exact hnl hlj
 have after:∀ (v:V) (ef:List (Nat × Slot)) (a' : Act) (w' : World),fps[i].2=ef.map Prod.fst→F (i + 1)=putF (F i) aos[i].dst v→S (i + 1)=AStep.eff (S i) ef→Cn B m0 bk0 w0 a' w' (putF frS aos[i].dst v) (AStep.eff stS ef) →
   Inv P ops B m0 bk0 w0 aos fps F S (listed.setIfInBounds i true) a' w':=by
  intro v ef a' w' e0 e1 e2 hc
  have hself:(listed.setIfInBounds i true).getD i false=true:=by
   rw [Array.getD,dif_pos (by simpa using his)];simp
  have hlen:∀ (l:List V) (d:Option Nat),(putF l d v).length=l.length:=by intro l d;cases d <;> simp [putF]
  have hoth:∀ (l:List V) (t:Nat),aos[i].dst≠some t→(putF l aos[i].dst v)[t]?=l[t]?:=by
   intro l t h
   cases hd:aos[i].dst with
   | none=>rfl
   | some d=>simp only [putF];rw [List.getElem?_set,if_neg (fun e=>h (by rw [hd,e]))]
  refine ⟨fun j hj o' ho' e he hb=>?_,by simpa using hinv.size,putF frS aos[i].dst v,AStep.eff stS ef,hc,by rw [hlen,hfl],by rw [eff_len,hsl],fun t hno=>?_,fun t j hj hlj hdj=>?_,fun k=>?_⟩
  ·by_cases e' : i=j
   ·subst e'
    rw [ho] at ho'
    injection ho' with ho'
    subst ho'
    exact getD_set_true (hpre e he hb)
   ·rw [getD_set_ne false e'] at hj
    exact getD_set_true (hinv.down j hj o' ho' e he hb)
  ·rw [hoth _ _ (hno i hi hself)]
   exact hf0 t fun j hj hlj=>hno j hj (getD_set_true hlj)
  ·by_cases e' : i=j
   ·subst e'
    have e3:(F aos.length)[t]?=(F (i + 1))[t]?:=tr_Fc ht _ (by omega) (Nat.le_refl _) fun l hl h1 _ hdl=>hreg.uniq i l hi hl (by omega) t hdj hdl
    rw [e3,e1,hdj]
    simp only [putF]
    rw [List.getElem?_set,List.getElem?_set,hfl,(tr_len ht i (by omega)).1]
    simp
   ·rw [getD_set_ne false e'] at hlj
    rw [hoth _ _ (hreg.uniq j i hj hi (fun q=>e' q.symm) t hdj)]
    exact hf1 t j hj hlj hdj
  ·by_cases hk:k ∈ fps[i].2
   ·refine ⟨i + 1,hi,?_,fun j hj hkj=>?_⟩
    ·rw [e2]
     exact eff_same ef _ _ k (by rw [hsl,(tr_len ht i (by omega)).2]) fun _=>hsk k (.inr hk)
    ·obtain ⟨hA,hB⟩:=hwr k (.inr hk)
     by_cases e' : i=j
     ·subst e';exact ⟨fun _=>by omega,fun _=>hself⟩
     ·rw [getD_set_ne false e']
      rcases Nat.lt_or_ge j i with g | g
      ·exact ⟨fun _=>by omega,fun _=>hA j hj hkj g⟩
      ·exact ⟨fun q=>absurd q (hB j hj hkj (by omega)),fun q=>by omega⟩
   ·obtain ⟨p,hp,hsp,hiff⟩:=hst k
    refine ⟨p,hp,?_,fun j hj hkj=>?_⟩
    ·rw [eff_other _ _ _ (by rw [← e0];exact hk)];exact hsp
    ·have e' : i≠j:=fun q=>by subst q;exact hk hkj
     rw [getD_set_ne false e']
     exact hiff j hj hkj
 have hgd:∀ d b,aos[i].guard=some (d,b)→frS[d]?=(F i)[d]?:=fun d b h=>hnm d (by unfold AOper.names;rw [h];simp)
 have hm:=hmatch i hi o ho
 rcases ht.step i hi hif with ⟨g1,v,ef,hs,e0,e1,e2⟩ | ⟨g1,e0,e1,e2⟩
 ·refine hcn.step (v:=v) (rd:=fps[i].1) (ef:=ef) hg ho hm (by rw [gval_same hgd];exact g1) (hs.congr (ev_same fun t htn=>hnm t (names_oper htn)) (by rw [hsl,(tr_len ht i (by omega)).2]) fun k hk=>hsk k (by rw [e0];exact hk)) fun a' w' hc=>hK a' w' (after v ef a' w' e0 e1 e2 hc)
 ·refine hcn.skip ho hm (by rw [gval_same hgd];exact g1) fun a' w' hc=>hK a' w' (after _ [] a' w' (by rw [e0];rfl) e1 e2 hc)
def unl (listed:Array Bool) (n:Nat):Nat:=(List.range n).countP fun i=>!listed.getD i false
theorem countP_lt {α:Type} {p q:α→Bool}:∀ {l:List α} (_:∀ x,q x=true→p x=true) {x:α},x ∈ l→p x=true→q x=false→l.countP q < l.countP p
 | y :: l,h,x,hx,hp,hq=>by
  have hle:∀ l:List α,l.countP q≤l.countP p:=fun l=>List.countP_mono_left fun z _ hz=>h z hz
  rcases List.mem_cons.1 hx with rfl | hx
  ·rw [List.countP_cons_of_pos hp,List.countP_cons_of_neg (by simp [hq])]
   have:=hle l;omega
  ·have ih:=countP_lt h hx hp hq
   rw [List.countP_cons,List.countP_cons]
   have:(if q y=true then 1 else 0)≤(if p y=true then 1 else 0):=by
    by_cases hy:q y=true
    ·rw [if_pos hy,if_pos (h y hy)];exact Nat.le_refl _
    ·rw [if_neg hy];exact Nat.zero_le _
   omega
theorem inv_done (ht:Tr P base aos fps F S) (hn:ops.size=aos.length) {listed:Array Bool} {a:Act} {w:World} (hinv:Inv P ops B m0 bk0 w0 aos fps F S listed a w) (hall:∀ i,i < ops.size→listed.getD i false=true) :
  Cn B m0 bk0 w0 a w (F aos.length) (S aos.length):=by
 obtain ⟨frS,stS,hcn,hfl,hsl,hf0,hf1,hst⟩:=hinv.st
 have e1:frS=F aos.length:=by
  apply List.ext_getElem?
  intro t
  by_cases hw:∃ j,∃ hj:j < aos.length,aos[j].dst=some t
  ·obtain ⟨j,hj,hd⟩:=hw
   exact hf1 t j hj (hall j (by omega)) hd
  ·rw [hf0 t fun j hj _ hd=>hw ⟨j,hj,hd⟩]
   exact (tr_Fc ht _ (Nat.zero_le _) (Nat.le_refl _) fun j hj _ _ hd=>hw ⟨j,hj,hd⟩).symm
 have e2:stS=S aos.length:=by
  apply List.ext_getElem?
  intro k
  obtain ⟨p,hp,hsp,hiff⟩:=hst k
  rw [hsp]
  refine (tr_Sc ht _ hp (by rw [ht.len];exact Nat.le_refl _) fun j hj h1 _ hkj=>?_).symm
  have:=(hiff j hj hkj).1 (hall j (by rw [hn,← ht.len];exact hj))
  omega
 rw [← e1,← e2]
 exact hcn
theorem all_of_ready (hreg:RegOK ops aos bef) {listed:Array Bool} (hsz:listed.size=ops.size) (hr:Region.ready .any ops listed=[]):∀ i,i < ops.size→listed.getD i false=true:=by
 intro i
 induction i using Nat.strongRecOn with
 | _ i ih =>
  intro hi
  by_cases h:listed.getD i false=true
  ·exact h
  ·have ho:ops[i]?=some ops[i]:=by simp [hi]
   have:i ∈ Region.ready .any ops listed:=by
    rw [mem_ready]
    refine ⟨?_,_,ho,fun e he hb=>?_⟩
    ·rw [Array.getD,dif_pos (by omega)] at h ⊢
     simpa using h
    ·have hlt:=hreg.edges i _ ho e he hb
     exact ih e.on hlt (by omega)
   rw [hr] at this
   cases this
theorem reg_any (hreg:RegOK ops aos bef) (hfoot:FootOK bef fps) (ht:Tr P base aos fps F S) (hg:GM m0) (hn:ops.size=aos.length) (hmatch:∀ j (h:j < aos.length) (o:Oper),ops[j]?=some o→MatchOp P ops o aos[j])
  (hQ:∀ a w,Cn B m0 bk0 w0 a w (F aos.length) (S aos.length)→Q .normal a w):∀ (fuel:Nat) (listed:Array Bool) (a:Act) (w:World),unl listed ops.size≤fuel→Inv P ops B m0 bk0 w0 aos fps F S listed a w→wpAny P .any ops Q fuel listed a w
 | 0,listed,a,w,hu,hinv=>by
  have hall:∀ i,i < ops.size→listed.getD i false=true:=by
   intro i hi
   have h0:unl listed ops.size=0:=by omega
   unfold unl at h0
   rw [List.countP_eq_zero] at h0
   have:=h0 i (List.mem_range.2 hi)
   simpa using this
  refine ⟨?_,hQ _ _ (inv_done ht hn hinv hall)⟩
  rw [List.eq_nil_iff_forall_not_mem]
  intro i hi
  rw [mem_ready] at hi
  obtain ⟨h1,o,h2,_⟩:=hi
  have hlt:i < ops.size:=(Array.getElem?_eq_some_iff.1 h2).1
  have:=hall i hlt
  rw [Array.getD,dif_pos (by rw [hinv.size];exact hlt)] at this h1
  rw [this] at h1;cases h1
 | fuel + 1,listed,a,w,hu,hinv=>by
  refine ⟨fun hr=>hQ _ _ (inv_done ht hn hinv (all_of_ready hreg hinv.size hr)),fun i hi=>?_⟩
  refine inv_step hreg hfoot ht hg hn hmatch hinv hi fun a' w' hinv'=>?_
  refine reg_any hreg hfoot ht hg hn hmatch hQ fuel _ a' w' ?_ hinv'
  rw [mem_ready] at hi
  obtain ⟨h1,o,h2,_⟩:=hi
  have hlt:i < ops.size:=(Array.getElem?_eq_some_iff.1 h2).1
  have hls:i < listed.size:=by rw [hinv.size];exact hlt
  have:unl (listed.setIfInBounds i true) ops.size < unl listed ops.size:=by
   refine countP_lt (fun x hx=>?_) (List.mem_range.2 hlt) ?_ ?_
   ·simp only [Bool.not_eq_true'] at hx ⊢
    cases hb:listed.getD x false with
    | false=>rfl
    | true=>rw [getD_set_true hb] at hx;cases hx
   ·rw [Array.getD,dif_pos hls] at h1 ⊢
    simpa using h1
   ·rw [Array.getD,dif_pos (by simpa using hls)];simp
  omega
theorem reg_draw {id:Nat} (hmix:P.follows .mixedOrders=true) (hreg:RegOK ops aos bef) (hfoot:FootOK bef fps) (hg:GM m0) (hn:ops.size=aos.length) (hmatch:∀ j (h:j < aos.length) (o:Oper),ops[j]?=some o→MatchOp P ops o aos[j])
  {fr fr' : List V} {st st' : List Slot} (hrun:Run P base aos fr st fps fr' st') {a:Act} {w:World} (hcn:Cn B m0 bk0 w0 a w fr st) (hQ:∀ a w,Cn B m0 bk0 w0 a w fr' st'→Q .normal a w):(Code.region id ops true).wp P Q a w:=by
 obtain ⟨F,S,ht,h1,h2,h3,h4⟩:=run_trace hrun
 refine wp_region_any hmix (reg_any hreg hfoot ht hg hn hmatch (by rw [h3,h4];exact hQ) ops.size _ a _ ?_ ⟨fun j hj=>?_,by simp,fr,st,hcn.drew,by rw [h1],by rw [h2],fun t _=>by rw [h1],fun t i _ hl=>?_,fun k=>⟨0,Nat.zero_le _,by rw [h2],fun i hi _=>?_⟩⟩)
 ·exact Nat.le_trans (List.countP_le_length) (by simp)
 ·have:=listed_lt hj
  rw [Array.getD,dif_pos this] at hj
  simp at hj
 ·have:=listed_lt hl
  rw [Array.getD,dif_pos this] at hl
  simp at hl
 ·constructor
  ·intro hl
   have:=listed_lt hl
   rw [Array.getD,dif_pos this] at hl
   simp at hl
  ·omega
end
end Go.Proofs.YthnihifblmnkdaaGreat

namespace Go.Proofs.YthnihifblmnkdaaGreat
open Go.RowKit
inductive ACode where
 | skip
 | reg (nc:Nat) (ops:List AOper) (bef:Option (List (List Nat)))
 | seq (a b:ACode)
 | cond (c:Operand) (a b:ACode)
 | block (id:Nat) (a:ACode)
 | loop (a:ACode)
 | exit (id:Nat)
 | ret
 | raw (c:Code)
 deriving Inhabited
inductive AExit where
 | normal
 | exit (id:Nat)
 | ret
inductive Frz:List Slot→List Slot→Prop
 | refl {st}:Frz st st
 | step {st st' i cs frz f} (h:Frz st st') (hi:st'[i]?=some (.live cs frz)) (h1:frz≤f) (h2:f≤cs.length):Frz st (st'.set i (.live cs f))
def sgm (sg:List Nat) (i:Nat):Nat:=sg.getD i i
def V.ren (sg:List Nat):V→V
 | .lit v=>.lit v
 | .agg cs=>.agg (renL sg cs)
 | .tup cs=>.tup (renL sg cs)
 | .sl xs f=>.sl xs f
 | .osl id off n es f=>.osl (sgm sg id) off n es f
 | .ptr id off=>.ptr (sgm sg id) off
 | .eptr cs=>.eptr cs
 | .clo fn caps=>.clo fn (renL sg caps)
 | .any=>.any
where renL (sg:List Nat):List V→List V
 | []=>[]
 | v :: vs=>v.ren sg :: renL sg vs
theorem renL_len (sg:List Nat):∀ l:List V,(V.ren.renL sg l).length=l.length
 | []=>rfl
 | v :: l=>by simp [V.ren.renL,renL_len sg l]
theorem renL_get (sg:List Nat):∀ (l:List V) (j:Nat) (h:j < l.length) (h2:j < (V.ren.renL sg l).length),(V.ren.renL sg l)[j]=l[j].ren sg
 | v :: l,0,_,_=>rfl
 | v :: l,j + 1,h,h2=>by simpa [V.ren.renL] using renL_get sg l j (by simpa using h) (by simpa [V.ren.renL] using h2)
theorem ren_one (sg:List Nat) (v:V):(v.ren sg).one=v.one:=by cases v <;> rfl
theorem renL_mem {sg:List Nat} {l:List V} {v:V} (h:v ∈ l):v.ren sg ∈ V.ren.renL sg l:=by
 obtain ⟨j,hj,rfl⟩:=List.getElem_of_mem h
 rw [← renL_get sg l j hj (by rw [renL_len];exact hj)]
 exact List.getElem_mem _
theorem Rep.ren {m:Mem} {bk:Bks} {sg:List Nat} {c:Value} {u:V} (h:Rep m bk c u):∀ v:V,v.ren sg=u→Rep m (fun i=>bk (sgm sg i)) c v:=by
 have lists:∀ {bk:Bks} {cs:Array Value} {vs l:List V} (hl:cs.size=vs.length) (ih:∀ j (h1:j < cs.size) (h2:j < vs.length),∀ v:V,v.ren sg=vs[j]→Rep m (fun i=>bk (sgm sg i)) cs[j] v),V.ren.renL sg l=vs →
   cs.size=l.length∧∀ j (h1:j < cs.size) (h2:j < l.length),Rep m (fun i=>bk (sgm sg i)) cs[j] l[j]:=by
  intro bk cs vs l hl ih e
  subst e
  rw [renL_len] at hl
  exact ⟨hl,fun j h1 h2=>ih j h1 (by rw [renL_len];exact h2) l[j] (renL_get sg l j h2 _).symm⟩
 induction h with
 | lit h=>intro v e;cases v <;> simp only [V.ren,reduceCtorEq,V.lit.injEq] at e;subst e;exact .lit h
 | agg hl h1 _ ih =>
  intro v e
  cases v <;> simp only [V.ren,reduceCtorEq,V.agg.injEq] at e
  obtain ⟨g1,g2⟩:=lists hl ih e
  exact .agg g1 (fun v hv=>by have:=h1 _ (e ▸ renL_mem (sg:=sg) hv);rwa [ren_one] at this) g2
 | tup hl _ ih =>
  intro v e
  cases v <;> simp only [V.ren,reduceCtorEq,V.tup.injEq] at e
  obtain ⟨g1,g2⟩:=lists hl ih e
  exact .tup g1 g2
 | sl hn hc hf hes h1 hm h _=>intro v e;cases v <;> simp only [V.ren,reduceCtorEq,V.sl.injEq] at e;obtain ⟨rfl,rfl⟩:=e;exact .sl hn hc hf hes h1 hm h
 | slnil hf=>intro v e;cases v <;> simp only [V.ren,reduceCtorEq,V.sl.injEq] at e;obtain ⟨rfl,rfl⟩:=e;exact .slnil hf
 | osl hb hc hf hs=>intro v e;cases v <;> simp only [V.ren,reduceCtorEq,V.osl.injEq] at e;obtain ⟨rfl,rfl,rfl,rfl,rfl⟩:=e;exact .osl hb hc hf hs
 | ptr hb=>intro v e;cases v <;> simp only [V.ren,reduceCtorEq,V.ptr.injEq] at e;obtain ⟨rfl,rfl⟩:=e;exact .ptr hb
 | eptr h1 hm h _=>intro v e;cases v <;> simp only [V.ren,reduceCtorEq,V.eptr.injEq] at e;subst e;exact .eptr h1 hm h
 | clo hv hl _ ih =>
  intro v e
  cases v <;> simp only [V.ren,reduceCtorEq,V.clo.injEq] at e
  obtain ⟨rfl,e⟩:=e
  obtain ⟨g1,g2⟩:=lists hl ih e
  exact .clo hv g1 g2
 | bnd hl _ ih =>
  intro v e
  cases v <;> simp only [V.ren,reduceCtorEq,V.clo.injEq] at e
  obtain ⟨rfl,e⟩:=e
  obtain ⟨g1,g2⟩:=lists hl ih e
  exact .bnd g1 g2
 | any=>intro v e;cases v <;> simp only [V.ren,reduceCtorEq] at e;exact .any
structure Wk (n0 n:Nat) (sg:List Nat) (fr fr' : List V) (st st' : List Slot):Prop where
 le:n0≤n
 fix:∀ i,i < n0→sgm sg i=i
 len:fr'.length=fr.length
 fr:∀ t (h1:t < fr'.length) (h2:t < fr.length),fr'[t]=.any∨(fr'[t].ren sg=fr[t]∧fr'[t].idlt n=true)
 size:st'.length=n
 live:∀ (i:Nat) (cs:List V) (frz:Nat),st'[i]?=some (Slot.live cs frz)→st[sgm sg i]?=some (Slot.live (V.ren.renL sg cs) frz)∧V.idlt.belowL n cs=true
 fresh:∀ i:Nat,st'[i]?=some Slot.fresh→st[sgm sg i]?=some Slot.fresh
 inj:∀ (i j:Nat) (ci:List V) (fi:Nat) (cj:List V) (fj:Nat),st'[i]?=some (Slot.live ci fi)→st'[j]?=some (Slot.live cj fj)→sgm sg i=sgm sg j→i=j
def AOps (P:Program) (base:Nat):List AOper→List (List Nat × List Nat)→List V→List Slot→(List (List Nat × List Nat)→List V→List Slot→Prop)→Prop
 | [],fp,fr,st,K=>K fp fr st
 | o :: os,fp,fr,st,K =>
  (gval o.guard fr=some false∧AOps P base os (([],[]) :: fp) (putF fr o.dst (.tup [])) st K) ∨
  (gval o.guard fr=some true∧∃ v rd ef,AStep P (evO fr) st (base + o.c) o.op v rd ef∧AOps P base os ((rd,ef.map Prod.fst) :: fp) (putF fr o.dst v) (AStep.eff st ef) K)
def confl (a b:List Nat × List Nat):Bool:=a.2.any (fun k=>b.1.contains k || b.2.contains k) || a.1.any (fun k=>b.2.contains k)
def footB (bef:List (List Nat)) (fps:List (List Nat × List Nat)):Bool :=
 (List.range fps.length).all fun j=>(List.range j).all fun i=>(bef.getD j []).contains i || !confl (fps.getD i ([],[])) (fps.getD j ([],[]))
def unr (n0:Nat) (R:(AExit→List V→List Slot→Prop)→List V→List Slot→Prop) (Q:AExit→List V→List Slot→Prop):Nat→List V→List Slot→Prop
 | 0,fr,st=>∃ (I:Nat→List V→List Slot→Prop) (n1 k0:Nat) (sg0:List Nat) (fr0:List V) (st0:List Slot),Wk n0 k0 sg0 fr fr0 st st0∧I n1 fr0 st0 ∧
   ∀ n fr st,I n fr st→R (fun e fr' st'=>match e with | .normal=>∃ n' k sg fr'' st'',n' < n∧Wk n0 k sg fr' fr'' st' st''∧I n' fr'' st'' | e=>Q e fr' st') fr st
 | j + 1,fr,st=>R (fun e fr' st'=>match e with | .normal=>unr n0 R Q j fr' st' | e=>Q e fr' st') fr st
def exitOf:Exit→Option AExit
 | .normal=>some .normal
 | .exit id=>some (.exit id)
 | .ret=>some .ret
 | _=>none
def PostC (B:Nat) (m0:Mem) (bk0:Bks) (w0:Org) (Q:AExit→List V→List Slot→Prop):Exit→Act→World→Prop:=fun e a w=>∃ ae fr st,exitOf e=some ae∧Cn B m0 bk0 w0 a w fr st∧Q ae fr st
theorem PostC.mono {B:Nat} {m0:Mem} {bk0:Bks} {w0:Org} {Q Q' : AExit→List V→List Slot→Prop} (h:∀ e fr st,Q e fr st→Q' e fr st):∀ e a w,PostC B m0 bk0 w0 Q e a w→PostC B m0 bk0 w0 Q' e a w:=by
 rintro e a w ⟨ae,fr,st,h1,h2,h3⟩
 exact ⟨ae,fr,st,h1,h2,h _ _ _ h3⟩
def AW (P:Program) (n0:Nat):ACode→(AExit→List V→List Slot→Prop)→List V→List Slot→Prop
 | .skip,Q,fr,st=>Q .normal fr st
 | .reg nc ops none,Q,fr,st=>∃ st0 x,Frz st st0∧AOps P st0.length ops [] fr (st0++List.replicate (nc + x) .fresh) fun _ fr st=>Q .normal fr st
 | .reg nc ops (some bef),Q,fr,st=>∃ st0 x,Frz st st0∧AOps P st0.length ops [] fr (st0++List.replicate (nc + x) .fresh) fun fp fr st=>footB bef fp.reverse=true∧Q .normal fr st
 | .seq a b,Q,fr,st=>AW P n0 a (fun e fr st=>match e with | .normal=>AW P n0 b Q fr st∨∃ k sg fr' st',Wk n0 k sg fr fr' st st'∧AW P n0 b Q fr' st' | e=>Q e fr st) fr st
 | .cond c a b,Q,fr,st=>∃ t,evO fr c=.lit (.bool t)∧(t=true→AW P n0 a Q fr st)∧(t=false→AW P n0 b Q fr st)
 | .block id a,Q,fr,st=>AW P n0 a (fun e fr st=>match e with | .exit j=>if j=id then Q .normal fr st else Q (.exit j) fr st | e=>Q e fr st) fr st
 | .loop a,Q,fr,st=>∃ j,unr n0 (fun Q fr st=>AW P n0 a Q fr st) Q j fr st
 | .exit id,Q,fr,st=>Q (.exit id) fr st
 | .ret,Q,fr,st=>Q .ret fr st
 | .raw c,Q,fr,st=>∀ (B:Nat) (m0:Mem) (bk0:Bks) (w0:Org) (a:Act) (w:World),GM m0→w0.mark=true→(∀ i x,bk0 i=some x→i < n0)→Cn B m0 bk0 w0 a w fr st→c.wp P (PostC B m0 bk0 w0 Q) a w
inductive MatchC (P:Program):Code→ACode→Prop
 | skip:MatchC P .skip .skip
 | label {l}:MatchC P (.label l) .skip
 | regT {id ops aos nc} (hn:ops.size=aos.length) (hm:∀ j (h:j < aos.length) (o:Oper),ops[j]?=some o→MatchOp P ops o aos[j]):MatchC P (.region id ops false) (.reg nc aos none)
 | regD {id ops aos nc bef} (hn:ops.size=aos.length) (hm:∀ j (h:j < aos.length) (o:Oper),ops[j]?=some o→MatchOp P ops o aos[j]) (hr:RegOK ops aos bef):MatchC P (.region id ops true) (.reg nc aos (some bef))
 | seq {a b x y} (h1:MatchC P a x) (h2:MatchC P b y):MatchC P (.seq a b) (.seq x y)
 | cond {c a b x y} (h1:MatchC P a x) (h2:MatchC P b y):MatchC P (.cond c a b) (.cond c x y)
 | block {id a x} (h:MatchC P a x):MatchC P (.block id a) (.block id x)
 | loop {a x} (h:MatchC P a x):MatchC P (.loop a) (.loop x)
 | scope {a x} (h:MatchC P a x):MatchC P (.scope a) x
 | exit {id}:MatchC P (.exit id) (.exit id)
 | ret:MatchC P .ret .ret
 | raw {c}:MatchC P c (.raw c)
theorem footB_ok {bef:List (List Nat)} {fps:List (List Nat × List Nat)} (h:footB bef fps=true):FootOK bef fps:=by
 intro i j hi hj hij
 simp only [footB,List.all_eq_true,List.mem_range,Bool.or_eq_true,Bool.not_eq_true'] at h
 have:=h j hj i hij
 rw [getD_pos _ _ _ hi,getD_pos _ _ _ hj] at this
 rcases this with g | g
 ·exact .inl (by simpa using g)
 ·refine .inr fun k=>?_
  simp only [confl,Bool.or_eq_false_iff,List.any_eq_false,Bool.or_eq_true,List.contains_eq_mem,decide_eq_true_eq,not_or] at g
  exact ⟨fun ⟨h1,h2⟩=>by have:=g.1 k h1;rcases h2 with h2 | h2;exact this.1 h2;exact this.2 h2,fun ⟨h1,h2⟩=>g.2 k h1 h2⟩
theorem aops_run {P:Program} {base:Nat}:∀ {os:List AOper} {fp:List (List Nat × List Nat)} {fr:List V} {st:List Slot} {K:List (List Nat × List Nat)→List V→List Slot→Prop},AOps P base os fp fr st K →
  ∃ fps fr' st',Run P base os fr st fps fr' st'∧K (fps.reverse++fp) fr' st'
 | [],fp,fr,st,K,h=>⟨[],fr,st,.nil,h⟩
 | o :: os,fp,fr,st,K,h=>by
  rcases h with ⟨hg,h⟩ | ⟨hg,v,rd,ef,hs,h⟩
  ·obtain ⟨fps,fr',st',hr,hk⟩:=aops_run h
   exact ⟨_,fr',st',.off hg hr,by simpa using hk⟩
  ·obtain ⟨fps,fr',st',hr,hk⟩:=aops_run h
   exact ⟨_,fr',st',.on hg hs hr,by simpa using hk⟩
section
variable {P : Program} {w0 : Org} {B : Nat} {m0 : Mem} {bk0 : Bks} {a : Act} {w : World} {fr : List V} {st : List Slot}
theorem Cn.frz (h:Cn B m0 bk0 w0 a w fr st) {st0:List Slot} (hf:Frz st st0):Cn B m0 bk0 w0 a w fr st0:=by
 induction hf with
 | refl=>exact h
 | step hf hi h1 h2 ih =>
  obtain ⟨m,bk,hsim,hfr,hd,hb,hbk⟩:=ih
  obtain ⟨m',g1,g2⟩:=hsim.freeze hi h1 h2
  exact ⟨m',bk,g1,hfr.mono g2 (fun _ _ h=>h),hd,hb,hbk⟩
theorem Cn.room (h:Cn B m0 bk0 w0 a w fr st) (n:Nat):Cn B m0 bk0 w0 a w fr (st++List.replicate n .fresh):=by
 obtain ⟨m,bk,hsim,hfr,hd,hb,hbk⟩:=h
 have get:∀ (k:Nat) (c:List V) (f:Nat),(st++List.replicate n Slot.fresh)[k]?=some (Slot.live c f)→st[k]?=some (Slot.live c f):=by
  intro k c f hk
  by_cases hlt:k < st.length
  ·rw [List.getElem?_append_left hlt] at hk;exact hk
  ·rw [List.getElem?_append_right (by omega),List.getElem?_replicate] at hk
   split at hk <;> simp at hk
 refine ⟨m,bk,⟨hsim.base,hsim.mem,hsim.ext,hsim.old,fun id cs f hid=>hsim.blk id cs f (get _ _ _ hid),fun i j ci fi cj fj x y hi hj=>hsim.inj i j ci fi cj fj x y (get _ _ _ hi) (get _ _ _ hj),fun id hid=>?_⟩,hfr,hd,hb,hbk⟩
 refine hsim.nb id ?_
 by_cases hlt:id < st.length
 ·rw [List.getElem?_append_left hlt] at hid;exact hid
 ·exact .inl (List.getElem?_eq_none (by omega))
theorem Cn.wk {n0:Nat} (hk0:∀ id x,bk0 id=some x→id < n0) (h:Cn B m0 bk0 w0 a w fr st) {n:Nat} {sg:List Nat} {fr' : List V} {st' : List Slot} (hw:Wk n0 n sg fr fr' st st'):Cn B m0 bk0 w0 a w fr' st':=by
 obtain ⟨m,bk,hsim,hfr,hd,hb,hbk⟩:=h
 have lt:∀ (i:Nat) (s:Slot),st'[i]?=some s→i < n:=by
  intro i s hi;have:=(List.getElem?_eq_some_iff.1 hi).1;rw [hw.size] at this;exact this
 refine ⟨m,cutBk n (fun i=>bk (sgm sg i)),⟨hsim.base,hsim.mem,hsim.ext,hsim.old,fun id cs f hid=>?_,fun i j ci fi cj fj x y hi hj hx hy e=>?_,fun id hid=>?_⟩,⟨hfr.1.trans hw.len.symm,fun j h1 h2=>?_⟩,hd,hb,fun id x h=>?_⟩
 ·have hlt:=lt _ _ hid
  obtain ⟨h0,hc⟩:=hw.live id cs f hid
  obtain ⟨b,sz,arr,t,lo,hi,hl⟩:=hsim.blk _ _ f h0
  refine ⟨b,sz,arr,t,lo,hi,⟨by unfold cutBk;rw [if_pos hlt];exact hl.at_,hl.own,hl.heap,hl.size,hl.free,by have:=hl.fit;rwa [renL_len] at this,fun u hu=>by have:=hl.one _ (renL_mem (sg:=sg) hu);rwa [ren_one] at this,fun k hk=>?_,hl.mu,hl.fz⟩⟩
  obtain ⟨u,g1,g2⟩:=hl.rep k (by rw [renL_len];exact hk)
  exact ⟨u,g1,(Rep.ren g2 cs[k] (renL_get sg cs k hk _).symm).cut (belowL_get hc k hk)⟩
 ·unfold cutBk at hx hy
  rw [if_pos (lt _ _ hi)] at hx
  rw [if_pos (lt _ _ hj)] at hy
  exact hw.inj i j ci fi cj fj hi hj (hsim.inj _ _ _ _ _ _ x y (hw.live i ci fi hi).1 (hw.live j cj fj hj).1 hx hy e)
 ·unfold cutBk
  by_cases hlt:id < n
  ·rw [if_pos hlt]
   rcases hid with h | h
   ·rw [List.getElem?_eq_none_iff,hw.size] at h;omega
   ·exact hsim.nb _ (.inr (hw.fresh id h))
  ·rw [if_neg hlt]
 ·have hl:j < fr.length:=by rw [← hw.len];exact h2
  rcases hw.fr j h2 hl with e | ⟨e,hid⟩
  ·rw [e];exact .any
  ·exact (Rep.ren (hfr.2 j h1 hl) _ e).cut hid
 ·have hi:=hk0 _ _ h
  unfold cutBk
  rw [if_pos (Nat.lt_of_lt_of_le hi hw.le)]
  show bk (sgm sg id)=some x
  rw [hw.fix _ hi]
  exact hbk _ _ h
def LoopAt (P:Program) (c:Code) (Q:Exit→Act→World→Prop) (a:Act) (w:World):Prop :=
 ∀ (b:Frame) (k:List Item) (cs:List Frame),∃ e a' w',Q e a' w'∧Arrives P (lone (b.at a (.code c :: .inLoop c :: k)) cs w) b k cs e a' w'
theorem wp_of_loopAt {c:Code} {Q:Exit→Act→World→Prop} (h:LoopAt P c Q a w):(Code.loop c).wp P Q a w:=fun b k cs=>by
 obtain ⟨e,a',w',hq,harr⟩:=h b k cs
 exact ⟨e,a',w',hq,.of_steps (.one step_loop) harr⟩
theorem loopAt_unr {c:Code} {Q:Exit→Act→World→Prop} (h:c.wp P (Exit.then (fun a' w'=>LoopAt P c Q a' w') Q) a w):LoopAt P c Q a w:=fun b k cs=>by
 obtain ⟨e,a₁,w₁,hq,harr⟩:=h b (.inLoop c :: k) cs
 cases e with
 | normal =>
  obtain ⟨e₂,a₂,w₂,hq₂,harr₂⟩:=hq b k cs
  exact ⟨e₂,a₂,w₂,hq₂,.of_steps (Steps.trans harr (.one step_inLoop)) harr₂⟩
 | _=>exact ⟨_,a₁,w₁,hq,.pass (x:=.inLoop c) rfl (fun _ _=>.inl (by simp)) harr⟩
theorem loopAt_inv {c:Code} {Q:Exit→Act→World→Prop} {I:Nat→Act→World→Prop} (round:∀ n a w,I n a w→c.wp P (Exit.then (fun a' w'=>∃ n',n' < n∧I n' a' w') Q) a w):∀ (n:Nat) (a:Act) (w:World),I n a w→LoopAt P c Q a w:=by
 intro n
 induction n using Nat.strongRecOn with
 | _ n ih =>
  intro a w hI
  refine loopAt_unr (wp_mono (round n a w hI) ?_)
  intro e a' w' h
  cases e with
  | normal=>obtain ⟨n',hlt,h'⟩:=h;exact ih n' hlt a' w' h'
  | _=>exact h
def shutAll (Ds:List Nat) (w:World):World:=Ds.foldl (fun w D=>w.putObj D (.deferred none)) w
def Shut (B:Nat) (w0 w' w'' : World):Prop:=∃ Ds:List Nat,Ds.Nodup∧(∀ D ∈ Ds,w0.heap.size≤D∧B≤D∧w'.heap[D]?=some (.deferred (some [])))∧w''=shutAll Ds w'
theorem shut_rest {D:Nat} {Ds:List Nat} {w:World} (hn:(D :: Ds).Nodup) (h:∀ E ∈ D :: Ds,w.heap[E]?=some (.deferred (some []))):∀ E ∈ Ds,(w.putObj D (.deferred none)).heap[E]?=some (.deferred (some [])):=fun E hE=>by
 have hne:E≠D:=by
  rintro rfl
  exact (List.nodup_cons.1 hn).1 hE
 exact (World.putObj_heap_other hne).trans (h E (List.mem_cons_of_mem _ hE))
theorem Cn.shut1 (h:Cn B m0 bk0 w0 a w fr st) {D:Nat} (h1:w0.world.heap.size≤D) (h2:B≤D) (h3:w.heap[D]?=some (.deferred (some []))):Cn B m0 bk0 w0 { a with defers:=[] } (w.putObj D (.deferred none)) fr st:=by
 obtain ⟨m,bk,hsim,hfr,hd,hb,hbk⟩:=h
 refine ⟨m,bk,hsim.put h3 _,hfr,.nil,⟨⟨hb.os,hb.tape,hb.output,by have:=hb.size;simpa using this,fun k hk=>?_⟩,fun k c t lo hi hk=>?_,fun k o hk ho=>?_⟩,hbk⟩
 ·rw [World.putObj_heap_other (by omega)];exact hb.block k hk
 ·obtain ⟨c',g1,g2⟩:=hb.shp k c t lo hi hk
  refine ⟨c',?_,g2⟩
  rw [World.putObj_heap_other]
  ·exact g1
  ·rintro rfl;rw [h3] at g1;cases g1
 ·have:=(Array.getElem?_eq_some_iff.1 hk).1
  rw [World.putObj_heap_other (by omega)];exact hb.oth k o hk ho
theorem Cn.shutL {a:Act}:∀ (Ds:List Nat) (w:World),Cn B m0 bk0 w0 { a with defers:=[] } w fr st→Ds.Nodup→(∀ D ∈ Ds,w0.world.heap.size≤D∧B≤D∧w.heap[D]?=some (.deferred (some [])))→Cn B m0 bk0 w0 { a with defers:=[] } (shutAll Ds w) fr st
 | [],w,h,_,_=>h
 | D :: Ds,w,h,hn,hd=>by
  obtain ⟨h1,h2,h3⟩:=hd D List.mem_cons_self
  exact Cn.shutL Ds _ (h.shut1 h1 h2 h3) (List.nodup_cons.1 hn).2 fun E hE=>⟨(hd E (List.mem_cons_of_mem _ hE)).1,(hd E (List.mem_cons_of_mem _ hE)).2.1,shut_rest hn (fun E hE=>(hd E hE).2.2) E hE⟩
theorem Cn.shut {w'' : World} (h:Cn B m0 bk0 w0 a w fr st) (hs:Shut B w0.world w w''):Cn B m0 bk0 w0 { a with defers:=[] } w'' fr st:=by
 obtain ⟨Ds,h1,h2,rfl⟩:=hs
 refine Cn.shutL Ds w ?_ h1 h2
 obtain ⟨m,bk,hsim,hfr,hd,hb,hbk⟩:=h
 exact ⟨m,bk,hsim,hfr,.nil,hb,hbk⟩
theorem leavesM {fn:Func} {tmps:Array Value} {R:Ending→World→Prop}:∀ (Ds:List Nat) (w:World),Ds.Nodup→(∀ D ∈ Ds,w.heap[D]?=some (.deferred (some [])))→LeavesIn Fence.wide 0 P fn tmps R [] .returning (shutAll Ds w)→LeavesInM Fence.wide 0 P fn tmps R (Ds.map recD) .returning w
 | [],w,_,_,h=>h
 | D :: Ds,w,hn,hd,h=>⟨by simp,.inl ⟨D,_,rfl,run_takeDeferred (hd D List.mem_cons_self),leavesM Ds _ (List.nodup_cons.1 hn).2 (shut_rest hn hd) h⟩⟩
theorem Cn.defers (h:Cn B m0 bk0 w0 a w fr st):DefOk B w0 a.defers w:=by
 obtain ⟨m,bk,hsim,hfr,hd,hb,hbk⟩:=h
 exact hd
theorem calls_of_wpD {f:FuncId} {fn:Func} {c:Code} {args:Array Value} {w:World} {R:Ending→World→Prop} (hf:P.funcs[f]?=some fn) (hb:fn.body=some c)
  (h:c.wp P (fun e a w'=>(e=.normal∨e=.ret)∧DefOk B ⟨w,true⟩ a.defers w'∧∀ w'',Shut B w w' w''→∃ v,(results fn a.tmps).run P w''=.ok v w''∧R (.returned v) w'') { tmps:=args++Array.replicate (fn.ntmps - args.size) undef,defers:=[] } w):Calls P f args w R:=by
 refine (callsIn_wide (n:=0)).1 (callsIn_of_wp_marks hf hb trivial (wpIn_wide.2 (wp_mono h ?_)) rfl)
 rintro e a w' ⟨he,hd,hr⟩
 have main:LeavesInM Fence.wide 0 P fn a.tmps R a.defers .returning w':=by
  obtain ⟨Ds,h1,_,h3,h4⟩:=hd
  rw [h1]
  exact leavesM Ds w' h3 (fun D hD=>(h4 D hD).1) (hr _ ⟨Ds,h3,fun D hD=>⟨(h4 D hD).2.1,(h4 D hD).2.2,(h4 D hD).1⟩,rfl⟩)
 rcases he with rfl | rfl <;> exact main
theorem exit_of {e:Exit} {ae:AExit} (h1:exitOf e=some ae) (h3:ae=.normal∨ae=.ret):e=.normal∨e=.ret:=by
 rcases h3 with rfl | rfl
 ·cases e <;> simp only [exitOf,Option.some.injEq,reduceCtorEq] at h1 <;> first | exact .inl rfl | (injection h1)
 ·cases e <;> simp only [exitOf,Option.some.injEq,reduceCtorEq] at h1 <;> first | exact .inr rfl | (injection h1)
theorem aw_sound {n0:Nat} (hk0:∀ id x,bk0 id=some x→id < n0) (hmix:P.follows .mixedOrders=true) (hg:GM m0) (hmk:w0.mark=true) {c:Code} {ac:ACode} (hm:MatchC P c ac):∀ (Q:AExit→List V→List Slot→Prop) (fr:List V) (st:List Slot) (a:Act) (w:World),Cn B m0 bk0 w0 a w fr st→AW P n0 ac Q fr st→c.wp P (PostC B m0 bk0 w0 Q) a w:=by
 induction hm with
 | skip=>intro Q fr st a w hc h;exact wp_skip ⟨.normal,fr,st,rfl,hc,h⟩
 | label=>intro Q fr st a w hc h;exact wp_label ⟨.normal,fr,st,rfl,hc,h⟩
 | @regT id ops aos nc hn hm =>
  intro Q fr st a w hc h
  obtain ⟨st0,xr,hf,h⟩:=h
  obtain ⟨fps,fr',st',hr,hk⟩:=aops_run h
  refine wp_region ?_
  have:=run_text (ops:=ops) (Q:=PostC B m0 bk0 w0 Q) hg aos 0 _ _ _ _ _ a w hr (by omega) (fun j h o ho=>hm j h o (by simpa using ho)) ((hc.frz hf).room (nc + xr)) fun a w hc'=>⟨.normal,fr',st',rfl,hc',hk⟩
  rw [← hn] at this
  rw [List.range_eq_range']
  exact this
 | @regD id ops aos nc bef hn hm hr =>
  intro Q fr st a w hc h
  obtain ⟨st0,xr,hf,h⟩:=h
  obtain ⟨fps,fr',st',hrun,hk1,hk⟩:=aops_run h
  simp only [List.append_nil,List.reverse_reverse] at hk1
  exact reg_draw hmix hr (footB_ok hk1) hg hn hm hrun ((hc.frz hf).room (nc + xr)) fun a w hc'=>⟨.normal,fr',st',rfl,hc',hk⟩
 | seq _ _ ih1 ih2 =>
  intro Q fr st a w hc h
  refine wp_seq (wp_mono (ih1 _ fr st a w hc h) ?_)
  rintro e a w ⟨ae,fr,st,h1,h2,h3⟩
  cases e <;> simp only [exitOf,Option.some.injEq,reduceCtorEq] at h1 <;> subst h1
  ·rcases h3 with h3 | ⟨k,sg,fr',st',hw,h3⟩
   ·exact ih2 Q fr st a w h2 h3
   ·exact ih2 Q fr' st' a w (Cn.wk hk0 h2 hw) h3
  ·exact ⟨_,fr,st,rfl,h2,h3⟩
  ·exact ⟨_,fr,st,rfl,h2,h3⟩
 | @cond c x y _ _ _ _ ih1 ih2 =>
  intro Q fr st a w hc h
  obtain ⟨t,he,h1,h2⟩:=h
  have hv:a.eval c=.bool t:=by
   obtain ⟨m,bk,_,hfr,_,_⟩:=hc
   exact (he ▸ hfr.ev c).int
  exact wp_cond_split hv (fun e=>ih1 Q fr st a w hc (h1 e)) (fun e=>ih2 Q fr st a w hc (h2 e))
 | @block id x y _ ih =>
  intro Q fr st a w hc h
  refine wp_block (wp_mono (ih _ fr st a w hc h) ?_)
  rintro e a w ⟨ae,fr,st,h1,h2,h3⟩
  cases e <;> simp only [exitOf,Option.some.injEq,reduceCtorEq] at h1 <;> subst h1
  ·exact ⟨_,fr,st,rfl,h2,h3⟩
  ·rename_i j
   by_cases e:j=id
   ·simp only [e,if_true,Exit.inBlock] at h3 ⊢
    exact ⟨_,fr,st,rfl,h2,h3⟩
   ·simp only [e,if_false,Exit.inBlock] at h3 ⊢
    exact ⟨_,fr,st,rfl,h2,h3⟩
  ·exact ⟨_,fr,st,rfl,h2,h3⟩
 | @loop x y _ ih =>
  intro Q fr st a w hc h
  obtain ⟨j,h⟩:=h
  refine wp_of_loopAt ?_
  induction j generalizing fr st a w with
  | zero =>
   obtain ⟨I,n1,k0,sg0,fr0,st0,hw,hI,hround⟩:=h
   refine loopAt_inv (I:=fun n a w=>∃ fr st,Cn B m0 bk0 w0 a w fr st∧I n fr st) ?_ n1 a w ⟨fr0,st0,Cn.wk hk0 hc hw,hI⟩
   rintro n a w ⟨fr1,st1,hc1,hI1⟩
   refine wp_mono (ih _ fr1 st1 a w hc1 (hround n fr1 st1 hI1)) ?_
   rintro e a w ⟨ae,fr,st,h1,h2,h3⟩
   cases e <;> simp only [exitOf,Option.some.injEq,reduceCtorEq] at h1 <;> subst h1
   ·obtain ⟨n',k,sg,fr'',st'',hlt,hw',hI'⟩:=h3
    exact ⟨n',hlt,fr'',st'',Cn.wk hk0 h2 hw',hI'⟩
   ·exact ⟨_,fr,st,rfl,h2,h3⟩
   ·exact ⟨_,fr,st,rfl,h2,h3⟩
  | succ j ihj =>
   refine loopAt_unr (wp_mono (ih _ fr st a w hc h) ?_)
   rintro e a w ⟨ae,fr,st,h1,h2,h3⟩
   cases e <;> simp only [exitOf,Option.some.injEq,reduceCtorEq] at h1 <;> subst h1
   ·exact ihj fr st a w h2 h3
   ·exact ⟨_,fr,st,rfl,h2,h3⟩
   ·exact ⟨_,fr,st,rfl,h2,h3⟩
 | scope _ ih =>
  intro Q fr st a w hc h
  refine wp_scope_straight (wp_mono (ih Q fr st a w hc h) ?_)
  rintro e a w ⟨ae,fr,st,h1,h2,h3⟩
  cases e <;> simp only [exitOf,Option.some.injEq,reduceCtorEq] at h1 <;> subst h1 <;> exact ⟨_,fr,st,rfl,h2,h3⟩
 | exit=>intro Q fr st a w hc h;exact wp_exit ⟨_,fr,st,rfl,hc,h⟩
 | ret=>intro Q fr st a w hc h;exact wp_ret ⟨_,fr,st,rfl,hc,h⟩
 | raw=>intro Q fr st a w hc h;exact h _ _ _ _ a w hg hmk hk0 hc
end
section
variable {P : Program} {n0 : Nat}
theorem AOps_mono {base:Nat}:∀ {os:List AOper} {fp:List (List Nat × List Nat)} {fr:List V} {st:List Slot} {K K' : List (List Nat × List Nat)→List V→List Slot→Prop},(∀ fp fr st,K fp fr st→K' fp fr st)→AOps P base os fp fr st K→AOps P base os fp fr st K'
 | [],fp,fr,st,K,K',hk,h=>hk _ _ _ h
 | o :: os,fp,fr,st,K,K',hk,h=>by
  rcases h with ⟨hg,h⟩ | ⟨hg,v,rd,ef,hs,h⟩
  ·exact .inl ⟨hg,AOps_mono hk h⟩
  ·exact .inr ⟨hg,v,rd,ef,hs,AOps_mono hk h⟩
theorem AW_mono:∀ {c:ACode} {Q Q' : AExit→List V→List Slot→Prop} {fr:List V} {st:List Slot},(∀ e fr st,Q e fr st→Q' e fr st)→AW P n0 c Q fr st→AW P n0 c Q' fr st
 | .skip,Q,Q',fr,st,hq,h=>hq _ _ _ h
 | .reg nc ops none,Q,Q',fr,st,hq,h=>by
  obtain ⟨st0,x,hf,h⟩:=h
  exact ⟨st0,x,hf,AOps_mono (fun _ _ _ h=>hq _ _ _ h) h⟩
 | .reg nc ops (some bef),Q,Q',fr,st,hq,h=>by
  obtain ⟨st0,x,hf,h⟩:=h
  exact ⟨st0,x,hf,AOps_mono (fun _ _ _ h=>⟨h.1,hq _ _ _ h.2⟩) h⟩
 | .raw c,Q,Q',fr,st,hq,h=>fun B m0 bk0 w0 a w g1 g2 g3 g4=>wp_mono (h B m0 bk0 w0 a w g1 g2 g3 g4) (PostC.mono hq)
 | .seq a b,Q,Q',fr,st,hq,h=>by
  refine AW_mono (c:=a) (fun e fr st h=>?_) h
  cases e with
  | normal =>
   rcases h with h | ⟨k,sg,fr',st',hw,h⟩
   ·exact .inl (AW_mono (c:=b) hq h)
   ·exact .inr ⟨k,sg,fr',st',hw,AW_mono (c:=b) hq h⟩
  | _=>exact hq _ _ _ h
 | .cond c a b,Q,Q',fr,st,hq,h=>by
  obtain ⟨t,hc,h1,h2⟩:=h
  exact ⟨t,hc,fun e=>AW_mono hq (h1 e),fun e=>AW_mono hq (h2 e)⟩
 | .block id a,Q,Q',fr,st,hq,h=>by
  refine AW_mono (c:=a) (fun e fr st h=>?_) h
  cases e with
  | exit j =>
   by_cases hj:j=id
   ·simp only [hj,if_true] at h ⊢;exact hq _ _ _ h
   ·simp only [hj,if_false] at h ⊢;exact hq _ _ _ h
  | _=>exact hq _ _ _ h
 | .loop a,Q,Q',fr,st,hq,h=>by
  obtain ⟨j,h⟩:=h
  refine ⟨j,?_⟩
  revert fr st
  induction j with
  | zero =>
   intro fr st h
   obtain ⟨I,n1,k0,sg0,fr0,st0,hw,hI,hr⟩:=h
   refine ⟨I,n1,k0,sg0,fr0,st0,hw,hI,fun n fr st hn=>?_⟩
   refine AW_mono (c:=a) (fun e fr st h=>?_) (hr n fr st hn)
   cases e with
   | normal=>exact h
   | _=>exact hq _ _ _ h
  | succ j ih =>
   intro fr st h
   refine AW_mono (c:=a) (fun e fr st h=>?_) h
   cases e with
   | normal=>exact ih _ _ h
   | _=>exact hq _ _ _ h
 | .exit id,Q,Q',fr,st,hq,h=>hq _ _ _ h
 | .ret,Q,Q',fr,st,hq,h=>hq _ _ _ h
end
end Go.Proofs.YthnihifblmnkdaaGreat

namespace Go.Proofs.YthnihifblmnkdaaGreat
open Go.RowKit
inductive ARes where
 | tmp (t:Nat)
 | cell (t sz:Nat) (ag:Bool)
 deriving Inhabited
inductive ResOne (fr:List V) (st:List Slot):ARes→V→Prop
 | tmp {t v} (h:fr.getD t .any=v):ResOne fr st (.tmp t) v
 | cell {t sz ag i off cs frz} (h:fr.getD t .any=.ptr i off) (hi:st[i]?=some (.live cs frz)) (hs:off + (if ag then sz else 1)≤cs.length):ResOne fr st (.cell t sz ag) (partV ag sz (cs.drop off))
inductive ResL (fr:List V) (st:List Slot):List ARes→List V→Prop
 | nil:ResL fr st [] []
 | cons {r v rs vs} (h:ResOne fr st r v) (t:ResL fr st rs vs):ResL fr st (r :: rs) (v :: vs)
inductive MatchR (P:Program):ResultVar→ARes→Prop
 | tmp {t}:MatchR P (.tmp t) (.tmp t)
 | cell {a t d i} (hd:P.underlying t=some d) (hi:P.info? t=some i):MatchR P (.cell a t) (.cell a i.size (isAggD d))
inductive MatchRL (P:Program):List ResultVar→List ARes→Prop
 | nil:MatchRL P [] []
 | cons {r s rs ss} (h:MatchR P r s) (t:MatchRL P rs ss):MatchRL P (r :: rs) (s :: ss)
def mkR:List V→V
 | [v]=>v
 | vs=>.tup vs
def resM (tmps:Array Value):ResultVar→Sem Value
 | .tmp t=>pure (tmps.getD t undef)
 | .cell a t=>do loadVar t (← asAddr (tmps.getD a undef))
theorem fr_get {m:Mem} {bk:Bks} {tmps:Array Value} {fr:List V} (h:FrRep m bk tmps fr) (t:Nat):Rep m bk (tmps.getD t undef) (fr.getD t .any):=by
 have:=FrRep.ev (a:={ tmps:=tmps,defers:=[] }) h (.tmp t)
 exact this
theorem res_run {P:Program} {B:Nat} {m0 m:Mem} {bk:Bks} {w:World} {st:List Slot} {fr:List V} {tmps:Array Value} (hsim:Sim B m0 m bk w st) (hfr:FrRep m bk tmps fr) {rl:List ResultVar} {rs:List ARes} (hm:MatchRL P rl rs) :
  ∀ {vs:List V},ResL fr st rs vs→∃ cs,(rl.mapM (resM tmps)).run P w=.ok cs w∧RepL m bk cs vs:=by
 induction hm with
 | nil=>intro vs h;cases h;exact ⟨[],by simp,rfl,fun j h1 _=>absurd h1 (Nat.not_lt_zero _)⟩
 | @cons r s rl rs h1 _ ih =>
  intro vs h
  cases h with
  | @cons _ v _ vs h2 h3 =>
  obtain ⟨cs,g1,g2⟩:=ih h3
  have one:∃ c,(resM tmps r).run P w=.ok c w∧Rep m bk c v:=by
   cases h1 with
   | tmp =>
    cases h2 with
    | tmp h=>exact ⟨_,rfl,h ▸ fr_get hfr _⟩
   | @cell a t d i hd hi =>
    cases h2 with
    | @cell _ _ _ id off cs frz h hid hs =>
    have hx:=fr_get hfr a
    rw [h] at hx
    cases hce:tmps.getD a undef <;> rw [hce] at hx <;> try (cases hx;done)
    cases hx with
    | @ptr _ _ b sz _ hb =>
    obtain ⟨arr,tt,lo,hi',hlv,hrep⟩:=sim_live hsim hid hb
    have hcell:∀ k,k < cs.length→w.cell? ⟨b,k,none⟩=some (arr.getD k undef):=fun k hk=>by
     obtain ⟨u,hu,_⟩:=hlv.rep k hk
     simp [World.cell?,hlv.heap,hu,Array.getD_eq_getD_getElem?]
    refine ⟨_,by simp only [resM,Sem.run_bind,hce,asAddr,Sem.run_pure,Result.andThen_ok];exact run_loadVar hd hi w b off (fun k=>arr.getD (off + k) undef) fun k hk=>hcell _ (by omega),rep_part (by simp;omega) (fun u hu=>hlv.one u (List.mem_of_mem_drop hu)) fun k hk _=>?_⟩
    obtain ⟨u,hu,hr⟩:=hlv.rep (off + k) (by simp at hk;omega)
    simp only [List.getElem_drop]
    simpa [Array.getD_eq_getD_getElem?,hu] using hr
  obtain ⟨c,c1,c2⟩:=one
  refine ⟨c :: cs,by simp [List.mapM_cons,c1,g1],by simp [g2.1],fun j h1 h2=>?_⟩
  cases j with
  | zero=>exact c2
  | succ j=>exact g2.2 j (Nat.lt_of_succ_lt_succ h1) (Nat.lt_of_succ_lt_succ h2)
def mkC:List Value→Value
 | [c]=>c
 | cs=>.tuple cs.toArray
theorem mkC_arr (cs:List Value):(if h:cs.toArray.size=1 then cs.toArray[0] else Value.tuple cs.toArray)=mkC cs:=by
 match cs with
 | []=>rfl
 | [c]=>rfl
 | c :: d :: cs=>simp [mkC]
theorem results_run {P:Program} {fn:Func} {tmps:Array Value} {w:World} {cs:List Value} (h:(fn.results.toList.mapM (resM tmps)).run P w=.ok cs w):(results fn tmps).run P w=.ok (mkC cs) w:=by
 unfold results
 have e:(fun x:ResultVar=>(match x with | .tmp t=>pure (tmps.getD t undef) | .cell a t=>do loadVar t (← asAddr (tmps.getD a undef)):Sem Value))=resM tmps:=by
  funext x;cases x <;> rfl
 rw [Sem.run_bind,Array.mapM_eq_mapM_toList]
 have hm:(Functor.map List.toArray (fn.results.toList.mapM (resM tmps))).run P w=.ok cs.toArray w:=by
  rw [Sem.run_map,h];rfl
 have hm2:(Functor.map List.toArray (fn.results.toList.mapM (fun x:ResultVar=>(match x with | .tmp t=>pure (tmps.getD t undef) | .cell a t=>do loadVar t (← asAddr (tmps.getD a undef)):Sem Value)))).run P w=.ok cs.toArray w:=by
  rw [e];exact hm
 refine Eq.trans (congrArg (fun r=>Result.andThen r _) hm2) ?_
 simp only [Result.andThen_ok,Sem.run_pure]
 rw [mkC_arr]
def Fin (rs:List ARes) (v:V):AExit→List V→List Slot→Prop:=fun e fr st=>(e=.normal∨e=.ret)∧∃ st0,Frz st st0∧∃ vs rd,ResL fr st0 rs vs∧FzR st0 (mkR vs) v rd
theorem callsV_of {P:Program} {f:FuncId} {fn:Func} {c:Code} {ac:ACode} {n:Nat} {rs:List ARes} {args:List V} {v:V} (hmix:P.follows .mixedOrders=true) (hf:P.funcs[f]?=some fn) (hb:fn.body=some c) (hm:MatchC P c ac) (hnt:fn.ntmps=n) (hres:MatchRL P fn.results.toList rs)
  (h:AW P 0 ac (Fin rs v) (args++List.replicate (n - args.length) (.tup [])) []):CallsV P f args v:=by
 intro m w cargs hg hmem hargs
 subst hnt
 refine calls_of_wpD (B:=w.heap.size) hf hb (wp_mono (aw_sound (B:=w.heap.size) (w0:=⟨w,true⟩) (m0:=m) (bk0:=noBk) (n0:=0) (fun _ _ h=>by cases h) hmix hg rfl hm (Fin rs v) _ [] _ w ?_ h) ?_)
 ·refine ⟨m,noBk,⟨Nat.le_refl _,hmem,fun _ _ h=>h,fun _ _ h=>.inl h,fun id cs f hid=>by simp at hid,fun i j ci fi cj fj x y hi=>by simp at hi,fun _ _=>rfl⟩,⟨?_,fun j h1 h2=>?_⟩,.nil,Bel.refl _ _,fun _ _ h=>h⟩
  ·simp only [Array.size_append,Array.size_replicate,List.length_append,List.length_replicate,hargs.1]
  ·have hsz:=hargs.1
   by_cases hj:j < cargs.size
   ·rw [Array.getElem_append_left hj,List.getElem_append_left (by omega)]
    exact hargs.2 j hj _
   ·rw [Array.getElem_append_right (by omega),List.getElem_append_right (by omega),Array.getElem_replicate,List.getElem_replicate]
    exact .tup rfl fun j h1 _=>absurd h1 (Nat.not_lt_zero _)
 ·rintro e a w' ⟨ae,fr,st,h1,h2,h3,st0,hfz,vs,rd,hrl,hfr⟩
  refine ⟨exit_of h1 h3,h2.defers,fun w' hsh=>?_⟩
  obtain ⟨m',bk,hsim,hfrr,hd,hbl,_⟩:=(h2.shut hsh).frz hfz
  obtain ⟨cs,c1,c2⟩:=res_run hsim hfrr hres hrl
  have hrun:=results_run c1
  have hrep:Rep m' bk (mkC cs) (mkR vs):=by
   have hl:=c2.1
   match cs,vs,hl with
   | [],[],_=>exact .tup rfl fun j h1 _=>absurd h1 (Nat.not_lt_zero _)
   | [c],[v],_=>exact c2.2 0 (by simp) (by simp)
   | c :: d :: cs,v :: u :: vs,hl=>exact .tup (by simpa using hl) fun j g1 g2=>by have:=c2.2 j (by simpa using g1) g2;rw [List.getElem_toArray];exact this
  have hfin:=FzR.rep hsim hrep hfr
  have hpost:∃ v',(results fn a.tmps).run P w'=.ok v' w'∧(∃ c m',Ending.returned v'=.returned c∧Below w.heap.size w w'∧(∀ a u,m' a=some u→w'.cell? a=some u)∧(∀ a u,m a=some u→m' a=some u)∧(∀ a u,m' a=some u→m a=some u∨w.heap.size≤a.block)∧Rep m' noBk c v) :=
   ⟨_,hrun,_,m',rfl,hbl.toBelow,hsim.mem,hsim.ext,hsim.old,hfin⟩
  exact hpost
end Go.Proofs.YthnihifblmnkdaaGreat

